import PyProof.Rows.All
import Wide.All
import OpenK.AllK
import Wide.FinOn
import HandS.ForMost
import HandS.Wide
import HandS.TupMul
import HandS.TupAny
import HandS.Deep
import HandS.IsInst
import HandS.More
import HandS.Conv
import KE.SortData
import HandS.EndBits
import HandS.Replace
import HandS.Zip
import KE.GoesMore
import KE.KDictCopyH
import HandS.Exc
import HandS.ExcOwn
import HandS.ExcInit
import HandS.ExcField
import HandS.TryOnly
import HandS.FStr
import HandS.ExcIs
import HandS.Nested
import HandS.WordsExc
import KE.KExcSuper
import PySem.Challenge.RW_timeshelf_k09_standings_of_rows
set_option Elab.async false
set_option linter.all false
set_option maxRecDepth 100000
set_option maxHeartbeats 4000000
/-! DL: a data layer over HandS: what a reading computes, as a plain function over data. Values are trees (PyData); a slot holds data, or an object of its own (a list, a dict, an instance) that the def may still change. -/
namespace DL
open PySem PySem.Spec L2

abbrev D := PyData
def kD : Key → D
  | .inl i => .int i
  | .inr s => .str s

/-! ### what a value stands for -/
mutual
inductive Rep (K : PySem.W.Frag) (F : Hp) : V → D → Prop
  | non : Rep K F .non .none
  | bl (b : Bool) : Rep K F (.bl b) (.bool b)
  | int (i : Int) : Rep K F (.int i) (.int i)
  | str (x : Str) : Rep K F (.str x) (.str x)
  | lst {a : Addr} {xs : List V} {ds : List D} : Rd F a (.lst xs) → Reps K F xs ds → Rep K F (.ref a) (.list ds)
  | tup {a : Addr} {xs : List V} {ds : List D} : F a = some (.tup xs) → Reps K F xs ds → Rep K F (.ref a) (.tuple ds)
  | dK {a : Addr} {kvs : List (Key × V)} {des : List (Key × D)} : Rd F a (.dK kvs) → RepK K F kvs des → Rep K F (.ref a) (.dict (des.map fun p => (kD p.1, p.2)))
  | dT {a : Addr} {kvs : List (List Key × V)} {des : List (List Key × D)} : Rd F a (.dT kvs) → RepT K F kvs des → Rep K F (.ref a) (.dict (des.map fun p => (.tuple (p.1.map kD), p.2)))
  /-- a list that is never changed and may be of the written part (the law's script) -/
  | scr {a : Addr} {xs : List V} {ds : List D} : SqL K F a xs → Reps K F xs ds → Rep K F (.ref a) (.dict [(.list ds, .none)])
inductive Reps (K : PySem.W.Frag) (F : Hp) : List V → List D → Prop
  | nil : Reps K F [] []
  | cons {v : V} {vs : List V} {d : D} {ds : List D} : Rep K F v d → Reps K F vs ds → Reps K F (v :: vs) (d :: ds)
inductive RepK (K : PySem.W.Frag) (F : Hp) : List (Key × V) → List (Key × D) → Prop
  | nil : RepK K F [] []
  | cons {k : Key} {v : V} {d : D} {r : List (Key × V)} {s : List (Key × D)} : Rep K F v d → RepK K F r s → RepK K F ((k, v) :: r) ((k, d) :: s)
inductive RepT (K : PySem.W.Frag) (F : Hp) : List (List Key × V) → List (List Key × D) → Prop
  | nil : RepT K F [] []
  | cons {k : List Key} {v : V} {d : D} {r : List (List Key × V)} {s : List (List Key × D)} : Rep K F v d → RepT K F r s → RepT K F ((k, v) :: r) ((k, d) :: s)
end

theorem Same.rd {H H' : Hp} (e : Same H H') {a : Addr} {u : HO} (h : Rd H a u) : Rd H' a u := by
  rcases h with h | ⟨o, h⟩
  · exact .inl (e _ _ h)
  · exact .inr ⟨o, e _ _ h⟩
theorem Same.sqt {K : PySem.W.Frag} {H H' : Hp} (e : Same H H') {a : Addr} {xs : List V} (h : SqT K H a xs) : SqT K H' a xs := by
  rcases h with h | h
  · exact .inl (Same.rd e h)
  · exact .inr h
theorem Same.sql {K : PySem.W.Frag} {H H' : Hp} (e : Same H H') {a : Addr} {xs : List V} (h : SqL K H a xs) : SqL K H' a xs := by
  rcases h with h | h
  · exact .inl (Same.rd e h)
  · exact .inr h
theorem same_upd {H : Hp} {p : Addr} {o : HO} (h : H p = none) : Same H (upd H p o) := fun b x e => by
  rw [upd_ne (ne_of_none e h)]
  exact e
mutual
theorem Rep.mono {K : PySem.W.Frag} {F F' : Hp} (e : Same F F') : ∀ {v : V} {d : D}, Rep K F v d → Rep K F' v d
  | _, _, .non => .non
  | _, _, .bl b => .bl b
  | _, _, .int i => .int i
  | _, _, .str x => .str x
  | _, _, .lst h r => .lst (Same.rd e h) (Reps.mono e r)
  | _, _, .tup h r => .tup (e _ _ h) (Reps.mono e r)
  | _, _, .dK h r => .dK (Same.rd e h) (RepK.mono e r)
  | _, _, .dT h r => .dT (Same.rd e h) (RepT.mono e r)
  | _, _, .scr h r => .scr (Same.sql e h) (Reps.mono e r)
theorem Reps.mono {K : PySem.W.Frag} {F F' : Hp} (e : Same F F') : ∀ {v : List V} {d : List D}, Reps K F v d → Reps K F' v d
  | _, _, .nil => .nil
  | _, _, .cons h r => .cons (Rep.mono e h) (Reps.mono e r)
theorem RepK.mono {K : PySem.W.Frag} {F F' : Hp} (e : Same F F') : ∀ {v : List (Key × V)} {d : List (Key × D)}, RepK K F v d → RepK K F' v d
  | _, _, .nil => .nil
  | _, _, .cons h r => .cons (Rep.mono e h) (RepK.mono e r)
theorem RepT.mono {K : PySem.W.Frag} {F F' : Hp} (e : Same F F') : ∀ {v : List (List Key × V)} {d : List (List Key × D)}, RepT K F v d → RepT K F' v d
  | _, _, .nil => .nil
  | _, _, .cons h r => .cons (Rep.mono e h) (RepT.mono e r)
end
section
variable {K : PySem.W.Frag} {F : Hp}
theorem Reps.length : ∀ {vs : List V} {ds : List D}, Reps K F vs ds → vs.length = ds.length
  | _, _, .nil => rfl
  | _, _, .cons _ r => congrArg (· + 1) (Reps.length r)
theorem Reps.get : ∀ {vs : List V} {ds : List D} {i : Nat} {d : D}, Reps K F vs ds → ds[i]? = some d → ∃ v, vs[i]? = some v ∧ Rep K F v d
  | _, _, _, _, .nil, e => by simp at e
  | _, _, 0, _, .cons h _, e => by
    simp only [List.getElem?_cons_zero, Option.some.injEq] at e
    subst e
    exact ⟨_, rfl, h⟩
  | _, _, i + 1, _, .cons _ r, e => by
    obtain ⟨v, e1, h⟩ := Reps.get (i := i) r (by simpa using e)
    exact ⟨v, by simpa using e1, h⟩
theorem Reps.getV : ∀ {vs : List V} {ds : List D} {i : Nat} {v : V}, Reps K F vs ds → vs[i]? = some v → ∃ d, ds[i]? = some d ∧ Rep K F v d
  | _, _, _, _, .nil, e => by simp at e
  | _, _, 0, _, .cons h _, e => by
    simp only [List.getElem?_cons_zero, Option.some.injEq] at e
    subst e
    exact ⟨_, rfl, h⟩
  | _, _, i + 1, _, .cons _ r, e => by
    obtain ⟨v, e1, h⟩ := Reps.getV (i := i) r (by simpa using e)
    exact ⟨v, by simpa using e1, h⟩
theorem Reps.append : ∀ {vs ws : List V} {ds es : List D}, Reps K F vs ds → Reps K F ws es → Reps K F (vs ++ ws) (ds ++ es)
  | _, _, _, _, .nil, s => s
  | _, _, _, _, .cons h r, s => .cons h (Reps.append r s)
theorem Reps.one {v : V} {d : D} (h : Rep K F v d) : Reps K F [v] [d] := .cons h .nil
theorem Reps.take : ∀ {vs : List V} {ds : List D} (n : Nat), Reps K F vs ds → Reps K F (vs.take n) (ds.take n)
  | _, _, 0, _ => .nil
  | _, _, _ + 1, .nil => .nil
  | _, _, n + 1, .cons h r => .cons h (Reps.take n r)
theorem Reps.drop : ∀ {vs : List V} {ds : List D} (n : Nat), Reps K F vs ds → Reps K F (vs.drop n) (ds.drop n)
  | _, _, 0, r => r
  | _, _, _ + 1, .nil => .nil
  | _, _, n + 1, .cons _ r => Reps.drop n r
theorem Reps.set {v : V} {d : D} (h : Rep K F v d) : ∀ {vs : List V} {ds : List D} (n : Nat), Reps K F vs ds → Reps K F (vs.set n v) (ds.set n d)
  | _, _, _, .nil => .nil
  | _, _, 0, .cons _ r => .cons h r
  | _, _, n + 1, .cons q r => .cons q (Reps.set h n r)
theorem Reps.dropLast : ∀ {vs : List V} {ds : List D}, Reps K F vs ds → Reps K F vs.dropLast ds.dropLast
  | _, _, .nil => .nil
  | _, _, .cons h .nil => .nil
  | _, _, .cons h (.cons h2 r) => .cons h (Reps.dropLast (.cons h2 r))
theorem reps_int : ∀ {ns : List Int}, Reps K F (ns.map V.int) (ns.map .int)
  | [] => .nil
  | _ :: _ => .cons (.int _) reps_int
theorem reps_str : ∀ {ns : List Str}, Reps K F (ns.map V.str) (ns.map .str)
  | [] => .nil
  | _ :: _ => .cons (.str _) reps_str
theorem Reps.ints : ∀ {vs : List V} {ns : List Int}, Reps K F vs (ns.map .int) → vs = ns.map V.int
  | _, [], h => by cases h; rfl
  | _, _ :: _, h => by
    cases h with
    | cons h r =>
      cases h
      rw [Reps.ints r]
      rfl
theorem Reps.strs : ∀ {vs : List V} {ns : List Str}, Reps K F vs (ns.map .str) → vs = ns.map V.str
  | _, [], h => by cases h; rfl
  | _, _ :: _, h => by
    cases h with
    | cons h r =>
      cases h
      rw [Reps.strs r]
      rfl
theorem Reps.bools : ∀ {vs : List V} {ns : List Bool}, Reps K F vs (ns.map .bool) → vs = ns.map V.bl
  | _, [], h => by cases h; rfl
  | _, _ :: _, h => by
    cases h with
    | cons h r =>
      cases h
      rw [Reps.bools r]
      rfl
end

/-! ### slots -/
mutual
inductive Sl where
  | dat (d : D)
  | lst (ds : List D)
  | dK (kvs : List (Key × D))
  | dT (kvs : List (List Key × D))
  | ins (c : Str) (fs : Fl)
inductive Fl where
  | nil
  | cons (f : Str) (s : Sl) (r : Fl)
end
abbrev Env := List (Option Sl)
/-- an exception: its class's name, the fields of its own dict (none: it has no dict) -/
structure Xc where
  name : Str
  fields : Option (List (Str × D))
inductive R (α : Type) where
  | ok (a : α)
  | ex (x : Xc) (ρ : Env)
  | bad
def R.bind {α β : Type} (r : R α) (g : α → R β) : R β := match r with
  | .ok a => g a
  | .ex x ρ => .ex x ρ
  | .bad => .bad
instance : Monad R where
  pure := .ok
  bind := R.bind
@[simp] theorem bind_ok {α β : Type} (a : α) (g : α → R β) : (R.ok a >>= g) = g a := rfl
@[simp] theorem bind_ex {α β : Type} (x : Xc) (ρ : Env) (g : α → R β) : ((R.ex x ρ : R α) >>= g) = .ex x ρ := rfl
@[simp] theorem bind_bad {α β : Type} (g : α → R β) : ((R.bad : R α) >>= g) = .bad := rfl
@[simp] theorem pure_ok {α : Type} (a : α) : (pure a : R α) = .ok a := rfl
def R.of {α : Type} : Option α → R α
  | some a => .ok a
  | none => .bad
@[simp] theorem of_some {α : Type} (a : α) : R.of (some a) = .ok a := rfl
@[simp] theorem of_none {α : Type} : R.of (none : Option α) = .bad := rfl

/-- what a slot's object reads as -/
def frz : Sl → Option D
  | .dat d => some d
  | .lst ds => some (.list ds)
  | .dK kvs => some (.dict (kvs.map fun p => (kD p.1, p.2)))
  | .dT kvs => some (.dict (kvs.map fun p => (.tuple (p.1.map kD), p.2)))
  | .ins _ _ => none
@[simp] theorem frz_dat (d : D) : frz (.dat d) = some d := rfl
@[simp] theorem frz_lst (d : List D) : frz (.lst d) = some (.list d) := rfl

section
variable (K : PySem.W.Frag) (mg : Str → Option Value)
mutual
inductive RSl (F H : Hp) : V → Sl → List Addr → Prop
  | dat {v : V} {d : D} : Rep K F v d → RSl F H v (.dat d) []
  | lst {p : Addr} {vs : List V} {ds : List D} : H p = some (.lst vs) → Reps K F vs ds → RSl F H (.ref p) (.lst ds) [p]
  | dK {p : Addr} {kvs : List (Key × V)} {des : List (Key × D)} : H p = some (.dK kvs) → RepK K F kvs des → RSl F H (.ref p) (.dK des) [p]
  | dT {p : Addr} {kvs : List (List Key × V)} {des : List (List Key × D)} : H p = some (.dT kvs) → RepT K F kvs des → RSl F H (.ref p) (.dT des) [p]
  | ins {c : Str} {C p dx : Addr} {vs : List (Str × V)} {fs : Fl} {O : List Addr} : mg c = some (.ref C) → H p = some (.ins C dx vs) → RFl F H vs fs O → RSl F H (.ref p) (.ins c fs) (p :: O)
inductive RFl (F H : Hp) : List (Str × V) → Fl → List Addr → Prop
  | nil : RFl F H [] .nil []
  | cons {f : Str} {v : V} {s : Sl} {r : List (Str × V)} {q : Fl} {O O' : List Addr} : RSl F H v s O → RFl F H r q O' → RFl F H ((f, v) :: r) (.cons f s q) (O ++ O')
end
inductive RSs (F H : Hp) : St → Env → List Addr → Prop
  | nil : RSs F H [] [] []
  | non {x : Option V} {σ : St} {ρ : Env} {O : List Addr} : RSs F H σ ρ O → RSs F H (x :: σ) (none :: ρ) O
  | som {v : V} {s : Sl} {σ : St} {ρ : Env} {O O' : List Addr} : RSl K mg F H v s O → RSs F H σ ρ O' → RSs F H (some v :: σ) (some s :: ρ) (O ++ O')
/-- borrowed -/
def RepB (F H : Hp) (v : V) (d : D) : Prop := ∃ s O, RSl K mg F H v s O ∧ frz s = some d
end

/-- an address where nothing stands, or a tuple (which never changes) -/
def FreeT (B : Hp) (a : Addr) : Prop := B a = none ∨ ∃ xs, B a = some (.tup xs)
theorem FreeT.down {B H : Hp} {a : Addr} (e : Same B H) (h : FreeT H a) : FreeT B a := by
  cases q : B a with
  | none => exact .inl q
  | some o =>
    have q' := e a o q
    rcases h with h | ⟨xs, h⟩
    · rw [h] at q'; cases q'
    · rw [h] at q'; cases q'; exact .inr ⟨xs, q⟩
/-- where a def began: what was data, what must stay as it is -/
structure Gr where
  F0 : Hp
  B : Hp
structure Rp (K : PySem.W.Frag) (mg : Str → Option Value) (G : Gr) (F H : Hp) (Os : List Addr) (σ : St) (ρ : Env) : Prop where
  f0 : Same G.F0 F
  sub : Same F H
  bas : Same G.B H
  new : ∀ a, F a ≠ none → G.F0 a ≠ none ∨ FreeT G.B a
  sls : ∃ O, RSs K mg F H σ ρ O ∧ (Os ++ O).Nodup ∧ ∀ a ∈ Os ++ O, F a = none ∧ G.B a = none ∧ H a ≠ none
/-- F, H grow by what is new -/
structure Ext (F H F' H' : Hp) (Os : List Addr) : Prop where
  f : Same F F'
  h : Same H H'
  sub : Same F' H'
  new : ∀ a, F' a ≠ none → F a = none → FreeT H a
  own : ∀ a ∈ Os, H a = none ∧ F' a = none ∧ H' a ≠ none
  nd : Os.Nodup

section
variable {K : PySem.W.Frag} {mg : Str → Option Value}
mutual
theorem RSl.mono {F F' H H' : Hp} (e : Same F F') : ∀ {v : V} {s : Sl} {O : List Addr}, RSl K mg F H v s O → (∀ a ∈ O, H' a = H a) → RSl K mg F' H' v s O
  | _, _, _, .dat h, _ => .dat (h.mono e)
  | _, _, _, .lst h r, k => .lst ((k _ (by simp)).trans h) (r.mono e)
  | _, _, _, .dK h r, k => .dK ((k _ (by simp)).trans h) (r.mono e)
  | _, _, _, .dT h r, k => .dT ((k _ (by simp)).trans h) (r.mono e)
  | _, _, _, .ins c h r, k => .ins c ((k _ (by simp)).trans h) (RFl.mono e r fun a ha => k a (by simp [ha]))
theorem RFl.mono {F F' H H' : Hp} (e : Same F F') : ∀ {v : List (Str × V)} {s : Fl} {O : List Addr}, RFl K mg F H v s O → (∀ a ∈ O, H' a = H a) → RFl K mg F' H' v s O
  | _, _, _, .nil, _ => .nil
  | _, _, _, .cons h r, k => .cons (RSl.mono e h fun a ha => k a (by simp [ha])) (RFl.mono e r fun a ha => k a (by simp [ha]))
end
mutual
theorem RSl.there {F H : Hp} : ∀ {v : V} {s : Sl} {O : List Addr}, RSl K mg F H v s O → ∀ a ∈ O, H a ≠ none
  | _, _, _, .dat _, a, ha => by cases ha
  | _, _, _, .lst h _, a, ha => by
    simp only [List.mem_singleton] at ha
    rw [ha, h]; exact nofun
  | _, _, _, .dK h _, a, ha => by
    simp only [List.mem_singleton] at ha
    rw [ha, h]; exact nofun
  | _, _, _, .dT h _, a, ha => by
    simp only [List.mem_singleton] at ha
    rw [ha, h]; exact nofun
  | _, _, _, .ins _ h r, a, ha => by
    rcases List.mem_cons.mp ha with e | ha
    · rw [e, h]; exact nofun
    · exact RFl.there r a ha
theorem RFl.there {F H : Hp} : ∀ {v : List (Str × V)} {s : Fl} {O : List Addr}, RFl K mg F H v s O → ∀ a ∈ O, H a ≠ none
  | _, _, _, .nil, a, ha => by cases ha
  | _, _, _, .cons h r, a, ha => by
    rcases List.mem_append.mp ha with ha | ha
    · exact RSl.there h a ha
    · exact RFl.there r a ha
end
mutual
theorem RSl.notup {F H : Hp} : ∀ {v : V} {s : Sl} {O : List Addr}, RSl K mg F H v s O → ∀ a ∈ O, ¬ ∃ xs, H a = some (.tup xs)
  | _, _, _, .dat _, a, ha => by cases ha
  | _, _, _, .lst h _, a, ha => by
    simp only [List.mem_singleton] at ha
    rw [ha, h]; exact nofun
  | _, _, _, .dK h _, a, ha => by
    simp only [List.mem_singleton] at ha
    rw [ha, h]; exact nofun
  | _, _, _, .dT h _, a, ha => by
    simp only [List.mem_singleton] at ha
    rw [ha, h]; exact nofun
  | _, _, _, .ins _ h r, a, ha => by
    rcases List.mem_cons.mp ha with e | ha
    · rw [e, h]; exact nofun
    · exact RFl.notup r a ha
theorem RFl.notup {F H : Hp} : ∀ {v : List (Str × V)} {s : Fl} {O : List Addr}, RFl K mg F H v s O → ∀ a ∈ O, ¬ ∃ xs, H a = some (.tup xs)
  | _, _, _, .nil, a, ha => by cases ha
  | _, _, _, .cons h r, a, ha => by
    rcases List.mem_append.mp ha with ha | ha
    · exact RSl.notup h a ha
    · exact RFl.notup r a ha
end
theorem RSs.notup {F H : Hp} : ∀ {σ : St} {ρ : Env} {O : List Addr}, RSs K mg F H σ ρ O → ∀ a ∈ O, ¬ ∃ xs, H a = some (.tup xs)
  | _, _, _, .nil, a, ha => by cases ha
  | _, _, _, .non r, a, ha => RSs.notup r a ha
  | _, _, _, .som h r, a, ha => by
    rcases List.mem_append.mp ha with ha | ha
    · exact RSl.notup h a ha
    · exact RSs.notup r a ha
theorem RSs.mono {F F' H H' : Hp} (e : Same F F') : ∀ {σ : St} {ρ : Env} {O : List Addr}, RSs K mg F H σ ρ O → (∀ a ∈ O, H' a = H a) → RSs K mg F' H' σ ρ O
  | _, _, _, .nil, _ => .nil
  | _, _, _, .non r, k => .non (RSs.mono e r k)
  | _, _, _, .som h r, k => .som (RSl.mono e h fun a ha => k a (by simp [ha])) (RSs.mono e r fun a ha => k a (by simp [ha]))
theorem RSs.there {F H : Hp} : ∀ {σ : St} {ρ : Env} {O : List Addr}, RSs K mg F H σ ρ O → ∀ a ∈ O, H a ≠ none
  | _, _, _, .nil, a, ha => by cases ha
  | _, _, _, .non r, a, ha => RSs.there r a ha
  | _, _, _, .som h r, a, ha => by
    rcases List.mem_append.mp ha with ha | ha
    · exact RSl.there h a ha
    · exact RSs.there r a ha
theorem RSs.length {F H : Hp} : ∀ {σ : St} {ρ : Env} {O : List Addr}, RSs K mg F H σ ρ O → σ.length = ρ.length
  | _, _, _, .nil => rfl
  | _, _, _, .non r => congrArg (· + 1) (RSs.length r)
  | _, _, _, .som _ r => congrArg (· + 1) (RSs.length r)
theorem same_at {H H' : Hp} (e : Same H H') {a : Addr} (h : H a ≠ none) : H' a = H a := by
  cases q : H a with
  | none => exact absurd q h
  | some o => exact e a o q
theorem Rp.ext {G : Gr} {F H F' H' : Hp} {Os : List Addr} {σ : St} {ρ : Env} (r : Rp K mg G F H [] σ ρ) (x : Ext F H F' H' Os) : Rp K mg G F' H' Os σ ρ := by
  obtain ⟨O, hs, nd, own⟩ := r.sls
  refine ⟨r.f0.trans x.f, x.sub, r.bas.trans x.h, fun a ha => ?_, O, hs.mono x.f fun a ha => same_at x.h (hs.there a ha), ?_, fun a ha => ?_⟩
  · by_cases h : F a = none
    · exact .inr (FreeT.down r.bas (x.new a ha h))
    · exact r.new a h
  · refine List.nodup_append.mpr ⟨x.nd, by simpa using nd, fun a ha b hb e => ?_⟩
    subst e
    exact hs.there a hb (x.own a ha).1
  · rcases List.mem_append.mp ha with ha | ha
    · exact ⟨(x.own a ha).2.1, r.bas.free (x.own a ha).1, (x.own a ha).2.2⟩
    · have h1 := own a (by simpa using ha)
      have h2 := hs.there a ha
      refine ⟨?_, h1.2.1, ?_⟩
      · cases q : F' a with
        | none => rfl
        | some o =>
          rcases x.new a (by rw [q]; exact nofun) h1.1 with z | z
          · exact absurd z h2
          · exact absurd z (hs.notup a ha)
      · rw [same_at x.h h2]; exact h2
theorem Ext.refl {F H : Hp} (s : Same F H) : Ext F H F H [] := ⟨Same.refl F, Same.refl H, s, fun a h e => absurd e h, fun _ h => (by cases h), List.nodup_nil⟩
theorem Ext.trans {F H F1 H1 F2 H2 : Hp} {Os : List Addr} (a : Ext F H F1 H1 []) (b : Ext F1 H1 F2 H2 Os) : Ext F H F2 H2 Os := by
  refine ⟨a.f.trans b.f, a.h.trans b.h, b.sub, fun x h e => ?_, fun x hx => ⟨a.h.free (b.own x hx).1, (b.own x hx).2⟩, b.nd⟩
  by_cases q : F1 x = none
  · exact FreeT.down a.h (b.new x h q)
  · exact a.new x q e
/-- a new object: data -/
theorem Ext.data {F H : Hp} {p : Addr} {o : HO} (s : Same F H) (np : H p = none) : Ext F H (upd F p o) (upd H p o) [] := by
  have nf : F p = none := s.free np
  refine ⟨same_upd nf, same_upd np, fun a x e => ?_, fun a h e => ?_, fun _ h => (by cases h), List.nodup_nil⟩
  · by_cases q : a = p
    · subst q; rw [upd_same] at e ⊢; exact e
    · rw [upd_ne q] at e ⊢; exact s a x e
  · by_cases q : a = p
    · rw [q]; exact .inl np
    · rw [upd_ne q] at h; exact absurd e h
/-- a new object: one's own -/
theorem Ext.newOwn {F H : Hp} {p : Addr} {o : HO} (s : Same F H) (np : H p = none) : Ext F H F (upd H p o) [p] := by
  have nf : F p = none := s.free np
  refine ⟨Same.refl F, same_upd np, fun a x e => ?_, fun a h e => absurd e h, fun a ha => ?_, by simp⟩
  · rw [upd_ne (ne_of_none (s a x e) np)]; exact s a x e
  · rw [List.mem_singleton.mp ha]; exact ⟨np, nf, by rw [upd_same]; exact nofun⟩
/-- an own object is laid aside as data -/
theorem Rp.freeze {G : Gr} {F H : Hp} {Os : List Addr} {σ : St} {ρ : Env} {v : V} {s : Sl} {d : D} (r : Rp K mg G F H Os σ ρ) (h : RSl K mg F H v s Os) (e : frz s = some d) :
    ∃ F', Same F F' ∧ Rp K mg G F' H [] σ ρ ∧ Rep K F' v d := by
  have gen : ∀ (p : Addr) (o : HO), Os = [p] → H p = some o → Same F (upd F p o) ∧ Rp K mg G (upd F p o) H [] σ ρ := by
    rintro p o rfl hp
    obtain ⟨O, hs, nd, own⟩ := r.sls
    have fp := (own p (by simp)).1
    have bp := (own p (by simp)).2.1
    have nd' : O.Nodup ∧ p ∉ O := by
      simp only [List.singleton_append, List.nodup_cons] at nd
      exact ⟨nd.2, nd.1⟩
    refine ⟨same_upd fp, r.f0.trans (same_upd fp), fun a x q => ?_, r.bas, fun a ha => ?_, O, hs.mono (same_upd fp) fun _ _ => rfl, by simpa using nd'.1, fun a ha => ?_⟩
    · by_cases z : a = p
      · subst z; rw [upd_same] at q; rw [hp]; exact q
      · rw [upd_ne z] at q; exact r.sub a x q
    · by_cases z : a = p
      · subst z; exact .inr (.inl bp)
      · rw [upd_ne z] at ha; exact r.new a ha
    · have ha' : a ∈ O := by simpa using ha
      have z : a ≠ p := fun z => nd'.2 (z ▸ ha')
      rw [upd_ne z]
      exact own a (by simp [ha'])
  cases h with
  | dat h =>
    cases e
    exact ⟨F, Same.refl F, r, h⟩
  | lst h q =>
    cases e
    obtain ⟨a, b⟩ := gen _ _ rfl h
    exact ⟨_, a, b, .lst (.inl upd_same) (q.mono a)⟩
  | dK h q =>
    cases e
    obtain ⟨a, b⟩ := gen _ _ rfl h
    exact ⟨_, a, b, .dK (.inl upd_same) (q.mono a)⟩
  | dT h q =>
    cases e
    obtain ⟨a, b⟩ := gen _ _ rfl h
    exact ⟨_, a, b, .dT (.inl upd_same) (q.mono a)⟩
  | ins => cases e
/-! #### a slot of the frame -/
theorem set_self {α : Type} {σ : List α} {i : Nat} {v : α} (h : σ[i]? = some v) : σ.set i v = σ := by
  have hi := (List.getElem?_eq_some_iff.mp h).1
  apply List.ext_getElem?
  intro j
  by_cases z : i = j
  · subst z; rw [List.getElem?_set_self hi, h]
  · rw [List.getElem?_set_ne z]
theorem RSs.at {F H : Hp} : ∀ {σ : St} {ρ : Env} {O : List Addr} {i : Nat} {s : Sl}, RSs K mg F H σ ρ O → ρ[i]? = some (some s) →
    ∃ v O1 O2 O3, σ[i]? = some (some v) ∧ RSl K mg F H v s O2 ∧ O = O1 ++ (O2 ++ O3) ∧ RSs K mg F H σ (ρ.set i none) (O1 ++ O3)
  | _, _, _, i, _, .nil, e => by simp at e
  | _, _, _, 0, _, .non r, e => by simp at e
  | _, _, _, i + 1, s, .non r, e => by
    obtain ⟨v, O1, O2, O3, e1, h, e2, k⟩ := RSs.at (i := i) r (by simpa using e)
    exact ⟨v, O1, O2, O3, by simpa using e1, h, e2, .non k⟩
  | _, _, _, 0, s, .som h r, e => by
    simp only [List.getElem?_cons_zero, Option.some.injEq] at e
    subst e
    exact ⟨_, [], _, _, rfl, h, rfl, .non r⟩
  | _, _, _, i + 1, s, .som h r, e => by
    obtain ⟨v, O1, O2, O3, e1, h1, e2, k⟩ := RSs.at (i := i) r (by simpa using e)
    rename_i O0 _
    refine ⟨v, O0 ++ O1, O2, O3, by simpa using e1, h1, by rw [e2]; simp, ?_⟩
    rw [List.append_assoc]
    exact .som h k
theorem RSs.put {F H : Hp} : ∀ {σ : St} {ρ : Env} {O : List Addr} {i : Nat}, RSs K mg F H σ ρ O → i < σ.length →
    ∃ O1 O2 O3, O = O1 ++ (O2 ++ O3) ∧ (∀ {v' : V} {s' : Sl} {O2' : List Addr}, RSl K mg F H v' s' O2' → RSs K mg F H (σ.set i (some v')) (ρ.set i (some s')) (O1 ++ (O2' ++ O3))) ∧
      ∀ (x : Option V), RSs K mg F H (σ.set i x) (ρ.set i none) (O1 ++ O3)
  | _, _, _, i, .nil, e => by simp at e
  | _, _, _, 0, .non r, e => ⟨[], [], _, rfl, fun q => by simpa using RSs.som q r, fun x => .non r⟩
  | _, _, _, i + 1, .non r, e => by
    obtain ⟨O1, O2, O3, e2, k, k'⟩ := RSs.put (i := i) r (by simpa using e)
    exact ⟨O1, O2, O3, e2, fun q => .non (k q), fun x => .non (k' x)⟩
  | _, _, _, 0, .som h r, e => ⟨[], _, _, rfl, fun q => by simpa using RSs.som q r, fun x => .non r⟩
  | _, _, _, i + 1, .som h r, e => by
    obtain ⟨O1, O2, O3, e2, k, k'⟩ := RSs.put (i := i) r (by simpa using e)
    rename_i O0 _
    refine ⟨O0 ++ O1, O2, O3, by rw [e2]; simp, fun q => ?_, fun x => ?_⟩
    · rw [List.append_assoc]; exact .som h (k q)
    · rw [List.append_assoc]; exact .som h (k' x)
/-- a name is given a value -/
theorem Rp.store {G : Gr} {F H : Hp} {Os : List Addr} {σ : St} {ρ : Env} {v : V} {s : Sl} {i : Nat} (r : Rp K mg G F H Os σ ρ) (h : RSl K mg F H v s Os) (hi : i < ρ.length) :
    Rp K mg G F H [] (σ.set i (some v)) (ρ.set i (some s)) := by
  obtain ⟨O, hs, nd, own⟩ := r.sls
  obtain ⟨O1, O2, O3, e, k, _⟩ := hs.put (by rw [hs.length]; exact hi)
  subst e
  have nd' : (O1 ++ (Os ++ O3)).Nodup := by
    simp only [List.nodup_append, List.mem_append] at nd ⊢
    grind
  refine ⟨r.f0, r.sub, r.bas, r.new, _, k h, by simpa using nd', fun a ha => own a ?_⟩
  simp only [List.nil_append, List.mem_append] at ha ⊢
  grind
/-- a name's object is taken out of the frame's account .. -/
theorem Rp.take {G : Gr} {F H : Hp} {σ : St} {ρ : Env} {s : Sl} {i : Nat} (r : Rp K mg G F H [] σ ρ) (e : ρ[i]? = some (some s)) :
    ∃ v O, σ[i]? = some (some v) ∧ RSl K mg F H v s O ∧ Rp K mg G F H O σ (ρ.set i none) := by
  obtain ⟨O, hs, nd, own⟩ := r.sls
  obtain ⟨v, O1, O2, O3, e1, h1, e2, k⟩ := hs.at e
  subst e2
  refine ⟨v, O2, e1, h1, r.f0, r.sub, r.bas, r.new, _, k, ?_, fun a ha => own a ?_⟩
  · simp only [List.nodup_append, List.mem_append, List.nil_append] at nd ⊢
    grind
  · simp only [List.nil_append, List.mem_append] at ha ⊢
    grind
/-- .. and put back -/
theorem Rp.back {G : Gr} {F H : Hp} {Os : List Addr} {σ : St} {ρ : Env} {v : V} {s : Sl} {i : Nat} (r : Rp K mg G F H Os σ (ρ.set i none)) (h : RSl K mg F H v s Os) (e : σ[i]? = some (some v)) :
    Rp K mg G F H [] σ (ρ.set i (some s)) := by
  have hi : i < ρ.length := by
    obtain ⟨O, hs, _⟩ := r.sls
    have := hs.length
    rw [List.length_set] at this
    rw [← this]
    exact (List.getElem?_eq_some_iff.mp e).1
  have := r.store h (i := i) (by rw [List.length_set]; exact hi)
  rw [List.set_set, set_self e] at this
  exact this
/-- an own object is changed -/
theorem Rp.write {G : Gr} {F H : Hp} {Os : List Addr} {σ : St} {ρ : Env} {p : Addr} {o : HO} (r : Rp K mg G F H Os σ ρ) (hp : p ∈ Os) : Rp K mg G F (upd H p o) Os σ ρ := by
  obtain ⟨O, hs, nd, own⟩ := r.sls
  have fp := (own p (by simp [hp])).1
  have bp := (own p (by simp [hp])).2.1
  have np : p ∉ O := fun z => (List.nodup_append.mp nd).2.2 p hp p z rfl
  refine ⟨r.f0, fun a x q => ?_, fun a x q => ?_, r.new, O, hs.mono (Same.refl F) fun a ha => upd_ne fun z => np (z ▸ ha), nd, fun a ha => ?_⟩
  · rw [upd_ne (ne_of_none q fp)]; exact r.sub a x q
  · rw [upd_ne (ne_of_none q bp)]; exact r.bas a x q
  · obtain ⟨a1, a2, a3⟩ := own a ha
    refine ⟨a1, a2, ?_⟩
    by_cases z : a = p
    · rw [z, upd_same]; exact nofun
    · rw [upd_ne z]; exact a3
/-- a borrowed name -/
theorem Rp.at {G : Gr} {F H : Hp} {Os : List Addr} {σ : St} {ρ : Env} {s : Sl} {i : Nat} (r : Rp K mg G F H Os σ ρ) (e : ρ[i]? = some (some s)) : ∃ v O, σ[i]? = some (some v) ∧ RSl K mg F H v s O := by
  obtain ⟨O, hs, nd, own⟩ := r.sls
  obtain ⟨v, _, O2, _, e1, h, _⟩ := hs.at e
  exact ⟨v, O2, e1, h⟩
end
end DL
namespace DL
open PySem PySem.Spec L2

/-! ### judgements -/
section
variable (K : PySem.W.Frag) (mg : Str → Option Value)
/-- an exception's own dict -/
def XR (F H : Hp) : Option (List (Str × D)) → Option Addr → Prop
  | none, d => d = none
  | some fs, d => ∃ p vs, d = some p ∧ H p = some (.xd vs) ∧ vs.map (·.1) = fs.map (·.1) ∧ Reps K F (vs.map (·.2)) (fs.map (·.2))
/-- what is wanted of an exception -/
def XP (E : St → XK) (G : Gr) (σ : St) (x : Xc) (ρ : Env) : Prop := ∀ F H C d, Rp K mg G F H [] σ ρ → mg x.name = some (.ref C) → XR K F H x.fields d → E σ (.ref C) d H
def Post {α : Type} (E : St → XK) (G : Gr) (σ : St) (r : R (α × Env)) (k : α → Env → Prop) : Prop := match r with
  | .ok (a, ρ) => k a ρ
  | .ex x ρ => XP K mg E G σ x ρ
  | .bad => False
theorem post_bind {α β : Type} {E : St → XK} {G : Gr} {σ : St} {r : R (α × Env)} {g : α × Env → R (β × Env)} {k : β → Env → Prop} :
    Post K mg E G σ (r >>= g) k = Post K mg E G σ r fun a ρ => Post K mg E G σ (g (a, ρ)) k := by
  cases r <;> rfl
/-- what an operand is: data, or a name that is looked up when all operands are there -/
inductive Pd where
  | val (d : D)
  | late (i : Nat)
def Pd.get (ρ : Env) : Pd → R D
  | .val d => .ok d
  | .late i => match ρ[i]? with
    | some (some s) => R.of (frz s)
    | _ => .bad
inductive RPd (F : Hp) (σ : St) : V → Pd → Prop
  | val {v : V} {d : D} : Rep K F v d → RPd F σ v (.val d)
  | late {v : V} {i : Nat} : σ[i]? = some (some v) → RPd F σ v (.late i)
abbrev EE := Env → R (Sl × Env)
abbrev AE := Env → R (Pd × Env)
abbrev LE := Env → R (List Pd × Env)
abbrev BE := Env → R (Bool × Env)
def SndE (E : St → XK) (te : TE) (f : EE) : Prop := ∀ G F H σ ρ, Rp K mg G F H [] σ ρ → ∀ Q : VK,
  Post K mg E G σ (f ρ) (fun s ρ' => ∀ v F' H' Os, Same F F' → Rp K mg G F' H' Os σ ρ' → RSl K mg F' H' v s Os → Q v H') → te σ H Q
def SndA (E : St → XK) (te : TE) (f : AE) : Prop := ∀ G F H σ ρ, Rp K mg G F H [] σ ρ → ∀ Q : VK,
  Post K mg E G σ (f ρ) (fun p ρ' => ∀ v F' H', Same F F' → Rp K mg G F' H' [] σ ρ' → RPd K F' σ v p → Q v H') → te σ H Q
inductive RPs (F : Hp) (σ : St) : List V → List Pd → Prop
  | nil : RPs F σ [] []
  | cons {v : V} {p : Pd} {vs : List V} {ps : List Pd} : RPd K F σ v p → RPs F σ vs ps → RPs F σ (v :: vs) (p :: ps)
def SndL (E : St → XK) (ta : TA) (f : LE) : Prop := ∀ G F H σ ρ, Rp K mg G F H [] σ ρ → ∀ Q : List V → Hp → Prop,
  Post K mg E G σ (f ρ) (fun ps ρ' => ∀ vs F' H', Same F F' → Rp K mg G F' H' [] σ ρ' → RPs K F' σ vs ps → Q vs H') → ta σ H Q
def SndT (E : St → XK) (tt : TT) (f : BE) : Prop := ∀ G F H σ ρ, Rp K mg G F H [] σ ρ → ∀ Q : Bool → Hp → Prop,
  Post K mg E G σ (f ρ) (fun b ρ' => ∀ F' H', Same F F' → Rp K mg G F' H' [] σ ρ' → Q b H') → tt σ H Q
end

section
variable {K : PySem.W.Frag} {mg : Str → Option Value} {E : St → XK}
theorem RPd.mono {F F' : Hp} {σ : St} {v : V} {p : Pd} (e : Same F F') (h : RPd K F σ v p) : RPd K F' σ v p := by
  cases h with
  | val h => exact .val (h.mono e)
  | late h => exact .late h
theorem RPs.mono {F F' : Hp} {σ : St} (e : Same F F') : ∀ {v : List V} {p : List Pd}, RPs K F σ v p → RPs K F' σ v p
  | _, _, .nil => .nil
  | _, _, .cons h r => .cons (h.mono e) (RPs.mono e r)
theorem RPd.get {G : Gr} {F H : Hp} {Os : List Addr} {σ : St} {ρ : Env} {v : V} {p : Pd} {d : D} (r : Rp K mg G F H Os σ ρ) (h : RPd K F σ v p) (e : p.get ρ = .ok d) : RepB K mg F H v d := by
  cases h with
  | val h =>
    cases e
    exact ⟨.dat _, [], .dat h, rfl⟩
  | late h =>
    rename_i i
    unfold Pd.get at e
    dsimp only at e
    split at e
    · rename_i s hs
      obtain ⟨v', O, e1, h1⟩ := r.at hs
      rw [h] at e1
      cases e1
      refine ⟨s, O, h1, ?_⟩
      cases q : frz s with
      | none => rw [q] at e; cases e
      | some d' => rw [q] at e; cases e; rfl
    · cases e

/-! ### names, constants, operands -/
def dC (d : D) : EE := fun ρ => .ok (.dat d, ρ)
theorem sn_int {i : Int} : SndE K mg E (tC (.int i)) (dC (.int i)) := fun _ F _ _ _ r _ q => q _ _ _ _ (Same.refl F) r (.dat (.int i))
theorem sn_bl {i : Bool} : SndE K mg E (tC (.bl i)) (dC (.bool i)) := fun _ F _ _ _ r _ q => q _ _ _ _ (Same.refl F) r (.dat (.bl i))
theorem sn_str {i : Str} : SndE K mg E (tC (.str i)) (dC (.str i)) := fun _ F _ _ _ r _ q => q _ _ _ _ (Same.refl F) r (.dat (.str i))
theorem sn_non : SndE K mg E (tC .non) (dC .none) := fun _ F _ _ _ r _ q => q _ _ _ _ (Same.refl F) r (.dat .non)
/-- a value is laid aside as data -/
def fz (f : EE) : Env → R (D × Env) := fun ρ => do let (s, ρ) ← f ρ; let d ← R.of (frz s); pure (d, ρ)
def aV (f : EE) : AE := fun ρ => do let (s, ρ) ← f ρ; let d ← R.of (frz s); pure (.val d, ρ)
theorem sn_aV {te : TE} {f : EE} (h : SndE K mg E te f) : SndA K mg E te (aV f) := by
  intro G F H σ ρ r Q q
  refine h G F H σ ρ r Q ?_
  unfold aV at q
  rw [post_bind] at q
  cases e : f ρ with
  | bad => rw [e] at q; exact q
  | ex x ρ' => rw [e] at q; exact q
  | ok p =>
    obtain ⟨s, ρ'⟩ := p
    rw [e] at q
    intro v F' H' Os e1 r1 h1
    have q : Post K mg E G σ (do let d ← R.of (frz s); pure (Pd.val d, ρ')) _ := q
    cases z : frz s with
    | none => rw [z] at q; exact q.elim
    | some d =>
      rw [z] at q
      obtain ⟨F2, a, b, c⟩ := r1.freeze h1 z
      exact q v F2 H' (e1.trans a) b (.val c)
/-- a name as an operand -/
def aN (i : Nat) : AE := fun ρ => match ρ[i]? with
  | some (some _) => .ok (.late i, ρ)
  | _ => .bad
theorem sn_aN {i : Nat} : SndA K mg E (tVar i) (aN i) := by
  intro G F H σ ρ r Q q
  unfold aN at q
  split at q
  · rename_i s hs
    obtain ⟨v, O, e1, h1⟩ := r.at hs
    exact ⟨v, e1, q v F H (Same.refl F) r (.late e1)⟩
  · exact q.elim
/-- a name as a value: its object is data from here on -/
def dN (i : Nat) : EE := fun ρ => match ρ[i]? with
  | some (some s) => match frz s with
    | some d => .ok (.dat d, ρ.set i (some (.dat d)))
    | none => .bad
  | _ => .bad
theorem sn_dN {i : Nat} : SndE K mg E (tVar i) (dN i) := by
  intro G F H σ ρ r Q q
  unfold dN at q
  split at q
  · rename_i s hs
    split at q
    · rename_i d hd
      obtain ⟨v, O, e1, h1, r1⟩ := r.take hs
      obtain ⟨F', a, b, c⟩ := r1.freeze h1 hd
      exact ⟨v, e1, q v F' H [] a (b.back (.dat c) e1) (.dat c)⟩
    · exact q.elim
  · exact q.elim
end
end DL
namespace DL
open PySem PySem.Spec L2

section
variable {K : PySem.W.Frag} {mg : Str → Option Value} {E : L2.St → XK}
theorem Post.mono {α : Type} {G : Gr} {σ : L2.St} {r : R (α × Env)} {k k' : α → Env → Prop} (h : Post K mg E G σ r k) (f : ∀ a ρ, k a ρ → k' a ρ) : Post K mg E G σ r k' := by
  cases r with
  | ok p => exact f _ _ h
  | ex x ρ => exact h
  | bad => exact h
theorem Post.of {α β : Type} {G : Gr} {σ : L2.St} {o : Option α} {g : α → R (β × Env)} {k : β → Env → Prop} (h : Post K mg E G σ (R.of o >>= g) k) : ∃ a, o = some a ∧ Post K mg E G σ (g a) k := by
  cases o with
  | none => exact h.elim
  | some a => exact ⟨a, rfl, h⟩
theorem Pd.get_no (ρ : Env) (p : Pd) (x : Xc) (ρ' : Env) : p.get ρ ≠ .ex x ρ' := by
  cases p with
  | val d => exact nofun
  | late i =>
    unfold Pd.get
    dsimp only
    split
    · rename_i s _
      cases frz s <;> exact nofun
    · exact nofun
theorem Post.get {β : Type} {G : Gr} {σ : L2.St} {ρ : Env} {p : Pd} {g : D → R (β × Env)} {k : β → Env → Prop} (h : Post K mg E G σ (p.get ρ >>= g) k) : ∃ d, p.get ρ = .ok d ∧ Post K mg E G σ (g d) k := by
  cases e : p.get ρ with
  | ok d => rw [e] at h; exact ⟨d, rfl, h⟩
  | bad => rw [e] at h; exact h.elim
  | ex x ρ' => exact absurd e (Pd.get_no ρ p x ρ')

/-! ### operators of two operands -/
/-- on borrowed values -/
def SndR2 (K : PySem.W.Frag) (mg : Str → Option Value) (r : R2) (op : D → D → Option Sl) : Prop := ∀ F H v w d e s, Same F H → RepB K mg F H v d → RepB K mg F H w e → op d e = some s →
  ∀ Q : VK, (∀ v' F' H' Os, Ext F H F' H' Os → RSl K mg F' H' v' s Os → Q v' H') → r v w H Q
def dOp (op : D → D → Option Sl) (fa fb : AE) : EE := fun ρ => do
  let (a, ρ) ← fa ρ
  let (b, ρ) ← fb ρ
  let x ← a.get ρ
  let y ← b.get ρ
  let s ← R.of (op x y)
  pure (s, ρ)
theorem sn_op {r : R2} {op : D → D → Option Sl} {ta tb : TE} {fa fb : AE} (hr : SndR2 K mg r op) (ha : SndA K mg E ta fa) (hb : SndA K mg E tb fb) : SndE K mg E (tOp r ta tb) (dOp op fa fb) := by
  intro G F H σ ρ r0 Q q
  unfold dOp at q
  rw [post_bind] at q
  refine ha G F H σ ρ r0 _ (q.mono fun p ρ1 q1 v F1 H1 e1 r1 h1 => ?_)
  try dsimp only at q1
  rw [post_bind] at q1
  refine hb G F1 H1 σ ρ1 r1 _ (q1.mono fun p2 ρ2 q2 w F2 H2 e2 r2 h2 => ?_)
  try dsimp only at q2
  obtain ⟨x, ex, q3⟩ := q2.get
  obtain ⟨y, ey, q4⟩ := q3.get
  obtain ⟨s, es, q5⟩ := q4.of
  exact hr F2 H2 v w x y s r2.sub (RPd.get r2 (h1.mono e2) ex) (RPd.get r2 h2 ey) es Q fun v' F3 H3 Os x3 h3 => q5 v' F3 H3 Os ((e1.trans e2).trans x3.f) (r2.ext x3) h3
def SndR1 (K : PySem.W.Frag) (mg : Str → Option Value) (r : V → Hp → VK → Prop) (op : D → Option Sl) : Prop := ∀ F H v d s, Same F H → RepB K mg F H v d → op d = some s →
  ∀ Q : VK, (∀ v' F' H' Os, Ext F H F' H' Os → RSl K mg F' H' v' s Os → Q v' H') → r v H Q
def dUn (op : D → Option Sl) (fa : AE) : EE := fun ρ => do
  let (a, ρ) ← fa ρ
  let x ← a.get ρ
  let s ← R.of (op x)
  pure (s, ρ)
theorem sn_un {r : V → Hp → VK → Prop} {op : D → Option Sl} {ta : TE} {fa : AE} (hr : SndR1 K mg r op) (ha : SndA K mg E ta fa) : SndE K mg E (tUn r ta) (dUn op fa) := by
  intro G F H σ ρ r0 Q q
  unfold dUn at q
  rw [post_bind] at q
  refine ha G F H σ ρ r0 _ (q.mono fun p ρ1 q1 v F1 H1 e1 r1 h1 => ?_)
  try dsimp only at q1
  obtain ⟨x, ex, q3⟩ := q1.get
  obtain ⟨s, es, q5⟩ := q3.of
  exact hr F1 H1 v x s r1.sub (RPd.get r1 h1 ex) es Q fun v' F3 H3 Os x3 h3 => q5 v' F3 H3 Os (e1.trans x3.f) (r1.ext x3) h3

/-! ### lists of operands -/
def lN : LE := fun ρ => .ok ([], ρ)
def lC (fa : AE) (fr : LE) : LE := fun ρ => do
  let (a, ρ) ← fa ρ
  let (r, ρ) ← fr ρ
  pure (a :: r, ρ)
theorem sn_lN : SndL K mg E tNil lN := fun _ F H _ _ r _ q => q [] F H (Same.refl F) r .nil
theorem sn_lC {ta : TE} {tr : TA} {fa : AE} {fr : LE} (ha : SndA K mg E ta fa) (hr : SndL K mg E tr fr) : SndL K mg E (tCons ta tr) (lC fa fr) := by
  intro G F H σ ρ r0 Q q
  unfold lC at q
  rw [post_bind] at q
  refine ha G F H σ ρ r0 _ (q.mono fun p ρ1 q1 v F1 H1 e1 r1 h1 => ?_)
  try dsimp only at q1
  rw [post_bind] at q1
  refine hr G F1 H1 σ ρ1 r1 _ (q1.mono fun ps ρ2 q2 ws F2 H2 e2 r2 h2 => ?_)
  exact q2 (v :: ws) F2 H2 (e1.trans e2) r2 (.cons (h1.mono e2) h2)
/-- each operand as data that stays -/
def Pd.getF (ρ : Env) : Pd → Option D
  | .val d => some d
  | .late i => match ρ[i]? with
    | some (some (.dat d)) => some d
    | _ => none
def getsF (ρ : Env) : List Pd → Option (List D)
  | [] => some []
  | p :: r => match p.getF ρ with
    | some d => match getsF ρ r with
      | some ds => some (d :: ds)
      | none => none
    | none => none
def getsB (ρ : Env) : List Pd → R (List D)
  | [] => .ok []
  | p :: r => do
    let d ← p.get ρ
    let ds ← getsB ρ r
    pure (d :: ds)
theorem RPd.getF {G : Gr} {F H : Hp} {Os : List Addr} {σ : L2.St} {ρ : Env} {v : V} {p : Pd} {d : D} (r : Rp K mg G F H Os σ ρ) (h : RPd K F σ v p) (e : p.getF ρ = some d) : Rep K F v d := by
  cases h with
  | val h => cases e; exact h
  | late h =>
    unfold Pd.getF at e
    dsimp only at e
    split at e
    · rename_i d' hs
      cases e
      obtain ⟨v', O, e1, h1⟩ := r.at hs
      rw [h] at e1
      cases e1
      cases h1 with
      | dat h1 => exact h1
    · cases e
theorem RPs.getsF {G : Gr} {F H : Hp} {Os : List Addr} {σ : L2.St} {ρ : Env} (r : Rp K mg G F H Os σ ρ) : ∀ {vs : List V} {ps : List Pd} {ds : List D}, RPs K F σ vs ps → getsF ρ ps = some ds → Reps K F vs ds
  | _, _, _, .nil, e => by cases e; exact .nil
  | _, _, _, .cons h t, e => by
    unfold DL.getsF at e
    split at e
    · rename_i d hd
      split at e
      · rename_i ds hds
        cases e
        exact .cons (h.getF r hd) (RPs.getsF r t hds)
      · cases e
    · cases e
inductive RepsB (K : PySem.W.Frag) (mg : Str → Option Value) (F H : Hp) : List V → List D → Prop
  | nil : RepsB K mg F H [] []
  | cons {v : V} {vs : List V} {d : D} {ds : List D} : RepB K mg F H v d → RepsB K mg F H vs ds → RepsB K mg F H (v :: vs) (d :: ds)
theorem getsB_no (ρ : Env) : ∀ (p : List Pd) (x : Xc) (ρ' : Env), getsB ρ p ≠ .ex x ρ'
  | [], _, _ => nofun
  | p :: r, x, ρ' => by
    unfold getsB
    cases e : p.get ρ with
    | ok d =>
      cases e2 : getsB ρ r with
      | ok ds => exact nofun
      | bad => exact nofun
      | ex y ρ2 => exact absurd e2 (getsB_no ρ r y ρ2)
    | bad => exact nofun
    | ex y ρ2 => exact absurd e (Pd.get_no ρ p y ρ2)
theorem RPs.getsB {G : Gr} {F H : Hp} {Os : List Addr} {σ : L2.St} {ρ : Env} (r : Rp K mg G F H Os σ ρ) : ∀ {vs : List V} {ps : List Pd} {ds : List D}, RPs K F σ vs ps → getsB ρ ps = .ok ds → RepsB K mg F H vs ds
  | _, _, _, .nil, e => by cases e; exact .nil
  | _, _, _, .cons (p := p) (ps := ps) h t, e => by
    unfold DL.getsB at e
    cases e1 : p.get ρ with
    | ok d =>
      rw [e1] at e
      cases e2 : DL.getsB ρ ps with
      | ok ds =>
        simp only [bind_ok, e2, pure_ok, R.ok.injEq] at e
        subst e
        exact .cons (RPd.get r h e1) (RPs.getsB r t e2)
      | bad => simp [e2] at e
      | ex y ρ2 => simp [e2] at e
    | bad => simp [e1] at e
    | ex y ρ2 => simp [e1] at e
theorem Post.getsB {β : Type} {G : Gr} {σ : L2.St} {ρ : Env} {p : List Pd} {g : List D → R (β × Env)} {k : β → Env → Prop} (h : Post K mg E G σ (getsB ρ p >>= g) k) : ∃ d, DL.getsB ρ p = .ok d ∧ Post K mg E G σ (g d) k := by
  cases e : DL.getsB ρ p with
  | ok d => rw [e] at h; exact ⟨d, rfl, h⟩
  | bad => rw [e] at h; exact h.elim
  | ex x ρ' => exact absurd e (getsB_no ρ p x ρ')

/-! ### displays -/
def lineOk (n : Nat) : Bool := decide (n ≤ sizeLine)
def dLst (fl : LE) : EE := fun ρ => do
  let (ps, ρ) ← fl ρ
  let ds ← R.of (getsF ρ ps)
  if lineOk ds.length then pure (.lst ds, ρ) else .bad
def dTup (fl : LE) : EE := fun ρ => do
  let (ps, ρ) ← fl ρ
  let ds ← R.of (getsF ρ ps)
  if lineOk ds.length then pure (.dat (.tuple ds), ρ) else .bad
theorem sn_lst {ta : TA} {fl : LE} (h : SndL K mg E ta fl) : SndE K mg E (tLst ta) (dLst fl) := by
  intro G F H σ ρ r0 Q q
  unfold dLst at q
  rw [post_bind] at q
  refine h G F H σ ρ r0 _ (q.mono fun ps ρ1 q1 vs F1 H1 e1 r1 h1 => ?_)
  try dsimp only at q1
  obtain ⟨ds, ed, q2⟩ := q1.of
  have hd := h1.getsF r1 ed
  split at q2
  · rename_i hz
    refine ⟨by rw [hd.length]; exact of_decide_eq_true hz, fun p np => ?_⟩
    have x := Ext.newOwn (o := .lst vs) r1.sub np
    exact q2 _ F1 _ [p] e1 (r1.ext x) (.lst upd_same hd)
  · exact q2.elim
theorem sn_tup {ta : TA} {fl : LE} (h : SndL K mg E ta fl) : SndE K mg E (tTup ta) (dTup fl) := by
  intro G F H σ ρ r0 Q q
  unfold dTup at q
  rw [post_bind] at q
  refine h G F H σ ρ r0 _ (q.mono fun ps ρ1 q1 vs F1 H1 e1 r1 h1 => ?_)
  try dsimp only at q1
  obtain ⟨ds, ed, q2⟩ := q1.of
  have hd := h1.getsF r1 ed
  split at q2
  · rename_i hz
    refine ⟨by rw [hd.length]; exact of_decide_eq_true hz, fun p np => ?_⟩
    have x := Ext.data (o := .tup vs) r1.sub np
    exact q2 _ _ _ [] (e1.trans x.f) (r1.ext x) (.dat (.tup upd_same (hd.mono x.f)))
  · exact q2.elim

/-! ### calls of built-ins on values; their methods -/
def SndRL (K : PySem.W.Frag) (mg : Str → Option Value) (r : List V → Hp → VK → Prop) (op : List D → Option Sl) : Prop := ∀ F H vs ds s, Same F H → RepsB K mg F H vs ds → op ds = some s →
  ∀ Q : VK, (∀ v' F' H' Os, Ext F H F' H' Os → RSl K mg F' H' v' s Os → Q v' H') → r vs H Q
def dCB (op : List D → Option Sl) (fl : LE) : EE := fun ρ => do
  let (ps, ρ) ← fl ρ
  let ds ← getsB ρ ps
  let s ← R.of (op ds)
  pure (s, ρ)
theorem sn_cb {r : List V → Hp → VK → Prop} {op : List D → Option Sl} {ta : TA} {fl : LE} (hr : SndRL K mg r op) (h : SndL K mg E ta fl) : SndE K mg E (tCB r ta) (dCB op fl) := by
  intro G F H σ ρ r0 Q q
  unfold dCB at q
  rw [post_bind] at q
  refine h G F H σ ρ r0 _ (q.mono fun ps ρ1 q1 vs F1 H1 e1 r1 h1 => ?_)
  try dsimp only at q1
  obtain ⟨ds, ed, q2⟩ := q1.getsB
  obtain ⟨s, es, q3⟩ := q2.of
  exact hr F1 H1 vs ds s r1.sub (h1.getsB r1 ed) es Q fun v' F3 H3 Os x3 h3 => q3 v' F3 H3 Os (e1.trans x3.f) (r1.ext x3) h3
/-- a method of a built-in type that changes nothing -/
def SndM (K : PySem.W.Frag) (mg : Str → Option Value) (T : String) (r : V → List V → Hp → VK → Prop) (op : D → List D → Option Sl) : Prop :=
  (∀ F H v d e s, Same F H → RepB K mg F H v d → op d e = some s → tyV K T v H) ∧
  ∀ F H v vs d ds s, Same F H → RepB K mg F H v d → RepsB K mg F H vs ds → op d ds = some s → ∀ Q : VK, (∀ v' F' H' Os, Ext F H F' H' Os → RSl K mg F' H' v' s Os → Q v' H') → r v vs H Q

/-! ### tests -/
def dB (f : EE) : BE := fun ρ => do
  let (s, ρ) ← f ρ
  match s with
  | .dat (.bool b) => pure (b, ρ)
  | _ => .bad
theorem sn_tB {te : TE} {f : EE} (h : SndE K mg E te f) : SndT K mg E (tB te) (dB f) := by
  intro G F H σ ρ r0 Q q
  unfold dB at q
  rw [post_bind] at q
  refine h G F H σ ρ r0 _ (q.mono fun s ρ1 q1 v F1 H1 Os e1 r1 h1 => ?_)
  try dsimp only at q1
  split at q1
  · rename_i b
    cases h1 with
    | dat h1 =>
      cases h1
      exact ⟨b, rfl, q1 F1 H1 e1 r1⟩
  · exact q1.elim
theorem sn_tT {te : TE} {f : EE} (h : SndE K mg E te f) : SndT K mg E (tTest te) (dB f) := sn_tB h
def dAnd (f g : BE) : BE := fun ρ => do
  let (b, ρ) ← f ρ
  if b then g ρ else pure (false, ρ)
def dOr (f g : BE) : BE := fun ρ => do
  let (b, ρ) ← f ρ
  if b then pure (true, ρ) else g ρ
def dNot (f : BE) : BE := fun ρ => do
  let (b, ρ) ← f ρ
  pure (!b, ρ)
theorem sn_and {t u : TT} {f g : BE} (h : SndT K mg E t f) (h2 : SndT K mg E u g) : SndT K mg E (tAnd t u) (dAnd f g) := by
  intro G F H σ ρ r0 Q q
  unfold dAnd at q
  rw [post_bind] at q
  refine h G F H σ ρ r0 _ (q.mono fun b ρ1 q1 F1 H1 e1 r1 => ?_)
  cases b with
  | true => exact iteT (h2 G F1 H1 σ ρ1 r1 _ (Post.mono q1 fun b ρ2 q2 F2 H2 e2 r2 => q2 F2 H2 (e1.trans e2) r2))
  | false => exact iteF (q1 F1 H1 e1 r1)
theorem sn_or {t u : TT} {f g : BE} (h : SndT K mg E t f) (h2 : SndT K mg E u g) : SndT K mg E (tOr t u) (dOr f g) := by
  intro G F H σ ρ r0 Q q
  unfold dOr at q
  rw [post_bind] at q
  refine h G F H σ ρ r0 _ (q.mono fun b ρ1 q1 F1 H1 e1 r1 => ?_)
  cases b with
  | true => exact iteT (q1 F1 H1 e1 r1)
  | false => exact iteF (h2 G F1 H1 σ ρ1 r1 _ (Post.mono q1 fun b ρ2 q2 F2 H2 e2 r2 => q2 F2 H2 (e1.trans e2) r2))
theorem sn_not {t : TT} {f : BE} (h : SndT K mg E t f) : SndT K mg E (tNot t) (dNot f) := by
  intro G F H σ ρ r0 Q q
  unfold dNot at q
  rw [post_bind] at q
  exact h G F H σ ρ r0 _ (q.mono fun b ρ1 q1 F1 H1 e1 r1 => q1 F1 H1 e1 r1)
/-- .. as values -/
def dAndV (f g : EE) : EE := fun ρ => do
  let (s, ρ) ← f ρ
  match s with
  | .dat (.bool b) => if b then g ρ else pure (.dat (.bool false), ρ)
  | _ => .bad
def dOrV (f g : EE) : EE := fun ρ => do
  let (s, ρ) ← f ρ
  match s with
  | .dat (.bool b) => if b then pure (.dat (.bool true), ρ) else g ρ
  | _ => .bad
def dNotV (f : EE) : EE := fun ρ => do
  let (s, ρ) ← f ρ
  match s with
  | .dat (.bool b) => pure (.dat (.bool (!b)), ρ)
  | _ => .bad
theorem sn_andV {t u : TE} {f g : EE} (h : SndE K mg E t f) (h2 : SndE K mg E u g) : SndE K mg E (tAndV t u) (dAndV f g) := by
  intro G F H σ ρ r0 Q q
  unfold dAndV at q
  rw [post_bind] at q
  refine h G F H σ ρ r0 _ (q.mono fun s ρ1 q1 v F1 H1 Os e1 r1 h1 => ?_)
  try dsimp only at q1
  split at q1
  · rename_i b
    cases h1 with
    | dat h1 =>
      cases h1
      refine ⟨b, rfl, ?_⟩
      cases b with
      | true => exact iteT (h2 G F1 H1 σ ρ1 r1 _ (Post.mono q1 fun b ρ2 q2 v F2 H2 Os e2 r2 h2 => q2 v F2 H2 Os (e1.trans e2) r2 h2))
      | false => exact iteF (q1 _ F1 H1 [] e1 r1 (.dat (.bl false)))
  · exact q1.elim
theorem sn_orV {t u : TE} {f g : EE} (h : SndE K mg E t f) (h2 : SndE K mg E u g) : SndE K mg E (tOrV t u) (dOrV f g) := by
  intro G F H σ ρ r0 Q q
  unfold dOrV at q
  rw [post_bind] at q
  refine h G F H σ ρ r0 _ (q.mono fun s ρ1 q1 v F1 H1 Os e1 r1 h1 => ?_)
  try dsimp only at q1
  split at q1
  · rename_i b
    cases h1 with
    | dat h1 =>
      cases h1
      refine ⟨b, rfl, ?_⟩
      cases b with
      | true => exact iteT (q1 _ F1 H1 [] e1 r1 (.dat (.bl true)))
      | false => exact iteF (h2 G F1 H1 σ ρ1 r1 _ (Post.mono q1 fun b ρ2 q2 v F2 H2 Os e2 r2 h2 => q2 v F2 H2 Os (e1.trans e2) r2 h2))
  · exact q1.elim
theorem sn_notV {t : TE} {f : EE} (h : SndE K mg E t f) : SndE K mg E (tNotV t) (dNotV f) := by
  intro G F H σ ρ r0 Q q
  unfold dNotV at q
  rw [post_bind] at q
  refine h G F H σ ρ r0 _ (q.mono fun s ρ1 q1 v F1 H1 Os e1 r1 h1 => ?_)
  try dsimp only at q1
  split at q1
  · rename_i b
    cases h1 with
    | dat h1 =>
      cases h1
      exact ⟨b, rfl, q1 _ F1 H1 [] e1 r1 (.dat (.bl _))⟩
  · exact q1.elim
def dIf (t : BE) (f g : EE) : EE := fun ρ => do
  let (b, ρ) ← t ρ
  if b then f ρ else g ρ
theorem sn_ifE {t : TT} {ta tb : TE} {ft : BE} {f g : EE} (h : SndT K mg E t ft) (h1 : SndE K mg E ta f) (h2 : SndE K mg E tb g) : SndE K mg E (tIf t ta tb) (dIf ft f g) := by
  intro G F H σ ρ r0 Q q
  unfold dIf at q
  rw [post_bind] at q
  refine h G F H σ ρ r0 _ (q.mono fun b ρ1 q1 F1 H1 e1 r1 => ?_)
  cases b with
  | true => exact iteT (h1 G F1 H1 σ ρ1 r1 _ (Post.mono q1 fun b ρ2 q2 v F2 H2 Os e2 r2 h2 => q2 v F2 H2 Os (e1.trans e2) r2 h2))
  | false => exact iteF (h2 G F1 H1 σ ρ1 r1 _ (Post.mono q1 fun b ρ2 q2 v F2 H2 Os e2 r2 h2 => q2 v F2 H2 Os (e1.trans e2) r2 h2))
/-- one comparison behind another: the middle is asked once -/
def dChain (op op' : D → D → Option Sl) (fa fb fc : AE) : EE := fun ρ => do
  let (a, ρ) ← fa ρ
  let (b, ρ) ← fb ρ
  let x ← a.get ρ
  let y ← b.get ρ
  let s ← R.of (op x y)
  match s with
  | .dat (.bool k) =>
    if k = true then
      fc ρ >>= fun q => b.get q.2 >>= fun y => q.1.get q.2 >>= fun z => R.of (op' y z) >>= fun s => pure (s, q.2)
    else pure (.dat (.bool false), ρ)
  | _ => .bad
theorem sn_chain {r r' : R2} {op op' : D → D → Option Sl} {ta tb tc : TE} {fa fb fc : AE} (hr : SndR2 K mg r op) (hr' : SndR2 K mg r' op') (ha : SndA K mg E ta fa) (hb : SndA K mg E tb fb) (hc : SndA K mg E tc fc) :
    SndE K mg E (tChain r r' ta tb tc) (dChain op op' fa fb fc) := by
  intro G F H σ ρ r0 Q q
  unfold dChain at q
  rw [post_bind] at q
  refine ha G F H σ ρ r0 _ (q.mono fun p ρ1 q1 v F1 H1 e1 r1 h1 => ?_)
  try dsimp only at q1
  rw [post_bind] at q1
  refine hb G F1 H1 σ ρ1 r1 _ (q1.mono fun p2 ρ2 q2 w F2 H2 e2 r2 h2 => ?_)
  try dsimp only at q2
  obtain ⟨x, ex, q3⟩ := q2.get
  obtain ⟨y, ey, q4⟩ := q3.get
  obtain ⟨s, es, q5⟩ := q4.of
  refine hr F2 H2 v w x y s r2.sub (RPd.get r2 (h1.mono e2) ex) (RPd.get r2 h2 ey) es _ fun v' F3 H3 Os x3 h3 => ?_
  try dsimp only at q5
  split at q5
  · rename_i k
    cases h3 with
    | dat h3 =>
      cases h3
      refine ⟨k, rfl, ?_⟩
      have r3 := r2.ext x3
      cases k with
      | false => exact iteF (q5 _ F3 H3 [] ((e1.trans e2).trans x3.f) r3 (.dat (.bl false)))
      | true =>
        refine iteT ?_
        rw [if_pos rfl, post_bind] at q5
        refine hc G F3 H3 σ ρ2 r3 _ (q5.mono fun p4 ρ4 q6 u F4 H4 e4 r4 h4 => ?_)
        dsimp only at q6
        obtain ⟨y', ey', q7⟩ := q6.get
        obtain ⟨z, ez, q8⟩ := q7.get
        obtain ⟨s', es', q9⟩ := q8.of
        exact hr' F4 H4 w u y' z s' r4.sub (RPd.get r4 (h2.mono (x3.f.trans e4)) ey') (RPd.get r4 h4 ez) es' Q fun v' F5 H5 Os x5 h5 =>
          q9 v' F5 H5 Os (((e1.trans e2).trans x3.f).trans (e4.trans x5.f)) (r4.ext x5) h5
  · exact q5.elim
end
end DL
namespace DL
open PySem PySem.Spec L2

/-! ### statements -/
inductive Out where
  | nx (ρ : Env)
  | rt (s : Sl) (ρ : Env)
  | bk (ρ : Env)
  | ct (ρ : Env)
abbrev SE := Env → R Out
section
variable (K : PySem.W.Frag) (mg : Str → Option Value)
/-- pinned slots: they hold what they held at the def's entry -/
structure Gs where
  g : Gr
  n : Nat
  pin : Nat → Option V
def Gs.ok (Z : Gs) (σ : L2.St) : Prop := σ.length = Z.n ∧ ∀ i v, Z.pin i = some v → σ[i]? = some (some v)
def PostS (E : L2.St → XK) (Z : Gs) (r : R Out) (D : Ends) : Prop := match r with
  | .ok (.nx ρ) => ∀ σ F H, Z.ok σ → Rp K mg Z.g F H [] σ ρ → D.nx σ H
  | .ok (.bk ρ) => ∀ σ F H, Z.ok σ → Rp K mg Z.g F H [] σ ρ → D.bk σ H
  | .ok (.ct ρ) => ∀ σ F H, Z.ok σ → Rp K mg Z.g F H [] σ ρ → D.ct σ H
  | .ok (.rt s ρ) => ∀ σ v F H Os, Z.ok σ → Rp K mg Z.g F H Os σ ρ → RSl K mg F H v s Os → D.rt v H
  | .ex x ρ => ∀ σ, Z.ok σ → XP K mg E Z.g σ x ρ
  | .bad => False
/-- ps: the slots that may be pinned -/
def SndS (ps : List Bool) (E : L2.St → XK) (ts : TS) (f : SE) : Prop := ∀ (Z : Gs) F H σ ρ, (∀ i v, Z.pin i = some v → ps[i]? = some true) → Z.ok σ → Rp K mg Z.g F H [] σ ρ → ∀ D : Ends, PostS K mg E Z (f ρ) D → ts D σ H
end

section
variable {K : PySem.W.Frag} {mg : Str → Option Value} {E : L2.St → XK} {ps : List Bool}
/-- an expression's end within a statement -/
theorem post_of {Z : Gs} {σ : L2.St} {D : Ends} {f : EE} {g : Sl × Env → R Out} {ρ : Env} (hz : Z.ok σ) (h : PostS K mg E Z (f ρ >>= g) D) : Post K mg E Z.g σ (f ρ) fun s ρ' => PostS K mg E Z (g (s, ρ')) D := by
  cases e : f ρ with
  | ok p => rw [e] at h; exact h
  | ex x ρ' => rw [e] at h; exact h σ hz
  | bad => rw [e] at h; exact h
theorem post_ofA {α : Type} {Z : Gs} {σ : L2.St} {D : Ends} {f : Env → R (α × Env)} {g : α × Env → R Out} {ρ : Env} (hz : Z.ok σ) (h : PostS K mg E Z (f ρ >>= g) D) : Post K mg E Z.g σ (f ρ) fun s ρ' => PostS K mg E Z (g (s, ρ')) D := by
  cases e : f ρ with
  | ok p => rw [e] at h; exact h
  | ex x ρ' => rw [e] at h; exact h σ hz
  | bad => rw [e] at h; exact h
theorem PostS.of {α : Type} {Z : Gs} {D : Ends} {o : Option α} {g : α → R Out} (h : PostS K mg E Z (R.of o >>= g) D) : ∃ a, o = some a ∧ PostS K mg E Z (g a) D := by
  cases o with
  | none => exact h.elim
  | some a => exact ⟨a, rfl, h⟩
theorem PostS.get {Z : Gs} {D : Ends} {ρ : Env} {p : Pd} {g : PyData → R Out} (h : PostS K mg E Z (p.get ρ >>= g) D) : ∃ d, p.get ρ = .ok d ∧ PostS K mg E Z (g d) D := by
  cases e : p.get ρ with
  | ok d => rw [e] at h; exact ⟨d, rfl, h⟩
  | bad => rw [e] at h; exact h.elim
  | ex x ρ' => exact absurd e (Pd.get_no ρ p x ρ')
theorem Gs.ok.set {Z : Gs} {σ : L2.St} {i : Nat} {x : Option V} (h : Z.ok σ) (hp : ∀ i v, Z.pin i = some v → ps[i]? = some true) (hi : ps[i]? ≠ some true) : Z.ok (σ.set i x) := ⟨by rw [List.length_set]; exact h.1, fun j v e => by
  have hj := hp j v e
  have z : i ≠ j := fun z => hi (z ▸ hj)
  rw [List.getElem?_set_ne z]
  exact h.2 j v e⟩

def sNx : SE := fun ρ => .ok (.nx ρ)
theorem sn_nx : SndS K mg ps E tNext sNx := fun Z F H σ ρ _ hz r D q => q σ F H hz r
def sBk : SE := fun ρ => .ok (.bk ρ)
theorem sn_bk : SndS K mg ps E tBreak sBk := fun Z F H σ ρ _ hz r D q => q σ F H hz r
def sCt : SE := fun ρ => .ok (.ct ρ)
theorem sn_ct : SndS K mg ps E tCont sCt := fun Z F H σ ρ _ hz r D q => q σ F H hz r
def sSeq (f g : SE) : SE := fun ρ => do
  match ← f ρ with
  | .nx ρ => g ρ
  | o => pure o
theorem sn_seq {t u : TS} {f g : SE} (h : SndS K mg ps E t f) (h2 : SndS K mg ps E u g) : SndS K mg ps E (tSeq t u) (sSeq f g) := by
  intro Z F H σ ρ hp hz r D q
  refine h Z F H σ ρ hp hz r _ ?_
  unfold sSeq at q
  cases e : f ρ with
  | bad => rw [e] at q; exact q
  | ex x ρ' => rw [e] at q; exact q
  | ok o =>
    rw [e] at q
    cases o with
    | nx ρ' => exact fun σ' F' H' hz' r' => h2 Z F' H' σ' ρ' hp hz' r' D q
    | rt s ρ' => exact q
    | bk ρ' => exact q
    | ct ρ' => exact q
/-- x = e: the object stays x's own; .. as data -/
def sSet (i : Nat) (f : EE) : SE := fun ρ => do
  let (s, ρ) ← f ρ
  if i < ρ.length then pure (.nx (ρ.set i (some s))) else .bad
def sDat (i : Nat) (f : EE) : SE := fun ρ => do
  let (s, ρ) ← f ρ
  let d ← R.of (frz s)
  if i < ρ.length then pure (.nx (ρ.set i (some (.dat d)))) else .bad
theorem sn_set {i : Nat} {te : TE} {f : EE} (h : SndE K mg E te f) (hi : ps[i]? ≠ some true := by decide) : SndS K mg ps E (tAsg te (gName i)) (sSet i f) := by
  intro Z F H σ ρ hp hz r D q
  unfold sSet at q
  refine h Z.g F H σ ρ r _ ((post_of hz q).mono fun s ρ1 q1 v F1 H1 Os e1 r1 h1 => ?_)
  try dsimp only at q1
  split at q1
  · rename_i hl
    exact q1 _ F1 H1 (hz.set hp hi) (r1.store h1 hl)
  · exact q1.elim
theorem sn_dat {i : Nat} {te : TE} {f : EE} (h : SndE K mg E te f) (hi : ps[i]? ≠ some true := by decide) : SndS K mg ps E (tAsg te (gName i)) (sDat i f) := by
  intro Z F H σ ρ hp hz r D q
  unfold sDat at q
  refine h Z.g F H σ ρ r _ ((post_of hz q).mono fun s ρ1 q1 v F1 H1 Os e1 r1 h1 => ?_)
  try dsimp only at q1
  obtain ⟨d, ed, q2⟩ := q1.of
  obtain ⟨F2, a, b, c⟩ := r1.freeze h1 ed
  split at q2
  · rename_i hl
    exact q2 _ F2 H1 (hz.set hp hi) (b.store (.dat c) hl)
  · exact q2.elim
def sDrop (f : EE) : SE := fun ρ => do
  let (s, ρ) ← f ρ
  pure (.nx ρ)
theorem Rp.drop {G : Gr} {F H : Hp} {Os : List Addr} {σ : L2.St} {ρ : Env} (r : Rp K mg G F H Os σ ρ) : Rp K mg G F H [] σ ρ := by
  obtain ⟨O, hs, nd, own⟩ := r.sls
  exact ⟨r.f0, r.sub, r.bas, r.new, O, hs, by simpa using (List.nodup_append.mp nd).2.1, fun a ha => own a (by simp at ha; simp [ha])⟩
theorem sn_drop {te : TE} {f : EE} (h : SndE K mg E te f) : SndS K mg ps E (tDrop te) (sDrop f) := by
  intro Z F H σ ρ hp hz r D q
  unfold sDrop at q
  exact h Z.g F H σ ρ r _ ((post_of hz q).mono fun s ρ1 q1 v F1 H1 Os e1 r1 h1 => q1 _ F1 H1 hz r1.drop)
def sRet (f : EE) : SE := fun ρ => do
  let (s, ρ) ← f ρ
  pure (.rt s ρ)
theorem sn_ret {te : TE} {f : EE} (h : SndE K mg E te f) : SndS K mg ps E (tRet te) (sRet f) := by
  intro Z F H σ ρ hp hz r D q
  unfold sRet at q
  exact h Z.g F H σ ρ r _ ((post_of hz q).mono fun s ρ1 q1 v F1 H1 Os e1 r1 h1 => q1 _ v F1 H1 Os hz r1 h1)
/-- return x: x's own object is handed out -/
def sRetN (i : Nat) : SE := fun ρ => match ρ[i]? with
  | some (some s) => .ok (.rt s (ρ.set i none))
  | _ => .bad
theorem sn_retN {i : Nat} : SndS K mg ps E (tRet (tVar i)) (sRetN i) := by
  intro Z F H σ ρ hp hz r D q
  unfold sRetN at q
  split at q
  · rename_i s hs
    obtain ⟨v, O, e1, h1, r1⟩ := r.take hs
    exact ⟨v, e1, q σ v F H O hz r1 h1⟩
  · exact q.elim
def sRet0 : SE := fun ρ => .ok (.rt (.dat .none) ρ)
theorem sn_ret0 : SndS K mg ps E tRetN sRet0 := fun Z F H σ ρ _ hz r D q => q σ .non F H [] hz r (.dat .non)
def sIf (t : BE) (f g : SE) : SE := fun ρ => do
  let (b, ρ) ← t ρ
  if b then f ρ else g ρ
theorem sn_if {tc : TT} {t u : TS} {fc : BE} {f g : SE} (hc : SndT K mg E tc fc) (h1 : SndS K mg ps E t f) (h2 : SndS K mg ps E u g) : SndS K mg ps E (tIfS tc t u) (sIf fc f g) := by
  intro Z F H σ ρ hp hz r D q
  unfold sIf at q
  refine hc Z.g F H σ ρ r _ ((post_ofA hz q).mono fun b ρ1 q1 F1 H1 e1 r1 => ?_)
  cases b with
  | true => exact iteT (h1 Z F1 H1 σ ρ1 hp hz r1 D q1)
  | false => exact iteF (h2 Z F1 H1 σ ρ1 hp hz r1 D q1)
/-- x += e -/
def sAug (i : Nat) (op : PyData → PyData → Option Sl) (fa : AE) : SE := fun ρ => match ρ[i]? with
  | some (some (.dat x)) => do
    let (a, ρ) ← fa ρ
    let y ← a.get ρ
    let s ← R.of (op x y)
    let d ← R.of (frz s)
    pure (.nx (ρ.set i (some (.dat d))))
  | _ => .bad
theorem Rp.slot {G : Gr} {F H : Hp} {Os : List Addr} {σ : L2.St} {ρ : Env} {i : Nat} {v : V} (r : Rp K mg G F H Os σ ρ) (h : σ[i]? = some (some v)) : i < ρ.length := by
  obtain ⟨O, hs, _⟩ := r.sls
  rw [← hs.length]
  exact (List.getElem?_eq_some_iff.mp h).1
theorem sn_aug {i : Nat} {te : TE} {fa : AE} {ti : TIp} {op : PyData → PyData → Option Sl} (hr : SndR2 K mg ti op) (h : SndA K mg E te fa) (hi : ps[i]? ≠ some true := by decide) : SndS K mg ps E (tAug i te ti) (sAug i op fa) := by
  intro Z F H σ ρ hp hz r D q
  unfold sAug at q
  split at q
  · rename_i x hx
    obtain ⟨v, O, e1, h1⟩ := r.at hx
    cases h1 with
    | dat h1 =>
      refine ⟨v, e1, h Z.g F H σ ρ r _ ((post_ofA hz q).mono fun p ρ1 q1 w F1 H1 e2 r1 h2 => ?_)⟩
      try dsimp only at q1
      obtain ⟨y, ey, q2⟩ := q1.get
      obtain ⟨s, es, q3⟩ := q2.of
      obtain ⟨d, ed, q4⟩ := q3.of
      refine hr F1 H1 v w x y s r1.sub ⟨.dat x, [], .dat (h1.mono e2), rfl⟩ (RPd.get r1 h2 ey) es _ fun v' F3 H3 Os x3 h3 => ?_
      obtain ⟨F4, a, b, c⟩ := (r1.ext x3).freeze h3 ed
      exact q4 _ F4 H3 (hz.set hp hi) (b.store (.dat c) (r1.slot e1))
  · exact q.elim

/-! ### targets -/
def SndG (K : PySem.W.Frag) (mg : Str → Option Value) (vs : List Nat) (g : TG) (f : PyData → Env → Option Env) : Prop := ∀ G F H v σ ρ d ρ', Rp K mg G F H [] σ ρ → Rep K F v d → f d ρ = some ρ' →
  ∀ Q : L2.St → Hp → Prop, (∀ σ', Rp K mg G F H [] σ' ρ' → σ'.length = σ.length → (∀ j, j ∉ vs → σ'[j]? = σ[j]?) → Q σ' H) → g v σ H Q
def gN (i : Nat) : PyData → Env → Option Env := fun d ρ => if i < ρ.length then some (ρ.set i (some (.dat d))) else none
theorem sn_gN {i : Nat} : SndG K mg [i] (gName i) (gN i) := by
  intro G F H v σ ρ d ρ' r h e Q q
  unfold gN at e
  split at e
  · rename_i hl
    cases e
    exact q _ (r.store (.dat h) hl) (by simp) fun j hj => List.getElem?_set_ne (by simp at hj; exact fun z => hj z.symm)
  · cases e
def SndGs (K : PySem.W.Frag) (mg : Str → Option Value) (vs : List Nat) (g : TGs) (f : List PyData → Env → Option Env) : Prop := ∀ G F H v σ ρ d ρ', Rp K mg G F H [] σ ρ → Reps K F v d → f d ρ = some ρ' →
  ∀ Q : L2.St → Hp → Prop, (∀ σ', Rp K mg G F H [] σ' ρ' → σ'.length = σ.length → (∀ j, j ∉ vs → σ'[j]? = σ[j]?) → Q σ' H) → g v σ H Q
def gsN : List PyData → Env → Option Env := fun ds ρ => match ds with
  | [] => some ρ
  | _ => none
def gsC (g : PyData → Env → Option Env) (r : List PyData → Env → Option Env) : List PyData → Env → Option Env := fun ds ρ => match ds with
  | [] => none
  | d :: ds => match g d ρ with
    | some ρ' => r ds ρ'
    | none => none
theorem sn_gsN : SndGs K mg [] gNil gsN := by
  intro G F H v σ ρ d ρ' r h e Q q
  cases h with
  | nil => cases e; exact ⟨rfl, q σ r rfl fun _ _ => rfl⟩
  | cons => cases e
theorem sn_gsC {vs ws : List Nat} {g : TG} {gs : TGs} {f : PyData → Env → Option Env} {fs : List PyData → Env → Option Env} (h1 : SndG K mg vs g f) (h2 : SndGs K mg ws gs fs) : SndGs K mg (vs ++ ws) (gCons g gs) (gsC f fs) := by
  intro G F H v σ ρ d ρ' r h e Q q
  cases h with
  | nil => cases e
  | cons h t =>
    unfold gsC at e
    dsimp only at e
    split at e
    · rename_i ρ1 e1
      refine ⟨_, _, rfl, h1 G F H _ σ ρ _ ρ1 r h e1 _ fun σ1 r1 l1 k1 => ?_⟩
      exact h2 G F H _ σ1 ρ1 _ ρ' r1 t e _ fun σ2 r2 l2 k2 => q σ2 r2 (l2.trans l1) fun j hj => by
        rw [List.mem_append, not_or] at hj
        rw [k2 j hj.2, k1 j hj.1]
    · cases e
def gT (n : Nat) (fs : List PyData → Env → Option Env) : PyData → Env → Option Env := fun d ρ => match d with
  | .tuple ds => if ds.length = n then fs ds ρ else none
  | _ => none
theorem sn_gT {vs : List Nat} {n : Nat} {gs : TGs} {fs : List PyData → Env → Option Env} (h : SndGs K mg vs gs fs) : SndG K mg vs (gTup K n gs) (gT n fs) := by
  intro G F H v σ ρ d ρ' r h0 e Q q
  unfold gT at e
  split at e
  · rename_i ds
    split at e
    · rename_i hn
      cases h0 with
      | tup hs hr => exact ⟨_, _, rfl, .inl (.inl (r.sub _ _ hs)), by rw [hr.length]; exact hn, h G F H _ σ ρ _ ρ' r hr e Q q⟩
    · cases e
  · cases e
/-- a, b = e -/
def sUnp (g : PyData → Env → Option Env) (f : EE) : SE := fun ρ => do
  let (s, ρ) ← f ρ
  let d ← R.of (frz s)
  let ρ ← R.of (g d ρ)
  pure (.nx ρ)
theorem sn_unp {vs : List Nat} {te : TE} {f : EE} {tg : TG} {g : PyData → Env → Option Env} (hg : SndG K mg vs tg g) (h : SndE K mg E te f) (hi : vs.all (fun i => ps[i]? != some true) = true := by decide) : SndS K mg ps E (tAsg te tg) (sUnp g f) := by
  intro Z F H σ ρ hp hz r D q
  unfold sUnp at q
  refine h Z.g F H σ ρ r _ ((post_of hz q).mono fun s ρ1 q1 v F1 H1 Os e1 r1 h1 => ?_)
  try dsimp only at q1
  obtain ⟨d, ed, q2⟩ := q1.of
  obtain ⟨F2, a, b, c⟩ := r1.freeze h1 ed
  obtain ⟨ρ2, e2, q3⟩ := q2.of
  refine hg Z.g F2 H1 v σ ρ1 d ρ2 b c e2 _ fun σ' r' l k => q3 σ' F2 H1 ⟨l.trans hz.1, fun i v e => ?_⟩ r'
  rw [k i fun hm => ?_]
  · exact hz.2 i v e
  · have h1 := List.all_eq_true.mp hi i hm
    rw [hp i v e] at h1
    simp at h1

/-! ### what is walked -/
structure Wk (K : PySem.W.Frag) (J : It) (F : Hp) (ds : List PyData) : Prop where
  stop : ∀ i H, Same F H → ds.length ≤ i → J.stop i H
  go : ∀ i H, Same F H → i < ds.length → J.go i H
  yld : ∀ i H F2 x H', Same F F2 → Same F2 H → J.yld i H x H' → i < ds.length → ∃ d F2', ds[i]? = some d ∧ Ext F2 H F2' H' [] ∧ Rep K F2' x d
abbrev DE := Env → R (List PyData × Env)
def SndI (K : PySem.W.Frag) (mg : Str → Option Value) (E : L2.St → XK) (ti : TI) (f : DE) : Prop := ∀ G F H σ ρ, Rp K mg G F H [] σ ρ → ∀ Q : It → Hp → Prop,
  Post K mg E G σ (f ρ) (fun ds ρ' => ∀ J F' H', Same F F' → Rp K mg G F' H' [] σ ρ' → Wk K J F' ds → Q J H') → ti σ H Q
theorem Same.inj_sql {K : PySem.W.Frag} {H : Hp} : True := trivial
/-- a list, a tuple (data) -/
def iSeq (f : EE) : DE := fun ρ => do
  let (s, ρ) ← f ρ
  match frz s with
  | some (.list ds) => pure (ds, ρ)
  | _ => .bad
def iTu (f : EE) : DE := fun ρ => do
  let (s, ρ) ← f ρ
  match frz s with
  | some (.tuple ds) => pure (ds, ρ)
  | _ => .bad
theorem wk_list {F : Hp} {a : Addr} {xs : List V} {ds : List PyData} (h : SqL K F a xs) (r : Reps K F xs ds) : Wk K (Itl K a) F ds where
  stop := fun i H s hi => ⟨xs, Same.sql s h, by rw [r.length]; exact hi⟩
  go := fun i H s hi => by
    obtain ⟨v, e, _⟩ := r.get (i := i) (d := ds[i]) (by simp [hi])
    exact ⟨xs, v, Same.sql s h, e⟩
  yld := fun i H F2 x H' s1 s2 y hi => by
    obtain ⟨rfl, y⟩ := y
    have e := y xs (Same.sql (s1.trans s2) h)
    obtain ⟨d, ed, hd⟩ := r.getV e
    exact ⟨d, F2, ed, Ext.refl s2, hd.mono s1⟩
theorem wk_tup {F : Hp} {a : Addr} {xs : List V} {ds : List PyData} (h : SqT K F a xs) (r : Reps K F xs ds) : Wk K (Itt K a) F ds where
  stop := fun i H s hi => ⟨xs, Same.sqt s h, by rw [r.length]; exact hi⟩
  go := fun i H s hi => by
    obtain ⟨v, e, _⟩ := r.get (i := i) (d := ds[i]) (by simp [hi])
    exact ⟨xs, v, Same.sqt s h, e⟩
  yld := fun i H F2 x H' s1 s2 y hi => by
    obtain ⟨rfl, y⟩ := y
    have e := y xs (Same.sqt (s1.trans s2) h)
    obtain ⟨d, ed, hd⟩ := r.getV e
    exact ⟨d, F2, ed, Ext.refl s2, hd.mono s1⟩
def rangeD (lo : Int) (n : Nat) : List PyData := (List.range n).map fun i => .int (lo + (i : Nat))
theorem wk_range {F : Hp} {lo : Int} {n : Nat} : Wk K (Itr lo n) F (rangeD lo n) where
  stop := fun i H _ hi => by
    show n ≤ i
    simpa [rangeD] using hi
  go := fun i H _ hi => by
    show i < n
    simpa [rangeD] using hi
  yld := fun i H F2 x H' s1 s2 y hi => by
    obtain ⟨rfl, rfl⟩ := y
    have hi' : i < n := by simpa [rangeD] using hi
    exact ⟨.int (lo + i), F2, by simp [rangeD, hi'], Ext.refl s2, .int _⟩
theorem sn_iList {te : TE} {f : EE} (h : SndE K mg E te f) : SndI K mg E (iList K te) (iSeq f) := by
  intro G F H σ ρ r Q q
  unfold iSeq at q
  rw [post_bind] at q
  refine h G F H σ ρ r _ (q.mono fun s ρ1 q1 v F1 H1 Os e1 r1 h1 => ?_)
  try dsimp only at q1
  split at q1
  · rename_i ds ed
    obtain ⟨F2, a, b, c⟩ := r1.freeze h1 ed
    cases c with
    | lst hs hr => exact ⟨_, rfl, ⟨_, .inl (Same.rd b.sub hs)⟩, q1 _ F2 H1 (e1.trans a) b (wk_list (.inl hs) hr)⟩
  · exact q1.elim
theorem sn_iTup {te : TE} {f : EE} (h : SndE K mg E te f) : SndI K mg E (iTup K te) (iTu f) := by
  intro G F H σ ρ r Q q
  unfold iTu at q
  rw [post_bind] at q
  refine h G F H σ ρ r _ (q.mono fun s ρ1 q1 v F1 H1 Os e1 r1 h1 => ?_)
  try dsimp only at q1
  split at q1
  · rename_i ds ed
    obtain ⟨F2, a, b, c⟩ := r1.freeze h1 ed
    cases c with
    | tup hs hr => exact ⟨_, rfl, ⟨_, .inl (.inl (b.sub _ _ hs))⟩, q1 _ F2 H1 (e1.trans a) b (wk_tup (.inl (.inl hs)) hr)⟩
  · exact q1.elim
def smallI (i : Int) : Bool := decide (-(2 ^ 62) ≤ i ∧ i < 2 ^ 62)
def iR1 (fl : LE) : DE := fun ρ => do
  let (ps, ρ) ← fl ρ
  let ds ← getsB ρ ps
  match ds with
  | [.int j] => if smallI j then pure (rangeD 0 j.toNat, ρ) else .bad
  | _ => .bad
def iR2 (fl : LE) : DE := fun ρ => do
  let (ps, ρ) ← fl ρ
  let ds ← getsB ρ ps
  match ds with
  | [.int i, .int j] => if smallI i && smallI j then pure (rangeD i (j - i).toNat, ρ) else .bad
  | _ => .bad
theorem RepB.rep_int {F H : Hp} {v : V} {i : Int} (h : RepB K mg F H v (.int i)) : v = .int i := by
  obtain ⟨s, O, h, e⟩ := h
  cases h with
  | dat h => cases e; cases h; rfl
  | lst => cases e
  | dK => cases e
  | dT => cases e
  | ins => cases e
theorem sn_iR1 {ta : TA} {fl : LE} (h : SndL K mg E ta fl) : SndI K mg E (iRng1 ta) (iR1 fl) := by
  intro G F H σ ρ r Q q
  unfold iR1 at q
  rw [post_bind] at q
  refine h G F H σ ρ r _ (q.mono fun s ρ1 q1 vs F1 H1 e1 r1 h1 => ?_)
  try dsimp only at q1
  obtain ⟨ds, ed, q2⟩ := q1.getsB
  have hb := h1.getsB r1 ed
  split at q2
  · rename_i j
    split at q2
    · rename_i hj
      cases hb with
      | cons hb1 t =>
        cases t
        have := hb1.rep_int
        subst this
        have hj := of_decide_eq_true hj
        exact ⟨j, rfl, hj.1, hj.2, q2 _ F1 H1 e1 r1 wk_range⟩
    · exact q2.elim
  · exact q2.elim
theorem sn_iR2 {ta : TA} {fl : LE} (h : SndL K mg E ta fl) : SndI K mg E (iRng2 ta) (iR2 fl) := by
  intro G F H σ ρ r Q q
  unfold iR2 at q
  rw [post_bind] at q
  refine h G F H σ ρ r _ (q.mono fun s ρ1 q1 vs F1 H1 e1 r1 h1 => ?_)
  try dsimp only at q1
  obtain ⟨ds, ed, q2⟩ := q1.getsB
  have hb := h1.getsB r1 ed
  split at q2
  · rename_i i j
    split at q2
    · rename_i hj
      cases hb with
      | cons hb1 t =>
        cases t with
        | cons hb2 t =>
          cases t
          have := hb1.rep_int
          subst this
          have := hb2.rep_int
          subst this
          rw [Bool.and_eq_true] at hj
          have h1 := of_decide_eq_true hj.1
          have h2 := of_decide_eq_true hj.2
          exact ⟨i, j, rfl, ⟨h1.1, h1.2, h2.1, h2.2⟩, q2 _ F1 H1 e1 r1 wk_range⟩
    · exact q2.elim
  · exact q2.elim

/-! ### for -/
def forL (g : PyData → Env → Option Env) (b : SE) : List PyData → Env → R Out
  | [], ρ => .ok (.nx ρ)
  | d :: ds, ρ => do
    let ρ ← R.of (g d ρ)
    match ← b ρ with
    | .nx ρ => forL g b ds ρ
    | .ct ρ => forL g b ds ρ
    | .bk ρ => pure (.nx ρ)
    | .rt s ρ => pure (.rt s ρ)
def sFor (i : DE) (g : PyData → Env → Option Env) (b : SE) : SE := fun ρ => do
  let (ds, ρ) ← i ρ
  forL g b ds ρ
theorem Rp.base {G : Gr} {F H : Hp} {Os : List Addr} {σ : L2.St} {ρ : Env} (r : Rp K mg G F H Os σ ρ) : Rp K mg { G with F0 := F } F H Os σ ρ :=
  ⟨Same.refl F, r.sub, r.bas, fun _ h => .inl h, r.sls⟩
theorem Rp.unbase {G : Gr} {F F' H' : Hp} {Os : List Addr} {σ : L2.St} {ρ : Env} (f0 : Same G.F0 F) (nw : ∀ a, F a ≠ none → G.F0 a ≠ none ∨ FreeT G.B a) (r : Rp K mg { G with F0 := F } F' H' Os σ ρ) : Rp K mg G F' H' Os σ ρ :=
  ⟨f0.trans r.f0, r.sub, r.bas, fun a h => by
    rcases r.new a h with h | h
    · exact nw a h
    · exact .inr h, r.sls⟩
theorem PostS.base {Z : Gs} {F : Hp} {r : R Out} {D : Ends} (f0 : Same Z.g.F0 F) (nw : ∀ a, F a ≠ none → Z.g.F0 a ≠ none ∨ FreeT Z.g.B a) (h : PostS K mg E Z r D) : PostS K mg E ⟨{ Z.g with F0 := F }, Z.n, Z.pin⟩ r D := by
  cases r with
  | bad => exact h
  | ex x ρ => exact fun σ hz F' H' C d r hc hx => h σ hz F' H' C d (r.unbase f0 nw) hc hx
  | ok o =>
    cases o with
    | nx ρ => exact fun σ F' H' hz r => h σ F' H' hz (r.unbase f0 nw)
    | bk ρ => exact fun σ F' H' hz r => h σ F' H' hz (r.unbase f0 nw)
    | ct ρ => exact fun σ F' H' hz r => h σ F' H' hz (r.unbase f0 nw)
    | rt s ρ => exact fun σ v F' H' Os hz r hv => h σ v F' H' Os hz (r.unbase f0 nw) hv
theorem sn_for {vs : List Nat} {ti : TI} {tg : TG} {tb : TS} {fi : DE} {g : PyData → Env → Option Env} {fb : SE} (hi : SndI K mg E ti fi) (hg : SndG K mg vs tg g) (hb : SndS K mg ps E tb fb) (hv : vs.all (fun i => ps[i]? != some true) = true := by decide) :
    SndS K mg ps E (tFor ti tg tb) (sFor fi g fb) := by
  intro Z F H σ ρ hp hz r D q
  unfold sFor at q
  refine hi Z.g F H σ ρ r _ ((post_ofA hz q).mono fun ds ρ1 q1 J F1 H1 e1 r1 w => ?_)
  try dsimp only at q1
  have q2 : PostS K mg E ⟨{ Z.g with F0 := F1 }, Z.n, Z.pin⟩ (forL g fb ds ρ1) D := q1.base r1.f0 r1.new
  refine ⟨fun i m σ' H' => i + m = ds.length ∧ ∃ F' ρ', Rp K mg { Z.g with F0 := F1 } F' H' [] σ' ρ' ∧ Z.ok σ' ∧ PostS K mg E ⟨{ Z.g with F0 := F1 }, Z.n, Z.pin⟩ (forL g fb (ds.drop i) ρ') D,
    ⟨ds.length, by simp, F1, ρ1, r1.base, hz, by simpa using q2⟩, ?_⟩
  rintro i m σ' H' ⟨hm, F', ρ', r', hz', q'⟩
  by_cases hl : i < ds.length
  · refine .inr ⟨w.go i H' (r'.f0.trans r'.sub) hl, ?_⟩
    have ed : ds.drop i = ds[i] :: ds.drop (i + 1) := List.drop_eq_getElem_cons hl
    refine ⟨fun σ2 H2 => ∃ F2 ρ2, Rp K mg { Z.g with F0 := F1 } F2 H2 [] σ2 ρ2 ∧ Z.ok σ2 ∧ PostS K mg E ⟨{ Z.g with F0 := F1 }, Z.n, Z.pin⟩ (forL g fb (ds.drop (i + 1)) ρ2) D, fun σ2 H2 h => ⟨m - 1, by omega, by omega, h⟩, fun x H2 y => ?_⟩
    obtain ⟨d, F2, e2, x2, h2⟩ := w.yld i H' F' x H2 r'.f0 r'.sub y hl
    have ei : ds[i] = d := by
      rw [List.getElem?_eq_getElem hl] at e2
      exact Option.some.inj e2
    rw [ed, ei] at q'
    unfold forL at q'
    obtain ⟨ρ2, e3, q3⟩ := q'.of
    refine hg _ F2 H2 x σ' ρ' d ρ2 (r'.ext x2) h2 e3 _ fun σ3 r3 l3 k3 => ?_
    have hz3 : Z.ok σ3 := ⟨l3.trans hz'.1, fun j v e => by
      rw [k3 j fun hm => ?_]
      · exact hz'.2 j v e
      · have h1 := List.all_eq_true.mp hv j hm
        rw [hp j v e] at h1
        simp at h1⟩
    refine hb ⟨{ Z.g with F0 := F1 }, Z.n, Z.pin⟩ F2 H2 σ3 ρ2 hp hz3 r3 _ ?_
    cases eb : fb ρ2 with
    | bad => rw [eb] at q3; exact q3
    | ex x ρ4 => rw [eb] at q3; exact q3
    | ok o =>
      rw [eb] at q3
      cases o with
      | nx ρ4 => exact fun σ4 F4 H4 hz4 r4 => ⟨F4, ρ4, r4, hz4, q3⟩
      | ct ρ4 => exact fun σ4 F4 H4 hz4 r4 => ⟨F4, ρ4, r4, hz4, q3⟩
      | bk ρ4 => exact q3
      | rt s ρ4 => exact q3
  · refine .inl ⟨w.stop i H' (r'.f0.trans r'.sub) (by omega), ?_⟩
    rw [List.drop_eq_nil_of_le (by omega)] at q'
    exact q' σ' F' H' hz' r'

/-! ### while -/
def whileN (c : BE) (b : SE) : Nat → Env → R Out
  | 0, _ => .bad
  | n + 1, ρ => do
    let (k, ρ) ← c ρ
    if k = true then do
      match ← b ρ with
      | .nx ρ => whileN c b n ρ
      | .ct ρ => whileN c b n ρ
      | .bk ρ => pure (.nx ρ)
      | .rt s ρ => pure (.rt s ρ)
    else pure (.nx ρ)
/-- the turns have a bound, reckoned ahead -/
def sWhile (n : Env → Nat) (c : BE) (b : SE) : SE := fun ρ => whileN c b (n ρ) ρ
theorem sn_while {n : Env → Nat} {tc : TT} {tb : TS} {fc : BE} {fb : SE} (hc : SndT K mg E tc fc) (hb : SndS K mg ps E tb fb) : SndS K mg ps E (tWhile tc tb) (sWhile n fc fb) := by
  intro Z F H σ ρ hp hz r D q
  refine ⟨fun m σ' H' => ∃ F' ρ', Rp K mg Z.g F' H' [] σ' ρ' ∧ Z.ok σ' ∧ PostS K mg E Z (whileN fc fb m ρ') D, ⟨n ρ, F, ρ, r, hz, q⟩, ?_⟩
  rintro m σ' H' ⟨F', ρ', r', hz', q'⟩
  cases m with
  | zero => exact q'.elim
  | succ m =>
    unfold whileN at q'
    refine hc Z.g F' H' σ' ρ' r' _ ((post_ofA hz' q').mono fun b ρ1 q1 F1 H1 e1 r1 => ?_)
    try dsimp only at q1
    cases b with
    | false => exact iteF (q1 σ' F1 H1 hz' r1)
    | true =>
      refine iteT ⟨fun σ2 H2 => ∃ F2 ρ2, Rp K mg Z.g F2 H2 [] σ2 ρ2 ∧ Z.ok σ2 ∧ PostS K mg E Z (whileN fc fb m ρ2) D, fun σ2 H2 h => ⟨m, by omega, h⟩, ?_⟩
      rw [if_pos rfl] at q1
      refine hb Z F1 H1 σ' ρ1 hp hz' r1 _ ?_
      cases eb : fb ρ1 with
      | bad => rw [eb] at q1; exact q1
      | ex x ρ4 => rw [eb] at q1; exact q1
      | ok o =>
        rw [eb] at q1
        cases o with
        | nx ρ4 => exact fun σ4 F4 H4 hz4 r4 => ⟨F4, ρ4, r4, hz4, q1⟩
        | ct ρ4 => exact fun σ4 F4 H4 hz4 r4 => ⟨F4, ρ4, r4, hz4, q1⟩
        | bk ρ4 => exact q1
        | rt s ρ4 => exact q1
end
end DL
namespace DL
open PySem PySem.Spec L2

/-! ### a def: what it computes from its parameters -/
def minus (H : Hp) (O : List Addr) : Hp := fun a => if a ∈ O then none else H a
/-- what a caller asks: of parameters that read so, the def's function gives the end -/
def spF (K : PySem.W.Frag) (mg : Str → Option Value) (fD : EE) : Sp := fun vs H Q E => ∃ F ρ O, Same F H ∧ RSs K mg F H (vs.map some) ρ O ∧ O.Nodup ∧ (∀ a ∈ O, F a = none) ∧
  Post K mg (fun _ => E) ⟨F, minus H O⟩ (vs.map some) (fD ρ) fun s ρ' => ∀ v F' H' Os, Rp K mg ⟨F, minus H O⟩ F' H' Os (vs.map some) ρ' → RSl K mg F' H' v s Os → Q v H'
/-- what is handed back of the parameters: those that are kept -/
def maskE : List Bool → Env → Env
  | b :: bs, s :: ρ => (if b = true then s else none) :: maskE bs ρ
  | _, _ => []
/-- a def: n names, the parameters first; keep: the parameters whose objects may be changed -/
def dDef (n : Nat) (keep : List Bool) (body : SE) : EE := fun ρ => match body (ρ ++ List.replicate (n - ρ.length) none) with
  | .ok (.rt s ρ') => .ok (s, maskE keep ρ')
  | .ok (.nx ρ') => .ok (.dat .none, maskE keep ρ')
  | .ok (.bk _) => .bad
  | .ok (.ct _) => .bad
  | .ex x ρ' => .ex x (maskE keep ρ')
  | .bad => .bad

section
variable {K : PySem.W.Frag} {mg : Str → Option Value}
theorem RSs.nones {F H : Hp} : ∀ (σ : L2.St), RSs K mg F H σ (List.replicate σ.length none) []
  | [] => .nil
  | x :: r => .non (RSs.nones r)
theorem RSs.append {F H : Hp} {σ' : L2.St} {ρ' : Env} (h : RSs K mg F H σ' ρ' []) : ∀ {σ : L2.St} {ρ : Env} {O : List Addr}, RSs K mg F H σ ρ O → RSs K mg F H (σ ++ σ') (ρ ++ ρ') O
  | _, _, _, .nil => h
  | _, _, _, .non r => .non (RSs.append h r)
  | _, _, _, .som a r => .som a (RSs.append h r)
/-- the kept parameters alone -/
theorem RSs.mask {F H : Hp} : ∀ {keep : List Bool} {vs : List V} {σ : L2.St} {ρ : Env} {O : List Addr}, RSs K mg F H σ ρ O → keep.length = vs.length → vs.length ≤ σ.length → (∀ i : Nat, keep[i]? = some true → σ[i]? = (vs.map some)[i]?) →
    ∃ O', RSs K mg F H (vs.map some) (maskE keep ρ) O' ∧ List.Sublist O' O
  | [], [], _, _, _, _, _, _, _ => ⟨[], by unfold maskE; exact .nil, List.nil_sublist _⟩
  | [], _ :: _, _, _, _, _, e, _, _ => by simp at e
  | _ :: _, [], _, _, _, _, e, _, _ => by simp at e
  | b :: bs, v :: vs, _, _, _, .nil, _, e, _ => by simp at e
  | b :: bs, v :: vs, _, _, _, .non r, e1, e2, k => by
    obtain ⟨O', h, s⟩ := RSs.mask (keep := bs) (vs := vs) r (by simpa using e1) (by simpa using e2) fun i hi => by simpa using k (i + 1) (by simpa using hi)
    refine ⟨O', ?_, s⟩
    unfold maskE
    cases b <;> exact .non h
  | b :: bs, v :: vs, _, _, _, .som a r, e1, e2, k => by
    obtain ⟨O', h, s⟩ := RSs.mask (keep := bs) (vs := vs) r (by simpa using e1) (by simpa using e2) fun i hi => by simpa using k (i + 1) (by simpa using hi)
    unfold maskE
    cases b with
    | false => exact ⟨O', .non h, s.trans (List.sublist_append_right _ _)⟩
    | true =>
      have k0 := k 0 rfl
      simp only [List.getElem?_cons_zero, List.map_cons, Option.some.injEq] at k0
      subst k0
      exact ⟨_, .som a h, List.Sublist.append (List.Sublist.refl _) s⟩
theorem Rp.mask {G : Gr} {F H : Hp} {Os : List Addr} {σ : L2.St} {ρ : Env} {keep : List Bool} {vs : List V} (r : Rp K mg G F H Os σ ρ) (e1 : keep.length = vs.length) (e2 : vs.length ≤ σ.length) (k : ∀ i : Nat, keep[i]? = some true → σ[i]? = (vs.map some)[i]?) :
    Rp K mg G F H Os (vs.map some) (maskE keep ρ) := by
  obtain ⟨O, hs, nd, own⟩ := r.sls
  obtain ⟨O', h, s⟩ := hs.mask e1 e2 k
  have s2 : List.Sublist (Os ++ O') (Os ++ O) := List.Sublist.append (List.Sublist.refl _) s
  exact ⟨r.f0, r.sub, r.bas, r.new, O', h, nd.sublist s2, fun a ha => own a (s2.subset ha)⟩
theorem Rp.len {G : Gr} {F H : Hp} {Os : List Addr} {σ : L2.St} {ρ : Env} (r : Rp K mg G F H Os σ ρ) : σ.length = ρ.length := by
  obtain ⟨O, hs, _⟩ := r.sls
  exact hs.length
/-- statements keep the number of slots: from the name's slot being there. Here: all states of a body have as many slots as the def has names -/
theorem sp_len {fD : EE} {n : Nat} (hf : ∀ ρ x, fD ρ = x → x ≠ .bad → ρ.length = n) {vs : List V} {H : Hp} {Q : VK} {E : XK} (h : spF K mg fD vs H Q E) : vs.length = n := by
  obtain ⟨F, ρ, O, s, hs, nd, own, q⟩ := h
  have h1 := hs.length
  rw [List.length_map] at h1
  rw [h1]
  refine hf ρ _ rfl fun e => ?_
  rw [e] at q
  exact q
theorem dDef_len {n k : Nat} {keep : List Bool} {body : SE} (hk : keep.length = k) : True := trivial
end

/-- a def with a check of its number of parameters -/
def dFn (n : Nat) (keep : List Bool) (body : SE) : EE := fun ρ => if ρ.length = keep.length then dDef n keep body ρ else .bad
section
variable {K : PySem.W.Frag} {mg : Str → Option Value}
theorem fn_len {n : Nat} {keep : List Bool} {body : SE} {vs : List V} {H : Hp} {Q : VK} {E : XK} (h : spF K mg (dFn n keep body) vs H Q E) : vs.length = keep.length := by
  refine sp_len (fun ρ x e nb => ?_) h
  unfold dFn at e
  split at e
  · assumption
  · exact absurd e.symm nb
/-- THE RULE: a body that computes body keeps the def's promise -/
theorem fn_body {n : Nat} {keep : List Bool} {N : List Str} {ts : TS} {body : SE} {vs : List V} {H : Hp} {Q : VK} {E : XK} (hN : N.length = n) (hk : keep.length ≤ n) (hb : SndS K mg keep (fun _ => E) ts body) (h : spF K mg (dFn n keep body) vs H Q E) :
    ts { nx := fun _ H' => Q .non H', rt := Q } (L2.start N vs) H := by
  have hl := fn_len h
  obtain ⟨F, ρ, O, s, hs, nd, own, q⟩ := h
  have hρ : ρ.length = keep.length := by rw [← hs.length, List.length_map, hl]
  unfold dFn at q
  rw [if_pos hρ] at q
  unfold dDef at q
  have e0 : L2.start N vs = vs.map some ++ List.replicate (n - ρ.length) none := by
    unfold L2.start
    rw [hN, hρ, hl]
  rw [e0]
  have r0 : RSs K mg F H (vs.map some ++ List.replicate (n - ρ.length) none) (ρ ++ List.replicate (n - ρ.length) none) O := by
    have := RSs.nones (K := K) (mg := mg) (F := F) (H := H) (List.replicate (n - ρ.length) none)
    rw [List.length_replicate] at this
    exact RSs.append this hs
  have r1 : Rp K mg ⟨F, minus H O⟩ F H [] (vs.map some ++ List.replicate (n - ρ.length) none) (ρ ++ List.replicate (n - ρ.length) none) := by
    refine ⟨Same.refl F, s, fun a x e => ?_, fun a h => .inl h, O, r0, by simpa using nd, fun a ha => ?_⟩
    · show H a = some x
      unfold minus at e
      dsimp only at e
      split at e
      · cases e
      · exact e
    · have ha : a ∈ O := by simpa using ha
      exact ⟨own a ha, by show (if a ∈ O then none else H a) = none; rw [if_pos ha], hs.there a ha⟩
  let Z : Gs := ⟨⟨F, minus H O⟩, n, fun i => if keep[i]? = some true then vs[i]? else none⟩
  have hz : Z.ok (vs.map some ++ List.replicate (n - ρ.length) none) := by
    refine ⟨?_, fun i v e => ?_⟩
    · show (vs.map some ++ List.replicate (n - ρ.length) none).length = n
      rw [List.length_append, List.length_map, List.length_replicate, hρ, hl]
      omega
    have e : (if keep[i]? = some true then vs[i]? else none) = some v := e
    split at e
    · have hi := (List.getElem?_eq_some_iff.mp e).1
      rw [List.getElem?_append_left (by simpa using hi), List.getElem?_map, e]
      rfl
    · cases e
  have hp : ∀ i v, Z.pin i = some v → keep[i]? = some true := by
    intro i v e
    have e : (if keep[i]? = some true then vs[i]? else none) = some v := e
    split at e
    · assumption
    · cases e
  have fin : ∀ {σ' : L2.St} {ρ' : Env} {F' H' : Hp} {Os : List Addr}, Z.ok σ' → Rp K mg ⟨F, minus H O⟩ F' H' Os σ' ρ' → Rp K mg ⟨F, minus H O⟩ F' H' Os (vs.map some) (maskE keep ρ') := fun {σ'} {ρ'} {F'} {H'} {Os} hz' r => by
    have hn : σ'.length = n := hz'.1
    refine r.mask hl.symm (by omega) fun i hi => ?_
    have hi' : i < vs.length := by
      rw [hl]
      exact (List.getElem?_eq_some_iff.mp hi).1
    have : Z.pin i = some vs[i] := by
      show (if keep[i]? = some true then vs[i]? else none) = some vs[i]
      rw [if_pos hi, List.getElem?_eq_getElem hi']
    rw [hz'.2 i _ this, List.getElem?_map, List.getElem?_eq_getElem hi']
    rfl
  refine hb Z F H _ _ hp hz r1 _ ?_
  cases e : body (ρ ++ List.replicate (n - ρ.length) none) with
  | bad => rw [e] at q; exact q
  | ex x ρ' =>
    rw [e] at q
    exact fun σ' hz' F' H' C d r hc hx => q F' H' C d (fin hz' r) hc hx
  | ok o =>
    rw [e] at q
    cases o with
    | nx ρ' => exact fun σ' F' H' hz' r => q .non F' H' [] (fin hz' r) (.dat .non)
    | rt s ρ' => exact fun σ' v F' H' Os hz' r hv => q v F' H' Os (fin hz' r) hv
    | bk ρ' => exact q.elim
    | ct ρ' => exact q.elim
end
end DL
namespace DL
open PySem PySem.Spec L2

section
variable {K : PySem.W.Frag} {mg : Str → Option Value} {E : L2.St → XK}
theorem Rp.perm {G : Gr} {F H : Hp} {Os Os' : List Addr} {σ : L2.St} {ρ : Env} (r : Rp K mg G F H Os σ ρ) (p : Os'.Perm Os) : Rp K mg G F H Os' σ ρ := by
  obtain ⟨O, hs, nd, own⟩ := r.sls
  exact ⟨r.f0, r.sub, r.bas, r.new, O, hs, ((p.append (List.Perm.refl O)).nodup_iff).mpr nd, fun a ha => own a ((p.append (List.Perm.refl O)).mem_iff.mp ha)⟩
theorem Rp.drops {G : Gr} {F H : Hp} {A B : List Addr} {σ : L2.St} {ρ : Env} (r : Rp K mg G F H (A ++ B) σ ρ) : Rp K mg G F H B σ ρ := by
  obtain ⟨O, hs, nd, own⟩ := r.sls
  refine ⟨r.f0, r.sub, r.bas, r.new, O, hs, ?_, fun a ha => own a ?_⟩
  · rw [List.append_assoc] at nd
    exact (List.nodup_append.mp nd).2.1
  · rw [List.append_assoc]
    exact List.mem_append_right _ ha
theorem Rp.take2 {G : Gr} {F H : Hp} {Os : List Addr} {σ : L2.St} {ρ : Env} {s : Sl} {i : Nat} (r : Rp K mg G F H Os σ ρ) (e : ρ[i]? = some (some s)) :
    ∃ v O, σ[i]? = some (some v) ∧ RSl K mg F H v s O ∧ Rp K mg G F H (O ++ Os) σ (ρ.set i none) := by
  obtain ⟨O, hs, nd, own⟩ := r.sls
  obtain ⟨v, O1, O2, O3, e1, h1, e2, k⟩ := hs.at e
  subst e2
  refine ⟨v, O2, e1, h1, r.f0, r.sub, r.bas, r.new, _, k, ?_, fun a ha => own a ?_⟩
  · have p : ((O2 ++ Os) ++ (O1 ++ O3)).Perm (Os ++ (O1 ++ (O2 ++ O3))) := by
      rw [List.append_assoc]
      refine (List.perm_append_comm_assoc O2 Os _).trans ?_
      exact (List.Perm.refl Os).append (List.perm_append_comm_assoc O2 O1 O3)
    exact p.nodup_iff.mpr nd
  · simp only [List.mem_append] at ha ⊢
    grind
theorem Rp.back2 {G : Gr} {F H : Hp} {O Os : List Addr} {σ : L2.St} {ρ : Env} {v : V} {s : Sl} {i : Nat} (r : Rp K mg G F H (O ++ Os) σ ρ) (h : RSl K mg F H v s O) (e : σ[i]? = some (some v)) :
    Rp K mg G F H Os σ (ρ.set i (some s)) := by
  obtain ⟨Q, hs, nd, own⟩ := r.sls
  obtain ⟨O1, O2, O3, e2, k, _⟩ := hs.put (i := i) (List.getElem?_eq_some_iff.mp e).1
  subst e2
  have k := k h
  rw [set_self e] at k
  refine ⟨r.f0, r.sub, r.bas, r.new, _, k, ?_, fun a ha => own a ?_⟩
  · have p : ((O ++ Os) ++ (O1 ++ (O2 ++ O3))).Perm (O2 ++ (Os ++ (O1 ++ (O ++ O3)))) := by
      have e1 : ((O ++ Os) ++ (O1 ++ (O2 ++ O3))).Perm (O2 ++ ((O ++ Os) ++ (O1 ++ O3))) := by
        refine ((List.Perm.refl (O ++ Os)).append (List.perm_append_comm_assoc O1 O2 O3)).trans ?_
        exact List.perm_append_comm_assoc _ _ _
      refine e1.trans ((List.Perm.refl O2).append ?_)
      rw [List.append_assoc]
      refine (List.perm_append_comm_assoc O Os _).trans ?_
      exact (List.Perm.refl Os).append (List.perm_append_comm_assoc O O1 O3)
    exact (List.nodup_append.mp (p.nodup_iff.mp nd)).2.1
  · simp only [List.mem_append] at ha ⊢
    grind

/-! ### calls of defs -/
def takeA : List Pd → List Bool → Env → Option (Env × Env)
  | [], _, ρ => some ([], ρ)
  | .val d :: ps, bs, ρ => match takeA ps bs.tail ρ with
    | some q => some (some (.dat d) :: q.1, q.2)
    | none => none
  | .late i :: ps, bs, ρ => match ρ[i]? with
    | some (some s) => if bs.head? = some true then
        match takeA ps bs.tail (ρ.set i none) with
        | some q => some (some s :: q.1, q.2)
        | none => none
      else match s with
        | .dat d => match takeA ps bs.tail ρ with
          | some q => some (some (.dat d) :: q.1, q.2)
          | none => none
        | _ => none
    | _ => none
def putA : List Pd → List Bool → Env → Env → Env
  | .late i :: ps, true :: bs, some s :: ρo, ρ => match ρ[i]? with
    | some none => putA ps bs ρo (ρ.set i (some s))
    | _ => putA ps bs ρo ρ
  | _ :: ps, _ :: bs, _ :: ρo, ρ => putA ps bs ρo ρ
  | _, _, _, ρ => ρ
theorem takeA_ok {G : Gr} {F H : Hp} {σ : L2.St} : ∀ {ps : List Pd} {bs : List Bool} {ρ : Env} {Os : List Addr} {vs : List V} {ρc ρ1 : Env}, Rp K mg G F H Os σ ρ → RPs K F σ vs ps → takeA ps bs ρ = some (ρc, ρ1) →
    ∃ Oc, RSs K mg F H (vs.map some) ρc Oc ∧ Rp K mg G F H (Oc ++ Os) σ ρ1
  | [], _, _, _, _, _, _, r, .nil, e => by
    cases e
    exact ⟨[], .nil, r⟩
  | .val d :: ps, bs, ρ, Os, _, _, _, r, .cons h t, e => by
    unfold takeA at e
    split at e
    · rename_i q eq
      cases e
      obtain ⟨Oc, h1, h2⟩ := takeA_ok (ρc := q.1) (ρ1 := q.2) r t eq
      cases h with
      | val h => exact ⟨_, .som (.dat h) h1, h2⟩
    · cases e
  | .late i :: ps, bs, ρ, Os, _, _, _, r, .cons h t, e => by
    unfold takeA at e
    split at e
    · rename_i s hs
      cases h with
      | late hv =>
        split at e
        · split at e
          · rename_i q eq
            cases e
            obtain ⟨v, O, e1, h1, r1⟩ := r.take2 hs
            rw [hv] at e1
            cases e1
            obtain ⟨Oc, h2, r2⟩ := takeA_ok (ρc := q.1) (ρ1 := q.2) r1 t eq
            refine ⟨O ++ Oc, .som h1 h2, r2.perm ?_⟩
            rw [List.append_assoc]
            exact (List.perm_append_comm_assoc _ _ _)
          · cases e
        · split at e
          · split at e
            · rename_i q eq
              cases e
              obtain ⟨v, O, e1, h1⟩ := r.at hs
              rw [hv] at e1
              cases e1
              cases h1 with
              | dat h1 =>
                obtain ⟨Oc, h2, r2⟩ := takeA_ok (ρc := q.1) (ρ1 := q.2) r t eq
                exact ⟨_, .som (.dat h1) h2, r2⟩
            · cases e
          · cases e
    · cases e
theorem putA_ok {G : Gr} {F H : Hp} {σ : L2.St} {F0 : Hp} : ∀ {ps : List Pd} {bs : List Bool} {ρo ρ : Env} {Oo Os : List Addr} {vs : List V}, RPs K F0 σ vs ps → RSs K mg F H (vs.map some) ρo Oo → Rp K mg G F H (Oo ++ Os) σ ρ → Rp K mg G F H Os σ (putA ps bs ρo ρ)
  | [], _, _, _, _, _, _, .nil, hs, r => by
    unfold putA
    exact r.drops
  | p :: ps, [], _, ρ, _, _, _, _, hs, r => by
    have e : ∀ ρo, putA (p :: ps) [] ρo ρ = ρ := fun ρo => by cases p <;> cases ρo <;> rfl
    rw [e]
    exact r.drops
  | p :: ps, b :: bs, _, ρ, _, Os, _, .cons h t, .non hs, r => by
    have e : ∀ ρo, putA (p :: ps) (b :: bs) (none :: ρo) ρ = putA ps bs ρo ρ := fun ρo => by cases p <;> cases b <;> rfl
    rw [e]
    exact putA_ok t hs r
  | .val d :: ps, b :: bs, _, ρ, _, Os, _, .cons h t, .som hv hs, r => by
    show Rp K mg G F H Os σ (putA ps bs _ ρ)
    rw [List.append_assoc] at r
    exact putA_ok t hs r.drops
  | .late i :: ps, false :: bs, _, ρ, _, Os, _, .cons h t, .som hv hs, r => by
    show Rp K mg G F H Os σ (putA ps bs _ ρ)
    rw [List.append_assoc] at r
    exact putA_ok t hs r.drops
  | .late i :: ps, true :: bs, _, ρ, _, Os, _, .cons h t, .som hv hs, r => by
    unfold putA
    split
    · cases h with
      | late h =>
        rw [List.append_assoc] at r
        exact putA_ok t hs (r.back2 hv h)
    · rw [List.append_assoc] at r
      exact putA_ok t hs r.drops
/-- the state behind a call, seen by the caller -/
theorem Rp.after {G : Gr} {F H F' H' : Hp} {Oc Os : List Addr} {σ σc : L2.St} {ρ1 ρo : Env} (r : Rp K mg G F H Oc σ ρ1) (rc : Rp K mg ⟨F, minus H Oc⟩ F' H' Os σc ρo) : ∃ Oo, RSs K mg F' H' σc ρo Oo ∧ Rp K mg G F' H' (Oo ++ Os) σ ρ1 := by
  obtain ⟨O, hs, nd, own⟩ := r.sls
  obtain ⟨Oo, hs2, nd2, own2⟩ := rc.sls
  have B : ∀ a, minus H Oc a = none ↔ (a ∈ Oc ∨ H a = none) := fun a => by
    unfold minus
    try dsimp only
    split
    · rename_i h; exact ⟨fun _ => .inl h, fun _ => rfl⟩
    · rename_i h; exact ⟨fun z => .inr z, fun z => z.resolve_left h⟩
  have nO : ∀ a ∈ O, a ∉ Oc := fun a ha hc => (List.nodup_append.mp nd).2.2 a hc a ha rfl
  have nB : ∀ a ∈ O, minus H Oc a ≠ none := fun a ha z => by
    rcases (B a).mp z with z | z
    · exact nO a ha z
    · exact hs.there a ha z
  have hH : ∀ a ∈ O, H' a = H a := fun a ha => by
    have h1 : minus H Oc a = H a := by
      unfold minus
      try dsimp only
      rw [if_neg (nO a ha)]
    have h2 := same_at rc.bas (nB a ha)
    exact h2.trans h1
  refine ⟨Oo, hs2, r.f0.trans rc.f0, rc.sub, fun a x e => ?_, fun a h => ?_, O, hs.mono rc.f0 hH, ?_, fun a ha => ?_⟩
  · have h1 := r.bas a x e
    refine rc.bas a x ?_
    show minus H Oc a = some x
    unfold minus
    try dsimp only
    rw [if_neg fun z => ?_, h1]
    have := (own a (List.mem_append_left _ z)).2.1
    rw [e] at this
    cases this
  · rcases rc.new a h with h1 | h1
    · exact r.new a h1
    · rcases h1 with h1 | ⟨xs, h1⟩
      · rcases (B a).mp h1 with z | z
        · exact .inr (.inl (own a (List.mem_append_left _ z)).2.1)
        · exact .inr (.inl (r.bas.free z))
      · refine .inr (FreeT.down r.bas (.inr ⟨xs, ?_⟩))
        have h1 : minus H Oc a = some (.tup xs) := h1
        unfold minus at h1
        try dsimp only at h1
        split at h1
        · cases h1
        · exact h1
  · refine List.nodup_append.mpr ⟨(List.perm_append_comm.nodup_iff).mp nd2, (List.nodup_append.mp nd).2.1, fun a ha b hb e => ?_⟩
    subst e
    have ha' : a ∈ Os ++ Oo := by
      simp only [List.mem_append] at ha ⊢
      exact ha.symm
    exact nB a hb (own2 a ha').2.1
  · rcases List.mem_append.mp ha with ha | ha
    · have ha' : a ∈ Os ++ Oo := by
        simp only [List.mem_append] at ha ⊢
        exact ha.symm
      obtain ⟨h1, h2, h3⟩ := own2 a ha'
      refine ⟨h1, ?_, h3⟩
      rcases (B a).mp h2 with z | z
      · exact (own a (List.mem_append_left _ z)).2.1
      · exact r.bas.free z
    · have h1 := own a (List.mem_append_right _ ha)
      refine ⟨?_, h1.2.1, ?_⟩
      · cases q : F' a with
        | none => rfl
        | some o =>
          rcases rc.new a (by rw [q]; exact nofun) with z | z
          · exact absurd h1.1 z
          · rcases z with z | ⟨xs, z⟩
            · exact absurd z (nB a ha)
            · have z : minus H Oc a = some (.tup xs) := z
              unfold minus at z
              try dsimp only at z
              split at z
              · cases z
              · exact absurd ⟨xs, z⟩ (hs.notup a ha)
      · rw [hH a ha]; exact h1.2.2
def dCall (fD : EE) (refs : List Bool) (fl : LE) : EE := fun ρ => do
  let (ps, ρ) ← fl ρ
  let (ρc, ρ1) ← R.of (takeA ps refs ρ)
  match fD ρc with
  | .ok (s, ρo) => .ok (s, putA ps refs ρo ρ1)
  | .ex x ρo => .ex x (putA ps refs ρo ρ1)
  | .bad => .bad
/-- a call of a def that lets nothing out -/
def noX (f : EE) : EE := fun ρ => match f ρ with
  | .ok p => .ok p
  | _ => .bad
theorem sn_call {fD : EE} {refs : List Bool} {ta : TA} {fl : LE} {E' : XK} (hE : ∀ σ C d H, E σ C d H → E' C d H) (h : SndL K mg E ta fl) : SndE K mg E (tCall (spF K mg fD) [] E' ta) (dCall fD refs fl) := by
  intro G F H σ ρ r0 Q q
  unfold dCall at q
  rw [post_bind] at q
  refine h G F H σ ρ r0 _ (q.mono fun ps ρ1 q1 vs F1 H1 e1 r1 h1 => ?_)
  try dsimp only at q1
  obtain ⟨⟨ρc, ρ2⟩, et, q2⟩ := q1.of
  obtain ⟨Oc, hc, r2⟩ := takeA_ok r1 h1 et
  rw [List.append_nil] at r2
  obtain ⟨O, _, nd, own⟩ := r2.sls
  rw [List.append_nil]
  refine ⟨F1, ρc, Oc, r1.sub, hc, (List.nodup_append.mp nd).1, fun a ha => (own a (List.mem_append_left _ ha)).1, ?_⟩
  try dsimp only at q2
  cases ef : fD ρc with
  | bad => rw [ef] at q2; exact q2
  | ex x ρo =>
    rw [ef] at q2
    intro F' H' C d rc hcl hx
    obtain ⟨Oo, ho, ra⟩ := r2.after rc
    exact hE σ _ _ _ (q2 F' H' C d (putA_ok h1 ho ra) hcl hx)
  | ok p =>
    obtain ⟨s, ρo⟩ := p
    rw [ef] at q2
    intro v F' H' Os rc hv
    obtain ⟨Oo, ho, ra⟩ := r2.after rc
    exact q2 v F' H' Os (e1.trans rc.f0) (putA_ok h1 ho ra) hv
theorem sn_call0 {fD : EE} {refs : List Bool} {ta : TA} {fl : LE} {E' : XK} (h : SndL K mg E ta fl) : SndE K mg E (tCall (spF K mg fD) [] E' ta) (dCall (noX fD) refs fl) := by
  intro G F H σ ρ r0 Q q
  unfold dCall at q
  rw [post_bind] at q
  refine h G F H σ ρ r0 _ (q.mono fun ps ρ1 q1 vs F1 H1 e1 r1 h1 => ?_)
  try dsimp only at q1
  obtain ⟨⟨ρc, ρ2⟩, et, q2⟩ := q1.of
  obtain ⟨Oc, hc, r2⟩ := takeA_ok r1 h1 et
  rw [List.append_nil] at r2
  obtain ⟨O, _, nd, own⟩ := r2.sls
  rw [List.append_nil]
  refine ⟨F1, ρc, Oc, r1.sub, hc, (List.nodup_append.mp nd).1, fun a ha => (own a (List.mem_append_left _ ha)).1, ?_⟩
  try dsimp only at q2
  unfold noX at q2
  cases ef : fD ρc with
  | bad => rw [ef] at q2; exact q2
  | ex x ρo => rw [ef] at q2; exact q2.elim
  | ok p =>
    obtain ⟨s, ρo⟩ := p
    rw [ef] at q2
    intro v F' H' Os rc hv
    obtain ⟨Oo, ho, ra⟩ := r2.after rc
    exact q2 v F' H' Os (e1.trans rc.f0) (putA_ok h1 ho ra) hv

/-! ### comprehensions -/
def wipeE (ρ : Env) : List Nat → Env
  | [] => ρ
  | v :: vs => (wipeE ρ vs).set v none
def restE (ρ1 : Env) : List Nat → Env → Env
  | [], ρ => ρ
  | v :: vs, ρ => match ρ1[v]? with
    | some (some (.dat d)) => (restE ρ1 vs ρ).set v (some (.dat d))
    | _ => restE ρ1 vs ρ
def isDat : Option (Option Sl) → Bool
  | some none => true
  | some (some (.dat _)) => true
  | _ => false
def lcL (g : PyData → Env → Option Env) (ft : BE) (fe : EE) (vs : List Nat) : List PyData → Env → R (List PyData × Env)
  | [], ρ => .ok ([], ρ)
  | d :: ds, ρ => do
    let ρ ← R.of (g d (wipeE ρ vs))
    let (b, ρ) ← ft ρ
    if b = true then do
      let (s, ρ) ← fe ρ
      let x ← R.of (frz s)
      let (r, ρ) ← lcL g ft fe vs ds ρ
      pure (x :: r, ρ)
    else lcL g ft fe vs ds ρ
def dLc (fi : DE) (g : PyData → Env → Option Env) (ft : BE) (fe : EE) (vs : List Nat) : EE := fun ρ => do
  let (ds, ρ1) ← fi ρ
  if vs.all (fun i => isDat ρ1[i]?) = true ∧ ds.length ≤ 100000 then
    match lcL g ft fe vs ds ρ1 with
    | .ok (out, ρ2) => .ok (.lst out, restE ρ1 vs (wipeE ρ2 vs))
    | _ => .bad
  else .bad
theorem Rp.wipe1 {G : Gr} {F H : Hp} {Os : List Addr} {σ : L2.St} {ρ : Env} (i : Nat) (r : Rp K mg G F H Os σ ρ) : Rp K mg G F H Os (σ.set i none) (ρ.set i none) := by
  by_cases hi : i < σ.length
  · obtain ⟨O, hs, nd, own⟩ := r.sls
    obtain ⟨O1, O2, O3, e, _, k⟩ := hs.put hi
    subst e
    refine ⟨r.f0, r.sub, r.bas, r.new, _, k none, ?_, fun a ha => own a ?_⟩
    · refine nd.sublist (List.Sublist.append (List.Sublist.refl _) (List.Sublist.append (List.Sublist.refl _) (List.sublist_append_right _ _)))
    · simp only [List.mem_append] at ha ⊢
      grind
  · rw [List.set_eq_of_length_le (by omega), List.set_eq_of_length_le (by rw [← r.len]; omega)]
    exact r
theorem Rp.wipe {G : Gr} {F H : Hp} {Os : List Addr} {σ : L2.St} {ρ : Env} (r : Rp K mg G F H Os σ ρ) : ∀ vs : List Nat, Rp K mg G F H Os (L2.wipe σ vs) (wipeE ρ vs)
  | [] => r
  | v :: vs => (Rp.wipe r vs).wipe1 v
theorem wipe_len {σ : L2.St} : ∀ {vs : List Nat}, (L2.wipe σ vs).length = σ.length
  | [] => rfl
  | v :: vs => by
    show ((L2.wipe σ vs).set v none).length = _
    rw [List.length_set, wipe_len]
theorem wipe_ne {σ : L2.St} {j : Nat} : ∀ {vs : List Nat}, j ∉ vs → (L2.wipe σ vs)[j]? = σ[j]?
  | [], _ => rfl
  | v :: vs, h => by
    rw [List.mem_cons, not_or] at h
    show ((L2.wipe σ vs).set v none)[j]? = _
    rw [List.getElem?_set_ne fun z => h.1 z.symm, wipe_ne h.2]
theorem wipe_in {σ : L2.St} {j : Nat} (hj : j < σ.length) : ∀ {vs : List Nat}, j ∈ vs → (L2.wipe σ vs)[j]? = some none
  | [], h => by cases h
  | v :: vs, h => by
    show ((L2.wipe σ vs).set v none)[j]? = _
    by_cases z : v = j
    · subst z
      rw [List.getElem?_set_self (by rw [wipe_len]; exact hj)]
    · rw [List.getElem?_set_ne z]
      exact wipe_in hj ((List.mem_cons.mp h).resolve_left fun y => z y.symm)
theorem wipe_eq {σ σ' : L2.St} {vs : List Nat} (hl : σ'.length = σ.length) (h : ∀ j, j ∉ vs → σ'[j]? = σ[j]?) : L2.wipe σ' vs = L2.wipe σ vs := by
  apply List.ext_getElem?
  intro j
  by_cases hj : j ∈ vs
  · by_cases hlt : j < σ.length
    · rw [wipe_in hlt hj, wipe_in (hl ▸ hlt) hj]
    · rw [List.getElem?_eq_none (by rw [wipe_len]; omega), List.getElem?_eq_none (by rw [wipe_len]; omega)]
  · rw [wipe_ne hj, wipe_ne hj, h j hj]
theorem wipeE_len {ρ : Env} : ∀ {vs : List Nat}, (wipeE ρ vs).length = ρ.length
  | [] => rfl
  | v :: vs => by
    show ((wipeE ρ vs).set v none).length = _
    rw [List.length_set, wipeE_len]
theorem wipeE_in {ρ : Env} {j : Nat} (hj : j < ρ.length) : ∀ {vs : List Nat}, j ∈ vs → (wipeE ρ vs)[j]? = some none
  | [], h => by cases h
  | v :: vs, h => by
    show ((wipeE ρ vs).set v none)[j]? = _
    by_cases z : v = j
    · subst z
      rw [List.getElem?_set_self (by rw [wipeE_len]; exact hj)]
    · rw [List.getElem?_set_ne z]
      exact wipeE_in hj ((List.mem_cons.mp h).resolve_left fun y => z y.symm)
/-- slots of which nothing is known may be anything -/
theorem RSs.any {F H : Hp} : ∀ {σ σ' : L2.St} {ρ : Env} {O : List Addr}, RSs K mg F H σ ρ O → σ'.length = σ.length → (∀ (j : Nat) s, ρ[j]? = some (some s) → σ'[j]? = σ[j]?) → RSs K mg F H σ' ρ O
  | [], [], _, _, .nil, _, _ => .nil
  | [], _ :: _, _, _, .nil, e, _ => by simp at e
  | _ :: _, [], _, _, _, e, _ => by simp at e
  | _ :: _, y :: σ', _, _, .non r, e, k => .non (RSs.any r (by simpa using e) fun j s h => by simpa using k (j + 1) s (by simpa using h))
  | _ :: _, y :: σ', _, _, .som a r, e, k => by
    have k0 := k 0 _ rfl
    simp only [List.getElem?_cons_zero, Option.some.injEq] at k0
    subst k0
    exact .som a (RSs.any r (by simpa using e) fun j s h => by simpa using k (j + 1) s (by simpa using h))
theorem Rp.storeD {G : Gr} {F H : Hp} {Os : List Addr} {σ : L2.St} {ρ : Env} {v : V} {d : PyData} {i : Nat} (r : Rp K mg G F H Os σ ρ) (e : σ[i]? = some (some v)) (h : Rep K F v d) : Rp K mg G F H Os σ (ρ.set i (some (.dat d))) := by
  obtain ⟨O, hs, nd, own⟩ := r.sls
  obtain ⟨O1, O2, O3, e2, k, _⟩ := hs.put (i := i) (List.getElem?_eq_some_iff.mp e).1
  subst e2
  have k := k (RSl.dat h)
  rw [set_self e] at k
  refine ⟨r.f0, r.sub, r.bas, r.new, _, k, ?_, fun a ha => own a ?_⟩
  · refine nd.sublist (List.Sublist.append (List.Sublist.refl _) (List.Sublist.append (List.Sublist.refl _) ?_))
    exact List.sublist_append_right _ _
  · simp only [List.mem_append, List.nil_append] at ha ⊢
    grind
theorem Rp.rest {G G1 : Gr} {F F1 H H1 : Hp} {Os Os1 : List Addr} {σ : L2.St} {ρ ρ1 : Env} (r1 : Rp K mg G1 F1 H1 Os1 σ ρ1) (e : Same F1 F) (r : Rp K mg G F H Os σ ρ) : ∀ vs : List Nat, Rp K mg G F H Os σ (restE ρ1 vs ρ)
  | [] => r
  | v :: vs => by
    unfold restE
    split
    · rename_i d hd
      obtain ⟨x, O, e1, h1⟩ := r1.at hd
      cases h1 with
      | dat h1 => exact (Rp.rest r1 e r vs).storeD e1 (h1.mono e)
    · exact Rp.rest r1 e r vs
theorem lcL_ok {E2 : L2.St → XK} {vs : List Nat} {ti : TI} {tg : TG} {tt : TT} {te : TE} {fi : DE} {g : PyData → Env → Option Env} {ft : BE} {fe : EE} (hi : SndI K mg E ti fi) (hg : SndG K mg vs tg g) (ht : SndT K mg E2 tt ft) (he : SndE K mg E2 te fe) :
    SndE K mg E (tLc ti tg tt te vs) (dLc fi g ft fe vs) := by
  intro G F H σ ρ r Q q
  unfold dLc at q
  rw [post_bind] at q
  refine hi G F H σ ρ r _ (q.mono fun ds ρ1 q1 J F1 H1 e1 r1 w => ?_)
  try dsimp only at q1
  split at q1
  case isFalse => exact q1.elim
  rename_i hlen
  obtain ⟨hd1, hlen⟩ := hlen
  cases el : lcL g ft fe vs ds ρ1 with
  | bad => rw [el] at q1; exact q1.elim
  | ex x ρ' => rw [el] at q1; exact q1.elim
  | ok p =>
    obtain ⟨out, ρe⟩ := p
    rw [el] at q1
    intro L hL
    have nF1 : F1 L = none := r1.sub.free hL
    have nB : G.B L = none := r1.bas.free hL
    -- what holds between two turns
    let Inv : Nat → Hp → Prop := fun i Hc => ∃ F' ρ' vals acc rest, Same F1 F' ∧ Rp K mg ⟨F1, upd G.B L (.lst vals)⟩ F' Hc [] (L2.wipe σ vs) (wipeE ρ' vs) ∧ Reps K F' vals acc ∧ acc.length ≤ i ∧ lcL g ft fe vs (ds.drop i) ρ' = .ok (rest, ρe) ∧ acc ++ rest = out
    refine ⟨fun i m Hc => i + m = ds.length ∧ Inv i Hc, ⟨ds.length, by simp, F1, ρ1, [], [], out, Same.refl F1, ?_, .nil, Nat.le_refl _, by simpa using el, rfl⟩, ?_⟩
    · -- the start
      have x : Ext F1 H1 F1 (upd H1 L (.lst [])) [L] := Ext.newOwn r1.sub hL
      obtain ⟨O, hs, nd, own⟩ := r1.sls
      have r2 : Rp K mg ⟨F1, upd G.B L (.lst [])⟩ F1 (upd H1 L (.lst [])) [] σ ρ1 := by
        refine ⟨Same.refl F1, x.sub, fun a y h => ?_, fun a h => .inl h, O, hs.mono (Same.refl F1) fun a ha => same_at x.h (hs.there a ha), nd, fun a ha => ?_⟩
        · by_cases z : a = L
          · subst z
            have h : upd G.B a (.lst []) a = some y := h
            rw [upd_same] at h
            rw [upd_same]; exact h
          · have h : upd G.B L (.lst []) a = some y := h
            rw [upd_ne z] at h
            exact x.h a y (r1.bas a y h)
        · have h1 := own a ha
          have z : a ≠ L := fun z => h1.2.2 (z ▸ hL)
          refine ⟨h1.1, ?_, ?_⟩
          · show upd G.B L (.lst []) a = none
            rw [upd_ne z]; exact h1.2.1
          · rw [upd_ne z]; exact h1.2.2
      exact r2.wipe vs
    · rintro i m Hc ⟨hm, F', ρ', vals, acc, rest, s1, rr, hv, ha, hl, ho⟩
      by_cases hlt : i < ds.length
      · refine .inr ⟨w.go i Hc (s1.trans rr.sub) hlt, fun H2 => Inv (i + 1) H2, fun H2 h2 => ⟨m - 1, by omega, by omega, h2⟩, fun x H2 y => ?_⟩
        obtain ⟨d, F2, e2, x2, h2⟩ := w.yld i Hc F' x H2 s1 rr.sub y hlt
        have ed : ds.drop i = d :: ds.drop (i + 1) := by
          rw [List.drop_eq_getElem_cons hlt]
          congr 1
          rw [List.getElem?_eq_getElem hlt] at e2
          exact Option.some.inj e2
        rw [ed] at hl
        unfold lcL at hl
        cases eg : g d (wipeE ρ' vs) with
        | none => rw [eg] at hl; cases hl
        | some ρ2 =>
          rw [eg] at hl
          simp only [of_some, bind_ok] at hl
          refine hg _ F2 H2 x _ _ d ρ2 (rr.ext x2) h2 eg _ fun σ3 r3 l3 k3 => ?_
          refine ⟨?_, ?_⟩
          · rw [wipe_eq l3 k3]
            exact wipe_eq wipe_len fun j hj => wipe_ne hj
          · have we : L2.wipe σ3 vs = L2.wipe σ vs := by
              rw [wipe_eq l3 k3]
              exact wipe_eq wipe_len fun j hj => wipe_ne hj
            refine ht _ F2 H2 σ3 ρ2 r3 _ ?_
            cases et : ft ρ2 with
            | bad => rw [et] at hl; cases hl
            | ex x ρ4 => rw [et] at hl; cases hl
            | ok p =>
              obtain ⟨b, ρ4⟩ := p
              rw [et] at hl
              simp only [bind_ok] at hl
              intro F4 H4 e4 r4
              cases b with
              | false =>
                simp only [Bool.false_eq_true, if_false] at hl
                refine iteF ?_
                have r5 := r4.wipe vs
                rw [we] at r5
                exact ⟨F4, ρ4, vals, acc, rest, (s1.trans x2.f).trans e4, r5, (hv.mono x2.f).mono e4, by omega, hl, ho⟩
              | true =>
                simp only [if_true] at hl
                refine iteT (he _ F4 H4 σ3 ρ4 r4 _ ?_)
                cases ee : fe ρ4 with
                | bad => rw [ee] at hl; cases hl
                | ex x ρ4 => rw [ee] at hl; cases hl
                | ok p =>
                  obtain ⟨s, ρ5⟩ := p
                  rw [ee] at hl
                  simp only [bind_ok] at hl
                  intro v F5 H5 Os e5 r5 h5
                  cases ef : frz s with
                  | none => rw [ef] at hl; cases hl
                  | some d5 =>
                    rw [ef] at hl
                    simp only [of_some, bind_ok] at hl
                    obtain ⟨F6, a6, r6, h6⟩ := r5.freeze h5 ef
                    have hLv : H5 L = some (.lst vals) := r6.bas L _ upd_same
                    have hvl := hv.length
                    refine ⟨vals, hLv, ?_, ?_⟩
                    · have hz : vals.length ≤ 100000 := by omega
                      exact Nat.lt_of_le_of_lt hz (by decide)
                    · cases er : lcL g ft fe vs (ds.drop (i + 1)) ρ5 with
                      | bad => rw [er] at hl; cases hl
                      | ex x ρ4 => rw [er] at hl; cases hl
                      | ok p =>
                        obtain ⟨rest', ρ6⟩ := p
                        rw [er] at hl
                        simp only [bind_ok, pure_ok, R.ok.injEq, Prod.mk.injEq] at hl
                        obtain ⟨hr, hρ⟩ := hl
                        subst hr hρ
                        have sv := (((x2.f).trans e4).trans e5).trans a6
                        refine ⟨F6, ρ5, vals ++ [v], acc ++ [d5], rest', s1.trans sv, ?_, (hv.mono sv).append (Reps.one h6), by simp; omega, er, by rw [List.append_assoc]; exact ho⟩
                        have r7 := r6.wipe vs
                        rw [we] at r7
                        obtain ⟨O, hs, nd, own⟩ := r7.sls
                        have nL : L ∉ O := fun z => by
                          have := (own L (by simpa using z)).2.1
                          have q : upd G.B L (.lst vals) L = none := this
                          rw [upd_same] at q
                          cases q
                        have nF6 : F6 L = none := by
                          cases z : F6 L with
                          | none => rfl
                          | some o =>
                            rcases r7.new L (by rw [z]; exact nofun) with y | y | ⟨xs, y⟩
                            · exact absurd nF1 y
                            · have q : upd G.B L (.lst vals) L = none := y
                              rw [upd_same] at q
                              cases q
                            · have q : upd G.B L (.lst vals) L = some (.tup xs) := y
                              rw [upd_same] at q
                              cases q
                        refine ⟨r7.f0, fun a o h => ?_, fun a o h => ?_, fun a h => ?_, O, hs.mono (Same.refl F6) fun a ha => upd_ne fun z => nL (z ▸ ha), nd, fun a ha => ?_⟩
                        · rw [upd_ne (ne_of_none h nF6)]; exact r7.sub a o h
                        · have h : upd G.B L (.lst (vals ++ [v])) a = some o := h
                          by_cases z : a = L
                          · subst z
                            rw [upd_same] at h ⊢
                            exact h
                          · rw [upd_ne z] at h ⊢
                            refine r7.bas a o ?_
                            show upd G.B L (.lst vals) a = some o
                            rw [upd_ne z]; exact h
                        · rcases r7.new a h with y | y | ⟨xs, y⟩
                          · exact .inl y
                          · have y : upd G.B L (.lst vals) a = none := y
                            have z : a ≠ L := fun z => by
                              subst z
                              rw [upd_same] at y
                              cases y
                            rw [upd_ne z] at y
                            refine .inr (.inl ?_)
                            show upd G.B L (.lst (vals ++ [v])) a = none
                            rw [upd_ne z]; exact y
                          · have y : upd G.B L (.lst vals) a = some (.tup xs) := y
                            have z : a ≠ L := fun z => by
                              subst z
                              rw [upd_same] at y
                              cases y
                            rw [upd_ne z] at y
                            refine .inr (.inr ⟨xs, ?_⟩)
                            show upd G.B L (.lst (vals ++ [v])) a = some (.tup xs)
                            rw [upd_ne z]; exact y
                        · have h1 := own a ha
                          have z : a ≠ L := fun z => nL (z ▸ by simpa using ha)
                          refine ⟨h1.1, ?_, by rw [upd_ne z]; exact h1.2.2⟩
                          have y : upd G.B L (.lst vals) a = none := h1.2.1
                          rw [upd_ne z] at y
                          show upd G.B L (.lst (vals ++ [v])) a = none
                          rw [upd_ne z]; exact y
      · refine .inl ⟨w.stop i Hc (s1.trans rr.sub) (by omega), ?_⟩
        rw [List.drop_eq_nil_of_le (by omega)] at hl
        unfold lcL at hl
        cases hl
        rw [List.append_nil] at ho
        subst ho
        have hLv : Hc L = some (.lst vals) := rr.bas L _ upd_same
        -- the frame as it was
        obtain ⟨O, hs, nd, own⟩ := rr.sls
        have nL : L ∉ O := fun z => by
          have := (own L (by simpa using z)).2.1
          have q : upd G.B L (.lst vals) L = none := this
          rw [upd_same] at q
          cases q
        have nF : F' L = none := by
          cases z : F' L with
          | none => rfl
          | some o =>
            rcases rr.new L (by rw [z]; exact nofun) with y | y | ⟨xs, y⟩
            · exact absurd nF1 y
            · have q : upd G.B L (.lst vals) L = none := y
              rw [upd_same] at q
              cases q
            · have q : upd G.B L (.lst vals) L = some (.tup xs) := y
              rw [upd_same] at q
              cases q
        have hs2 : RSs K mg F' Hc σ (wipeE ρe vs) O := by
          refine hs.any wipe_len.symm fun j s e => ?_
          rw [wipe_ne fun hj => ?_]
          rw [wipeE_in ?_ hj] at e
          · cases e
          · have := (List.getElem?_eq_some_iff.mp e).1
            rw [wipeE_len] at this
            exact this
        have rf : Rp K mg G F' Hc [L] σ (wipeE ρe vs) := by
          refine ⟨r1.f0.trans s1, rr.sub, fun a o h => ?_, fun a h => ?_, O, hs2, ?_, fun a ha => ?_⟩
          · refine rr.bas a o ?_
            show upd G.B L (.lst vals) a = some o
            rw [upd_ne (ne_of_none h nB)]; exact h
          · rcases rr.new a h with y | y | ⟨xs, y⟩
            · exact r1.new a y
            · have y : upd G.B L (.lst vals) a = none := y
              have z : a ≠ L := fun z => by
                subst z
                rw [upd_same] at y
                cases y
              rw [upd_ne z] at y
              exact .inr (.inl y)
            · have y : upd G.B L (.lst vals) a = some (.tup xs) := y
              have z : a ≠ L := fun z => by
                subst z
                rw [upd_same] at y
                cases y
              rw [upd_ne z] at y
              exact .inr (.inr ⟨xs, y⟩)
          · simp only [List.singleton_append, List.nodup_cons]
            exact ⟨nL, by simpa using nd⟩
          · rcases List.mem_cons.mp ha with z | z
            · subst z
              exact ⟨nF, nB, by rw [hLv]; exact nofun⟩
            · have h1 := own a (by simpa using z)
              have zz : a ≠ L := fun y => nL (y ▸ z)
              have y : upd G.B L (.lst vals) a = none := h1.2.1
              rw [upd_ne zz] at y
              exact ⟨h1.1, y, h1.2.2⟩
        exact q1 (.ref L) F' Hc [L] (e1.trans s1) (Rp.rest r1 s1 rf vs) (.lst hLv hv)
end
end DL
namespace DL
open PySem PySem.Spec L2

section
variable {K : PySem.W.Frag} {mg : Str → Option Value} {F H : Hp} {v : V}
theorem RepB.of (h : Rep K F v d) : RepB K mg F H v d := ⟨.dat d, [], .dat h, rfl⟩
theorem RepB.rep_str {i : Str} (h : RepB K mg F H v (.str i)) : v = .str i := by
  obtain ⟨s, O, h, e⟩ := h
  cases h with
  | dat h => cases e; cases h; rfl
  | lst => cases e
  | dK => cases e
  | dT => cases e
  | ins => cases e
theorem RepB.rep_bool {i : Bool} (h : RepB K mg F H v (.bool i)) : v = .bl i := by
  obtain ⟨s, O, h, e⟩ := h
  cases h with
  | dat h => cases e; cases h; rfl
  | lst => cases e
  | dK => cases e
  | dT => cases e
  | ins => cases e
theorem RepB.rep_none (h : RepB K mg F H v .none) : v = .non := by
  obtain ⟨s, O, h, e⟩ := h
  cases h with
  | dat h => cases e; cases h; rfl
  | lst => cases e
  | dK => cases e
  | dT => cases e
  | ins => cases e
theorem RepB.list {ds : List PyData} (s0 : Same F H) (h : RepB K mg F H v (.list ds)) : ∃ p vs, v = .ref p ∧ Rd H p (.lst vs) ∧ Reps K F vs ds := by
  obtain ⟨s, O, h, e⟩ := h
  cases h with
  | dat h =>
    cases e
    cases h with
    | lst h r => exact ⟨_, _, rfl, Same.rd s0 h, r⟩
  | lst h r => cases e; exact ⟨_, _, rfl, .inl h, r⟩
  | dK => cases e
  | dT => cases e
  | ins => cases e
theorem RepB.tuple {ds : List PyData} (s0 : Same F H) (h : RepB K mg F H v (.tuple ds)) : ∃ p vs, v = .ref p ∧ Rd H p (.tup vs) ∧ F p = some (.tup vs) ∧ Reps K F vs ds := by
  obtain ⟨s, O, h, e⟩ := h
  cases h with
  | dat h =>
    cases e
    cases h with
    | tup h r => exact ⟨_, _, rfl, .inl (s0 _ _ h), h, r⟩
  | lst h r => cases e
  | dK => cases e
  | dT => cases e
  | ins => cases e
theorem RepB.scr {ds : List PyData} (s0 : Same F H) (h : RepB K mg F H v (.dict [(.list ds, .none)])) : ∃ p vs, v = .ref p ∧ SqL K H p vs ∧ Reps K F vs ds := by
  have nk : ∀ (des : List (Key × PyData)), [(PyData.list ds, PyData.none)] ≠ des.map fun p => (kD p.1, p.2) := by
    intro des e
    cases des with
    | nil => cases e
    | cons x r =>
      obtain ⟨k, y⟩ := x
      cases k <;> simp [kD] at e
  have nt : ∀ (des : List (List Key × PyData)), [(PyData.list ds, PyData.none)] ≠ des.map fun p => (.tuple (p.1.map kD), p.2) := by
    intro des e
    cases des with
    | nil => cases e
    | cons x r => simp at e
  obtain ⟨s, O, h, e⟩ := h
  cases h with
  | dat h =>
    rename_i d
    have e : d = .dict [(.list ds, .none)] := Option.some.inj e
    cases h <;> try cases e
    · rename_i h r
      exact absurd (PyData.dict.inj e).symm (nk _)
    · rename_i h r
      exact absurd (PyData.dict.inj e).symm (nt _)
    · rename_i h r
      exact ⟨_, _, rfl, Same.sql s0 h, r⟩
  | lst h r => cases e
  | dK h r => exact absurd (PyData.dict.inj (Option.some.inj e)).symm (nk _)
  | dT h r => exact absurd (PyData.dict.inj (Option.some.inj e)).symm (nt _)
  | ins => cases e
mutual
theorem Rep.dp : ∀ {v : V} {d : PyData}, Rep K F v d → d.canLay0 = true → Dp K F v d
  | _, _, .non, _ => .non
  | _, _, .bl b, _ => .bl b
  | _, _, .int i, _ => .int i
  | _, _, .str x, _ => .str x
  | _, _, .lst h r, c => .lst (.inl h) (Reps.dp r (by simpa [PyData.canLay0] using c))
  | _, _, .tup h r, c => .tup (.inl (.inl h)) (Reps.dp r (by simpa [PyData.canLay0] using c))
  | _, _, .dK _ _, c => by simp [PyData.canLay0] at c
  | _, _, .dT _ _, c => by simp [PyData.canLay0] at c
  | _, _, .scr _ _, c => by simp [PyData.canLay0] at c
theorem Reps.dp : ∀ {v : List V} {d : List PyData}, Reps K F v d → PyData.canLayAll0 d = true → DpAll K F v d
  | _, _, .nil, _ => .nil
  | _, _, .cons h r, c => by
    rw [PyData.canLayAll0, Bool.and_eq_true] at c
    exact .cons (Rep.dp h c.1) (Reps.dp r c.2)
end
theorem RepB.dp {d : PyData} (s0 : Same F H) (h : RepB K mg F H v d) (c : d.canLay0 = true) : Dp K H v d := by
  obtain ⟨s, O, h, e⟩ := h
  cases h with
  | dat h => cases e; exact (h.mono s0).dp c
  | lst h r =>
    cases e
    exact .lst (.inl (.inl h)) ((r.mono s0).dp (by simpa [PyData.canLay0] using c))
  | dK => cases e; simp [PyData.canLay0] at c
  | dT => cases e; simp [PyData.canLay0] at c
  | ins => cases e
/-- scalars -/
def sc : PyData → Option V
  | .none => some .non
  | .bool b => some (.bl b)
  | .int i => some (.int i)
  | .str x => some (.str x)
  | _ => none
theorem RepB.sc {d : PyData} {x : V} (h : RepB K mg F H v d) (e : sc d = some x) : v = x := by
  cases d <;> simp only [DL.sc, Option.some.injEq, reduceCtorEq] at e <;> subst e
  · exact h.rep_none
  · exact h.rep_bool
  · exact h.rep_int
  · exact h.rep_str
theorem fin_dat {Q : VK} {v' : V} {d : PyData} (s0 : Same F H) (q : ∀ v' F' H' Os, Ext F H F' H' Os → RSl K mg F' H' v' (.dat d) Os → Q v' H') (h : Rep K F v' d) : Q v' H := q v' F H [] (Ext.refl s0) (.dat h)
/-- a new list, a new tuple -/
theorem fin_lst {Q : VK} {ds : List PyData} {vs : List V} (s0 : Same F H) (q : ∀ v' F' H' Os, Ext F H F' H' Os → RSl K mg F' H' v' (.lst ds) Os → Q v' H') (h : Reps K F vs ds) : ∀ p, H p = none → Q (.ref p) (upd H p (.lst vs)) :=
  fun p np => q _ F _ [p] (Ext.newOwn s0 np) (.lst upd_same h)
theorem fin_tup {Q : VK} {ds : List PyData} {vs : List V} (s0 : Same F H) (q : ∀ v' F' H' Os, Ext F H F' H' Os → RSl K mg F' H' v' (.dat (.tuple ds)) Os → Q v' H') (h : Reps K F vs ds) : ∀ p, H p = none → Q (.ref p) (upd H p (.tup vs)) :=
  fun p np => q _ _ _ [] (Ext.data s0 np) (.dat (.tup upd_same (h.mono (same_upd (s0.free np)))))
end

/-! ### + -/
section
variable {X : Cx} {pins : List (Addr × Obj)} {σ : L2.St} {H : Hp} {s : Shared}
theorem Inv.rdL (I : Inv X pins σ H s) {l : Addr} {xs : List V} (h : Rd H l (.lst xs)) : xs.length ≤ sizeLine ∧ ∃ (its : List Value) (n : Nat), Vals xs its ∧ xs.length = its.length ∧ s.heap.get? l = some { cls := .type "list", data := .seq its.toArray n } := by
  obtain ⟨z, its, n, r, e⟩ := h.ok I.hok
  exact ⟨z, its, n, r, r.length, e⟩
def rCatR : R2 := fun x y H Q => ∃ l b xs zs, x = .ref l ∧ y = .ref b ∧ Rd H l (.lst xs) ∧ Rd H b (.lst zs) ∧ xs.length + zs.length ≤ sizeLine ∧ ∀ p, H p = none → Q (.ref p) (upd H p (.lst (xs ++ zs)))
theorem op_catR : OpR X (binaryOp .Add) rCatR := by
  intro pins s σ H x y v u Q I rx ry h
  obtain ⟨l, b, xs, zs, rfl, rfl, hH, hB, hz, q⟩ := h
  cases rx
  cases ry
  obtain ⟨z, its, n, r, hl, e⟩ := Inv.rdL I hH
  obtain ⟨z2, its2, n2, r2, hl2, e2⟩ := Inv.rdL I hB
  refine PySem.P.add_list e e2 ?_ (by rw [List.size_toArray, List.size_toArray]; omega)
  have ea : its.toArray ++ its2.toArray = (its ++ its2).toArray := by simp
  rw [ea]
  exact ⟨.ref _, _, I.lnew (t' := s.toks) (r.append r2) (by rw [List.length_append]; omega), rfl, q _ I.fresh⟩
def rStrAdd : R2 := fun x y H Q => ∃ i j, x = .str i ∧ y = .str j ∧ i.length + j.length ≤ sizeLine ∧ Q (.str (i ++ j)) H
def rAddU (K : PySem.W.Frag) : R2 := fun x y H Q => rI0 (fun i j => .int (i + j)) x y H Q ∨ rStrAdd x y H Q ∨ rCatR x y H Q ∨ rCatA K x y H Q
theorem op_addU : OpR X (binaryOp .Add) (rAddU X.K) := op_add.or (OpR.or op_add_str (op_catR.or op_catA))
end
/-! ### * -/
def strMul (z : Str) (k : Int) : Str := ⟨(List.replicate k.toNat z.cps.toList).flatten.toArray⟩
theorem foldl_arr {α : Type} : ∀ (l : List (Array α)) (a : Array α), l.foldl (· ++ ·) a = ⟨a.toList ++ (l.map Array.toList).flatten⟩
  | [], a => by simp
  | b :: r, a => by
    rw [List.foldl_cons, foldl_arr r]
    simp
theorem strMul_eq (z : Str) (k : Int) : Txt.mul z k = strMul z k := by
  unfold Txt.mul strMul
  split
  · rename_i h
    have : k.toNat = 0 := by omega
    rw [this]
    rfl
  · split
    · rename_i h
      rw [Bool.or_eq_true] at h
      rcases h with h | h
      · have : k = 1 := by simpa using h
        subst this
        cases z; simp
      · have : z.length = 0 := by simpa using h
        have e : z.cps.toList = [] := by
          apply List.eq_nil_of_length_eq_zero
          simpa [Str.length] using this
        cases z with
        | mk c =>
          simp only at e ⊢
          have : c = #[] := by apply Array.toList_inj.mp; rw [e]
          subst this
          congr 1
          simp
    · rw [foldl_arr]
      simp
section
variable {X : Cx}
def rStrMul : R2 := fun x y H Q => ∃ z k, x = .str z ∧ y = .int k ∧ -1000000 ≤ k ∧ k ≤ 1000000 ∧ z.length * k.toNat ≤ sizeLine ∧ Q (.str (strMul z k)) H
theorem op_strMul : OpR X (binaryOp .Mult) rStrMul := by
  intro pins s σ H x y v u Q I rx ry h
  obtain ⟨z, k, rfl, rfl, h1, h2, hz, q⟩ := h
  obtain ⟨t, rfl⟩ := rx
  obtain ⟨t2, rfl⟩ := ry
  refine PySem.SB.mul ⟨by rw [decide_eq_false (by omega), decide_eq_false (by omega)]; rfl, fun hn _ => ?_, fun hn _ => ?_⟩ fun t' k' => ?_
  · have e : ((z.length * k.toNat : Nat) : Int) = (z.length : Int) * k := by rw [Int.natCast_mul, Int.toNat_of_nonneg (by omega)]
    have hz' : (z.length : Int) * k ≤ 16777216 := by
      rw [← e]
      have : z.length * k.toNat ≤ 16777216 := hz
      omega
    have := (Int.le_ediv_iff_mul_le (show 0 < k by omega) (a := (z.length : Int)) (b := 2 ^ 63 - 1)).mpr (by omega)
    omega
  · exact notLongL hz
  · rw [strMul_eq]
    exact ⟨.str (strMul z k), H, I.tok _, ⟨_, rfl⟩, q⟩
def rRepR : R2 := fun x y H Q => ∃ l k xs, x = .ref l ∧ y = .int k ∧ Rd H l (.lst xs) ∧ -(2 ^ 63) ≤ k ∧ k < 2 ^ 63 ∧ xs.length * k.toNat ≤ sizeLine ∧
  ∀ p, H p = none → Q (.ref p) (upd H p (.lst (List.replicate k.toNat xs).flatten))
theorem op_repR : OpR X (binaryOp .Mult) rRepR := by
  intro pins s σ H x y v u Q I rx ry h
  obtain ⟨l, k, xs, rfl, rfl, hH, h1, h2, hz, q⟩ := h
  cases rx
  obtain ⟨t, rfl⟩ := ry
  obtain ⟨z, its, n, r, hl, e⟩ := Inv.rdL I hH
  have hlen : its.toArray.size * k.toNat ≤ sizeLine := by rw [List.size_toArray, ← hl]; exact hz
  have hcap : ¬ its.toArray.size * k.toNat > (2 ^ 63 - 1) / 8 := by
    have : (sizeLine : Nat) ≤ (2 ^ 63 - 1) / 8 := by decide
    omega
  have hfit : ¬ (!Builtin.List.listFitsIndex k) = true := by
    rw [fitsIndex_both h1 h2]
    exact Bool.false_ne_true
  have hlong : ¬ Builtin.List.listTooLong (its.toArray.size * k.toNat) = true := by
    rw [notLongL hlen]
    exact Bool.false_ne_true
  have hnew : List.foldl (fun x1 x2 => x1 ++ x2) #[] (List.replicate (if its.toArray.isEmpty = true then 0 else k.toNat) its.toArray) = (List.replicate k.toNat its).flatten.toArray := by
    have f0 : ∀ m : Nat, List.foldl (fun x1 x2 => x1 ++ x2) #[] (List.replicate m its.toArray) = (List.replicate m its).flatten.toArray := fun m => by
      have := foldl_rep its m []
      rw [List.nil_append] at this
      exact this
    rw [f0]
    cases its with
    | nil => simp
    | cons a r' => rw [if_neg (by simp)]
  refine wpAny_binaryOp_repeat_ref (T := "list") (U := "int") (by decide) ⟨_, e, rfl⟩ (fun s' => typeIs_int s' k t) noFill_list_mul F.fills_int_mul F.slot_int_rmul repeat_list F.slot_int_index.lookup
    (call_meets F.slot_int_rmul (typeIs_int s k t) F.entry_int_rmul (F.args_int_rmul_2 _ _) (int___rmul___int_list k t l its.toArray n)
      ⟨e, rfl, ⟨_, e, rfl⟩, call_meets F.slot_list_mul ⟨_, e, rfl⟩ F.entry_list_mul (F.args_list_mul_2 _ _) (AutoListH.list___mul___list_int_3 l its.toArray n k t hfit hcap hlong) ⟨e, ?_⟩⟩)
  rw [hnew]
  exact ⟨.ref _, _, I.lnew (t' := s.toks) (r.rep k.toNat) (by rw [PyProof.Rows.lm_len_rep_flat, Nat.mul_comm]; exact hz), rfl, q _ I.fresh⟩
/-- tuple * 1: the tuple itself -/
theorem tuple_mul1 (l : Addr) (items : Array Value) (n : Nat) (dd : Option Addr) (sl : Array (Option Value)) (u : Tok) :
    Meets (Builtin.«tuple.__mul__» ⟨[.ref l, .int 1 u], []⟩) (fun _ R s => s.heap.get? l = some { cls := .type "tuple", dict := dd, data := .seq items n, slots := sl } ∧ R (.ok (.ret (Value.ref l))) s) :=
  .of_wp fun prog w A R s h => by
    obtain ⟨hp, g, d, tk, os⟩ := s
    obtain ⟨hl, h⟩ := h
    have f1 := AutoSeq1.idx_int
    have c1 : (items.isEmpty || (1 : Int) == 1) = true := by simp
    wp_walk using wpAny_loadPart' hl
    repeat (first
      | (refine wpAny_ite_false (decide_eq_false (by decide)) ?_; wp_walk using wpAny_loadPart' hl)
      | (refine wpAny_ite_true (decide_eq_true (by rw [c1])) ?_; wp_walk using wpAny_loadPart' hl))
    all_goals exact ⟨_, rfl, h⟩
def rRepT1 (K : PySem.W.Frag) : R2 := fun x y H Q => ∃ l xs, x = .ref l ∧ y = .int 1 ∧ SqT K H l xs ∧ Q (.ref l) H
theorem op_repT1 : OpR X (binaryOp .Mult) (rRepT1 X.K) := by
  intro pins s σ H x y v u Q I rx ry h
  obtain ⟨l, xs, rfl, rfl, hT, q⟩ := h
  cases rx
  obtain ⟨t, rfl⟩ := ry
  obtain ⟨its, r, ⟨⟨cls, dd, data, sl⟩, ho, hc, n, hd⟩, hs⟩ := I.tuple hT
  simp only at hc hd
  subst hc hd
  refine wpAny_binaryOp_repeat_ref (T := "tuple") (U := "int") (by decide) ⟨_, ho, rfl⟩ (fun s' => typeIs_int s' 1 t) noFill_tuple_mul F.fills_int_mul F.slot_int_rmul repeat_tuple F.slot_int_index.lookup
    (call_meets F.slot_int_rmul (typeIs_int s 1 t) F.entry_int_rmul (F.args_int_rmul_2 _ _) (int_rmul_tuple 1 t l its.toArray n dd sl) ⟨ho, rfl, ⟨_, ho, rfl⟩, call_meets F.slot_tuple_mul ⟨_, ho, rfl⟩ F.entry_tuple_mul (F.args_tuple_mul_2 _ _) (tuple_mul1 l its.toArray n dd sl t) ⟨ho, ?_⟩⟩)
  exact ⟨.ref l, H, I, rfl, q⟩
def rMulU (K : PySem.W.Frag) : R2 := fun x y H Q => rI CMul (fun i j => .int (i * j)) x y H Q ∨ rStrMul x y H Q ∨ rRepR x y H Q ∨ rRepT K x y H Q ∨ rRepT1 K x y H Q
theorem op_mulU : OpR X (binaryOp .Mult) (rMulU X.K) := op_mul.or (OpR.or op_strMul (OpR.or op_repR (OpR.or op_repT op_repT1)))
theorem Reps.rep {K : PySem.W.Frag} {F : Hp} {vs : List V} {ds : List PyData} (h : Reps K F vs ds) : ∀ n : Nat, Reps K F (List.replicate n vs).flatten (List.replicate n ds).flatten
  | 0 => .nil
  | n + 1 => by
    rw [List.replicate_succ, List.replicate_succ, List.flatten_cons, List.flatten_cons]
    exact h.append (Reps.rep h n)
end
def addD : PyData → PyData → Option Sl
  | .int i, .int j => some (.dat (.int (i + j)))
  | .str i, .str j => if lineOk (i.length + j.length) = true then some (.dat (.str (i ++ j))) else none
  | .list xs, .list ys => if lineOk (xs.length + ys.length) = true then some (.lst (xs ++ ys)) else none
  | .tuple xs, .tuple ys => if lineOk (xs.length + ys.length) = true then some (.dat (.tuple (xs ++ ys))) else none
  | _, _ => none
def subD : PyData → PyData → Option Sl
  | .int i, .int j => some (.dat (.int (i - j)))
  | _, _ => none
def mulD : PyData → PyData → Option Sl
  | .int i, .int j => if (-(2 ^ 64) < i ∧ i < 2 ^ 64) ∨ (-(2 ^ 64) < j ∧ j < 2 ^ 64) then some (.dat (.int (i * j))) else none
  | .str z, .int k => if (-1000000 ≤ k ∧ k ≤ 1000000) ∧ z.length * k.toNat ≤ 16777216 then some (.dat (.str (strMul z k))) else none
  | .list ds, .int k => if (-1000000 ≤ k ∧ k ≤ 1000000) ∧ ds.length * k.toNat ≤ 16777216 then some (.lst (List.replicate k.toNat ds).flatten) else none
  | .tuple ds, .int k => if ds.length ≠ 0 ∧ (1 ≤ k ∧ k ≤ 1000) ∧ ds.length ≤ 1000 then some (.dat (.tuple (List.replicate k.toNat ds).flatten)) else none
  | _, _ => none
def fdivD : PyData → PyData → Option Sl
  | .int i, .int j => if 0 < j ∧ j < 1073741824 then some (.dat (.int (i / j))) else none
  | _, _ => none
def modD : PyData → PyData → Option Sl
  | .int i, .int j => if 0 < j then some (.dat (.int (i % j))) else none
  | _, _ => none
def powD : PyData → PyData → Option Sl
  | .int i, .int j => if 0 ≤ j ∧ j ≤ 1000000 ∧ i.natAbs < 2 ^ 64 then some (.dat (.int (i ^ j.toNat))) else none
  | _, _ => none
def negD : PyData → Option Sl
  | .int i => some (.dat (.int (-i)))
  | _ => none
section
variable {K : PySem.W.Frag} {mg : Str → Option Value}
theorem sr_add : SndR2 K mg (rAddU K) addD := by
  intro F H v w d e s s0 h1 h2 es Q q
  unfold addD at es
  split at es
  · cases es
    exact .inl ⟨_, _, h1.rep_int, h2.rep_int, fin_dat s0 q (.int _)⟩
  · split at es
    · rename_i hz
      cases es
      exact .inr (.inl ⟨_, _, h1.rep_str, h2.rep_str, of_decide_eq_true hz, fin_dat s0 q (.str _)⟩)
    · cases es
  · split at es
    · rename_i hz
      cases es
      obtain ⟨p, vs, rfl, a1, b1⟩ := h1.list s0
      obtain ⟨p2, vs2, rfl, a2, b2⟩ := h2.list s0
      exact .inr (.inr (.inl ⟨_, _, _, _, rfl, rfl, a1, a2, by rw [b1.length, b2.length]; exact of_decide_eq_true hz, fin_lst s0 q (b1.append b2)⟩))
    · cases es
  · split at es
    · rename_i hz
      cases es
      obtain ⟨p, vs, rfl, a1, c1, b1⟩ := h1.tuple s0
      obtain ⟨p2, vs2, rfl, a2, c2, b2⟩ := h2.tuple s0
      refine .inr (.inr (.inr ⟨_, _, _, _, rfl, rfl, .inl a1, .inl a2, by rw [b1.length, b2.length]; exact of_decide_eq_true hz, fun z => ?_, fun _ z => ?_, fun _ _ => fin_tup s0 q (b1.append b2)⟩))
      · subst z
        cases b1
        exact fin_dat s0 q (.tup c2 b2)
      · subst z
        cases b2
        rw [List.append_nil] at q
        exact fin_dat s0 q (.tup c1 b1)
    · cases es
  · cases es
theorem sr_sub : SndR2 K mg (rI0 fun i j => .int (i - j)) subD := by
  intro F H v w d e s s0 h1 h2 es Q q
  unfold subD at es
  split at es
  · cases es
    exact ⟨_, _, h1.rep_int, h2.rep_int, fin_dat s0 q (.int _)⟩
  · cases es
theorem sr_mul : SndR2 K mg (rMulU K) mulD := by
  intro F H v w d e s s0 h1 h2 es Q q
  unfold mulD at es
  split at es
  · split at es
    · rename_i c
      cases es
      exact .inl ⟨_, _, h1.rep_int, h2.rep_int, c, fin_dat s0 q (.int _)⟩
    · cases es
  · split at es
    · rename_i c
      cases es
      exact .inr (.inl ⟨_, _, h1.rep_str, h2.rep_int, c.1.1, c.1.2, c.2, fin_dat s0 q (.str _)⟩)
    · cases es
  · split at es
    · rename_i c
      cases es
      obtain ⟨p, vs, rfl, a1, b1⟩ := h1.list s0
      exact .inr (.inr (.inl ⟨_, _, _, rfl, h2.rep_int, a1, by omega, by omega, by rw [b1.length]; exact c.2, fin_lst s0 q (b1.rep _)⟩))
    · cases es
  · split at es
    · rename_i ds k c
      cases es
      obtain ⟨p, vs, rfl, a1, a2, b1⟩ := h1.tuple s0
      by_cases hk : k = 1
      · subst hk
        refine .inr (.inr (.inr (.inr ⟨_, _, rfl, h2.rep_int, .inl a1, fin_dat s0 q ?_⟩)))
        have e : (List.replicate (1 : Int).toNat ds).flatten = ds := by simp
        rw [e]
        exact .tup a2 b1
      · refine .inr (.inr (.inr (.inl ⟨_, _, _, rfl, h2.rep_int, .inl a1, ?_, by omega, by omega, by rw [b1.length]; exact c.2.2, fin_tup s0 q (b1.rep _)⟩)))
        intro z
        have := b1.length
        rw [z] at this
        exact c.1 this.symm
    · cases es
  · cases es
theorem sr_fdiv : SndR2 K mg (rI CDiv fun i j => .int (i / j)) fdivD := by
  intro F H v w d e s s0 h1 h2 es Q q
  unfold fdivD at es
  split at es
  · split at es
    · rename_i c
      cases es
      exact ⟨_, _, h1.rep_int, h2.rep_int, c, fin_dat s0 q (.int _)⟩
    · cases es
  · cases es
theorem sr_mod : SndR2 K mg (rI (fun _ j => 0 < j) fun i j => .int (i % j)) modD := by
  intro F H v w d e s s0 h1 h2 es Q q
  unfold modD at es
  split at es
  · split at es
    · rename_i c
      cases es
      exact ⟨_, _, h1.rep_int, h2.rep_int, c, fin_dat s0 q (.int _)⟩
    · cases es
  · cases es
theorem sr_pow : SndR2 K mg (rI CPow fun i j => .int (i ^ j.toNat)) powD := by
  intro F H v w d e s s0 h1 h2 es Q q
  unfold powD at es
  split at es
  · split at es
    · rename_i c
      cases es
      exact ⟨_, _, h1.rep_int, h2.rep_int, c, fin_dat s0 q (.int _)⟩
    · cases es
  · cases es
theorem sr_neg : SndR1 K mg (rU fun i => .int (-i)) negD := by
  intro F H v d s s0 h1 es Q q
  unfold negD at es
  split at es
  · cases es
    exact ⟨_, h1.rep_int, fin_dat s0 q (.int _)⟩
  · cases es
theorem sr_ipadd : SndR2 K mg (ipI fun i j => i + j) fun d e => match d, e with | .int i, .int j => some (.dat (.int (i + j))) | _, _ => none := by
  intro F H v w d e s s0 h1 h2 es Q q
  dsimp only at es
  split at es
  · cases es
    exact ⟨_, _, h1.rep_int, h2.rep_int, fin_dat s0 q (.int _)⟩
  · cases es
end

/-! ### comparisons -/
def eqB (d e : PyData) : Option Bool := match sc d, sc e with
  | some x, some y => if scal x y = true then some (decide (x = y)) else some (PyData.eqv d e)
  | _, _ => if (SeqAt.shaped d && SeqAt.shaped e) = true then some (PyData.eqv d e) else none
def eqD (d e : PyData) : Option Sl := (eqB d e).map fun b => .dat (.bool b)
def neD (d e : PyData) : Option Sl := (eqB d e).map fun b => .dat (.bool (!b))
section
variable {X : Cx}
def rEqU (K : PySem.W.Frag) : R2 := fun x y H Q => rEq x y H Q ∨ rEqD K x y H Q
def rNeU (K : PySem.W.Frag) : R2 := fun x y H Q => rNe x y H Q ∨ rNeD K x y H Q
theorem op_eqU (hu : X.A.units + 64 < cLine) : OpR X (compareOp .Eq) (rEqU X.K) := op_eq.or (op_eqD hu)
theorem op_neU (hu : X.A.units + 64 < cLine) : OpR X (compareOp .NotEq) (rNeU X.K) := op_ne.or (op_neD hu)
end
section
variable {K : PySem.W.Frag} {mg : Str → Option Value}
theorem sc_shaped {d : PyData} {x : V} (e : sc d = some x) (h : ∀ z, d ≠ .str z) : SeqAt.shaped d = true := by
  cases d <;> simp_all [sc, SeqAt.shaped, PyData.canLay0, PyData.depth]
theorem eqB_ok {F H : Hp} {v w : V} {d e : PyData} {b : Bool} (s0 : Same F H) (h1 : RepB K mg F H v d) (h2 : RepB K mg F H w e) (eb : eqB d e = some b) : (scal v w = true ∧ b = decide (v = w)) ∨
    (Dp K H v d ∧ Dp K H w e ∧ SeqAt.shaped d = true ∧ SeqAt.shaped e = true ∧ b = PyData.eqv d e) := by
  unfold eqB at eb
  split at eb
  · rename_i x y ex ey
    have e1 := h1.sc ex
    have e2 := h2.sc ey
    split at eb
    · rename_i hs
      cases eb
      subst e1 e2
      exact .inl ⟨hs, rfl⟩
    · rename_i hs
      cases eb
      have n1 : ∀ z, d ≠ .str z := by
        rintro z rfl
        cases ex
        cases e <;> simp only [sc, Option.some.injEq, reduceCtorEq] at ey <;> subst ey <;> simp [scal] at hs
      have n2 : ∀ z, e ≠ .str z := by
        rintro z rfl
        cases ey
        cases d <;> simp only [sc, Option.some.injEq, reduceCtorEq] at ex <;> subst ex <;> simp [scal] at hs
      have s1 := sc_shaped ex n1
      have s2 := sc_shaped ey n2
      exact .inr ⟨h1.dp s0 (SeqAt.canLay_of_shaped s1), h2.dp s0 (SeqAt.canLay_of_shaped s2), s1, s2, rfl⟩
  · split at eb
    · rename_i hs
      cases eb
      rw [Bool.and_eq_true] at hs
      exact .inr ⟨h1.dp s0 (SeqAt.canLay_of_shaped hs.1), h2.dp s0 (SeqAt.canLay_of_shaped hs.2), hs.1, hs.2, rfl⟩
    · cases eb
theorem sr_eq : SndR2 K mg (rEqU K) eqD := by
  intro F H v w d e s s0 h1 h2 es Q q
  unfold eqD at es
  cases eb : eqB d e with
  | none => rw [eb] at es; cases es
  | some b =>
    rw [eb] at es
    cases es
    have hq := fin_dat s0 q (.bl b)
    rcases eqB_ok s0 h1 h2 eb with ⟨hs, rfl⟩ | ⟨a1, a2, a3, a4, rfl⟩
    · exact .inl ⟨hs, hq⟩
    · exact .inr ⟨_, _, a1, a2, a3, a4, hq⟩
theorem sr_ne : SndR2 K mg (rNeU K) neD := by
  intro F H v w d e s s0 h1 h2 es Q q
  unfold neD at es
  cases eb : eqB d e with
  | none => rw [eb] at es; cases es
  | some b =>
    rw [eb] at es
    cases es
    have hq := fin_dat s0 q (.bl (!b))
    rcases eqB_ok s0 h1 h2 eb with ⟨hs, rfl⟩ | ⟨a1, a2, a3, a4, rfl⟩
    · exact .inl ⟨hs, hq⟩
    · exact .inr ⟨_, _, a1, a2, a3, a4, hq⟩
end
def ltD : PyData → PyData → Option Sl
  | .int i, .int j => some (.dat (.bool (decide (i < j))))
  | .str i, .str j => some (.dat (.bool (decide (i.cps.toList < j.cps.toList))))
  | _, _ => none
def leD : PyData → PyData → Option Sl
  | .int i, .int j => some (.dat (.bool (decide (i ≤ j))))
  | .str i, .str j => some (.dat (.bool (!decide (j.cps.toList < i.cps.toList))))
  | _, _ => none
def gtD : PyData → PyData → Option Sl
  | .int i, .int j => some (.dat (.bool (decide (j < i))))
  | .str i, .str j => some (.dat (.bool (decide (j.cps.toList < i.cps.toList))))
  | _, _ => none
def geD : PyData → PyData → Option Sl
  | .int i, .int j => some (.dat (.bool (decide (j ≤ i))))
  | .str i, .str j => some (.dat (.bool (!decide (i.cps.toList < j.cps.toList))))
  | _, _ => none
def rS2 (p : Str → Str → Bool) : R2 := fun x y H Q => ∃ i j, x = .str i ∧ y = .str j ∧ Q (.bl (p i j)) H
def rLtU : R2 := fun x y H Q => rI0 (fun i j => .bl (decide (i < j))) x y H Q ∨ rS2 (fun i j => decide (i.cps.toList < j.cps.toList)) x y H Q
def rLeU : R2 := fun x y H Q => rI0 (fun i j => .bl (decide (i ≤ j))) x y H Q ∨ rS2 (fun i j => !decide (j.cps.toList < i.cps.toList)) x y H Q
def rGtU : R2 := fun x y H Q => rI0 (fun i j => .bl (decide (j < i))) x y H Q ∨ rS2 (fun i j => decide (j.cps.toList < i.cps.toList)) x y H Q
def rGeU : R2 := fun x y H Q => rI0 (fun i j => .bl (decide (j ≤ i))) x y H Q ∨ rS2 (fun i j => !decide (i.cps.toList < j.cps.toList)) x y H Q
section
variable {X : Cx}
theorem op_ltU : OpR X (compareOp .Lt) rLtU := op_lt.or op_lt_str
theorem op_leU : OpR X (compareOp .LtE) rLeU := op_le.or op_le_str
theorem op_gtU : OpR X (compareOp .Gt) rGtU := op_gt.or op_gt_str
theorem op_geU : OpR X (compareOp .GtE) rGeU := op_ge.or op_ge_str
end
section
variable {K : PySem.W.Frag} {mg : Str → Option Value}
theorem sr_lt : SndR2 K mg rLtU ltD := by
  intro F H v w d e s s0 h1 h2 es Q q
  unfold ltD at es
  split at es <;> cases es
  · exact .inl ⟨_, _, h1.rep_int, h2.rep_int, fin_dat s0 q (.bl _)⟩
  · exact .inr ⟨_, _, h1.rep_str, h2.rep_str, fin_dat s0 q (.bl _)⟩
theorem sr_le : SndR2 K mg rLeU leD := by
  intro F H v w d e s s0 h1 h2 es Q q
  unfold leD at es
  split at es <;> cases es
  · exact .inl ⟨_, _, h1.rep_int, h2.rep_int, fin_dat s0 q (.bl _)⟩
  · exact .inr ⟨_, _, h1.rep_str, h2.rep_str, fin_dat s0 q (.bl _)⟩
theorem sr_gt : SndR2 K mg rGtU gtD := by
  intro F H v w d e s s0 h1 h2 es Q q
  unfold gtD at es
  split at es <;> cases es
  · exact .inl ⟨_, _, h1.rep_int, h2.rep_int, fin_dat s0 q (.bl _)⟩
  · exact .inr ⟨_, _, h1.rep_str, h2.rep_str, fin_dat s0 q (.bl _)⟩
theorem sr_ge : SndR2 K mg rGeU geD := by
  intro F H v w d e s s0 h1 h2 es Q q
  unfold geD at es
  split at es <;> cases es
  · exact .inl ⟨_, _, h1.rep_int, h2.rep_int, fin_dat s0 q (.bl _)⟩
  · exact .inr ⟨_, _, h1.rep_str, h2.rep_str, fin_dat s0 q (.bl _)⟩
end
/-- is None -/
def isN : PyData → Bool
  | .none => true
  | _ => false
def isND : PyData → PyData → Option Sl
  | d, .none => some (.dat (.bool (isN d)))
  | _, _ => none
def notND : PyData → PyData → Option Sl
  | d, .none => some (.dat (.bool (!isN d)))
  | _, _ => none
def rIsN : R2 := fun x y H Q => y = .non ∧ Q (.bl (decide (x = .non))) H
def rNotN : R2 := fun x y H Q => y = .non ∧ Q (.bl (!decide (x = .non))) H
theorem op_isNU {X : Cx} : OpR X (compareOp .Is) rIsN := op_isN
theorem op_notNU {X : Cx} : OpR X (compareOp .IsNot) rNotN := op_notN
section
variable {K : PySem.W.Frag} {mg : Str → Option Value}
theorem isN_ok {F H : Hp} {v : V} {d : PyData} (h : RepB K mg F H v d) : decide (v = .non) = isN d := by
  obtain ⟨s, O, h, e⟩ := h
  cases h with
  | dat h => cases e; cases h <;> simp [isN]
  | lst => cases e; simp [isN]
  | dK => cases e; simp [isN]
  | dT => cases e; simp [isN]
  | ins => cases e
theorem sr_isN : SndR2 K mg rIsN isND := by
  intro F H v w d e s s0 h1 h2 es Q q
  unfold isND at es
  split at es <;> cases es
  exact ⟨h2.rep_none, by rw [isN_ok h1]; exact fin_dat s0 q (.bl _)⟩
theorem sr_notN : SndR2 K mg rNotN notND := by
  intro F H v w d e s s0 h1 h2 es Q q
  unfold notND at es
  split at es <;> cases es
  exact ⟨h2.rep_none, by rw [isN_ok h1]; exact fin_dat s0 q (.bl _)⟩
end

/-! ### subscripts, slices -/
def idxD : PyData → PyData → Option Sl
  | .list ds, .int i => (atI ds i).map .dat
  | .tuple ds, .int i => (atI ds i).map .dat
  | .dict [(.list ds, .none)], .int i => (atI ds i).map .dat
  | .str z, .int i => if lineOk z.length = true then (atI z.cps.toList i).map fun c => .dat (.str ⟨#[c]⟩) else none
  | _, _ => none
def cutG {α : Type} (xs : List α) (lo hi : Option Int) : List α := (xs.drop (HT.sIx xs.length 0 lo)).take (HT.sIx xs.length xs.length hi - HT.sIx xs.length 0 lo)
def sliceD : PyData → Option Int → Option Int → Option Sl
  | .list ds, lo, hi => some (.lst (cutG ds lo hi))
  | .tuple ds, lo, hi => some (.dat (.tuple (cutG ds lo hi)))
  | .str z, lo, hi => if lineOk z.length = true then some (.dat (.str (cutS z lo hi))) else none
  | _, _, _ => none
def rSlU (K : PySem.W.Frag) : V → Option Int → Option Int → Hp → VK → Prop := fun x lo hi H Q => rSlL K x lo hi H Q ∨ rSlA K x lo hi H Q ∨ rSlS x lo hi H Q
theorem sl_U {X : Cx} : SlR X (rSlU X.K) := sl_list.or (sl_tupA.or sl_str)
section
variable {K : PySem.W.Frag} {mg : Str → Option Value} {E : L2.St → XK}
theorem Reps.atI {F : Hp} {vs : List V} {ds : List PyData} {i : Int} {d : PyData} (r : Reps K F vs ds) (e : L2.atI ds i = some d) : ∃ v, L2.atI vs i = some v ∧ Rep K F v d := by
  unfold L2.atI at e ⊢
  rw [r.length]
  cases q : ixN ds.length i with
  | none => rw [q] at e; cases e
  | some j =>
    rw [q] at e
    simp only [Option.bind_some] at e ⊢
    exact r.get e
theorem sr_idx : SndR2 K mg (rIx K) idxD := by
  intro F H v w d e s s0 h1 h2 es Q q
  unfold idxD at es
  split at es
  · rename_i ds i
    cases ea : atI ds i with
    | none => rw [ea] at es; cases es
    | some x =>
      rw [ea] at es
      cases es
      obtain ⟨p, vs, rfl, a1, b1⟩ := h1.list s0
      obtain ⟨y, e1, e2⟩ := b1.atI ea
      exact .inl ⟨_, _, _, _, rfl, h2.rep_int, .inl a1, e1, fin_dat s0 q e2⟩
  · rename_i ds i
    cases ea : atI ds i with
    | none => rw [ea] at es; cases es
    | some x =>
      rw [ea] at es
      cases es
      obtain ⟨p, vs, rfl, a1, c1, b1⟩ := h1.tuple s0
      obtain ⟨y, e1, e2⟩ := b1.atI ea
      exact .inr (.inl ⟨_, _, _, _, rfl, h2.rep_int, .inl a1, e1, fin_dat s0 q e2⟩)
  · rename_i ds i
    cases ea : atI ds i with
    | none => rw [ea] at es; cases es
    | some x =>
      rw [ea] at es
      cases es
      obtain ⟨p, vs, rfl, a1, b1⟩ := h1.scr s0
      obtain ⟨y, e1, e2⟩ := b1.atI ea
      exact .inl ⟨_, _, _, _, rfl, h2.rep_int, a1, e1, fin_dat s0 q e2⟩
  · rename_i z i
    split at es
    · rename_i hz
      cases ea : atI z.cps.toList i with
      | none => rw [ea] at es; cases es
      | some x =>
        rw [ea] at es
        cases es
        exact .inr (.inr ⟨_, _, _, h1.rep_str, h2.rep_int, of_decide_eq_true hz, ea, fin_dat s0 q (.str _)⟩)
    · cases es
  · cases es
/-- a slice's end -/
abbrev OE := Env → R (Option Int × Env)
def SndO (K : PySem.W.Frag) (mg : Str → Option Value) (E : L2.St → XK) (to : TO) (f : OE) : Prop := ∀ G F H σ ρ, Rp K mg G F H [] σ ρ → ∀ Q : Option Int → Hp → Prop,
  Post K mg E G σ (f ρ) (fun o ρ' => ∀ F' H', Same F F' → Rp K mg G F' H' [] σ ρ' → Q o H') → to σ H Q
def oNo : OE := fun ρ => .ok (none, ρ)
def oSo (f : EE) : OE := fun ρ => do
  let (s, ρ) ← f ρ
  match s with
  | .dat (.int i) => pure (some i, ρ)
  | _ => .bad
theorem sn_oNo : SndO K mg E tNoPart oNo := fun _ F H _ _ r _ q => q F H (Same.refl F) r
theorem sn_oSo {te : TE} {f : EE} (h : SndE K mg E te f) : SndO K mg E (tPart te) (oSo f) := by
  intro G F H σ ρ r0 Q q
  unfold oSo at q
  rw [post_bind] at q
  refine h G F H σ ρ r0 _ (q.mono fun s ρ1 q1 v F1 H1 Os e1 r1 h1 => ?_)
  try dsimp only at q1
  split at q1
  · cases h1 with
    | dat h1 =>
      cases h1
      exact ⟨_, rfl, q1 F1 H1 e1 r1⟩
  · exact q1.elim
def dSl (fa : AE) (fl fh : OE) : EE := fun ρ => do
  let (a, ρ) ← fa ρ
  let (l, ρ) ← fl ρ
  let (u, ρ) ← fh ρ
  let d ← a.get ρ
  let s ← R.of (sliceD d l u)
  pure (s, ρ)
theorem sn_sl {te : TE} {tl th : TO} {fa : AE} {fl fh : OE} (ha : SndA K mg E te fa) (hl : SndO K mg E tl fl) (hh : SndO K mg E th fh) : SndE K mg E (tSl (rSlU K) te tl th) (dSl fa fl fh) := by
  intro G F H σ ρ r0 Q q
  unfold dSl at q
  rw [post_bind] at q
  refine ha G F H σ ρ r0 _ (q.mono fun p ρ1 q1 v F1 H1 e1 r1 h1 => ?_)
  try dsimp only at q1
  rw [post_bind] at q1
  refine hl G F1 H1 σ ρ1 r1 _ (q1.mono fun l ρ2 q2 F2 H2 e2 r2 => ?_)
  try dsimp only at q2
  rw [post_bind] at q2
  refine hh G F2 H2 σ ρ2 r2 _ (q2.mono fun u ρ3 q3 F3 H3 e3 r3 => ?_)
  try dsimp only at q3
  obtain ⟨d, ed, q4⟩ := q3.get
  obtain ⟨s, es, q5⟩ := q4.of
  have hb := RPd.get r3 (h1.mono (e2.trans e3)) ed
  have qq : ∀ v' F' H' Os, Ext F3 H3 F' H' Os → RSl K mg F' H' v' s Os → Q v' H' := fun v' F4 H4 Os x4 h4 => q5 v' F4 H4 Os ((e1.trans (e2.trans e3)).trans x4.f) (r3.ext x4) h4
  unfold sliceD at es
  split at es
  · cases es
    obtain ⟨p, vs, rfl, a1, b1⟩ := hb.list r3.sub
    refine .inl ⟨_, _, rfl, .inl a1, fin_lst r3.sub qq ?_⟩
    unfold cutV cutG
    rw [b1.length]
    exact (b1.drop _).take _
  · cases es
    obtain ⟨p, vs, rfl, a1, c1, b1⟩ := hb.tuple r3.sub
    refine .inr (.inl ⟨_, _, rfl, .inl a1, fun z => ?_, fun _ => fin_tup r3.sub qq ?_⟩)
    · rw [b1.length] at z
      unfold cutG at qq
      rw [z.1, z.2, List.drop_zero, Nat.sub_zero, List.take_length] at qq
      exact fin_dat r3.sub qq (.tup c1 b1)
    · unfold cutV cutG
      rw [b1.length]
      exact (b1.drop _).take _
  · split at es
    · rename_i hz
      cases es
      exact .inr (.inr ⟨_, hb.rep_str, of_decide_eq_true hz, fin_dat r3.sub qq (.str _)⟩)
    · cases es
  · cases es
end

/-! ### built-ins -/
def lenD : List PyData → Option Sl
  | [.list ds] => some (.dat (.int ds.length))
  | [.tuple ds] => some (.dat (.int ds.length))
  | [.dict [(.list ds, .none)]] => some (.dat (.int ds.length))
  | [.str z] => if lineOk z.length = true then some (.dat (.int z.length)) else none
  | _ => none
def rLenU (K : PySem.W.Frag) : List V → Hp → VK → Prop := fun xs H Q => ∃ x n, xs = [x] ∧ LenV K x H n ∧ Q (.int n) H
theorem call_lenU {X : Cx} : CallR X (.builtin "len") (rLenU X.K) := call_len
def intD : List PyData → Option Sl
  | [.int i] => some (.dat (.int i))
  | [.bool b] => some (.dat (.int (if b then 1 else 0)))
  | [.str a] => match PySem.intText? a with
    | some n => if a.length ≤ 640 then some (.dat (.int n)) else none
    | none => none
  | _ => none
def rIntU : List V → Hp → VK → Prop := fun xs H Q => ((∃ i, xs = [.int i] ∧ Q (.int i) H) ∨ ∃ k, xs = [.bl k] ∧ Q (.int (if k then 1 else 0)) H) ∨ ∃ a n, xs = [.str a] ∧ PySem.intText? a = some n ∧ a.length ≤ 640 ∧ Q (.int n) H
theorem call_intU {X : Cx} : CallR X (.type "int") rIntU := call_int1.or call_int_str
def listD : List PyData → Option Sl
  | [.list ds] => some (.lst ds)
  | [.tuple ds] => some (.lst ds)
  | _ => none
def rListU (K : PySem.W.Frag) : List V → Hp → VK → Prop := fun xs H Q => ∃ p ys, xs = [.ref p] ∧ (SqL K H p ys ∨ SqT K H p ys) ∧ ∀ l, H l = none → Q (.ref l) (upd H l (.lst ys))
theorem call_listU {X : Cx} : CallR X (.type "list") (rListU X.K) := call_list_of
def tupD : List PyData → Option Sl
  | [.list ds] => some (.dat (.tuple ds))
  | [.tuple ds] => some (.dat (.tuple ds))
  | _ => none
def rTupU (K : PySem.W.Frag) : List V → Hp → VK → Prop := fun xs H Q => ∃ p ys, xs = [.ref p] ∧ ((SqL K H p ys ∧ ∀ l, H l = none → Q (.ref l) (upd H l (.tup ys))) ∨ (SqT K H p ys ∧ Q (.ref p) H))
theorem call_tupU {X : Cx} : CallR X (.type "tuple") (rTupU X.K) := call_tuple_of
def ordD : List PyData → Option Sl
  | [.str x] => if x.length = 1 then some (.dat (.int (x.cps.getD 0 0 : Nat))) else none
  | _ => none
def rOrd : List V → Hp → VK → Prop := fun xs H Q => ∃ x, xs = [.str x] ∧ x.length = 1 ∧ Q (.int (x.cps.getD 0 0 : Nat)) H
theorem call_ordU {X : Cx} : CallR X (.builtin "ord") rOrd := call_ord
def strD : List PyData → Option Sl
  | [.int i] => if i.natAbs.log2 < 1920 then some (.dat (.str (toString i))) else none
  | _ => none
def rStrI : List V → Hp → VK → Prop := fun xs H Q => ∃ i, xs = [.int i] ∧ i.natAbs.log2 < 1920 ∧ Q (.str (toString i)) H
theorem call_strU {X : Cx} : CallR X (.type "str") rStrI := call_str_int
def intsOf : List PyData → Option (List Int)
  | [] => some []
  | .int i :: r => match intsOf r with
    | some ns => some (i :: ns)
    | none => none
  | _ :: _ => none
def boolsOf : List PyData → Option (List Bool)
  | [] => some []
  | .bool i :: r => match boolsOf r with
    | some ns => some (i :: ns)
    | none => none
  | _ :: _ => none
theorem intsOf_eq : ∀ {ds : List PyData} {ns : List Int}, intsOf ds = some ns → ds = ns.map .int
  | [], ns, h => by cases h; rfl
  | d :: r, ns, h => by
    unfold intsOf at h
    split at h
    · rename_i h2; cases h2
    · rename_i e
      cases e
      split at h
      · rename_i ms hm
        cases h
        rw [intsOf_eq hm]
        rfl
      · cases h
    · cases h
@[simp] theorem intsOf_map : ∀ (ns : List Int), intsOf (ns.map .int) = some ns
  | [] => rfl
  | i :: r => by
    show (match intsOf (r.map .int) with | some ns => some (i :: ns) | none => none) = _
    rw [intsOf_map r]
theorem boolsOf_eq : ∀ {ds : List PyData} {ns : List Bool}, boolsOf ds = some ns → ds = ns.map .bool
  | [], ns, h => by cases h; rfl
  | d :: r, ns, h => by
    unfold boolsOf at h
    split at h
    · rename_i h2; cases h2
    · rename_i e
      cases e
      split at h
      · rename_i ms hm
        cases h
        rw [boolsOf_eq hm]
        rfl
      · cases h
    · cases h
@[simp] theorem boolsOf_map : ∀ (ns : List Bool), boolsOf (ns.map .bool) = some ns
  | [] => rfl
  | i :: r => by
    show (match boolsOf (r.map .bool) with | some ns => some (i :: ns) | none => none) = _
    rw [boolsOf_map r]
def sumD : List PyData → Option Sl
  | [.list ds] => (intsOf ds).map fun ns => .dat (.int ns.sum)
  | _ => none
def allD : List PyData → Option Sl
  | [.list ds] => (boolsOf ds).map fun ns => .dat (.bool (ns.all id))
  | _ => none
def anyD : List PyData → Option Sl
  | [.list ds] => (boolsOf ds).map fun ns => .dat (.bool (ns.any id))
  | _ => none
def maxOf : List Int → Option Int
  | [] => none
  | i :: r => some (r.foldl (fun a b => if b > a then b else a) i)
def minOf : List Int → Option Int
  | [] => none
  | i :: r => some (r.foldl (fun a b => if b < a then b else a) i)
theorem maxOf_fold : ∀ (r : List Int) (i m : Int), (m = i ∨ m ∈ r) → i ≤ m → (∀ y ∈ r, y ≤ m) → m = r.foldl (fun a b => if b > a then b else a) i
  | [], i, m, h, h1, _ => by
    rcases h with h | h
    · exact h
    · cases h
  | b :: r, i, m, h, h1, h2 => by
    have hb := h2 b (by simp)
    refine maxOf_fold r _ m ?_ ?_ fun y hy => h2 y (by simp [hy])
    · rcases h with h | h
      · left
        show m = if b > i then b else i
        split <;> omega
      · rcases List.mem_cons.mp h with h | h
        · left
          show m = if b > i then b else i
          split <;> omega
        · exact .inr h
    · dsimp only
      split <;> omega
theorem minOf_fold : ∀ (r : List Int) (i m : Int), (m = i ∨ m ∈ r) → m ≤ i → (∀ y ∈ r, m ≤ y) → m = r.foldl (fun a b => if b < a then b else a) i
  | [], i, m, h, h1, _ => by
    rcases h with h | h
    · exact h
    · cases h
  | b :: r, i, m, h, h1, h2 => by
    have hb := h2 b (by simp)
    refine minOf_fold r _ m ?_ ?_ fun y hy => h2 y (by simp [hy])
    · rcases h with h | h
      · left
        show m = if b < i then b else i
        split <;> omega
      · rcases List.mem_cons.mp h with h | h
        · left
          show m = if b < i then b else i
          split <;> omega
        · exact .inr h
    · dsimp only
      split <;> omega
def maxD : List PyData → Option Sl
  | [.int i, .int j] => some (.dat (.int (if j > i then j else i)))
  | [.list ds] => (intsOf ds).bind fun ns => (maxOf ns).map fun m => .dat (.int m)
  | _ => none
def minD : List PyData → Option Sl
  | [.int i, .int j] => some (.dat (.int (if j < i then j else i)))
  | [.list ds] => (intsOf ds).bind fun ns => (minOf ns).map fun m => .dat (.int m)
  | _ => none
def rMaxU (K : PySem.W.Frag) : List V → Hp → VK → Prop := fun xs H Q => (∃ i j, xs = [.int i, .int j] ∧ Q (.int (if j > i then j else i)) H) ∨ rMax K xs H Q
def rMinU (K : PySem.W.Frag) : List V → Hp → VK → Prop := fun xs H Q => (∃ i j, xs = [.int i, .int j] ∧ Q (.int (if j < i then j else i)) H) ∨ rMin K xs H Q
theorem call_maxU {X : Cx} (hc : X.calm = true) : CallR X (.builtin "max") (rMaxU X.K) := (call_max2 hc).or (cr_max hc)
theorem call_minU {X : Cx} (hc : X.calm = true) : CallR X (.builtin "min") (rMinU X.K) := (call_min2 hc).or (cr_min hc)
section
variable {K : PySem.W.Frag} {mg : Str → Option Value}
theorem RepsB.one {F H : Hp} {vs : List V} {d : PyData} (h : RepsB K mg F H vs [d]) : ∃ v, vs = [v] ∧ RepB K mg F H v d := by
  cases h with
  | cons h t => cases t; exact ⟨_, rfl, h⟩
theorem RepsB.two {F H : Hp} {vs : List V} {d e : PyData} (h : RepsB K mg F H vs [d, e]) : ∃ v w, vs = [v, w] ∧ RepB K mg F H v d ∧ RepB K mg F H w e := by
  cases h with
  | cons h t =>
    obtain ⟨w, rfl, h2⟩ := t.one
    exact ⟨_, _, rfl, h, h2⟩
theorem sl_len : SndRL K mg (rLenU K) lenD := by
  intro F H vs ds s s0 h es Q q
  unfold lenD at es
  split at es
  · cases es
    obtain ⟨v, rfl, g⟩ := h.one
    obtain ⟨p, ws, rfl, a1, b1⟩ := g.list s0
    exact ⟨_, _, rfl, .inl ⟨_, .inl a1, b1.length.symm⟩, fin_dat s0 q (.int _)⟩
  · cases es
    obtain ⟨v, rfl, g⟩ := h.one
    obtain ⟨p, ws, rfl, a1, _, b1⟩ := g.tuple s0
    exact ⟨_, _, rfl, .inr ⟨_, .inl a1, b1.length.symm⟩, fin_dat s0 q (.int _)⟩
  · cases es
    obtain ⟨v, rfl, g⟩ := h.one
    obtain ⟨p, ws, rfl, a1, b1⟩ := g.scr s0
    exact ⟨_, _, rfl, .inl ⟨_, a1, b1.length.symm⟩, fin_dat s0 q (.int _)⟩
  · split at es
    · rename_i hz
      cases es
      obtain ⟨v, rfl, g⟩ := h.one
      cases g.rep_str
      exact ⟨_, _, rfl, ⟨of_decide_eq_true hz, rfl⟩, fin_dat s0 q (.int _)⟩
    · cases es
  · cases es
theorem sl_int : SndRL K mg rIntU intD := by
  intro F H vs ds s s0 h es Q q
  unfold intD at es
  split at es
  · cases es
    obtain ⟨v, rfl, g⟩ := h.one
    cases g.rep_int
    exact .inl (.inl ⟨_, rfl, fin_dat s0 q (.int _)⟩)
  · cases es
    obtain ⟨v, rfl, g⟩ := h.one
    cases g.rep_bool
    exact .inl (.inr ⟨_, rfl, fin_dat s0 q (.int _)⟩)
  · split at es
    · rename_i n hn
      split at es
      · rename_i hz
        cases es
        obtain ⟨v, rfl, g⟩ := h.one
        cases g.rep_str
        exact .inr ⟨_, _, rfl, hn, hz, fin_dat s0 q (.int _)⟩
      · cases es
    · cases es
  · cases es
theorem sl_list : SndRL K mg (rListU K) listD := by
  intro F H vs ds s s0 h es Q q
  unfold listD at es
  split at es
  · cases es
    obtain ⟨v, rfl, g⟩ := h.one
    obtain ⟨p, ws, rfl, a1, b1⟩ := g.list s0
    exact ⟨_, _, rfl, .inl (.inl a1), fin_lst s0 q b1⟩
  · cases es
    obtain ⟨v, rfl, g⟩ := h.one
    obtain ⟨p, ws, rfl, a1, _, b1⟩ := g.tuple s0
    exact ⟨_, _, rfl, .inr (.inl a1), fin_lst s0 q b1⟩
  · cases es
theorem sl_tupC : SndRL K mg (rTupU K) tupD := by
  intro F H vs ds s s0 h es Q q
  unfold tupD at es
  split at es
  · cases es
    obtain ⟨v, rfl, g⟩ := h.one
    obtain ⟨p, ws, rfl, a1, b1⟩ := g.list s0
    exact ⟨_, _, rfl, .inl ⟨.inl a1, fin_tup s0 q b1⟩⟩
  · cases es
    obtain ⟨v, rfl, g⟩ := h.one
    obtain ⟨p, ws, rfl, a1, c1, b1⟩ := g.tuple s0
    exact ⟨_, _, rfl, .inr ⟨.inl a1, fin_dat s0 q (.tup c1 b1)⟩⟩
  · cases es
theorem sl_ord : SndRL K mg rOrd ordD := by
  intro F H vs ds s s0 h es Q q
  unfold ordD at es
  split at es
  · split at es
    · rename_i hz
      cases es
      obtain ⟨v, rfl, g⟩ := h.one
      cases g.rep_str
      exact ⟨_, rfl, hz, fin_dat s0 q (.int _)⟩
    · cases es
  · cases es
theorem sl_strI : SndRL K mg rStrI strD := by
  intro F H vs ds s s0 h es Q q
  unfold strD at es
  split at es
  · split at es
    · rename_i hz
      cases es
      obtain ⟨v, rfl, g⟩ := h.one
      cases g.rep_int
      exact ⟨_, rfl, hz, fin_dat s0 q (.str _)⟩
    · cases es
  · cases es
theorem sl_sum : SndRL K mg (rSum K) sumD := by
  intro F H vs ds s s0 h es Q q
  unfold sumD at es
  split at es
  · rename_i xs
    cases e : intsOf xs with
    | none => rw [e] at es; cases es
    | some ns =>
      rw [e] at es
      cases es
      cases intsOf_eq e
      obtain ⟨v, rfl, g⟩ := h.one
      obtain ⟨p, ws, rfl, a1, b1⟩ := g.list s0
      cases b1.ints
      exact ⟨_, _, rfl, .inl a1, fin_dat s0 q (.int _)⟩
  · cases es
theorem sl_all : SndRL K mg (rAll K) allD := by
  intro F H vs ds s s0 h es Q q
  unfold allD at es
  split at es
  · rename_i xs
    cases e : boolsOf xs with
    | none => rw [e] at es; cases es
    | some ns =>
      rw [e] at es
      cases es
      cases boolsOf_eq e
      obtain ⟨v, rfl, g⟩ := h.one
      obtain ⟨p, ws, rfl, a1, b1⟩ := g.list s0
      cases b1.bools
      exact ⟨_, _, rfl, .inl a1, fin_dat s0 q (.bl _)⟩
  · cases es
theorem sl_any : SndRL K mg (rAny K) anyD := by
  intro F H vs ds s s0 h es Q q
  unfold anyD at es
  split at es
  · rename_i xs
    cases e : boolsOf xs with
    | none => rw [e] at es; cases es
    | some ns =>
      rw [e] at es
      cases es
      cases boolsOf_eq e
      obtain ⟨v, rfl, g⟩ := h.one
      obtain ⟨p, ws, rfl, a1, b1⟩ := g.list s0
      cases b1.bools
      exact ⟨_, _, rfl, .inl a1, fin_dat s0 q (.bl _)⟩
  · cases es
theorem sl_max : SndRL K mg (rMaxU K) maxD := by
  intro F H vs ds s s0 h es Q q
  unfold maxD at es
  split at es
  · cases es
    obtain ⟨v, w, rfl, h1, h2⟩ := h.two
    cases h1.rep_int
    cases h2.rep_int
    exact .inl ⟨_, _, rfl, fin_dat s0 q (.int _)⟩
  · rename_i xs
    cases e : intsOf xs with
    | none => rw [e] at es; cases es
    | some ns =>
      rw [e] at es
      cases intsOf_eq e
      simp only [Option.bind_some] at es
      cases ns with
      | nil => cases es
      | cons i r =>
        cases es
        obtain ⟨v, rfl, g⟩ := h.one
        obtain ⟨p, ws, rfl, a1, b1⟩ := g.list s0
        cases b1.ints
        refine .inr ⟨_, _, rfl, .inl a1, by simp, fun m hm hle => ?_⟩
        rw [← maxOf_fold r i m (by simpa using hm) (hle i (by simp)) fun y hy => hle y (by simp [hy])] at q
        exact fin_dat s0 q (.int _)
  · cases es
theorem sl_min : SndRL K mg (rMinU K) minD := by
  intro F H vs ds s s0 h es Q q
  unfold minD at es
  split at es
  · cases es
    obtain ⟨v, w, rfl, h1, h2⟩ := h.two
    cases h1.rep_int
    cases h2.rep_int
    exact .inl ⟨_, _, rfl, fin_dat s0 q (.int _)⟩
  · rename_i xs
    cases e : intsOf xs with
    | none => rw [e] at es; cases es
    | some ns =>
      rw [e] at es
      cases intsOf_eq e
      simp only [Option.bind_some] at es
      cases ns with
      | nil => cases es
      | cons i r =>
        cases es
        obtain ⟨v, rfl, g⟩ := h.one
        obtain ⟨p, ws, rfl, a1, b1⟩ := g.list s0
        cases b1.ints
        refine .inr ⟨_, _, rfl, .inl a1, by simp, fun m hm hle => ?_⟩
        rw [← minOf_fold r i m (by simpa using hm) (hle i (by simp)) fun y hy => hle y (by simp [hy])] at q
        exact fin_dat s0 q (.int _)
  · cases es
end
end DL
namespace DL
open PySem PySem.Spec L2

/-! ### a def that is not reached any more (a recursion's lid) -/
theorem fn_bad {P : Program} {w : World} {K : PySem.W.Frag} {mg : Str → Option Value} {base : Heap} {CX : CXT} {k : Nat} {f : Addr} {fd : FuncData} {ps : List Str} : FnOk P w K mg base CX k f fd ps (spF K mg fun _ => .bad) :=
  ⟨fun vs H Q E h => by
    obtain ⟨_, _, _, _, _, _, _, h⟩ := h
    exact h.elim, fun A outer s H args us vs Q E _ _ _ _ h => by
    obtain ⟨_, _, _, _, _, _, _, h⟩ := h
    exact h.elim⟩

/-! ### += -/
def ipaddD : PyData → PyData → Option Sl
  | .int i, .int j => some (.dat (.int (i + j)))
  | _, _ => none
def ipsubD : PyData → PyData → Option Sl
  | .int i, .int j => some (.dat (.int (i - j)))
  | _, _ => none
section
variable {K : PySem.W.Frag} {mg : Str → Option Value} {E : L2.St → XK} {ps : List Bool}
theorem sr_ipaddD : SndR2 K mg (ipI fun i j => i + j) ipaddD := by
  intro F H v w d e s s0 h1 h2 es Q q
  unfold ipaddD at es
  split at es
  · cases es
    exact ⟨_, _, h1.rep_int, h2.rep_int, fin_dat s0 q (.int _)⟩
  · cases es
theorem sr_ipsubD : SndR2 K mg (ipI fun i j => i - j) ipsubD := by
  intro F H v w d e s s0 h1 h2 es Q q
  unfold ipsubD at es
  split at es
  · cases es
    exact ⟨_, _, h1.rep_int, h2.rep_int, fin_dat s0 q (.int _)⟩
  · cases es

/-! ### a list of one's own is changed -/
/-- data out of an expression, laid aside -/
theorem sn_fz {te : TE} {f : EE} (h : SndE K mg E te f) {G : Gr} {F H : Hp} {σ : L2.St} {ρ : Env} (r : Rp K mg G F H [] σ ρ) {Q : VK}
    (q : Post K mg E G σ (fz f ρ) fun d ρ' => ∀ v F' H', Same F F' → Rp K mg G F' H' [] σ ρ' → Rep K F' v d → Q v H') : te σ H Q := by
  refine h G F H σ ρ r Q ?_
  unfold fz at q
  rw [post_bind] at q
  refine q.mono fun s ρ1 q1 v F1 H1 Os e1 r1 h1 => ?_
  obtain ⟨d, ed, q2⟩ := q1.of
  obtain ⟨F2, a, b, c⟩ := r1.freeze h1 ed
  exact q2 v F2 H1 (e1.trans a) b c
def sApp (i : Nat) (f : EE) : SE := fun ρ => match ρ[i]? with
  | some (some (.lst _)) => do
    let (d, ρ) ← fz f ρ
    match ρ[i]? with
    | some (some (.lst ds)) => if ds.length < 1000000 then pure (.nx (ρ.set i (some (.lst (ds ++ [d]))))) else .bad
    | _ => .bad
  | _ => .bad
theorem sn_app {i : Nat} {te : TE} {f : EE} (h : SndE K mg E te f) : SndS K mg ps E (tDrop (tBM K "list" rAppend (tVar i) (tCons te tNil))) (sApp i f) := by
  intro Z F H σ ρ hp hz r D q
  unfold sApp at q
  split at q
  case h_2 => exact q.elim
  rename_i ds0 hs0
  obtain ⟨v0, O0, ev, h0⟩ := r.at hs0
  refine ⟨v0, ev, ?_⟩
  cases h0 with
  | lst hH hr =>
    rename_i p vs0
    refine ⟨.inl ⟨rfl, vs0, .inl (.inl hH)⟩, ?_⟩
    refine sn_fz h r ((post_ofA hz q).mono fun d ρ1 q1 v F1 H1 e1 r1 h1 => ?_)
    try dsimp only at q1
    split at q1
    case h_2 => exact q1.elim
    rename_i ds hs
    split at q1
    case isFalse => exact q1.elim
    rename_i hlen
    obtain ⟨v', O, e2, h2, r2⟩ := r1.take hs
    rw [ev] at e2
    cases e2
    cases h2 with
    | lst hH2 hr2 =>
      rename_i vs
      refine ⟨p, vs, v, rfl, rfl, hH2, Nat.lt_of_lt_of_le (by rw [hr2.length]; exact hlen) (by decide), ?_⟩
      have r3 := r2.write (o := .lst (vs ++ [v])) (p := p) (by simp)
      exact q1 σ F1 _ hz (r3.back (.lst upd_same (hr2.append (Reps.one h1))) ev)
/-- xs.extend(ys): ys a list of its own -/
def sExt (i : Nat) (f : EE) : SE := fun ρ => match ρ[i]? with
  | some (some (.lst _)) => do
    let (s, ρ) ← f ρ
    match s, ρ[i]? with
    | .lst es, some (some (.lst ds)) => if lineOk (ds.length + es.length) = true then pure (.nx (ρ.set i (some (.lst (ds ++ es))))) else .bad
    | _, _ => .bad
  | _ => .bad
theorem Rp.ne_own {G : Gr} {F H : Hp} {Os : List Addr} {σ : L2.St} {ρ : Env} {a b : Addr} {A B : List Addr} (r : Rp K mg G F H (A ++ B) σ ρ) (ha : a ∈ A) (hb : b ∈ B) : a ≠ b := by
  obtain ⟨O, hs, nd, own⟩ := r.sls
  exact fun e => (List.nodup_append.mp (List.nodup_append.mp nd).1).2.2 a ha b hb e
theorem sn_ext {i : Nat} {te : TE} {f : EE} (h : SndE K mg E te f) : SndS K mg ps E (tDrop (tBM K "list" rExtend (tVar i) (tCons te tNil))) (sExt i f) := by
  intro Z F H σ ρ hp hz r D q
  unfold sExt at q
  split at q
  case h_2 => exact q.elim
  rename_i ds0 hs0
  obtain ⟨v0, O0, ev, h0⟩ := r.at hs0
  refine ⟨v0, ev, ?_⟩
  cases h0 with
  | lst hH hr =>
    rename_i p vs0
    refine ⟨.inl ⟨rfl, vs0, .inl (.inl hH)⟩, ?_⟩
    refine h Z.g F H σ ρ r _ ((post_of hz q).mono fun s ρ1 q1 v F1 H1 Os e1 r1 h1 => ?_)
    try dsimp only at q1
    split at q1
    case h_2 => exact q1.elim
    rename_i es ds _ hs
    split at q1
    case isFalse => exact q1.elim
    rename_i hlen
    obtain ⟨v', O, e2, h2, r2⟩ := r1.take2 hs
    rw [ev] at e2
    cases e2
    cases h2 with
    | lst hH2 hr2 =>
      rename_i vs
      cases h1 with
      | lst hH3 hr3 =>
        rename_i p3 ws
        refine ⟨p, p3, vs, ws, rfl, rfl, hH2, hH3, by rw [hr2.length, hr3.length]; exact of_decide_eq_true hlen, ?_⟩
        have r3 := r2.write (o := .lst (vs ++ ws)) (p := p) (by simp)
        have r4 := r3.back2 (.lst upd_same (hr2.append hr3)) ev
        rw [List.set_set] at r4
        exact q1 σ F1 _ hz r4.drop
/-- xs[i] = e -/
def sSetI (i : Nat) (f : EE) (fi : AE) : SE := fun ρ => do
  let (d, ρ) ← fz f ρ
  match ρ[i]? with
  | some (some (.lst _)) => do
    let (a, ρ) ← fi ρ
    let x ← a.get ρ
    match ρ[i]?, x with
    | some (some (.lst ds)), .int k => match ixN ds.length k with
      | some j => pure (.nx (ρ.set i (some (.lst (ds.set j d)))))
      | none => .bad
    | _, _ => .bad
  | _ => .bad
theorem sn_setI {i : Nat} {te ti : TE} {f : EE} {fi : AE} (h : SndE K mg E te f) (h2 : SndA K mg E ti fi) : SndS K mg ps E (tAsg te (gSub (tVar i) ti rSetL)) (sSetI i f fi) := by
  intro Z F H σ ρ hp hz r D q
  unfold sSetI at q
  refine sn_fz h r ((post_ofA hz q).mono fun d ρ1 q1 v F1 H1 e1 r1 h1 => ?_)
  try dsimp only at q1
  split at q1
  case h_2 => exact q1.elim
  rename_i ds0 hs0
  obtain ⟨v0, O0, ev, h0⟩ := r1.at hs0
  refine ⟨v0, ev, h2 Z.g F1 H1 σ ρ1 r1 _ ((post_ofA hz q1).mono fun a ρ2 q2 w F2 H2 e2 r2 h3 => ?_)⟩
  try dsimp only at q2
  obtain ⟨x, ex, q3⟩ := q2.get
  have hb := RPd.get r2 h3 ex
  split at q3
  case h_2 => exact q3.elim
  rename_i ds k hs
  split at q3
  case h_2 => exact q3.elim
  rename_i j hj
  obtain ⟨v', O, e3, h4, r4⟩ := r2.take hs
  rw [ev] at e3
  cases e3
  cases h4 with
  | lst hH hr =>
    rename_i p vs
    refine ⟨p, vs, k, j, rfl, hb.rep_int, hH, by rw [hr.length]; exact hj, ?_⟩
    have r5 := r4.write (o := .lst (vs.set j v)) (p := p) (by simp)
    exact q3 σ F2 _ hz (r5.back (.lst upd_same (hr.set (h1.mono e2) j)) ev)

/-! ### in, not in -/
def inL (d : PyData) (ds : List PyData) : Option Bool :=
  if (sc d).isSome = true ∧ ds.all (fun e => (sc e).isSome) = true then some (ds.any fun e => PyData.eqv e d)
  else if (SeqAt.shaped d && SeqAt.shaped (.list ds)) = true then some (ds.any fun e => PyData.eqv e d) else none
def inT (d : PyData) (ds : List PyData) : Option Bool :=
  if (sc d).isSome = true ∧ ds.all (fun e => (sc e).isSome) = true then some (ds.any fun e => PyData.eqv e d) else none
def inS (x z : Str) : Option Bool := match x.cps.toList with
  | [c] => some (decide (c ∈ z.cps.toList))
  | _ => some (!(Builtin.Str.occurrences z x 0 z.length 1).isEmpty)
def inB : PyData → PyData → Option Bool
  | d, .list ds => inL d ds
  | d, .tuple ds => inT d ds
  | .str x, .str z => inS x z
  | _, _ => none
def inD (d e : PyData) : Option Sl := (inB d e).map fun b => .dat (.bool b)
def notInD (d e : PyData) : Option Sl := (inB d e).map fun b => .dat (.bool (!b))
def rSign (neg : Bool) : R2 := fun x y H Q => ∃ (c : Nat) (z : Str), x = .str ⟨#[c]⟩ ∧ y = .str z ∧ Q (.bl (if neg then !decide (c ∈ z.cps.toList) else decide (c ∈ z.cps.toList))) H
def rOcc (neg : Bool) : R2 := fun x y H Q => ∃ i j, x = .str i ∧ y = .str j ∧ Q (.bl (if neg then !(!(Builtin.Str.occurrences j i 0 j.length 1).isEmpty) else !(Builtin.Str.occurrences j i 0 j.length 1).isEmpty)) H
def rInDD (K : PySem.W.Frag) (neg : Bool) : R2 := fun x y H Q => ∃ d ds, Dp K H x d ∧ Dp K H y (.list ds) ∧ SeqAt.shaped d = true ∧ SeqAt.shaped (.list ds) = true ∧ Q (.bl (if neg then !(ds.any fun z => PyData.eqv z d) else ds.any fun z => PyData.eqv z d)) H
def rInU (K : PySem.W.Frag) (neg : Bool) : R2 := fun x y H Q => rIn K neg x y H Q ∨ rInDD K neg x y H Q ∨ rSign neg x y H Q ∨ rOcc neg x y H Q
theorem op_inU {X : Cx} (hu : X.A.units + 65 < cLine) : OpR X (compareOp .In) (rInU X.K false) := op_in_seq.or (OpR.or (op_inD hu) (OpR.or op_in_sign op_in_str))
theorem op_notInU {X : Cx} (hu : X.A.units + 65 < cLine) : OpR X (compareOp .NotIn) (rInU X.K true) := op_notIn_seq.or (OpR.or (op_notInD hu) (OpR.or op_notIn_sign op_notIn_str))
theorem eqV_eqv {d e : PyData} {x y : V} (h1 : sc d = some x) (h2 : sc e = some y) : eqV y x = PyData.eqv e d := by
  cases d <;> simp only [sc, Option.some.injEq, reduceCtorEq] at h1 <;> subst h1 <;> cases e <;> simp only [sc, Option.some.injEq, reduceCtorEq] at h2 <;> subst h2 <;> simp [eqV, PyData.eqv]
theorem sc_flat {d : PyData} {x : V} (h : sc d = some x) : flatV x = true := by
  cases d <;> simp only [sc, Option.some.injEq, reduceCtorEq] at h <;> subst h <;> rfl
theorem Rep.sc {F : Hp} {v : V} {d : PyData} {x : V} (h : Rep K F v d) (e : sc d = some x) : v = x := by
  cases h <;> simp only [DL.sc, Option.some.injEq, reduceCtorEq] at e <;> exact e
theorem Reps.inV {F : Hp} {d : PyData} {x : V} (h1 : sc d = some x) : ∀ {vs : List V} {ds : List PyData}, Reps K F vs ds → ds.all (fun e => (sc e).isSome) = true → vs.all flatV = true ∧ L2.inV x vs = ds.any fun e => PyData.eqv e d
  | _, _, .nil, _ => ⟨rfl, rfl⟩
  | _, _, .cons h r, c => by
    rw [List.all_cons, Bool.and_eq_true] at c
    obtain ⟨a, b⟩ := Reps.inV h1 r c.2
    obtain ⟨y, ey⟩ := Option.isSome_iff_exists.mp c.1
    have e := h.sc ey
    subst e
    refine ⟨?_, ?_⟩
    · rw [List.all_cons, a, sc_flat ey]; rfl
    · unfold L2.inV at b ⊢
      rw [List.any_cons, List.any_cons, b, eqV_eqv h1 ey]
theorem inB_ok {F H : Hp} {v w : V} {d e : PyData} {b : Bool} (neg : Bool) (s0 : Same F H) (h1 : RepB K mg F H v d) (h2 : RepB K mg F H w e) (eb : inB d e = some b) {Q : VK} (q : Q (.bl (if neg then !b else b)) H) : rInU K neg v w H Q := by
  unfold inB at eb
  split at eb
  · rename_i ds
    obtain ⟨p, ws, e1, a1, b1⟩ := h2.list s0
    unfold inL at eb
    split at eb
    · rename_i hc
      cases eb
      obtain ⟨x, ex⟩ := Option.isSome_iff_exists.mp hc.1
      have := h1.sc ex
      subst this
      obtain ⟨c1, c2⟩ := b1.inV ex hc.2
      refine .inl ⟨p, ws, e1, .inl (.inl a1), sc_flat ex, c1, ?_⟩
      rw [c2]
      exact q
    · split at eb
      · rename_i hs
        cases eb
        rw [Bool.and_eq_true] at hs
        exact .inr (.inl ⟨d, ds, h1.dp s0 (SeqAt.canLay_of_shaped hs.1), h2.dp s0 (SeqAt.canLay_of_shaped hs.2), hs.1, hs.2, q⟩)
      · cases eb
  · rename_i ds
    obtain ⟨p, ws, e1, a1, _, b1⟩ := h2.tuple s0
    unfold inT at eb
    split at eb
    · rename_i hc
      cases eb
      obtain ⟨x, ex⟩ := Option.isSome_iff_exists.mp hc.1
      have := h1.sc ex
      subst this
      obtain ⟨c1, c2⟩ := b1.inV ex hc.2
      refine .inl ⟨p, ws, e1, .inr (.inl a1), sc_flat ex, c1, ?_⟩
      rw [c2]
      exact q
    · cases eb
  · rename_i x z
    unfold inS at eb
    split at eb
    · rename_i c hc
      cases eb
      refine .inr (.inr (.inl ⟨c, z, ?_, h2.rep_str, q⟩))
      rw [h1.rep_str]
      congr 1
      cases x
      simp only at hc
      congr 1
      exact Array.toList_inj.mp (by simpa using hc)
    · cases eb
      exact .inr (.inr (.inr ⟨x, z, h1.rep_str, h2.rep_str, q⟩))
  · cases eb
theorem sr_in : SndR2 K mg (rInU K false) inD := by
  intro F H v w d e s s0 h1 h2 es Q q
  unfold inD at es
  cases eb : inB d e with
  | none => rw [eb] at es; cases es
  | some b =>
    rw [eb] at es
    cases es
    exact inB_ok false s0 h1 h2 eb (fin_dat s0 q (.bl b))
theorem sr_notIn : SndR2 K mg (rInU K true) notInD := by
  intro F H v w d e s s0 h1 h2 es Q q
  unfold notInD at es
  cases eb : inB d e with
  | none => rw [eb] at es; cases es
  | some b =>
    rw [eb] at es
    cases es
    exact inB_ok true s0 h1 h2 eb (fin_dat s0 q (.bl (!b)))

/-! ### sorted -/
end
def rSortedD (K : PySem.W.Frag) : List V → Hp → VK → Prop := fun vs H Q => ∃ (a : Addr) (xs : List V) (ds : List PyData) (Rx : V → PyData → Prop), vs = [.ref a] ∧ SqL K H a xs ∧ DpAll K H xs ds ∧ Paired Rx xs ds ∧ PySem.W.AllAlike ds ∧ PySem.W.Sortable ds ∧ (∀ d ∈ ds, d.depth ≤ 64) ∧
  ∀ ys p, Paired Rx ys (ds.mergeSort (PySem.W.dataLe false id)) → H p = none → Q (.ref p) (upd H p (.lst ys))
theorem each_of_paired {Rx : V → PyData → Prop} : ∀ {xs : List V} {ds : List PyData} {us : List Value}, Paired Rx xs ds → Vals xs us → PySem.W.EachIs (fun (u : Value) (d : PyData) => ∃ x, RelV x u ∧ Rx x d) us ds
  | _, _, _, .nil, .nil => .nil
  | _, _, _, .cons h t, .cons r s => .cons ⟨_, r, h⟩ (each_of_paired t s)
theorem paired_of_each {Rx : V → PyData → Prop} : ∀ {us : List Value} {ds : List PyData}, PySem.W.EachIs (fun (u : Value) (d : PyData) => ∃ x, RelV x u ∧ Rx x d) us ds → ∃ ys, Vals ys us ∧ Paired Rx ys ds
  | _, _, .nil => ⟨[], .nil, .nil⟩
  | _, _, .cons ⟨x, r, h⟩ t => by
    obtain ⟨ys, a, b⟩ := paired_of_each t
    exact ⟨x :: ys, .cons r a, .cons h b⟩
theorem call_sortedDD {X : Cx} (hu : X.A.units + 80 < cLine) : CallR X (.builtin "sorted") (rSortedD X.K) := by
  intro pins s σ H vs us Q I r h
  obtain ⟨a, xs, ds, Rx, rfl, hs, hd, hx, hal, hso, hdp, q⟩ := h
  obtain ⟨its, rv, hl, hz⟩ := I.list hs
  rw [Vals.ref1 r]
  obtain ⟨as, hr⟩ := Dp.readsAll I ds xs its hd rv
  have hn : xs.length = ds.length := by
    have : ∀ {xs : List V} {ds : List PyData}, Paired Rx xs ds → xs.length = ds.length := fun h => Paired.length h
    exact this hx
  have em : ds.map id = ds := List.map_id ds
  have hal' : PySem.W.AllAlike (ds.map id) := by rw [em]; exact hal
  have hso' : PySem.W.Sortable (ds.map id) := by rw [em]; exact hso
  have hr' : ReadsAll s.heap its (ds.map id) as := by rw [em]; exact hr
  refine PySem.W.sorted_data (enc := id) hl.isList (each_of_paired hx rv) (PySem.W.readsAll_each id hr') hal' hso' (by rw [← hn]; exact hz) (fun d hd' => ?_) fun out h1 h2 => ?_
  · have := hdp d hd'
    show X.A.units + 2 + d.depth < cLine
    omega
  · obtain ⟨ys, hv, hp⟩ := paired_of_each h2
    obtain ⟨ep, he'⟩ := PyProof.Rows.sortedAll_at s.heap its out.toArray
    have hlen : ys.length ≤ sizeLine := by
      rw [hv.length, h1, ← hn]
      exact hz
    exact ⟨.ref _, upd H (s.heap.objs.size + 1) (.lst ys), I.laid (t' := s.toks) (fun _ _ => PyProof.Rows.sortedAll_old) (Nat.le_succ _) ⟨hlen, out, ep, hv, he'⟩, rfl, q ys _ hp (I.hok.fresh (Nat.le_succ _))⟩
def sortOk (ds : List PyData) : Bool := ds.all (fun d => ds.all fun e => PySem.W.alike d e) && (ds.all (fun d => match d with | .tuple (_ :: _) => true | _ => false) || ds.all (fun d => match d with | .none => false | .tuple _ => false | _ => true)) && ds.all SeqAt.shaped
def sortedD : List PyData → Option Sl
  | [.list ds] => if sortOk ds = true then some (.lst (ds.mergeSort (PySem.W.dataLe false id))) else none
  | _ => none
section
variable {K : PySem.W.Frag} {mg : Str → Option Value}
theorem Reps.paired {F : Hp} : ∀ {vs : List V} {ds : List PyData}, Reps K F vs ds → Paired (Rep K F) vs ds
  | _, _, .nil => .nil
  | _, _, .cons h r => .cons h (Reps.paired r)
theorem Reps.of_paired {F : Hp} : ∀ {vs : List V} {ds : List PyData}, Paired (Rep K F) vs ds → Reps K F vs ds
  | _, _, .nil => .nil
  | _, _, .cons h r => .cons h (Reps.of_paired r)
theorem sl_sorted : SndRL K mg (rSortedD K) sortedD := by
  intro F H vs ds s s0 h es Q q
  unfold sortedD at es
  split at es
  · rename_i xs
    split at es
    · rename_i hs
      cases es
      obtain ⟨v, rfl, g⟩ := h.one
      obtain ⟨p, ws, rfl, a1, b1⟩ := g.list s0
      unfold sortOk at hs
      rw [Bool.and_eq_true, Bool.and_eq_true] at hs
      obtain ⟨⟨h1, h2⟩, h3⟩ := hs
      have hsh : ∀ d ∈ xs, SeqAt.shaped d = true := List.all_eq_true.mp h3
      have hlay : PyData.canLayAll0 xs = true := by
        clear h1 h2 h3 q b1 a1 g h
        induction xs with
        | nil => rfl
        | cons d r ih =>
          rw [PyData.canLayAll0, SeqAt.canLay_of_shaped (hsh d (by simp)), ih fun e he => hsh e (by simp [he])]
          rfl
      refine ⟨p, ws, xs, Rep K F, rfl, .inl a1, (b1.mono s0).dp hlay, b1.paired, fun d hd e he => ?_, ?_, fun d hd => SeqAt.depth_of_shaped (hsh d hd), fun ys p' hp np => ?_⟩
      · exact List.all_eq_true.mp (List.all_eq_true.mp h1 d hd) e he
      · rw [Bool.or_eq_true] at h2
        rcases h2 with h2 | h2
        · left
          intro d hd
          have := List.all_eq_true.mp h2 d hd
          split at this
          · exact ⟨_, _, rfl⟩
          · cases this
        · right
          intro d hd
          have := List.all_eq_true.mp h2 d hd
          split at this
          · cases this
          · cases this
          · rename_i n1 n2
            exact ⟨n1, n2⟩
      · exact fin_lst s0 q (Reps.of_paired hp) p' np
    · cases es
  · cases es

/-! ### isinstance -/
def tyN : PyData → Option String
  | .none => some "NoneType"
  | .bool _ => some "bool"
  | .int _ => some "int"
  | .str _ => some "str"
  | .list _ => some "list"
  | .tuple _ => some "tuple"
  | .dict _ => none
def dIsi (T : String) (fa : AE) : EE := fun ρ => do
  let (a, ρ) ← fa ρ
  let d ← a.get ρ
  let n ← R.of (tyN d)
  let b ← R.of (kitB n T)
  pure (.dat (.bool b), ρ)
theorem tyx_of {F H : Hp} {v : V} {d : PyData} {n : String} (s0 : Same F H) (h : RepB K mg F H v d) (e : tyN d = some n) : TyX K H v (.type n) := by
  cases d with
  | none => cases e; rw [h.rep_none]; exact .base .non
  | bool b => cases e; rw [h.rep_bool]; exact .base (.bl b)
  | int b => cases e; rw [h.rep_int]; exact .base (.int b)
  | str b => cases e; rw [h.rep_str]; exact .base (.str b)
  | list ds =>
    cases e
    obtain ⟨p, ws, rfl, a1, _⟩ := h.list s0
    rcases a1 with a1 | ⟨o, a1⟩
    · exact .base (.lst a1)
    · exact .base (.frz a1)
  | tuple ds =>
    cases e
    obtain ⟨p, ws, rfl, a1, _, _⟩ := h.tuple s0
    rcases a1 with a1 | ⟨o, a1⟩
    · exact .base (.tup a1)
    · exact .fTuple a1
  | dict ds => cases e
theorem sn_isi {E : L2.St → XK} {T : String} {te : TE} {fa : AE} (h : SndA K mg E te fa) : SndE K mg E (tCB (rIsi K) (tCons te (tCons (tC (.ty T)) tNil))) (dIsi T fa) := by
  intro G F H σ ρ r0 Q q
  unfold dIsi at q
  rw [post_bind] at q
  refine h G F H σ ρ r0 _ (q.mono fun p ρ1 q1 v F1 H1 e1 r1 h1 => ?_)
  try dsimp only at q1
  obtain ⟨d, ed, q2⟩ := q1.get
  obtain ⟨n, en, q3⟩ := q2.of
  obtain ⟨b, eb, q4⟩ := q3.of
  exact ⟨v, .ty T, .type n, .type T, b, rfl, .ty T, tyx_of r1.sub (RPd.get r1 h1 ed) en, kit_ty eb, q4 _ F1 H1 [] e1 r1 (.dat (.bl b))⟩

/-! ### methods of texts with one argument -/
def dM1 (op : Str → PyData → Option Sl) (fa fb : AE) : EE := fun ρ => do
  let (a, ρ) ← fa ρ
  let x ← a.get ρ
  match x with
  | .str z => do
    let (b, ρ) ← fb ρ
    let y ← b.get ρ
    let s ← R.of (op z y)
    pure (s, ρ)
  | _ => .bad
def SndM1 (K : PySem.W.Frag) (mg : Str → Option Value) (r : V → List V → Hp → VK → Prop) (op : Str → PyData → Option Sl) : Prop := ∀ F H z w e s, Same F H → RepB K mg F H w e → op z e = some s →
  ∀ Q : VK, (∀ v' F' H' Os, Ext F H F' H' Os → RSl K mg F' H' v' s Os → Q v' H') → r (.str z) [w] H Q
theorem sn_m1 {E : L2.St → XK} {r : V → List V → Hp → VK → Prop} {op : Str → PyData → Option Sl} {ta tb : TE} {fa fb : AE} (hr : SndM1 K mg r op) (ha : SndA K mg E ta fa) (hb : SndA K mg E tb fb) : SndE K mg E (tM1 r ta tb) (dM1 op fa fb) := by
  intro G F H σ ρ r0 Q q
  unfold dM1 at q
  rw [post_bind] at q
  refine ha G F H σ ρ r0 _ (q.mono fun p ρ1 q1 v F1 H1 e1 r1 h1 => ?_)
  try dsimp only at q1
  obtain ⟨x, ex, q2⟩ := q1.get
  split at q2
  case h_2 => exact q2.elim
  rename_i z
  have hz := (RPd.get r1 h1 ex).rep_str
  subst hz
  refine ⟨⟨z, rfl⟩, ?_⟩
  rw [post_bind] at q2
  refine hb G F1 H1 σ ρ1 r1 _ (q2.mono fun p2 ρ2 q3 w F2 H2 e2 r2 h2 => ?_)
  try dsimp only at q3
  obtain ⟨y, ey, q4⟩ := q3.get
  obtain ⟨s, es, q5⟩ := q4.of
  exact hr F2 H2 z w y s r2.sub (RPd.get r2 h2 ey) es Q fun v' F3 H3 Os x3 h3 => q5 v' F3 H3 Os ((e1.trans e2).trans x3.f) (r2.ext x3) h3
def startsD (z : Str) : PyData → Option Sl
  | .str y => some (.dat (.bool (Txt.startswith z y)))
  | _ => none
def endsD (z : Str) : PyData → Option Sl
  | .str y => some (.dat (.bool (Txt.endswith z y)))
  | _ => none
def rStarts : V → List V → Hp → VK → Prop := fun x xs H Q => ∃ a b, x = .str a ∧ xs = [.str b] ∧ Q (.bl (Txt.startswith a b)) H
def rEnds : V → List V → Hp → VK → Prop := fun x xs H Q => ∃ a b, x = .str a ∧ xs = [.str b] ∧ Q (.bl (Txt.endswith a b)) H
theorem mt_startsU {X : Cx} : MtR X "str.startswith" rStarts := mt_startswith
theorem mt_endsU {X : Cx} : MtR X "str.endswith" rEnds := mt_endswith
theorem sm_starts : SndM1 K mg rStarts startsD := by
  intro F H z w e s s0 h es Q q
  unfold startsD at es
  split at es
  · cases es
    exact ⟨z, _, rfl, by rw [h.rep_str], fin_dat s0 q (.bl _)⟩
  · cases es
theorem sm_ends : SndM1 K mg rEnds endsD := by
  intro F H z w e s s0 h es Q q
  unfold endsD at es
  split at es
  · cases es
    exact ⟨z, _, rfl, by rw [h.rep_str], fin_dat s0 q (.bl _)⟩
  · cases es
end
end DL
namespace DL
open PySem PySem.Spec L2

/-! ### walks of a list, a tuple, a text, whichever it is; enumerate, zip -/
def iAny (K : PySem.W.Frag) (te : TE) : TI := fun σ H R => te σ H fun x H1 => (∃ a, x = .ref a ∧ (∃ xs, SqL K H1 a xs) ∧ R (Itl K a) H1) ∨ (∃ a, x = .ref a ∧ (∃ xs, SqT K H1 a xs) ∧ R (Itt K a) H1) ∨ ∃ z, x = .str z ∧ R (Its z) H1
theorem pi_any {X : Cx} {tg l : Expr} {tl : TE} (hl : PE X l tl) : PI X tg l (iAny X.K tl) := by
  refine ⟨fun pins s σ H R I h => ?_⟩
  refine thn (hl.run pins s σ H _ I h) fun v s1 ⟨x, H1, I1, r1, q1⟩ => ?_
  rcases q1 with ⟨a, e, ⟨xs, hq⟩, q⟩ | ⟨a, e, ⟨xs, hq⟩, q⟩ | ⟨z, e, q⟩
  · subst e
    cases r1
    obtain ⟨its, rv, p, hz⟩ := I1.list hq
    refine wpAny_pyIter_list p.isList ?_
    refine ⟨s1.heap.objs.size, [s1.heap.objs.size], _, _, H1, rfl, I1.kept (t' := s1.toks) fun b o e => Heap.get?_push_of_some _ e, turn_list a _, ⟨_, Heap.get?_push_size _ rfl, rfl, rfl⟩, fun b hb => ?_, q⟩
    have e : b = s1.heap.objs.size := by simpa using hb
    subst e
    exact I1.fpOk (Nat.le_refl _) (I1.hok.fresh (Nat.le_refl _))
  · subst e
    cases r1
    obtain ⟨its, rv, p, hz⟩ := I1.tuple hq
    refine wpAny_pyIter_tuple (show s1.heap.IsTuple a its.toArray from p) ?_
    refine ⟨s1.heap.objs.size, [s1.heap.objs.size], _, _, H1, rfl, I1.kept (t' := s1.toks) fun b o e => Heap.get?_push_of_some _ e, turn_tuple a _, ⟨_, Heap.get?_push_size _ rfl, rfl, rfl⟩, fun b hb => ?_, q⟩
    have e : b = s1.heap.objs.size := by simpa using hb
    subst e
    exact I1.fpOk (Nat.le_refl _) (I1.hok.fresh (Nat.le_refl _))
  · subst e
    obtain ⟨t, rfl⟩ := r1
    cases ha : z.cps.all (· < 128)
    · exact wpAny_pyIter_wide ha (pi_one (tk := s1.toks) I1 _ (turn_str _ z t "str_iterator" (.inr rfl)) ⟨_, Heap.get?_push_size _ rfl, rfl, rfl⟩ q)
    · exact wpAny_pyIter_ascii ha (pi_one (tk := s1.toks) I1 _ (turn_str _ z t "str_ascii_iterator" (.inl rfl)) ⟨_, Heap.get?_push_size _ rfl, rfl, rfl⟩ q)
def signs (z : Str) : List PyData := z.cps.toList.map fun c => .str ⟨#[c]⟩
def iA (f : EE) : DE := fun ρ => do
  let (s, ρ) ← f ρ
  match frz s with
  | some (.list ds) => pure (ds, ρ)
  | some (.tuple ds) => pure (ds, ρ)
  | some (.dict [(.list ds, .none)]) => pure (ds, ρ)
  | some (.str z) => pure (signs z, ρ)
  | _ => .bad
section
variable {K : PySem.W.Frag} {mg : Str → Option Value} {E : L2.St → XK}
theorem wk_str {F : Hp} {z : Str} : Wk K (Its z) F (signs z) where
  stop := fun i H _ hi => by
    show z.cps.size ≤ i
    simpa [signs] using hi
  go := fun i H _ hi => by
    show i < z.cps.size
    simpa [signs] using hi
  yld := fun i H F2 x H' s1 s2 y hi => by
    obtain ⟨rfl, c, hc, rfl⟩ := y
    refine ⟨.str ⟨#[c]⟩, F2, ?_, Ext.refl s2, .str _⟩
    unfold signs
    rw [List.getElem?_map, Array.getElem?_toList, hc]
    rfl
theorem sn_iA {te : TE} {f : EE} (h : SndE K mg E te f) : SndI K mg E (iAny K te) (iA f) := by
  intro G F H σ ρ r Q q
  unfold iA at q
  rw [post_bind] at q
  refine h G F H σ ρ r _ (q.mono fun s ρ1 q1 v F1 H1 Os e1 r1 h1 => ?_)
  try dsimp only at q1
  split at q1
  · rename_i ds ed
    obtain ⟨F2, a, b, c⟩ := r1.freeze h1 ed
    cases c with
    | lst hs hr => exact .inl ⟨_, rfl, ⟨_, .inl (Same.rd b.sub hs)⟩, q1 _ F2 H1 (e1.trans a) b (wk_list (.inl hs) hr)⟩
  · rename_i ds ed
    obtain ⟨F2, a, b, c⟩ := r1.freeze h1 ed
    cases c with
    | tup hs hr => exact .inr (.inl ⟨_, rfl, ⟨_, .inl (.inl (b.sub _ _ hs))⟩, q1 _ F2 H1 (e1.trans a) b (wk_tup (.inl (.inl hs)) hr)⟩)
  · rename_i ds ed
    obtain ⟨F2, a, b, c⟩ := r1.freeze h1 ed
    obtain ⟨p, ws, rfl, a1, b1⟩ := (RepB.of (mg := mg) (H := F2) c).scr (Same.refl F2)
    exact .inl ⟨_, rfl, ⟨_, Same.sql b.sub a1⟩, q1 _ F2 H1 (e1.trans a) b (wk_list a1 b1)⟩
  · rename_i z ed
    obtain ⟨F2, a, b, c⟩ := r1.freeze h1 ed
    cases c with
    | str => exact .inr (.inr ⟨z, rfl, q1 _ F2 H1 (e1.trans a) b wk_str⟩)
  · exact q1.elim
def enumD (n : Nat) : List PyData → List PyData
  | [] => []
  | d :: ds => .tuple [.int (n : Nat), d] :: enumD (n + 1) ds
theorem enumD_get : ∀ (ds : List PyData) (n i : Nat), (enumD n ds)[i]? = (ds[i]?).map fun d => .tuple [.int ((n + i : Nat)), d]
  | [], _, _ => by simp [enumD]
  | d :: ds, n, 0 => by simp [enumD]
  | d :: ds, n, i + 1 => by
    have := enumD_get ds (n + 1) i
    simp only [enumD, List.getElem?_cons_succ]
    rw [this, show n + 1 + i = n + (i + 1) by omega]
theorem enumD_len : ∀ (ds : List PyData) (n : Nat), (enumD n ds).length = ds.length
  | [], _ => rfl
  | _ :: ds, n => congrArg (· + 1) (enumD_len ds (n + 1))
theorem wk_enum {F : Hp} {a : Addr} {xs : List V} {ds : List PyData} (h : SqL K F a xs) (r : Reps K F xs ds) : Wk K (Ite K a) F (enumD 0 ds) where
  stop := fun i H s hi => ⟨xs, Same.sql s h, by rw [r.length]; simpa [enumD_len] using hi⟩
  go := fun i H s hi => by
    have hi : i < ds.length := by simpa [enumD_len] using hi
    obtain ⟨v, e, _⟩ := r.get (i := i) (d := ds[i]) (by simp [hi])
    exact ⟨xs, v, Same.sql s h, e⟩
  yld := fun i H F2 x H' s1 s2 y hi => by
    obtain ⟨T, x', rfl, nT, rfl, y⟩ := y
    have e := y xs (Same.sql (s1.trans s2) h)
    obtain ⟨d, ed, hd⟩ := r.getV e
    have x2 := Ext.data (o := .tup [.int (i : Nat), x']) s2 nT
    refine ⟨.tuple [.int (i : Nat), d], _, ?_, x2, .tup upd_same (.cons (.int _) (.cons (hd.mono (s1.trans x2.f)) .nil))⟩
    rw [enumD_get, ed]
    simp
def iEn (fl : LE) : DE := fun ρ => do
  let (ps, ρ) ← fl ρ
  let ds ← R.of (getsF ρ ps)
  match ds with
  | [.list ds] => pure (enumD 0 ds, ρ)
  | _ => .bad
/-- a weaker promise -/
theorem fn_weak {P : Program} {w : World} {base : Heap} {CX : CXT} {k : Nat} {f : Addr} {fd : FuncData} {ps : List Str} {sp sp' : Sp} (F : FnOk P w K mg base CX k f fd ps sp) (h : ∀ vs H Q E, sp' vs H Q E → sp vs H Q E) : FnOk P w K mg base CX k f fd ps sp' :=
  ⟨fun vs H Q E q => F.len vs H Q E (h vs H Q E q), fun A outer s H args us vs Q E a b c d q => F.run A outer s H args us vs Q E a b c d (h vs H Q E q)⟩
/-- what a law is asked -/
def spLaw (K : PySem.W.Frag) : Sp := fun vs H Q _ => ∃ (a : Addr) (ns : List Int), vs = [.ref a] ∧ SqL K H a (ns.map V.int) ∧ ns.length ≤ 63 ∧ (∀ z ∈ ns, Builtin.Int.intBits z ≤ 1048576) ∧ ∀ H', Q (.bl true) H'
def scrD (ns : List Int) : PyData := .dict [(.list (ns.map .int), .none)]
theorem sp_law {fD : EE} (h : ∀ ns : List Int, ns.length ≤ 63 → (∀ z ∈ ns, Builtin.Int.intBits z ≤ 1048576) → ∃ ρ, fD [some (.dat (scrD ns))] = .ok (.dat (.bool true), ρ)) (vs : List V) (H : Hp) (Q : VK) (E : XK) (q : spLaw K vs H Q E) : spF K mg fD vs H Q E := by
  obtain ⟨a, ns, rfl, hS, h63, hb, q⟩ := q
  obtain ⟨ρ, e⟩ := h ns h63 hb
  refine ⟨H, [some (.dat (scrD ns))], [], Same.refl H, .som (O := []) (.dat (.scr hS reps_int)) .nil, List.nodup_nil, fun _ h => (by cases h), ?_⟩
  rw [e]
  intro v F' H' Os r hv
  cases hv with
  | dat hv => cases hv; exact q H'
theorem sn_iEn {ta : TA} {fl : LE} (h : SndL K mg E ta fl) : SndI K mg E (iEnum K ta) (iEn fl) := by
  intro G F H σ ρ r Q q
  unfold iEn at q
  rw [post_bind] at q
  refine h G F H σ ρ r _ (q.mono fun ps ρ1 q1 vs F1 H1 e1 r1 h1 => ?_)
  try dsimp only at q1
  obtain ⟨ds, ed, q2⟩ := q1.of
  have hd := h1.getsF r1 ed
  split at q2
  · rename_i xs
    cases hd with
    | cons hd t =>
      cases t
      cases hd with
      | lst hs hr => exact ⟨_, _, rfl, .inl (Same.rd r1.sub hs), q2 _ F1 H1 e1 r1 (wk_enum (.inl hs) hr)⟩
  · exact q2.elim
end
end DL
namespace DL
open PySem PySem.Spec L2
theorem hu80 {k : Nat} {A : Around} (r : Room k A) : A.units + 80 < cLine := by have := r.un; omega
theorem hu65 {k : Nat} {A : Around} (r : Room k A) : A.units + 65 < cLine := by have := r.un; omega
def bYes : BE := fun ρ => .ok (true, ρ)
theorem sn_yes {K : PySem.W.Frag} {mg : Str → Option Value} {E : L2.St → XK} : SndT K mg E tYes bYes := fun _ F H _ _ r _ q => q F H (Same.refl F) r
end DL
namespace DL
open PySem PySem.Spec L2
/-! ### range with a step -/
def stepD (i c : Int) (n : Nat) : List PyData := (List.range n).map fun k => .int (i + (k : Nat) * c)
def rgOk (i j c : Int) : Bool := decide (c ≠ 0 ∧ c.natAbs < 1073741824) && Builtin.Range.small i j c && decide (0 ≤ Builtin.Range.rangeSize i j c)
def iR3 (fl : LE) : DE := fun ρ => do
  let (ps, ρ) ← fl ρ
  let ds ← getsB ρ ps
  match ds with
  | [.int i, .int j, .int c] => if rgOk i j c = true then pure (stepD i c (Builtin.Range.rangeSize i j c).toNat, ρ) else .bad
  | _ => .bad
section
variable {K : PySem.W.Frag} {mg : Str → Option Value} {E : L2.St → XK}
theorem wk_step {F : Hp} {i c : Int} {n : Nat} : Wk K (Itc i c n) F (stepD i c n) where
  stop := fun k H _ hi => by
    show n ≤ k
    simpa [stepD] using hi
  go := fun k H _ hi => by
    show k < n
    simpa [stepD] using hi
  yld := fun k H F2 x H' s1 s2 y hi => by
    obtain ⟨rfl, rfl⟩ := y
    have hi' : k < n := by simpa [stepD] using hi
    exact ⟨.int (i + k * c), F2, by simp [stepD, hi'], Ext.refl s2, .int _⟩
theorem sn_iR3 {ta : TA} {fl : LE} (h : SndL K mg E ta fl) : SndI K mg E (iRng3 ta) (iR3 fl) := by
  intro G F H σ ρ r Q q
  unfold iR3 at q
  rw [post_bind] at q
  refine h G F H σ ρ r _ (q.mono fun s ρ1 q1 vs F1 H1 e1 r1 h1 => ?_)
  try dsimp only at q1
  obtain ⟨ds, ed, q2⟩ := q1.getsB
  have hb := h1.getsB r1 ed
  split at q2
  · rename_i i j c
    split at q2
    · rename_i hj
      cases hb with
      | cons hb1 t =>
        cases t with
        | cons hb2 t =>
          cases t with
          | cons hb3 t =>
            cases t
            have := hb1.rep_int
            subst this
            have := hb2.rep_int
            subst this
            have := hb3.rep_int
            subst this
            unfold rgOk at hj
            rw [Bool.and_eq_true, Bool.and_eq_true] at hj
            obtain ⟨⟨h1, h2⟩, h3⟩ := hj
            have h1 := of_decide_eq_true h1
            have h3 := of_decide_eq_true h3
            exact ⟨i, j, c, _, rfl, ⟨h1.1, h1.2, h2, (Int.toNat_of_nonneg h3).symm⟩, q2 _ F1 H1 e1 r1 wk_step⟩
    · exact q2.elim
  · exact q2.elim
end
theorem fits_of {i : Int} (h : -9223372036854775808 ≤ i ∧ i < 9223372036854775808) : Builtin.Range.rangeFitsLong i = true := by
  unfold Builtin.Range.rangeFitsLong
  have e : (2 : Int) ^ 63 = 9223372036854775808 := by decide
  rw [e, Bool.and_eq_true]
  exact ⟨decide_eq_true h.1, decide_eq_true h.2⟩
theorem rgOk_pos {i j c : Int} (h1 : -1000000000 ≤ i ∧ i < 1000000000) (h2 : -1000000000 ≤ j ∧ j < 1000000000) (h3 : 0 < c ∧ c < 1000000) : rgOk i j c = true := by
  have hn : 0 ≤ Builtin.Range.rangeSize i j c ∧ Builtin.Range.rangeSize i j c ≤ 2000000001 := by
    unfold Builtin.Range.rangeSize
    rw [if_pos h3.1]
    split
    · have a : 0 ≤ (j - i - 1) / c := Int.ediv_nonneg (by omega) (by omega)
      have b : (j - i - 1) / c ≤ j - i - 1 := Int.ediv_le_self _ (by omega)
      omega
    · omega
  have hp : Builtin.Range.rangeSize i j c * c ≤ 2000000001 * 1000000 := by
    have : Builtin.Range.rangeSize i j c * c ≤ 2000000001 * c := Int.mul_le_mul_of_nonneg_right hn.2 (by omega)
    omega
  have hq : 0 ≤ Builtin.Range.rangeSize i j c * c := Int.mul_nonneg hn.1 (by omega)
  unfold rgOk Builtin.Range.small
  simp only [Bool.and_eq_true]
  refine ⟨⟨decide_eq_true ⟨by omega, by omega⟩, ⟨⟨⟨⟨fits_of (by omega), fits_of (by omega)⟩, fits_of (by omega)⟩, fits_of (by omega)⟩, ?_⟩⟩, decide_eq_true hn.1⟩
  rw [Bool.or_eq_true]
  right
  rw [if_pos h3.1]
  exact fits_of (by omega)
theorem rgOk_neg {i j c : Int} (h1 : -1000000000 ≤ i ∧ i < 1000000000) (h2 : -1000000000 ≤ j ∧ j < 1000000000) (h3 : c < 0 ∧ -1000000 < c) : rgOk i j c = true := by
  have hn : 0 ≤ Builtin.Range.rangeSize i j c ∧ Builtin.Range.rangeSize i j c ≤ 2000000001 := by
    unfold Builtin.Range.rangeSize
    rw [if_neg (by omega)]
    split
    · have a : 0 ≤ (i - j - 1) / (-c) := Int.ediv_nonneg (by omega) (by omega)
      have b : (i - j - 1) / (-c) ≤ i - j - 1 := Int.ediv_le_self _ (by omega)
      omega
    · omega
  have hp : Builtin.Range.rangeSize i j c * (-c) ≤ 2000000001 * 1000000 := by
    have : Builtin.Range.rangeSize i j c * (-c) ≤ 2000000001 * (-c) := Int.mul_le_mul_of_nonneg_right hn.2 (by omega)
    omega
  have hq : 0 ≤ Builtin.Range.rangeSize i j c * (-c) := Int.mul_nonneg hn.1 (by omega)
  rw [Int.mul_neg] at hp hq
  unfold rgOk Builtin.Range.small
  simp only [Bool.and_eq_true]
  refine ⟨⟨decide_eq_true ⟨by omega, by omega⟩, ⟨⟨⟨⟨fits_of (by omega), fits_of (by omega)⟩, fits_of (by omega)⟩, fits_of (by omega)⟩, ?_⟩⟩, decide_eq_true hn.1⟩
  rw [Bool.or_eq_true]
  right
  rw [if_neg (by omega)]
  exact fits_of (by omega)
end DL
/-! DLj: what a computation gives, in a word: sat (it ends well and gives what Q says). Equations for simp. -/
namespace DL
open PySem PySem.Spec L2

/-- what is wanted of an exception -/
class XW where
  E : Xc → Env → Prop
/-- nothing is let out -/
instance (priority := low) noXW : XW := ⟨fun _ _ => False⟩
def sat {α : Type} [W : XW] (r : R α) (Q : α → Prop) : Prop := match r with
  | .ok a => Q a
  | .ex x ρ => W.E x ρ
  | .bad => False
def osat {α : Type} (r : Option α) (Q : α → Prop) : Prop := match r with
  | some a => Q a
  | none => False
/-- a mark by which simp leaves what comes behind untouched until what comes first is known -/
structure Tg {β : Type} (x : β) : Type where
def satH {α : Type} [W : XW] (r : R α) (Q : α → Prop) (_ : Tg Q) : Prop := sat r Q
def osatH {α : Type} (r : Option α) (Q : α → Prop) (_ : Tg Q) : Prop := osat r Q
@[simp] theorem noXW_E {x : Xc} {ρ : Env} : @XW.E noXW x ρ = False := rfl
@[simp] theorem mkXW_E {f : Xc → Env → Prop} {x : Xc} {ρ : Env} : @XW.E ⟨f⟩ x ρ = f x ρ := rfl
section
variable {α β : Type} {W : XW} {Q : α → Prop} {t : Tg Q}
@[simp ↓] theorem satH_ok (a : α) : satH (.ok a) Q t = Q a := (Eq.trans rfl rfl)
@[simp ↓] theorem osatH_some (a : α) : osatH (some a) Q t = Q a := (Eq.trans rfl rfl)
@[simp ↓] theorem osatH_none : osatH (none : Option α) Q t = False := (Eq.trans rfl rfl)
theorem satH_eq (r : R α) : satH r Q t = sat r Q := rfl
theorem osatH_eq (r : Option α) : osatH r Q t = osat r Q := rfl
theorem satH_det {r : R α} {a : α} (h : @sat _ noXW r fun p => p = a) : satH r Q t = Q a := by
  unfold satH
  cases r with
  | ok b => have h : b = a := h; rw [h]; rfl
  | ex => exact h.elim
  | bad => exact h.elim
theorem satH_mono {r : R α} {P : α → Prop} (h : @sat _ noXW r P) (k : ∀ a, P a → Q a) : satH r Q t := by
  unfold satH
  cases r <;> first | exact k _ h | exact h.elim
theorem osatH_mono {r : Option α} {P : α → Prop} (h : osat r P) (k : ∀ a, P a → Q a) : osatH r Q t := by
  unfold osatH
  cases r <;> first | exact k _ h | exact h
/-- of a def that may raise -/
theorem satH_monoX {W' : XW} {r : R α} {P : α → Prop} (h : @sat _ W' r P) (k : ∀ a, P a → Q a) (e : ∀ x ρ, W'.E x ρ → W.E x ρ) : satH r Q t := by
  unfold satH
  cases r <;> first | exact k _ h | exact e _ _ h | exact h
end
section
variable {α β : Type} {W : XW} {Q : α → Prop}
@[simp ↓] theorem sat_ok (a : α) : sat (.ok a) Q = Q a := (Eq.trans rfl rfl)
@[simp ↓] theorem sat_bad : sat (.bad : R α) Q = False := (Eq.trans rfl rfl)
@[simp ↓] theorem sat_ex (x : Xc) (ρ : Env) : sat (.ex x ρ : R α) Q = W.E x ρ := (Eq.trans rfl rfl)
@[simp ↓] theorem osat_some (a : α) : osat (some a) Q = Q a := (Eq.trans rfl rfl)
@[simp ↓] theorem osat_none : osat (none : Option α) Q = False := (Eq.trans rfl rfl)
@[simp ↓] theorem sat_of (o : Option α) : sat (R.of o) Q = osat o Q := by cases o <;> rfl
theorem sat_bind {r : R β} {g : β → R α} : sat (r >>= g) Q = sat r fun b => sat (g b) Q := by cases r <;> rfl
@[simp ↓] theorem sat_ite {c : Prop} [Decidable c] {a b : R α} : sat (if c then a else b) Q = if c then sat a Q else sat b Q := by split <;> rfl
@[simp ↓] theorem osat_ite {c : Prop} [Decidable c] {a b : Option α} : osat (if c then a else b) Q = if c then osat a Q else osat b Q := by split <;> rfl
@[simp ↓] theorem osat_map {o : Option β} {f : β → α} : osat (o.map f) Q = osat o fun b => Q (f b) := by cases o <;> rfl
@[simp ↓] theorem osat_bind {o : Option β} {f : β → Option α} : osat (o.bind f) Q = osat o fun b => osat (f b) Q := by cases o <;> rfl
theorem sat_mono {r : R α} {P : α → Prop} (h : sat r P) (k : ∀ a, P a → Q a) : sat r Q := by cases r <;> first | exact k _ h | exact h
theorem osat_mono {r : Option α} {P : α → Prop} (h : osat r P) (k : ∀ a, P a → Q a) : osat r Q := by cases r <;> first | exact k _ h | exact h
theorem sat_iff {r : R α} : @sat _ noXW r Q ↔ ∃ a, r = .ok a ∧ Q a := by cases r <;> simp
theorem osat_iff {r : Option α} : osat r Q ↔ ∃ a, r = some a ∧ Q a := by cases r <;> simp
theorem sat_eq {r : R α} {a : α} (h : r = .ok a) : sat r Q = Q a := by rw [h]; rfl
end
theorem lineOk_iff (n : Nat) : (lineOk n = true) = (n ≤ 16777216) := by
  unfold lineOk
  rw [decide_eq_true_eq]
  rfl
/-! what is found in a slot, in a value; said so that simp goes from the outside in -/
def slotK (ρ : Env) (i : Nat) (Q : Sl → Prop) : Prop := match ρ[i]? with
  | some (some s) => Q s
  | _ => False
def setK (ρ : Env) (i : Nat) (s : Option Sl) (Q : Env → Prop) : Prop := i < ρ.length ∧ Q (ρ.set i s)
def datK (s : Sl) (Q : PyData → Prop) : Prop := match s with
  | .dat d => Q d
  | _ => False
def lstK (s : Sl) (Q : List PyData → Prop) : Prop := match s with
  | .lst d => Q d
  | _ => False
def boolK (s : Sl) (Q : Bool → Prop) : Prop := match s with
  | .dat (.bool b) => Q b
  | _ => False
def intK (s : Sl) (Q : Int → Prop) : Prop := match s with
  | .dat (.int b) => Q b
  | _ => False
def strK (s : PyData) (Q : Str → Prop) : Prop := match s with
  | .str b => Q b
  | _ => False
def ifK (c : Prop) (A B : Prop) : Prop := (c → A) ∧ (¬ c → B)
theorem slotK_def {ρ : Env} {i : Nat} {Q : Sl → Prop} : slotK ρ i Q = match ρ[i]? with | some (some s) => Q s | _ => False := rfl
section
variable {ρ : Env} {i : Nat} {a : Option Sl} {s : Sl} {Q : Sl → Prop}
@[simp ↓] theorem slotK_zero : slotK (some s :: ρ) 0 Q = Q s := (Eq.trans rfl rfl)
@[simp ↓] theorem slotK_no : slotK (none :: ρ) 0 Q = False := (Eq.trans rfl rfl)
@[simp ↓] theorem slotK_succ : slotK (a :: ρ) (i + 1) Q = slotK ρ i Q := by simp [slotK]
@[simp ↓] theorem setK_zero {x : Option Sl} {Q} : setK (a :: ρ) 0 x Q = Q (x :: ρ) := by simp [setK]
@[simp ↓] theorem setK_succ {x : Option Sl} {Q} : setK (a :: ρ) (i + 1) x Q = setK ρ i x fun ρ => Q (a :: ρ) := by simp [setK]
@[simp ↓] theorem datK_dat {d : PyData} {Q} : datK (.dat d) Q = Q d := (Eq.trans rfl rfl)
@[simp ↓] theorem lstK_lst {d : List PyData} {Q} : lstK (.lst d) Q = Q d := (Eq.trans rfl rfl)
@[simp ↓] theorem lstK_dat {d : PyData} {Q} : lstK (.dat d) Q = False := (Eq.trans rfl rfl)
@[simp ↓] theorem boolK_bool {b : Bool} {Q} : boolK (.dat (.bool b)) Q = Q b := (Eq.trans rfl rfl)
@[simp ↓] theorem intK_int {b : Int} {Q} : intK (.dat (.int b)) Q = Q b := (Eq.trans rfl rfl)
@[simp ↓] theorem strK_str {b : Str} {Q} : strK (.str b) Q = Q b := (Eq.trans rfl rfl)
@[simp ↓] theorem osat_frz_dat {d : PyData} {Q} : osat (frz (.dat d)) Q = Q d := (Eq.trans rfl rfl)
@[simp ↓] theorem osat_frz_lst {d : List PyData} {Q} : osat (frz (.lst d)) Q = Q (.list d) := (Eq.trans rfl rfl)
end
section
variable {W : XW} {ρ : Env} {i : Nat}
@[simp ↓] theorem sat_dC {d : PyData} {Q} : sat (dC d ρ) Q = Q (.dat d, ρ) := (Eq.trans rfl rfl)
@[simp ↓] theorem sat_dN {Q} : sat (dN i ρ) Q = slotK ρ i fun s => osat (frz s) fun d => setK ρ i (some (.dat d)) fun ρ => Q (.dat d, ρ) := by
  unfold dN slotK setK
  cases h : ρ[i]? with
  | none => rfl
  | some o =>
    cases o with
    | none => rfl
    | some s =>
      have hi := (List.getElem?_eq_some_iff.mp h).1
      cases hf : frz s <;> simp [hf, hi]
@[simp ↓] theorem sat_aN {Q} : sat (aN i ρ) Q = slotK ρ i fun _ => Q (.late i, ρ) := by
  unfold aN slotK
  cases ρ[i]? with
  | none => rfl
  | some o => cases o <;> rfl
@[simp ↓] theorem sat_aV {f : EE} {Q} : sat (aV f ρ) Q = sat (f ρ) fun p => osat (frz p.1) fun d => Q (.val d, p.2) := by
  unfold aV
  rw [sat_bind]
  cases f ρ with
  | ok p => obtain ⟨s, ρ'⟩ := p; cases h : frz s <;> simp [h]
  | ex => rfl
  | bad => rfl
theorem sat_fz {f : EE} {Q} : sat (fz f ρ) Q = sat (f ρ) fun p => osat (frz p.1) fun d => Q (d, p.2) := by
  unfold fz
  rw [sat_bind]
  cases f ρ with
  | ok p => obtain ⟨s, ρ'⟩ := p; cases h : frz s <;> simp [h]
  | ex => rfl
  | bad => rfl
@[simp ↓] theorem sat_val {d : PyData} {Q} : sat ((Pd.val d).get ρ) Q = Q d := (Eq.trans rfl rfl)
@[simp ↓] theorem sat_late {Q} : sat ((Pd.late i).get ρ) Q = slotK ρ i fun s => osat (frz s) Q := by
  unfold Pd.get slotK
  dsimp only
  cases ρ[i]? with
  | none => rfl
  | some o =>
    cases o with
    | none => rfl
    | some s => exact sat_of (frz s)
@[simp ↓] theorem sat_dOp {op : PyData → PyData → Option Sl} {fa fb : AE} {Q} : sat (dOp op fa fb ρ) Q = sat (fa ρ) fun a => sat (fb a.2) fun b => sat (a.1.get b.2) fun x => sat (b.1.get b.2) fun y => osat (op x y) fun s => Q (s, b.2) := by
  unfold dOp
  simp only [sat_bind, sat_of, pure_ok, sat_ok]
@[simp ↓] theorem sat_dUn {op : PyData → Option Sl} {fa : AE} {Q} : sat (dUn op fa ρ) Q = sat (fa ρ) fun a => sat (a.1.get a.2) fun x => osat (op x) fun s => Q (s, a.2) := by
  unfold dUn
  simp only [sat_bind, sat_of, pure_ok, sat_ok]
@[simp ↓] theorem sat_lN {Q} : sat (lN ρ) Q = Q ([], ρ) := (Eq.trans rfl rfl)
@[simp ↓] theorem sat_lC {fa : AE} {fr : LE} {Q} : sat (lC fa fr ρ) Q = sat (fa ρ) fun a => sat (fr a.2) fun r => Q (a.1 :: r.1, r.2) := by
  unfold lC
  simp only [sat_bind, pure_ok, sat_ok]
@[simp ↓] theorem osat_getsF_nil {Q} : osat (getsF ρ []) Q = Q [] := (Eq.trans rfl rfl)
@[simp ↓] theorem osat_getsF {p : Pd} {ps : List Pd} {Q} : osat (getsF ρ (p :: ps)) Q = osat (p.getF ρ) fun d => osat (getsF ρ ps) fun ds => Q (d :: ds) := by
  show osat (match p.getF ρ with
    | some d => match getsF ρ ps with
      | some ds => some (d :: ds)
      | none => none
    | none => none) Q = _
  cases p.getF ρ with
  | none => rfl
  | some d => cases getsF ρ ps <;> rfl
@[simp ↓] theorem osat_getF_val {d : PyData} {Q} : osat ((Pd.val d).getF ρ) Q = Q d := (Eq.trans rfl rfl)
@[simp ↓] theorem osat_getF_late {Q} : osat ((Pd.late i).getF ρ) Q = slotK ρ i fun s => datK s Q := by
  unfold Pd.getF slotK
  dsimp only
  cases ρ[i]? with
  | none => rfl
  | some o =>
    cases o with
    | none => rfl
    | some s => cases s <;> rfl
@[simp ↓] theorem sat_getsB_nil {Q} : sat (getsB ρ []) Q = Q [] := (Eq.trans rfl rfl)
@[simp ↓] theorem sat_getsB {p : Pd} {ps : List Pd} {Q} : sat (getsB ρ (p :: ps)) Q = sat (p.get ρ) fun d => sat (getsB ρ ps) fun ds => Q (d :: ds) := by
  show sat (p.get ρ >>= fun d => getsB ρ ps >>= fun ds => pure (d :: ds)) Q = _
  simp only [sat_bind, pure_ok, sat_ok]
@[simp ↓] theorem sat_dLst {fl : LE} {Q} : sat (dLst fl ρ) Q = sat (fl ρ) fun p => osat (getsF p.2 p.1) fun ds => ds.length ≤ 16777216 ∧ Q (.lst ds, p.2) := by
  unfold dLst
  simp only [sat_bind, sat_of, pure_ok, sat_ite, sat_ok, sat_bad, lineOk_iff, if_false_right]
@[simp ↓] theorem sat_dTup {fl : LE} {Q} : sat (dTup fl ρ) Q = sat (fl ρ) fun p => osat (getsF p.2 p.1) fun ds => ds.length ≤ 16777216 ∧ Q (.dat (.tuple ds), p.2) := by
  unfold dTup
  simp only [sat_bind, sat_of, pure_ok, sat_ite, sat_ok, sat_bad, lineOk_iff, if_false_right]
@[simp ↓] theorem sat_dCB {op : List PyData → Option Sl} {fl : LE} {Q} : sat (dCB op fl ρ) Q = sat (fl ρ) fun p => sat (getsB p.2 p.1) fun ds => osat (op ds) fun s => Q (s, p.2) := by
  unfold dCB
  simp only [sat_bind, sat_of, pure_ok, sat_ok]
@[simp ↓] theorem sat_dB {f : EE} {Q} : sat (dB f ρ) Q = sat (f ρ) fun p => boolK p.1 fun b => Q (b, p.2) := by
  unfold dB
  rw [sat_bind]
  congr 1
  funext p
  obtain ⟨s, ρ'⟩ := p
  cases s with
  | dat d => cases d <;> first | rfl | simp only [sat_ite, pure_ok, sat_ok, boolK_bool]
  | _ => rfl
@[simp ↓] theorem sat_dAnd {f g : BE} {Q} : sat (dAnd f g ρ) Q = sat (f ρ) fun p => if p.1 = true then sat (g p.2) Q else Q (false, p.2) := by
  unfold dAnd
  simp only [sat_bind, pure_ok, sat_ite, sat_ok]
@[simp ↓] theorem sat_dOr {f g : BE} {Q} : sat (dOr f g ρ) Q = sat (f ρ) fun p => if p.1 = true then Q (true, p.2) else sat (g p.2) Q := by
  unfold dOr
  simp only [sat_bind, pure_ok, sat_ite, sat_ok]
@[simp ↓] theorem sat_dNot {f : BE} {Q} : sat (dNot f ρ) Q = sat (f ρ) fun p => Q (!p.1, p.2) := by
  unfold dNot
  simp only [sat_bind, pure_ok, sat_ok]
@[simp ↓] theorem sat_dAndV {f g : EE} {Q} : sat (dAndV f g ρ) Q = sat (f ρ) fun p => boolK p.1 fun b => if b = true then sat (g p.2) Q else Q (.dat (.bool false), p.2) := by
  unfold dAndV
  rw [sat_bind]
  congr 1
  funext p
  obtain ⟨s, ρ'⟩ := p
  cases s with
  | dat d => cases d <;> first | rfl | simp only [sat_ite, pure_ok, sat_ok, boolK_bool]
  | _ => rfl
@[simp ↓] theorem sat_dOrV {f g : EE} {Q} : sat (dOrV f g ρ) Q = sat (f ρ) fun p => boolK p.1 fun b => if b = true then Q (.dat (.bool true), p.2) else sat (g p.2) Q := by
  unfold dOrV
  rw [sat_bind]
  congr 1
  funext p
  obtain ⟨s, ρ'⟩ := p
  cases s with
  | dat d => cases d <;> first | rfl | simp only [sat_ite, pure_ok, sat_ok, boolK_bool]
  | _ => rfl
@[simp ↓] theorem sat_dNotV {f : EE} {Q} : sat (dNotV f ρ) Q = sat (f ρ) fun p => boolK p.1 fun b => Q (.dat (.bool (!b)), p.2) := by
  unfold dNotV
  rw [sat_bind]
  congr 1
  funext p
  obtain ⟨s, ρ'⟩ := p
  cases s with
  | dat d => cases d <;> first | rfl | simp only [sat_ite, pure_ok, sat_ok, boolK_bool]
  | _ => rfl
@[simp ↓] theorem sat_dIf {t : BE} {f g : EE} {Q} : sat (dIf t f g ρ) Q = sat (t ρ) fun p => if p.1 = true then sat (f p.2) Q else sat (g p.2) Q := by
  unfold dIf
  simp only [sat_bind, sat_ite]
@[simp ↓] theorem sat_oNo {Q} : sat (oNo ρ) Q = Q (none, ρ) := (Eq.trans rfl rfl)
@[simp ↓] theorem sat_oSo {f : EE} {Q} : sat (oSo f ρ) Q = sat (f ρ) fun p => intK p.1 fun i => Q (some i, p.2) := by
  unfold oSo
  rw [sat_bind]
  congr 1
  funext p
  obtain ⟨s, ρ⟩ := p
  cases s with
  | dat d => cases d <;> rfl
  | _ => rfl
@[simp ↓] theorem sat_dSl {fa : AE} {fl fh : OE} {Q} : sat (dSl fa fl fh ρ) Q = sat (fa ρ) fun a => sat (fl a.2) fun l => sat (fh l.2) fun u => sat (a.1.get u.2) fun d => osat (sliceD d l.1 u.1) fun s => Q (s, u.2) := by
  unfold dSl
  simp only [sat_bind, sat_of, pure_ok, sat_ok]
@[simp ↓] theorem sat_dIsi {T : String} {fa : AE} {Q} : sat (dIsi T fa ρ) Q = sat (fa ρ) fun a => sat (a.1.get a.2) fun d => osatH (tyN d) (fun n => osatH (kitB n T) (fun b => Q (.dat (.bool b), a.2)) ⟨⟩) ⟨⟩ := by
  unfold dIsi osatH
  simp only [sat_bind, sat_of, pure_ok, sat_ok]
@[simp ↓] theorem sat_dM1 {op : Str → PyData → Option Sl} {fa fb : AE} {Q} : sat (dM1 op fa fb ρ) Q = sat (fa ρ) fun a => sat (a.1.get a.2) fun x => strK x fun z => sat (fb a.2) fun b => sat (b.1.get b.2) fun y => osat (op z y) fun s => Q (s, b.2) := by
  unfold dM1
  rw [sat_bind]
  congr 1
  funext p
  obtain ⟨a, ρ'⟩ := p
  rw [sat_bind]
  congr 1
  funext x
  cases x <;> first | rfl | simp only [sat_bind, sat_of, pure_ok, sat_ok, strK_str]
@[simp ↓] theorem sat_noX {f : EE} {Q} {t : Tg Q} : satH (noX f ρ) Q t = @satH _ noXW (f ρ) Q t := by
  unfold noX satH
  cases f ρ <;> rfl
@[simp ↓] theorem sat_dCall {fD : EE} {refs : List Bool} {fl : LE} {Q} : sat (dCall fD refs fl ρ) Q = sat (fl ρ) fun p => osat (takeA p.1 refs p.2) fun q => @satH _ ⟨fun x ρo => W.E x (putA p.1 refs ρo q.2)⟩ (fD q.1) (fun r => Q (r.1, putA p.1 refs r.2 q.2)) ⟨⟩ := by
  unfold dCall satH
  rw [sat_bind]
  cases fl ρ with
  | ok p =>
    obtain ⟨ps, ρ'⟩ := p
    simp only [sat_ok, sat_bind, sat_of]
    cases takeA ps refs ρ' with
    | none => rfl
    | some q =>
      obtain ⟨ρc, ρ1⟩ := q
      simp only [osat_some]
      cases fD ρc <;> rfl
  | ex => rfl
  | bad => rfl
@[simp ↓] theorem osat_takeA_nil {bs : List Bool} {Q} : osat (takeA [] bs ρ) Q = Q ([], ρ) := (Eq.trans rfl rfl)
@[simp ↓] theorem osat_takeA_val {d : PyData} {ps : List Pd} {b : Bool} {bs : List Bool} {Q} : osat (takeA (.val d :: ps) (b :: bs) ρ) Q = osat (takeA ps bs ρ) fun q => Q (some (.dat d) :: q.1, q.2) := by
  conv => lhs; unfold takeA
  rw [List.tail_cons]
  cases takeA ps bs ρ <;> rfl
@[simp ↓] theorem osat_takeA_late_f {ps : List Pd} {bs : List Bool} {Q} : osat (takeA (.late i :: ps) (false :: bs) ρ) Q = slotK ρ i fun s => datK s fun d => osat (takeA ps bs ρ) fun q => Q (some (.dat d) :: q.1, q.2) := by
  conv => lhs; unfold takeA
  unfold slotK
  cases h : ρ[i]? with
  | none => rfl
  | some o =>
    cases o with
    | none => rfl
    | some s =>
      cases s with
      | dat d =>
        simp only [List.head?_cons, Option.some.injEq, Bool.false_eq_true, if_false, List.tail_cons]
        cases takeA ps bs ρ <;> rfl
      | _ => simp [datK]
@[simp ↓] theorem osat_takeA_late_t {ps : List Pd} {bs : List Bool} {Q} : osat (takeA (.late i :: ps) (true :: bs) ρ) Q = slotK ρ i fun s => setK ρ i none fun ρ => osat (takeA ps bs ρ) fun q => Q (some s :: q.1, q.2) := by
  conv => lhs; unfold takeA
  unfold slotK setK
  cases h : ρ[i]? with
  | none => rfl
  | some o =>
    cases o with
    | none => rfl
    | some s =>
      have hi := (List.getElem?_eq_some_iff.mp h).1
      simp only [List.head?_cons, if_true, List.tail_cons, hi, true_and]
      cases takeA ps bs (ρ.set i none) <;> rfl
@[simp] theorem putA_nil {bs : List Bool} {ρo : Env} : putA [] bs ρo ρ = ρ := (Eq.trans rfl rfl)
@[simp] theorem putA_val {d : PyData} {ps : List Pd} {b : Bool} {bs : List Bool} {s : Option Sl} {ρo : Env} : putA (.val d :: ps) (b :: bs) (s :: ρo) ρ = putA ps bs ρo ρ := by cases b <;> cases s <;> rfl
@[simp] theorem putA_f {ps : List Pd} {bs : List Bool} {s : Option Sl} {ρo : Env} : putA (.late i :: ps) (false :: bs) (s :: ρo) ρ = putA ps bs ρo ρ := by cases s <;> rfl
@[simp] theorem putA_n {ps : List Pd} {bs : List Bool} {b : Bool} {ρo : Env} : putA (.late i :: ps) (b :: bs) (none :: ρo) ρ = putA ps bs ρo ρ := by cases b <;> rfl
@[simp] theorem putA_t {ps : List Pd} {bs : List Bool} {s : Sl} {ρo : Env} : putA (.late i :: ps) (true :: bs) (some s :: ρo) ρ = match ρ[i]? with
    | some none => putA ps bs ρo (ρ.set i (some s))
    | _ => putA ps bs ρo ρ := (Eq.trans rfl rfl)
@[simp] theorem maskE_nil : maskE [] ρ = [] := by cases ρ <;> rfl
@[simp] theorem maskE_nil2 {b : List Bool} : maskE b [] = [] := by cases b <;> rfl
@[simp] theorem maskE_f {bs : List Bool} {s : Option Sl} : maskE (false :: bs) (s :: ρ) = none :: maskE bs ρ := (Eq.trans rfl rfl)
@[simp] theorem maskE_t {bs : List Bool} {s : Option Sl} : maskE (true :: bs) (s :: ρ) = s :: maskE bs ρ := (Eq.trans rfl rfl)
/-! statements -/
@[simp ↓] theorem sat_sNx {Q} : sat (sNx ρ) Q = Q (.nx ρ) := (Eq.trans rfl rfl)
@[simp ↓] theorem sat_sBk {Q} : sat (sBk ρ) Q = Q (.bk ρ) := (Eq.trans rfl rfl)
@[simp ↓] theorem sat_sCt {Q} : sat (sCt ρ) Q = Q (.ct ρ) := (Eq.trans rfl rfl)
@[simp ↓] theorem sat_sRet0 {Q} : sat (sRet0 ρ) Q = Q (.rt (.dat .none) ρ) := (Eq.trans rfl rfl)
def thenS [W2 : XW] (g : SE) (Q : Out → Prop) : Out → Prop
  | .nx ρ => sat (g ρ) Q
  | o => Q o
@[simp ↓] theorem thenS_nx {g : SE} {Q} : thenS g Q (.nx ρ) = sat (g ρ) Q := (Eq.trans rfl rfl)
@[simp ↓] theorem thenS_rt {g : SE} {Q} {s : Sl} : thenS g Q (.rt s ρ) = Q (.rt s ρ) := (Eq.trans rfl rfl)
@[simp ↓] theorem thenS_bk {g : SE} {Q} : thenS g Q (.bk ρ) = Q (.bk ρ) := (Eq.trans rfl rfl)
@[simp ↓] theorem thenS_ct {g : SE} {Q} : thenS g Q (.ct ρ) = Q (.ct ρ) := (Eq.trans rfl rfl)
@[simp ↓] theorem sat_sSeq {f g : SE} {Q} : sat (sSeq f g ρ) Q = sat (f ρ) (thenS g Q) := by
  unfold sSeq
  rw [sat_bind]
  cases f ρ with
  | ok o => cases o <;> rfl
  | ex => rfl
  | bad => rfl
@[simp ↓] theorem sat_sSet {f : EE} {Q} : sat (sSet i f ρ) Q = sat (f ρ) fun p => setK p.2 i (some p.1) fun ρ => Q (.nx ρ) := by
  unfold sSet setK
  simp only [sat_bind, sat_ite, pure_ok, sat_ok, sat_bad, if_false_right]
@[simp ↓] theorem sat_sDat {f : EE} {Q} : sat (sDat i f ρ) Q = sat (f ρ) fun p => osat (frz p.1) fun d => setK p.2 i (some (.dat d)) fun ρ => Q (.nx ρ) := by
  unfold sDat setK
  simp only [sat_bind, sat_of, sat_ite, pure_ok, sat_ok, sat_bad, if_false_right]
@[simp ↓] theorem sat_sDrop {f : EE} {Q} : sat (sDrop f ρ) Q = sat (f ρ) fun p => Q (.nx p.2) := by
  unfold sDrop
  simp only [sat_bind, pure_ok, sat_ok]
@[simp ↓] theorem sat_sRet {f : EE} {Q} : sat (sRet f ρ) Q = sat (f ρ) fun p => Q (.rt p.1 p.2) := by
  unfold sRet
  simp only [sat_bind, pure_ok, sat_ok]
@[simp ↓] theorem sat_sRetN {Q} : sat (sRetN i ρ) Q = slotK ρ i fun s => setK ρ i none fun ρ => Q (.rt s ρ) := by
  unfold sRetN slotK setK
  cases h : ρ[i]? with
  | none => rfl
  | some o =>
    cases o with
    | none => rfl
    | some s =>
      have hi := (List.getElem?_eq_some_iff.mp h).1
      simp [hi]
@[simp ↓] theorem sat_sIf {t : BE} {f g : SE} {Q} : sat (sIf t f g ρ) Q = sat (t ρ) fun p => if p.1 = true then sat (f p.2) Q else sat (g p.2) Q := by
  unfold sIf
  simp only [sat_bind, sat_ite]
@[simp ↓] theorem sat_sAug {op : PyData → PyData → Option Sl} {fa : AE} {Q} : sat (sAug i op fa ρ) Q = slotK ρ i fun s => datK s fun x => sat (fa ρ) fun a => sat (a.1.get a.2) fun y => osat (op x y) fun s => osat (frz s) fun d => Q (.nx (a.2.set i (some (.dat d)))) := by
  unfold sAug slotK
  cases ρ[i]? with
  | none => rfl
  | some o =>
    cases o with
    | none => rfl
    | some s => cases s <;> first | rfl | simp only [sat_bind, sat_of, pure_ok, sat_ok, datK_dat]
@[simp ↓] theorem sat_sUnp {g : PyData → Env → Option Env} {f : EE} {Q} : sat (sUnp g f ρ) Q = sat (f ρ) fun p => osat (frz p.1) fun d => osat (g d p.2) fun ρ => Q (.nx ρ) := by
  unfold sUnp
  simp only [sat_bind, sat_of, pure_ok, sat_ok]
@[simp ↓] theorem sat_sApp {f : EE} {Q} : sat (sApp i f ρ) Q = slotK ρ i fun s => lstK s fun _ => sat (f ρ) fun p => osat (frz p.1) fun d => slotK p.2 i fun s => lstK s fun ds => ds.length < 1000000 ∧ setK p.2 i (some (.lst (ds ++ [d]))) fun ρ => Q (.nx ρ) := by
  unfold sApp
  rw [slotK_def]
  cases h : ρ[i]? with
  | none => rfl
  | some o =>
    cases o with
    | none => rfl
    | some s =>
      cases s with
      | lst ds0 =>
        simp only [sat_bind, sat_fz, lstK_lst]
        congr 1
        funext p
        congr 1
        funext d
        unfold slotK setK
        cases h2 : p.2[i]? with
        | none => rfl
        | some o =>
          cases o with
          | none => rfl
          | some s =>
            have hi := (List.getElem?_eq_some_iff.mp h2).1
            cases s <;> simp [hi, lstK]
      | _ => rfl
@[simp ↓] theorem sat_sExt {f : EE} {Q} : sat (sExt i f ρ) Q = slotK ρ i fun s => lstK s fun _ => sat (f ρ) fun p => lstK p.1 fun es => slotK p.2 i fun s => lstK s fun ds => ds.length + es.length ≤ 16777216 ∧ setK p.2 i (some (.lst (ds ++ es))) fun ρ => Q (.nx ρ) := by
  unfold sExt
  rw [slotK_def]
  cases h : ρ[i]? with
  | none => rfl
  | some o =>
    cases o with
    | none => rfl
    | some s =>
      cases s with
      | lst ds0 =>
        simp only [sat_bind, lstK_lst]
        congr 1
        funext p
        obtain ⟨s, ρ'⟩ := p
        unfold slotK setK
        cases s with
        | lst es =>
          dsimp only [lstK]
          cases h2 : ρ'[i]? with
          | none => rfl
          | some o =>
            cases o with
            | none => rfl
            | some s =>
              have hi := (List.getElem?_eq_some_iff.mp h2).1
              cases s <;> simp [hi, lineOk_iff]
        | _ => rfl
      | _ => rfl
@[simp ↓] theorem sat_sSetI {f : EE} {fi : AE} {Q} : sat (sSetI i f fi ρ) Q = sat (f ρ) fun p => osat (frz p.1) fun d => slotK p.2 i fun s => lstK s fun _ => sat (fi p.2) fun a => sat (a.1.get a.2) fun x => slotK a.2 i fun s => lstK s fun ds => intK (.dat x) fun k =>
    osatH (ixN ds.length k) (fun j => setK a.2 i (some (.lst (ds.set j d))) fun ρ => Q (.nx ρ)) ⟨⟩ := by
  unfold sSetI osatH
  simp only [sat_bind, sat_fz]
  congr 1
  funext p
  congr 1
  funext d
  rw [slotK_def]
  cases p.2[i]? with
  | none => rfl
  | some o =>
    cases o with
    | none => rfl
    | some s =>
      cases s with
      | lst ds0 =>
        simp only [sat_bind, lstK_lst]
        congr 1
        funext a
        congr 1
        funext x
        unfold slotK setK
        cases h2 : a.2[i]? with
        | none => rfl
        | some o =>
          cases o with
          | none => rfl
          | some s =>
            have hi := (List.getElem?_eq_some_iff.mp h2).1
            cases s with
            | lst ds =>
              cases x with
              | int k => cases h : ixN ds.length k <;> simp [h, hi, lstK, intK]
              | _ => rfl
            | _ => rfl
      | _ => rfl
@[simp ↓] theorem sat_sFor {fi : DE} {g : PyData → Env → Option Env} {b : SE} {Q} : sat (sFor fi g b ρ) Q = sat (fi ρ) fun p => satH (forL g b p.1 p.2) Q ⟨⟩ := by
  unfold sFor satH
  simp only [sat_bind]
@[simp ↓] theorem sat_sWhile {n : Env → Nat} {c : BE} {b : SE} {Q} : sat (sWhile n c b ρ) Q = satH (whileN c b (n ρ) ρ) Q ⟨⟩ := (Eq.trans rfl rfl)
@[simp ↓] theorem osat_gN {d : PyData} {Q} : osat (gN i d ρ) Q = setK ρ i (some (.dat d)) Q := by
  unfold gN setK
  rw [osat_ite, osat_some, osat_none, if_false_right]
@[simp ↓] theorem osat_gsN {Q} : osat (gsN [] ρ) Q = Q ρ := (Eq.trans rfl rfl)
@[simp ↓] theorem osat_gsC {g : PyData → Env → Option Env} {r : List PyData → Env → Option Env} {d : PyData} {ds : List PyData} {Q} : osat (gsC g r (d :: ds) ρ) Q = osat (g d ρ) fun ρ => osat (r ds ρ) Q := by
  unfold gsC
  dsimp only
  cases g d ρ <;> rfl
@[simp ↓] theorem osat_gT {n : Nat} {fs : List PyData → Env → Option Env} {ds : List PyData} {Q} : osat (gT n fs (.tuple ds) ρ) Q = (ds.length = n ∧ osat (fs ds ρ) Q) := by
  unfold gT
  dsimp only
  rw [osat_ite, osat_none, if_false_right]
def unL : PyData → Option (List PyData)
  | .list ds => some ds
  | .tuple ds => some ds
  | .dict [(.list ds, .none)] => some ds
  | .str z => some (signs z)
  | _ => none
@[simp ↓] theorem unL_list {ds : List PyData} {Q} : osat (unL (.list ds)) Q = Q ds := (Eq.trans rfl rfl)
@[simp ↓] theorem unL_tuple {ds : List PyData} {Q} : osat (unL (.tuple ds)) Q = Q ds := (Eq.trans rfl rfl)
@[simp ↓] theorem unL_scr {ds : List PyData} {Q} : osat (unL (.dict [(.list ds, .none)])) Q = Q ds := (Eq.trans rfl rfl)
@[simp ↓] theorem unL_str {z : Str} {Q} : osat (unL (.str z)) Q = Q (signs z) := (Eq.trans rfl rfl)
@[simp ↓] theorem sat_iA {f : EE} {Q} : sat (iA f ρ) Q = sat (f ρ) fun p => osat (frz p.1) fun d => osat (unL d) fun ds => Q (ds, p.2) := by
  unfold iA
  rw [sat_bind]
  congr 1
  funext p
  obtain ⟨s, ρ'⟩ := p
  dsimp only
  cases frz s with
  | none => rfl
  | some d =>
    simp only [osat_some]
    unfold unL
    split <;> (rename_i h; split) <;> simp_all
def ints1 (ds : List PyData) (Q : Int → Prop) : Prop := match ds with
  | [.int i] => Q i
  | _ => False
def ints2 (ds : List PyData) (Q : Int → Int → Prop) : Prop := match ds with
  | [.int i, .int j] => Q i j
  | _ => False
@[simp ↓] theorem ints1_eq {i : Int} {Q} : ints1 [.int i] Q = Q i := (Eq.trans rfl rfl)
@[simp ↓] theorem ints2_eq {i j : Int} {Q} : ints2 [.int i, .int j] Q = Q i j := (Eq.trans rfl rfl)
theorem smallI_iff (n : Int) : (smallI n = true) = (-4611686018427387904 ≤ n ∧ n < 4611686018427387904) := by
  unfold smallI
  rw [decide_eq_true_eq]
  rfl
@[simp ↓] theorem sat_iR1 {fl : LE} {Q} : sat (iR1 fl ρ) Q = sat (fl ρ) fun p => sat (getsB p.2 p.1) fun ds => ints1 ds fun j => (-4611686018427387904 ≤ j ∧ j < 4611686018427387904) ∧ Q (rangeD 0 j.toNat, p.2) := by
  unfold iR1
  rw [sat_bind]
  congr 1
  funext p
  rw [sat_bind]
  congr 1
  funext ds
  unfold ints1
  split
  · simp only [sat_ite, smallI_iff, sat_bad, if_false_right, pure_ok, sat_ok]
  · rename_i h
    split
    · rename_i j
      exact absurd rfl (h j)
    · rfl
@[simp ↓] theorem sat_iR2 {fl : LE} {Q} : sat (iR2 fl ρ) Q = sat (fl ρ) fun p => sat (getsB p.2 p.1) fun ds => ints2 ds fun i j => ((-4611686018427387904 ≤ i ∧ i < 4611686018427387904) ∧ (-4611686018427387904 ≤ j ∧ j < 4611686018427387904)) ∧ Q (rangeD i (j - i).toNat, p.2) := by
  unfold iR2
  rw [sat_bind]
  congr 1
  funext p
  rw [sat_bind]
  congr 1
  funext ds
  unfold ints2
  split
  · simp only [sat_ite, Bool.and_eq_true, smallI_iff, sat_bad, if_false_right, pure_ok, sat_ok]
  · rename_i h
    split
    · rename_i i j
      exact absurd rfl (h i j)
    · rfl
def ints3 (ds : List PyData) (Q : Int → Int → Int → Prop) : Prop := match ds with
  | [.int i, .int j, .int c] => Q i j c
  | _ => False
@[simp ↓] theorem ints3_eq {i j c : Int} {Q} : ints3 [.int i, .int j, .int c] Q = Q i j c := (Eq.trans rfl rfl)
@[simp ↓] theorem sat_iR3 {fl : LE} {Q} : sat (iR3 fl ρ) Q = sat (fl ρ) fun p => sat (getsB p.2 p.1) fun ds => ints3 ds fun i j c => rgOk i j c = true ∧ Q (stepD i c (Builtin.Range.rangeSize i j c).toNat, p.2) := by
  unfold iR3
  simp only [sat_bind]
  congr 1
  funext p
  congr 1
  funext ds
  unfold ints3
  split <;> first | (simp only [sat_ite, pure_ok, sat_ok, sat_bad, if_false_right]) | rfl
@[simp ↓] theorem sat_bYes {Q} : sat (bYes ρ) Q = Q (true, ρ) := (Eq.trans rfl rfl)
/-! a def -/
def endS (keep : List Bool) (Q : Sl × Env → Prop) : Out → Prop
  | .rt s ρ => Q (s, maskE keep ρ)
  | .nx ρ => Q (.dat .none, maskE keep ρ)
  | _ => False
@[simp ↓] theorem endS_rt {keep : List Bool} {Q} {s : Sl} : endS keep Q (.rt s ρ) = Q (s, maskE keep ρ) := (Eq.trans rfl rfl)
@[simp ↓] theorem endS_nx {keep : List Bool} {Q} : endS keep Q (.nx ρ) = Q (.dat .none, maskE keep ρ) := (Eq.trans rfl rfl)
@[simp ↓] theorem endS_bk {keep : List Bool} {Q} : endS keep Q (.bk ρ) = False := (Eq.trans rfl rfl)
@[simp ↓] theorem endS_ct {keep : List Bool} {Q} : endS keep Q (.ct ρ) = False := (Eq.trans rfl rfl)
/-- the slots of a def's own names behind the parameters' -/
def padK (n : Nat) (ρ : Env) (Q : Env → Prop) : Prop := Q (ρ ++ List.replicate n none)
theorem sat_dFn {n : Nat} {keep : List Bool} {body : SE} {Q} (h : ρ.length = keep.length) : @sat _ noXW (dFn n keep body ρ) Q = @sat _ noXW (body (ρ ++ List.replicate (n - ρ.length) none)) (endS keep Q) := by
  unfold dFn
  rw [if_pos h]
  unfold dDef
  cases body (ρ ++ List.replicate (n - ρ.length) none) with
  | ok o => cases o <;> rfl
  | ex => rfl
  | bad => rfl
theorem sat_dFnX {n : Nat} {keep : List Bool} {body : SE} {Q} (h : ρ.length = keep.length) : sat (dFn n keep body ρ) Q = @sat _ ⟨fun x ρ => W.E x (maskE keep ρ)⟩ (body (ρ ++ List.replicate (n - ρ.length) none)) (endS keep Q) := by
  unfold dFn
  rw [if_pos h]
  unfold dDef
  cases body (ρ ++ List.replicate (n - ρ.length) none) with
  | ok o => cases o <;> rfl
  | ex => rfl
  | bad => rfl
end
/-! values -/
section
variable {Q : Sl → Prop}
@[simp ↓] theorem addD_int {i j : Int} : osat (addD (.int i) (.int j)) Q = Q (.dat (.int (i + j))) := (Eq.trans rfl rfl)
@[simp ↓] theorem addD_str {i j : Str} : osat (addD (.str i) (.str j)) Q = (i.length + j.length ≤ 16777216 ∧ Q (.dat (.str (i ++ j)))) := by
  unfold addD; rw [osat_ite, osat_none, if_false_right, lineOk_iff]; rfl
@[simp ↓] theorem addD_list {i j : List PyData} : osat (addD (.list i) (.list j)) Q = (i.length + j.length ≤ 16777216 ∧ Q (.lst (i ++ j))) := by
  unfold addD; rw [osat_ite, osat_none, if_false_right, lineOk_iff]; rfl
@[simp ↓] theorem addD_tuple {i j : List PyData} : osat (addD (.tuple i) (.tuple j)) Q = (i.length + j.length ≤ 16777216 ∧ Q (.dat (.tuple (i ++ j)))) := by
  unfold addD; rw [osat_ite, osat_none, if_false_right, lineOk_iff]; rfl
@[simp ↓] theorem subD_int {i j : Int} : osat (subD (.int i) (.int j)) Q = Q (.dat (.int (i - j))) := (Eq.trans rfl rfl)
@[simp ↓] theorem mulD_int {i j : Int} : osat (mulD (.int i) (.int j)) Q = (((-18446744073709551616 < i ∧ i < 18446744073709551616) ∨ (-18446744073709551616 < j ∧ j < 18446744073709551616)) ∧ Q (.dat (.int (i * j)))) := by
  unfold mulD; rw [osat_ite, osat_none, if_false_right]; rfl
@[simp ↓] theorem mulD_str {z : Str} {k : Int} : osat (mulD (.str z) (.int k)) Q = (((-1000000 ≤ k ∧ k ≤ 1000000) ∧ z.length * k.toNat ≤ 16777216) ∧ Q (.dat (.str (strMul z k)))) := by
  unfold mulD; rw [osat_ite, osat_none, if_false_right]; rfl
@[simp ↓] theorem mulD_list {ds : List PyData} {k : Int} : osat (mulD (.list ds) (.int k)) Q = (((-1000000 ≤ k ∧ k ≤ 1000000) ∧ ds.length * k.toNat ≤ 16777216) ∧ Q (.lst (List.replicate k.toNat ds).flatten)) := by
  unfold mulD; rw [osat_ite, osat_none, if_false_right]; rfl
@[simp ↓] theorem mulD_tuple {ds : List PyData} {k : Int} : osat (mulD (.tuple ds) (.int k)) Q = ((ds.length ≠ 0 ∧ (1 ≤ k ∧ k ≤ 1000) ∧ ds.length ≤ 1000) ∧ Q (.dat (.tuple (List.replicate k.toNat ds).flatten))) := by
  unfold mulD; rw [osat_ite, osat_none, if_false_right]; rfl
@[simp ↓] theorem fdivD_int {i j : Int} : osat (fdivD (.int i) (.int j)) Q = ((0 < j ∧ j < 1073741824) ∧ Q (.dat (.int (i / j)))) := by
  unfold fdivD; rw [osat_ite, osat_none, if_false_right]; rfl
@[simp ↓] theorem modD_int {i j : Int} : osat (modD (.int i) (.int j)) Q = (0 < j ∧ Q (.dat (.int (i % j)))) := by
  unfold modD; rw [osat_ite, osat_none, if_false_right]; rfl
@[simp ↓] theorem powD_int {i j : Int} : osat (powD (.int i) (.int j)) Q = ((0 ≤ j ∧ j ≤ 1000000 ∧ i.natAbs < 18446744073709551616) ∧ Q (.dat (.int (i ^ j.toNat)))) := by
  unfold powD; rw [osat_ite, osat_none, if_false_right]; rfl
@[simp ↓] theorem negD_int {i : Int} : osat (negD (.int i)) Q = Q (.dat (.int (-i))) := (Eq.trans rfl rfl)
@[simp ↓] theorem ipaddD_int {i j : Int} : osat (ipaddD (.int i) (.int j)) Q = Q (.dat (.int (i + j))) := (Eq.trans rfl rfl)
@[simp ↓] theorem ipsubD_int {i j : Int} : osat (ipsubD (.int i) (.int j)) Q = Q (.dat (.int (i - j))) := (Eq.trans rfl rfl)
@[simp ↓] theorem ltD_int {i j : Int} : osat (ltD (.int i) (.int j)) Q = Q (.dat (.bool (decide (i < j)))) := (Eq.trans rfl rfl)
@[simp ↓] theorem leD_int {i j : Int} : osat (leD (.int i) (.int j)) Q = Q (.dat (.bool (decide (i ≤ j)))) := (Eq.trans rfl rfl)
@[simp ↓] theorem gtD_int {i j : Int} : osat (gtD (.int i) (.int j)) Q = Q (.dat (.bool (decide (j < i)))) := (Eq.trans rfl rfl)
@[simp ↓] theorem geD_int {i j : Int} : osat (geD (.int i) (.int j)) Q = Q (.dat (.bool (decide (j ≤ i)))) := (Eq.trans rfl rfl)
@[simp] theorem eqB_int {i j : Int} : eqB (.int i) (.int j) = some (decide (i = j)) := by simp [eqB, sc, scal]
@[simp] theorem eqB_str {i j : Str} : eqB (.str i) (.str j) = some (decide (i = j)) := by simp [eqB, sc, scal]
@[simp] theorem eqB_bool {i j : Bool} : eqB (.bool i) (.bool j) = some (decide (i = j)) := by simp [eqB, sc, scal]
@[simp] theorem eqB_none : eqB .none .none = some true := by simp [eqB, sc, scal]
@[simp ↓] theorem osat_eqD {d e : PyData} : osat (eqD d e) Q = osatH (eqB d e) (fun b => Q (.dat (.bool b))) ⟨⟩ := by simp [eqD, osatH]
@[simp ↓] theorem osat_neD {d e : PyData} : osat (neD d e) Q = osatH (eqB d e) (fun b => Q (.dat (.bool (!b)))) ⟨⟩ := by simp [neD, osatH]
@[simp] theorem isN_none : isN .none = true := (Eq.trans rfl rfl)
@[simp] theorem isN_int {i : Int} : isN (.int i) = false := (Eq.trans rfl rfl)
@[simp] theorem isN_str {i : Str} : isN (.str i) = false := (Eq.trans rfl rfl)
@[simp] theorem isN_tuple {i : List PyData} : isN (.tuple i) = false := (Eq.trans rfl rfl)
@[simp] theorem isN_list {i : List PyData} : isN (.list i) = false := (Eq.trans rfl rfl)
@[simp] theorem isN_bool {i : Bool} : isN (.bool i) = false := (Eq.trans rfl rfl)
@[simp ↓] theorem isND_eq {d : PyData} : osat (isND d .none) Q = Q (.dat (.bool (isN d))) := (Eq.trans rfl rfl)
@[simp ↓] theorem notND_eq {d : PyData} : osat (notND d .none) Q = Q (.dat (.bool (!isN d))) := (Eq.trans rfl rfl)
@[simp ↓] theorem idxD_list {ds : List PyData} {i : Int} : osat (idxD (.list ds) (.int i)) Q = osatH (atI ds i) (fun d => Q (.dat d)) ⟨⟩ := osat_map
@[simp ↓] theorem idxD_tuple {ds : List PyData} {i : Int} : osat (idxD (.tuple ds) (.int i)) Q = osatH (atI ds i) (fun d => Q (.dat d)) ⟨⟩ := osat_map
@[simp ↓] theorem idxD_scr {ds : List PyData} {i : Int} : osat (idxD (.dict [(.list ds, .none)]) (.int i)) Q = osatH (atI ds i) (fun d => Q (.dat d)) ⟨⟩ := osat_map
@[simp ↓] theorem idxD_str {z : Str} {i : Int} : osat (idxD (.str z) (.int i)) Q = (z.length ≤ 16777216 ∧ osatH (atI z.cps.toList i) (fun c => Q (.dat (.str ⟨#[c]⟩))) ⟨⟩) := by
  unfold idxD osatH; rw [osat_ite, osat_none, if_false_right, lineOk_iff, osat_map]
@[simp ↓] theorem sliceD_list {ds : List PyData} {l u : Option Int} : osat (sliceD (.list ds) l u) Q = Q (.lst (cutG ds l u)) := (Eq.trans rfl rfl)
@[simp ↓] theorem sliceD_tuple {ds : List PyData} {l u : Option Int} : osat (sliceD (.tuple ds) l u) Q = Q (.dat (.tuple (cutG ds l u))) := (Eq.trans rfl rfl)
@[simp ↓] theorem sliceD_str {z : Str} {l u : Option Int} : osat (sliceD (.str z) l u) Q = (z.length ≤ 16777216 ∧ Q (.dat (.str (cutS z l u)))) := by
  unfold sliceD; rw [osat_ite, osat_none, if_false_right, lineOk_iff]; rfl
@[simp ↓] theorem lenD_list {ds : List PyData} : osat (lenD [.list ds]) Q = Q (.dat (.int ds.length)) := (Eq.trans rfl rfl)
@[simp ↓] theorem lenD_tuple {ds : List PyData} : osat (lenD [.tuple ds]) Q = Q (.dat (.int ds.length)) := (Eq.trans rfl rfl)
@[simp ↓] theorem lenD_scr {ds : List PyData} : osat (lenD [.dict [(.list ds, .none)]]) Q = Q (.dat (.int ds.length)) := (Eq.trans rfl rfl)
@[simp ↓] theorem lenD_str {z : Str} : osat (lenD [.str z]) Q = (z.length ≤ 16777216 ∧ Q (.dat (.int z.length))) := by
  unfold lenD; rw [osat_ite, osat_none, if_false_right, lineOk_iff]; rfl
@[simp ↓] theorem intD_int {i : Int} : osat (intD [.int i]) Q = Q (.dat (.int i)) := (Eq.trans rfl rfl)
@[simp ↓] theorem intD_bool {i : Bool} : osat (intD [.bool i]) Q = Q (.dat (.int (if i = true then 1 else 0))) := (Eq.trans rfl rfl)
@[simp ↓] theorem listD_list {ds : List PyData} : osat (listD [.list ds]) Q = Q (.lst ds) := (Eq.trans rfl rfl)
@[simp ↓] theorem listD_tuple {ds : List PyData} : osat (listD [.tuple ds]) Q = Q (.lst ds) := (Eq.trans rfl rfl)
@[simp ↓] theorem tupD_list {ds : List PyData} : osat (tupD [.list ds]) Q = Q (.dat (.tuple ds)) := (Eq.trans rfl rfl)
@[simp ↓] theorem tupD_tuple {ds : List PyData} : osat (tupD [.tuple ds]) Q = Q (.dat (.tuple ds)) := (Eq.trans rfl rfl)
@[simp ↓] theorem ordD_str {x : Str} : osat (ordD [.str x]) Q = (x.length = 1 ∧ Q (.dat (.int (x.cps.getD 0 0 : Nat)))) := by
  unfold ordD; rw [osat_ite, osat_none, if_false_right]; rfl
theorem allD_bools {bs : List Bool} : osat (allD [.list (bs.map .bool)]) Q = Q (.dat (.bool (bs.all id))) := by simp [allD]
theorem anyD_bools {bs : List Bool} : osat (anyD [.list (bs.map .bool)]) Q = Q (.dat (.bool (bs.any id))) := by simp [anyD]
theorem sumD_ints {bs : List Int} : osat (sumD [.list (bs.map .int)]) Q = Q (.dat (.int bs.sum)) := by simp [sumD]
@[simp ↓] theorem maxD_two {i j : Int} : osat (maxD [.int i, .int j]) Q = Q (.dat (.int (if j > i then j else i))) := (Eq.trans rfl rfl)
@[simp ↓] theorem minD_two {i j : Int} : osat (minD [.int i, .int j]) Q = Q (.dat (.int (if j < i then j else i))) := (Eq.trans rfl rfl)
@[simp ↓] theorem sortedD_list {ds : List PyData} : osat (sortedD [.list ds]) Q = (sortOk ds = true ∧ Q (.lst (ds.mergeSort (PySem.W.dataLe false id)))) := by
  unfold sortedD; rw [osat_ite, osat_none, if_false_right]; rfl
end
@[simp] theorem tyN_none : tyN .none = some "NoneType" := (Eq.trans rfl rfl)
@[simp] theorem tyN_int {i : Int} : tyN (.int i) = some "int" := (Eq.trans rfl rfl)
@[simp] theorem tyN_bool {i : Bool} : tyN (.bool i) = some "bool" := (Eq.trans rfl rfl)
@[simp] theorem tyN_str {i : Str} : tyN (.str i) = some "str" := (Eq.trans rfl rfl)
@[simp] theorem tyN_list {i : List PyData} : tyN (.list i) = some "list" := (Eq.trans rfl rfl)
@[simp] theorem tyN_tuple {i : List PyData} : tyN (.tuple i) = some "tuple" := (Eq.trans rfl rfl)

theorem atI_nat' {α : Type} {xs : List α} {j : Nat} {x : α} (h : xs[j]? = some x) : atI xs (j : Int) = some x := atI_nat h
/-! loops by what holds between their turns -/
section
variable {W : XW} {g : PyData → Env → Option Env} {b : SE} {Q : Out → Prop} {t : Tg Q}
theorem sat_for (I : Nat → Env → Prop) {ds : List PyData} {ρ : Env} (h0 : I 0 ρ) (hs : ∀ (i : Nat) d ρ, ds[i]? = some d → I i ρ → osat (g d ρ) fun ρ1 => sat (b ρ1) fun o => match o with
    | .nx ρ2 => I (i + 1) ρ2
    | .ct ρ2 => I (i + 1) ρ2
    | .bk ρ2 => Q (.nx ρ2)
    | .rt s ρ2 => Q (.rt s ρ2)) (hq : ∀ ρ, I ds.length ρ → Q (.nx ρ)) : satH (forL g b ds ρ) Q t := by
  unfold satH
  have gen : ∀ (m i : Nat) (ρ : Env), i + m = ds.length → I i ρ → sat (forL g b (ds.drop i) ρ) Q := by
    intro m
    induction m with
    | zero =>
      intro i ρ hm h
      rw [List.drop_eq_nil_of_le (by omega)]
      have : i = ds.length := by omega
      subst this
      exact hq ρ h
    | succ m ih =>
      intro i ρ hm h
      have hl : i < ds.length := by omega
      rw [List.drop_eq_getElem_cons hl]
      have h1 := hs i ds[i] ρ (List.getElem?_eq_getElem hl) h
      unfold forL
      rw [sat_bind, sat_of]
      refine osat_mono h1 fun ρ1 h2 => ?_
      rw [sat_bind]
      refine sat_mono h2 fun o h3 => ?_
      cases o with
      | nx ρ2 => exact ih (i + 1) ρ2 (by omega) h3
      | ct ρ2 => exact ih (i + 1) ρ2 (by omega) h3
      | bk ρ2 => exact h3
      | rt s ρ2 => exact h3
  exact gen ds.length 0 ρ (by omega) h0
/-- a for whose turns all go on -/
theorem sat_for0 (I : Nat → Env → Prop) {ds : List PyData} {ρ : Env} (h0 : I 0 ρ) (hs : ∀ (i : Nat) d ρ, ds[i]? = some d → I i ρ → osat (g d ρ) fun ρ1 => sat (b ρ1) fun o => ∃ ρ2, o = .nx ρ2 ∧ I (i + 1) ρ2) (hq : ∀ ρ, I ds.length ρ → Q (.nx ρ)) :
    satH (forL g b ds ρ) Q t := by
  refine sat_for I h0 (fun i d ρ hd h => ?_) hq
  refine osat_mono (hs i d ρ hd h) fun ρ1 h1 => sat_mono h1 fun o h2 => ?_
  obtain ⟨ρ2, rfl, h3⟩ := h2
  exact h3
theorem sat_while (I : Nat → Env → Prop) {c : BE} {n : Nat} {ρ : Env} (h0 : I n ρ) (hs : ∀ (m : Nat) ρ, I m ρ → sat (c ρ) fun p => if p.1 = true then ∃ m', m = m' + 1 ∧ sat (b p.2) fun o => match o with
    | .nx ρ2 => I m' ρ2
    | .ct ρ2 => I m' ρ2
    | .bk ρ2 => Q (.nx ρ2)
    | .rt s ρ2 => Q (.rt s ρ2)
    else Q (.nx p.2)) : satH (whileN c b (n + 1) ρ) Q t := by
  unfold satH
  have gen : ∀ (m : Nat) (ρ : Env), I m ρ → sat (whileN c b (m + 1) ρ) Q := by
    intro m
    induction m with
    | zero =>
      intro ρ h
      unfold whileN
      rw [sat_bind]
      refine sat_mono (hs 0 ρ h) fun p h1 => ?_
      obtain ⟨k, ρ1⟩ := p
      cases k with
      | true =>
        obtain ⟨m', e, _⟩ := h1
        omega
      | false => exact h1
    | succ m ih =>
      intro ρ h
      unfold whileN
      rw [sat_bind]
      refine sat_mono (hs (m + 1) ρ h) fun p h1 => ?_
      obtain ⟨k, ρ1⟩ := p
      cases k with
      | false => exact h1
      | true =>
        simp only [if_true] at h1 ⊢
        obtain ⟨m', e, h2⟩ := h1
        have : m' = m := by omega
        subst this
        rw [sat_bind]
        refine sat_mono h2 fun o h3 => ?_
        cases o with
        | nx ρ2 => exact ih ρ2 h3
        | ct ρ2 => exact ih ρ2 h3
        | bk ρ2 => exact h3
        | rt s ρ2 => exact h3
  exact gen n ρ h0
end
/-! comprehensions -/
/-- what stood in the slots of a comprehension stands there again -/
def restX (ρ1 : Env) : List Nat → Env → Env
  | [], ρ => ρ
  | v :: vs, ρ => (restX ρ1 vs ρ).set v (ρ1[v]?.getD none)
theorem restE_same {ρ1 : Env} {v : Nat} (h : ∀ d, ρ1[v]? ≠ some (some (.dat d))) : ∀ (vs : List Nat) (ρ : Env), (restE ρ1 vs ρ)[v]? = ρ[v]?
  | [], _ => rfl
  | u :: vs, ρ => by
    unfold restE
    split
    · rename_i d e
      by_cases huv : u = v
      · subst huv; exact absurd e (h d)
      · rw [List.getElem?_set_ne huv]; exact restE_same h vs ρ
    · exact restE_same h vs ρ
theorem wipeE_at : ∀ (vs : List Nat) (v : Nat) (ρ : Env), v ∈ vs → (wipeE ρ vs)[v]? = none ∨ (wipeE ρ vs)[v]? = some none
  | u :: vs, v, ρ, h => by
    show ((wipeE ρ vs).set u none)[v]? = none ∨ ((wipeE ρ vs).set u none)[v]? = some none
    by_cases huv : u = v
    · subst huv
      rw [List.getElem?_set_self']
      cases (wipeE ρ vs)[u]? <;> simp
    · rw [List.getElem?_set_ne huv]
      rcases List.mem_cons.mp h with rfl | h
      · exact absurd rfl huv
      · exact wipeE_at vs v ρ h
theorem set_none {ρ : Env} {v : Nat} (h : ρ[v]? = none ∨ ρ[v]? = some none) : ρ.set v none = ρ := by
  apply List.ext_getElem?
  intro i
  by_cases hi : v = i
  · subst hi
    rw [List.getElem?_set_self']
    rcases h with h | h <;> rw [h] <;> rfl
  · rw [List.getElem?_set_ne hi]
theorem restE_eq {ρ1 ρ : Env} : ∀ {vs : List Nat}, vs.all (fun i => isDat ρ1[i]?) = true → (∀ v ∈ vs, ρ[v]? = none ∨ ρ[v]? = some none) → restE ρ1 vs ρ = restX ρ1 vs ρ
  | [], _, _ => rfl
  | v :: vs, h, hw => by
    rw [List.all_cons, Bool.and_eq_true] at h
    have ih := restE_eq h.2 fun u hu => hw u (List.mem_cons_of_mem _ hu)
    unfold restE restX
    rw [← ih]
    have h1 := h.1
    cases e : ρ1[v]? with
    | none => rw [e] at h1; cases h1
    | some s =>
      rw [e] at h1
      cases s with
      | none =>
        show restE ρ1 vs ρ = (restE ρ1 vs ρ).set v none
        rw [set_none]
        rw [restE_same (fun d q => by rw [e] at q; cases q)]
        exact hw v (by simp)
      | some s =>
        cases s with
        | dat d => rfl
        | _ => cases h1
@[simp ↓] theorem sat_dLc {W : XW} {fi : DE} {g : PyData → Env → Option Env} {ft : BE} {fe : EE} {vs : List Nat} {ρ : Env} {Q} : sat (dLc fi g ft fe vs ρ) Q = sat (fi ρ) fun p => (vs.all (fun i => isDat p.2[i]?) = true ∧ p.1.length ≤ 100000) ∧
    @satH _ noXW (lcL g ft fe vs p.1 p.2) (fun r => Q (.lst r.1, restX p.2 vs (wipeE r.2 vs))) ⟨⟩ := by
  unfold dLc satH
  simp only [sat_bind, sat_ite, sat_bad, if_false_right]
  congr 1
  funext p
  apply propext
  refine and_congr_right fun hd => ?_
  cases lcL g ft fe vs p.1 p.2 with
  | ok r =>
    obtain ⟨o, ρ2⟩ := r
    simp only [pure_ok, sat_ok]
    rw [restE_eq hd.1 fun v hv => wipeE_at vs v ρ2 hv]
  | ex => exact Iff.rfl
  | bad => exact Iff.rfl
@[simp] theorem restX_nil {ρ ρ1 : Env} : restX ρ1 [] ρ = ρ := (Eq.trans rfl rfl)
@[simp] theorem restX_cons {ρ ρ1 : Env} {v : Nat} {vs : List Nat} : restX ρ1 (v :: vs) ρ = (restX ρ1 vs ρ).set v (ρ1[v]?.getD none) := (Eq.trans rfl rfl)
@[simp] theorem wipeE_nil {ρ : Env} : wipeE ρ [] = ρ := (Eq.trans rfl rfl)
@[simp] theorem wipeE_cons {ρ : Env} {v : Nat} {vs : List Nat} : wipeE ρ (v :: vs) = (wipeE ρ vs).set v none := (Eq.trans rfl rfl)
@[simp] theorem restE_nil {ρ ρ1 : Env} : restE ρ1 [] ρ = ρ := (Eq.trans rfl rfl)
@[simp] theorem restE_cons {ρ ρ1 : Env} {v : Nat} {vs : List Nat} : restE ρ1 (v :: vs) ρ = match ρ1[v]? with
    | some (some (.dat d)) => (restE ρ1 vs ρ).set v (some (.dat d))
    | _ => restE ρ1 vs ρ := (Eq.trans rfl rfl)
@[simp] theorem isDat_none : isDat (some none) = true := (Eq.trans rfl rfl)
@[simp] theorem isDat_dat {d : PyData} : isDat (some (some (.dat d))) = true := (Eq.trans rfl rfl)
/-- a comprehension, by what holds between its turns: the turn, the items so far, the frame -/
theorem sat_lc (I : Nat → List PyData → Env → Prop) {g : PyData → Env → Option Env} {ft : BE} {fe : EE} {vs : List Nat} {ds : List PyData} {ρ : Env} {Q : List PyData × Env → Prop} {t : Tg Q} (h0 : I 0 [] ρ)
    (hs : ∀ (i : Nat) d acc ρ, ds[i]? = some d → I i acc ρ → osat (g d (wipeE ρ vs)) fun ρ1 => sat (ft ρ1) fun b => if b.1 = true then sat (fe b.2) fun s => osat (frz s.1) fun x => I (i + 1) (acc ++ [x]) s.2 else I (i + 1) acc b.2)
    (hq : ∀ acc ρ, I ds.length acc ρ → Q (acc, ρ)) : satH (lcL g ft fe vs ds ρ) Q t := by
  unfold satH
  have gen : ∀ (m i : Nat) (acc : List PyData) (ρ : Env), i + m = ds.length → I i acc ρ → sat (lcL g ft fe vs (ds.drop i) ρ) fun r => Q (acc ++ r.1, r.2) := by
    intro m
    induction m with
    | zero =>
      intro i acc ρ hm h
      rw [List.drop_eq_nil_of_le (by omega)]
      have : i = ds.length := by omega
      subst this
      show Q (acc ++ [], ρ)
      rw [List.append_nil]
      exact hq acc ρ h
    | succ m ih =>
      intro i acc ρ hm h
      have hl : i < ds.length := by omega
      rw [List.drop_eq_getElem_cons hl]
      have h1 := hs i ds[i] acc ρ (List.getElem?_eq_getElem hl) h
      unfold lcL
      rw [sat_bind, sat_of]
      refine osat_mono h1 fun ρ1 h2 => ?_
      rw [sat_bind]
      refine sat_mono h2 fun o h3 => ?_
      obtain ⟨k, ρ2⟩ := o
      cases k with
      | false => exact ih (i + 1) acc ρ2 (by omega) h3
      | true =>
        simp only [if_true] at h3 ⊢
        rw [sat_bind]
        refine sat_mono h3 fun s h4 => ?_
        obtain ⟨s, ρ3⟩ := s
        simp only [sat_bind, sat_of] at h4 ⊢
        refine osat_mono h4 fun x h5 => ?_
        have h6 := ih (i + 1) (acc ++ [x]) ρ3 (by omega) h5
        simp only [List.append_assoc, List.singleton_append] at h6
        refine sat_mono h6 fun r h7 => ?_
        exact h7
  have := gen ds.length 0 [] ρ (by omega) h0
  simpa using this
end DL
/-! DLk: small facts that many laws want. -/
namespace DL
open PySem PySem.Spec L2
theorem rangeD_get {lo : Int} {n i : Nat} {d : PyData} (h : (rangeD lo n)[i]? = some d) : d = .int (lo + i) ∧ i < n := by
  unfold rangeD at h
  rw [List.getElem?_map] at h
  by_cases hi : i < n
  · rw [List.getElem?_range hi] at h
    simp at h
    exact ⟨h.symm, hi⟩
  · rw [List.getElem?_eq_none (by simpa using hi)] at h
    simp at h
@[simp] theorem rangeD_len {lo : Int} {n : Nat} : (rangeD lo n).length = n := by simp [rangeD]
theorem atI_map {α β : Type} {f : α → β} {ns : List α} {k : Nat} (h : k < ns.length) : atI (ns.map f) (k : Int) = some (f ns[k]) := by
  apply atI_nat
  simp [h]
theorem atI_lt {α : Type} {ns : List α} {k : Nat} (h : k < ns.length) : atI ns (k : Int) = some ns[k] := atI_nat (by simp [h])
@[simp] theorem atI_zero {α : Type} {a : α} {l : List α} : atI (a :: l) 0 = some a := atI_nat (j := 0) rfl
theorem atI_lit {α : Type} (n : Nat) {l : List α} {a : α} (h : l[n]? = some a) : atI l (n : Int) = some a := atI_nat h
@[simp] theorem atI_1 {α : Type} {a b : α} {l : List α} : atI (a :: b :: l) 1 = some b := atI_nat (j := 1) rfl
@[simp] theorem atI_2 {α : Type} {a b c : α} {l : List α} : atI (a :: b :: c :: l) 2 = some c := atI_nat (j := 2) rfl
@[simp] theorem atI_3 {α : Type} {a b c d : α} {l : List α} : atI (a :: b :: c :: d :: l) 3 = some d := atI_nat (j := 3) rfl
@[simp] theorem atI_4 {α : Type} {a b c d e : α} {l : List α} : atI (a :: b :: c :: d :: e :: l) 4 = some e := atI_nat (j := 4) rfl
/-- an item of a written list at a place that is reckoned -/
theorem atI_mod {α : Type} {l : List α} {i : Int} (h0 : 0 ≤ i) (h1 : i < l.length) : ∃ a, atI l i = some a ∧ l[i.toNat]? = some a := by
  have hi : i.toNat < l.length := by omega
  refine ⟨l[i.toNat], ?_, by simp [hi]⟩
  have := atI_lt hi
  rwa [Int.toNat_of_nonneg h0] at this

/-! ### equality of data -/
mutual
/-- data without truth values and dicts -/
def pure0 : PyData → Bool
  | .none => true
  | .int _ => true
  | .str _ => true
  | .list ds => pureA ds
  | .tuple ds => pureA ds
  | _ => false
def pureA : List PyData → Bool
  | [] => true
  | d :: ds => pure0 d && pureA ds
end
mutual
theorem eqv_iff : ∀ {d e : PyData}, pure0 d = true → pure0 e = true → (PyData.eqv d e = true ↔ d = e)
  | .none, e, _, he => by cases e <;> simp [PyData.eqv, pure0] at he ⊢
  | .int i, e, _, he => by cases e <;> simp [PyData.eqv, pure0] at he ⊢
  | .str i, e, _, he => by cases e <;> simp [PyData.eqv, pure0] at he ⊢
  | .list xs, e, hd, he => by
    cases e with
    | list ys =>
      rw [pure0] at hd he
      simp only [PyData.eqv, PyData.list.injEq]
      exact eqvA_iff hd he
    | _ => simp [PyData.eqv]
  | .tuple xs, e, hd, he => by
    cases e with
    | tuple ys =>
      rw [pure0] at hd he
      simp only [PyData.eqv, PyData.tuple.injEq]
      exact eqvA_iff hd he
    | _ => simp [PyData.eqv]
  | .bool _, _, hd, _ => by simp [pure0] at hd
  | .dict _, _, hd, _ => by simp [pure0] at hd
theorem eqvA_iff : ∀ {d e : List PyData}, pureA d = true → pureA e = true → (PyData.eqvAll d e = true ↔ d = e)
  | [], [], _, _ => by simp [PyData.eqvAll]
  | [], _ :: _, _, _ => by simp [PyData.eqvAll]
  | _ :: _, [], _, _ => by simp [PyData.eqvAll]
  | d :: ds, e :: es, hd, he => by
    rw [pureA, Bool.and_eq_true] at hd he
    rw [PyData.eqvAll, Bool.and_eq_true, eqv_iff hd.1 he.1, eqvA_iff hd.2 he.2, List.cons.injEq]
end
open Classical in
theorem eqv_dec {d e : PyData} (h1 : pure0 d = true) (h2 : pure0 e = true) : PyData.eqv d e = decide (d = e) := by
  by_cases h : d = e
  · rw [decide_eq_true h]; exact (eqv_iff h1 h2).mpr h
  · rw [decide_eq_false h]
    cases q : PyData.eqv d e with
    | false => rfl
    | true => exact absurd ((eqv_iff h1 h2).mp q) h
/-- data that == takes: good -/
structure Good (d : PyData) : Prop where
  p : pure0 d = true
  s : SeqAt.shaped d = true
open Classical in
theorem eqB_good {d e : PyData} (h1 : Good d) (h2 : Good e) : eqB d e = some (decide (d = e)) := by
  unfold eqB
  rw [← eqv_dec h1.p h2.p]
  split
  · rename_i x y hx hy
    split
    · rename_i hs
      rw [eqv_dec h1.p h2.p]
      congr 1
      have : (x = y) ↔ d = e := by
        cases d <;> simp only [sc, Option.some.injEq, reduceCtorEq] at hx <;> subst hx <;> cases e <;> simp only [sc, Option.some.injEq, reduceCtorEq] at hy <;> subst hy <;> simp
      by_cases q : x = y
      · rw [decide_eq_true q, decide_eq_true (this.mp q)]
      · rw [decide_eq_false q, decide_eq_false fun z => q (this.mpr z)]
    · rfl
  · rw [if_pos (by rw [h1.s, h2.s]; rfl)]
theorem pureA_of {ds : List PyData} (h : ∀ d ∈ ds, pure0 d = true) : pureA ds = true := by
  induction ds with
  | nil => rfl
  | cons d r ih => rw [pureA, h d (by simp), ih fun e he => h e (by simp [he])]; rfl
theorem canAll_of {ds : List PyData} (h : ∀ d ∈ ds, PyData.canLay0 d = true) : PyData.canLayAll0 ds = true := by
  induction ds with
  | nil => rfl
  | cons d r ih => rw [PyData.canLayAll0, h d (by simp), ih fun e he => h e (by simp [he])]; rfl
theorem depthA_of {ds : List PyData} {n : Nat} (h : ∀ d ∈ ds, PyData.depth d ≤ n) : PyData.depthAll ds ≤ n := by
  induction ds with
  | nil => exact Nat.zero_le _
  | cons d r ih =>
    rw [PyData.depthAll]
    exact Nat.max_le.mpr ⟨h d (by simp), ih fun e he => h e (by simp [he])⟩
/-- good data of a depth -/
structure GoodN (n : Nat) (d : PyData) : Prop where
  p : pure0 d = true
  c : PyData.canLay0 d = true
  d : PyData.depth d ≤ n
theorem GoodN.good {n : Nat} {d : PyData} (h : GoodN n d) (hn : n ≤ 64 := by decide) : Good d := ⟨h.p, by
  unfold SeqAt.shaped
  rw [h.c, decide_eq_true (Nat.le_trans h.d hn)]; rfl⟩
theorem GoodN.mono {n m : Nat} {d : PyData} (h : GoodN n d) (hn : n ≤ m) : GoodN m d := ⟨h.p, h.c, Nat.le_trans h.d hn⟩
theorem good_none {n : Nat} : GoodN n .none := ⟨rfl, rfl, Nat.zero_le _⟩
theorem good_int {n : Nat} (i : Int) : GoodN n (.int i) := ⟨rfl, rfl, Nat.zero_le _⟩
theorem good_str {n : Nat} {s : Str} (h : PyData.strOk s = true) : GoodN n (.str s) := ⟨rfl, h, Nat.zero_le _⟩
theorem good_list {n : Nat} {ds : List PyData} (h : ∀ d ∈ ds, GoodN n d) : GoodN (n + 1) (.list ds) :=
  ⟨pureA_of fun d hd => (h d hd).p, canAll_of fun d hd => (h d hd).c, by
    show PyData.depthAll ds + 1 ≤ n + 1
    exact Nat.succ_le_succ (depthA_of fun d hd => (h d hd).d)⟩
theorem good_tuple {n : Nat} {ds : List PyData} (h : ∀ d ∈ ds, GoodN n d) : GoodN (n + 1) (.tuple ds) :=
  ⟨pureA_of fun d hd => (h d hd).p, canAll_of fun d hd => (h d hd).c, by
    show PyData.depthAll ds + 1 ≤ n + 1
    exact Nat.succ_le_succ (depthA_of fun d hd => (h d hd).d)⟩
theorem good_ints {n : Nat} {ns : List Int} : GoodN (n + 1) (.list (ns.map .int)) := good_list fun d hd => by
  obtain ⟨i, _, rfl⟩ := List.mem_map.mp hd
  exact good_int i
theorem good_tints {n : Nat} {ns : List Int} : GoodN (n + 1) (.tuple (ns.map .int)) := good_tuple fun d hd => by
  obtain ⟨i, _, rfl⟩ := List.mem_map.mp hd
  exact good_int i
theorem map_int_inj {a b : List Int} : a.map PyData.int = b.map PyData.int ↔ a = b := by
  constructor
  · intro h
    induction a generalizing b with
    | nil => cases b with
      | nil => rfl
      | cons => cases h
    | cons x r ih => cases b with
      | nil => cases h
      | cons y s =>
        simp only [List.map_cons, List.cons.injEq, PyData.int.injEq] at h
        rw [h.1, ih h.2]
  · intro h; rw [h]
open Classical in
theorem eqB_tints {a b : List Int} : eqB (.tuple (a.map .int)) (.tuple (b.map .int)) = some (decide (a = b)) := by
  rw [eqB_good (good_tints (n := 0)).good (good_tints (n := 0)).good]
  simp only [PyData.tuple.injEq, map_int_inj]
open Classical in
theorem eqB_ints {a b : List Int} : eqB (.list (a.map .int)) (.list (b.map .int)) = some (decide (a = b)) := by
  rw [eqB_good (good_ints (n := 0)).good (good_ints (n := 0)).good]
  simp only [PyData.list.injEq, map_int_inj]
/-! ### sorted whole numbers -/
theorem sortOk_ints (ns : List Int) : sortOk (ns.map .int) = true := by
  unfold sortOk
  simp [PySem.W.alike, SeqAt.shaped, PyData.canLay0, PyData.depth]
theorem sort_ints (ns : List Int) : (ns.map PyData.int).mergeSort (PySem.W.dataLe false id) = (ns.mergeSort fun a b => decide (a ≤ b)).map .int := by
  symm
  refine PySem.W.sort_maps (α := Int) (β := PyData) .int fun a _ b _ => ?_
  have := congrFun (congrFun (PySem.W.dataLe_int (β := Int) (fun x => x)) a) b
  exact this.symm
end DL
namespace DL
open PySem PySem.Spec L2
/-- a comprehension that takes every item and changes nothing -/
theorem sat_lc_map {F : PyData → PyData} {W : Env} {g : PyData → Env → Option Env} {ft : BE} {fe : EE} {vs : List Nat} {ds : List PyData} {ρ : Env} {Q : List PyData × Env → Prop} {t : Tg Q} (hW : wipeE ρ vs = W)
    (hs : ∀ d ∈ ds, osat (g d W) fun ρ1 => sat (ft ρ1) fun b => b.1 = true ∧ sat (fe b.2) fun s => osat (frz s.1) fun x => x = F d ∧ wipeE s.2 vs = W) (hq : ∀ ρ', wipeE ρ' vs = W → Q (ds.map F, ρ')) : satH (lcL g ft fe vs ds ρ) Q t := by
  refine sat_lc (fun i acc ρ => acc = (ds.take i).map F ∧ wipeE ρ vs = W) ⟨by simp, hW⟩ (fun i d acc ρ hd h => ?_) fun acc ρ h => ?_
  · obtain ⟨rfl, h2⟩ := h
    rw [h2]
    refine osat_mono (hs d (List.mem_of_getElem? hd)) fun ρ1 h3 => sat_mono h3 fun b h4 => ?_
    rw [if_pos h4.1]
    refine sat_mono h4.2 fun s h5 => osat_mono h5 fun x h6 => ⟨?_, h6.2⟩
    rw [List.take_add_one, hd, h6.1]
    simp
  · obtain ⟨rfl, h2⟩ := h
    rw [List.take_length]
    exact hq ρ h2
/-- .. whose items are told by a word -/
theorem sat_lc_rel {P : PyData → PyData → Prop} {W : Env} {g : PyData → Env → Option Env} {ft : BE} {fe : EE} {vs : List Nat} {ds : List PyData} {ρ : Env} {Q : List PyData × Env → Prop} {t : Tg Q} (hW : wipeE ρ vs = W)
    (hs : ∀ d ∈ ds, osat (g d W) fun ρ1 => sat (ft ρ1) fun b => b.1 = true ∧ sat (fe b.2) fun s => osat (frz s.1) fun x => P d x ∧ wipeE s.2 vs = W) (hq : ∀ acc ρ', acc.length = ds.length → (∀ x ∈ acc, ∃ d ∈ ds, P d x) → wipeE ρ' vs = W → Q (acc, ρ')) : satH (lcL g ft fe vs ds ρ) Q t := by
  refine sat_lc (fun i acc ρ => (acc.length = i ∧ ∀ x ∈ acc, ∃ d ∈ ds, P d x) ∧ wipeE ρ vs = W) ⟨by simp, hW⟩ (fun i d acc ρ hd h => ?_) fun acc ρ h => ?_
  · obtain ⟨h1, h2⟩ := h
    rw [h2]
    refine osat_mono (hs d (List.mem_of_getElem? hd)) fun ρ1 h3 => sat_mono h3 fun b h4 => ?_
    rw [if_pos h4.1]
    refine sat_mono h4.2 fun s h5 => osat_mono h5 fun x h6 => ⟨⟨by simp [h1.1], fun y hy => ?_⟩, h6.2⟩
    rcases List.mem_append.mp hy with hy | hy
    · exact h1.2 y hy
    · rw [List.mem_singleton.mp hy]
      exact ⟨d, List.mem_of_getElem? hd, h6.1⟩
  · exact hq acc ρ h.1.1 h.1.2 h.2
/-- a fold over the items: the frame is told by what is folded -/
theorem sat_for_fold {W : XW} {α : Type} (st : α → Option Sl → Env) (f : α → PyData → α) {g : PyData → Env → Option Env} {b : SE} {Q : Out → Prop} {t : Tg Q} {ds : List PyData} {ρ : Env} {a : α} {x : Option Sl} (h0 : ρ = st a x)
    (hs : ∀ a d x, d ∈ ds → osat (g d (st a x)) fun ρ1 => sat (b ρ1) fun o => ∃ y, o = .nx (st (f a d) y)) (hq : ∀ y, Q (.nx (st (ds.foldl f a) y))) : satH (forL g b ds ρ) Q t := by
  refine sat_for0 (fun i ρ => ∃ y, ρ = st ((ds.take i).foldl f a) y) ⟨x, by simpa using h0⟩ (fun i d ρ hd h => ?_) fun ρ h => ?_
  · obtain ⟨y, rfl⟩ := h
    refine osat_mono (hs _ d y (List.mem_of_getElem? hd)) fun ρ1 h1 => sat_mono h1 fun o h2 => ?_
    obtain ⟨z, rfl⟩ := h2
    refine ⟨_, rfl, z, ?_⟩
    rw [List.take_add_one, hd]
    simp
  · obtain ⟨y, rfl⟩ := h
    rw [List.take_length]
    exact hq y
end DL
namespace DL
open PySem PySem.Spec L2
@[simp] theorem atI_5 {α : Type} {a b c d e f : α} {l : List α} : atI (a :: b :: c :: d :: e :: f :: l) 5 = some f := atI_nat (j := 5) rfl
@[simp] theorem atI_6 {α : Type} {a b c d e f g : α} {l : List α} : atI (a :: b :: c :: d :: e :: f :: g :: l) 6 = some g := atI_nat (j := 6) rfl
@[simp] theorem atI_7 {α : Type} {a b c d e f g h : α} {l : List α} : atI (a :: b :: c :: d :: e :: f :: g :: h :: l) 7 = some h := atI_nat (j := 7) rfl
@[simp] theorem atI_8 {α : Type} {a b c d e f g h i : α} {l : List α} : atI (a :: b :: c :: d :: e :: f :: g :: h :: i :: l) 8 = some i := atI_nat (j := 8) rfl
@[simp] theorem atI_9 {α : Type} {a b c d e f g h i j : α} {l : List α} : atI (a :: b :: c :: d :: e :: f :: g :: h :: i :: j :: l) 9 = some j := atI_nat (j := 9) rfl
theorem split1 {α : Type} {l : List α} (h : 1 ≤ l.length) : ∃ a r, l = a :: r ∧ l.length = r.length + 1 := by
  cases l with
  | nil => simp at h
  | cons a r => exact ⟨a, r, rfl, rfl⟩
theorem split10 {α : Type} {l : List α} (h : 10 ≤ l.length) : ∃ a0 a1 a2 a3 a4 a5 a6 a7 a8 a9 r, l = a0 :: a1 :: a2 :: a3 :: a4 :: a5 :: a6 :: a7 :: a8 :: a9 :: r := by
  match l, h with
  | a0 :: a1 :: a2 :: a3 :: a4 :: a5 :: a6 :: a7 :: a8 :: a9 :: r, _ => exact ⟨_, _, _, _, _, _, _, _, _, _, _, rfl⟩
theorem cutG_map {α β : Type} (f : α → β) (xs : List α) (lo hi : Option Int) : cutG (xs.map f) lo hi = (cutG xs lo hi).map f := by
  unfold cutG
  rw [List.length_map, ← List.map_drop, ← List.map_take]
theorem cutG_len {α : Type} (xs : List α) (lo hi : Option Int) : (cutG xs lo hi).length ≤ xs.length := by
  unfold cutG
  rw [List.length_take, List.length_drop]
  omega
end DL
namespace DL
open PySem PySem.Spec L2
theorem all_enc {α β : Type} {P : α → Prop} {f : α → β} {acc : List β} (h : ∀ x ∈ acc, ∃ L, P L ∧ x = f L) : ∃ Ls : List α, (∀ l ∈ Ls, P l) ∧ acc = Ls.map f := by
  induction acc with
  | nil => exact ⟨[], by simp, rfl⟩
  | cons x r ih =>
    obtain ⟨Ls, h1, rfl⟩ := ih fun y hy => h y (by simp [hy])
    obtain ⟨L, hL, rfl⟩ := h x (by simp)
    exact ⟨L :: Ls, by simp; exact ⟨hL, h1⟩, rfl⟩
@[simp] theorem stepD_len {i c : Int} {n : Nat} : (stepD i c n).length = n := by simp [stepD]
theorem stepD_get {lo c : Int} {n i : Nat} {d : PyData} (h : (stepD lo c n)[i]? = some d) : d = .int (lo + i * c) ∧ i < n := by
  unfold stepD at h
  rw [List.getElem?_map] at h
  by_cases hi : i < n
  · rw [List.getElem?_range hi] at h
    simp at h
    exact ⟨h.symm, hi⟩
  · rw [List.getElem?_eq_none (by simpa using hi)] at h
    simp at h
@[simp] theorem ixN_0 {n : Nat} : ixN (n + 1) 0 = some 0 := by unfold ixN; simp
@[simp] theorem ixN_1 {n : Nat} : ixN (n + 2) 1 = some 1 := by unfold ixN; simp; omega
@[simp] theorem ixN_2 {n : Nat} : ixN (n + 3) 2 = some 2 := by unfold ixN; simp; omega
@[simp] theorem ixN_3 {n : Nat} : ixN (n + 4) 3 = some 3 := by unfold ixN; simp; omega
theorem ixN_nat {n j : Nat} (h : j < n) : ixN n (j : Int) = some j := by unfold ixN; simp; omega
@[simp] theorem kb_NoneType_int : kitB "NoneType" "int" = some false := by decide +kernel
@[simp] theorem kb_NoneType_bool : kitB "NoneType" "bool" = some false := by decide +kernel
@[simp] theorem kb_NoneType_str : kitB "NoneType" "str" = some false := by decide +kernel
@[simp] theorem kb_NoneType_list : kitB "NoneType" "list" = some false := by decide +kernel
@[simp] theorem kb_NoneType_tuple : kitB "NoneType" "tuple" = some false := by decide +kernel
@[simp] theorem kb_NoneType_dict : kitB "NoneType" "dict" = some false := by decide +kernel
@[simp] theorem kb_int_int : kitB "int" "int" = some true := by decide +kernel
@[simp] theorem kb_int_bool : kitB "int" "bool" = some false := by decide +kernel
@[simp] theorem kb_int_str : kitB "int" "str" = some false := by decide +kernel
@[simp] theorem kb_int_list : kitB "int" "list" = some false := by decide +kernel
@[simp] theorem kb_int_tuple : kitB "int" "tuple" = some false := by decide +kernel
@[simp] theorem kb_int_dict : kitB "int" "dict" = some false := by decide +kernel
@[simp] theorem kb_bool_int : kitB "bool" "int" = some true := by decide +kernel
@[simp] theorem kb_bool_bool : kitB "bool" "bool" = some true := by decide +kernel
@[simp] theorem kb_bool_str : kitB "bool" "str" = some false := by decide +kernel
@[simp] theorem kb_bool_list : kitB "bool" "list" = some false := by decide +kernel
@[simp] theorem kb_bool_tuple : kitB "bool" "tuple" = some false := by decide +kernel
@[simp] theorem kb_bool_dict : kitB "bool" "dict" = some false := by decide +kernel
@[simp] theorem kb_str_int : kitB "str" "int" = some false := by decide +kernel
@[simp] theorem kb_str_bool : kitB "str" "bool" = some false := by decide +kernel
@[simp] theorem kb_str_str : kitB "str" "str" = some true := by decide +kernel
@[simp] theorem kb_str_list : kitB "str" "list" = some false := by decide +kernel
@[simp] theorem kb_str_tuple : kitB "str" "tuple" = some false := by decide +kernel
@[simp] theorem kb_str_dict : kitB "str" "dict" = some false := by decide +kernel
@[simp] theorem kb_list_int : kitB "list" "int" = some false := by decide +kernel
@[simp] theorem kb_list_bool : kitB "list" "bool" = some false := by decide +kernel
@[simp] theorem kb_list_str : kitB "list" "str" = some false := by decide +kernel
@[simp] theorem kb_list_list : kitB "list" "list" = some true := by decide +kernel
@[simp] theorem kb_list_tuple : kitB "list" "tuple" = some false := by decide +kernel
@[simp] theorem kb_list_dict : kitB "list" "dict" = some false := by decide +kernel
@[simp] theorem kb_tuple_int : kitB "tuple" "int" = some false := by decide +kernel
@[simp] theorem kb_tuple_bool : kitB "tuple" "bool" = some false := by decide +kernel
@[simp] theorem kb_tuple_str : kitB "tuple" "str" = some false := by decide +kernel
@[simp] theorem kb_tuple_list : kitB "tuple" "list" = some false := by decide +kernel
@[simp] theorem kb_tuple_tuple : kitB "tuple" "tuple" = some true := by decide +kernel
@[simp] theorem kb_tuple_dict : kitB "tuple" "dict" = some false := by decide +kernel
@[simp] theorem kb_dict_int : kitB "dict" "int" = some false := by decide +kernel
@[simp] theorem kb_dict_bool : kitB "dict" "bool" = some false := by decide +kernel
@[simp] theorem kb_dict_str : kitB "dict" "str" = some false := by decide +kernel
@[simp] theorem kb_dict_list : kitB "dict" "list" = some false := by decide +kernel
@[simp] theorem kb_dict_tuple : kitB "dict" "tuple" = some false := by decide +kernel
@[simp] theorem kb_dict_dict : kitB "dict" "dict" = some true := by decide +kernel
/-- a comprehension that takes some items and changes nothing -/
theorem sat_lc_filt {F : PyData → PyData} {p : PyData → Bool} {W : Env} {g : PyData → Env → Option Env} {ft : BE} {fe : EE} {vs : List Nat} {ds : List PyData} {ρ : Env} {Q : List PyData × Env → Prop} {t : Tg Q} (hW : wipeE ρ vs = W)
    (hs : ∀ d ∈ ds, osat (g d W) fun ρ1 => sat (ft ρ1) fun b => b.1 = p d ∧ (if p d = true then sat (fe b.2) fun s => osat (frz s.1) fun x => x = F d ∧ wipeE s.2 vs = W else wipeE b.2 vs = W)) (hq : ∀ ρ', wipeE ρ' vs = W → Q ((ds.filter p).map F, ρ')) : satH (lcL g ft fe vs ds ρ) Q t := by
  refine sat_lc (fun i acc ρ => acc = ((ds.take i).filter p).map F ∧ wipeE ρ vs = W) ⟨by simp, hW⟩ (fun i d acc ρ hd h => ?_) fun acc ρ h => ?_
  · obtain ⟨rfl, h2⟩ := h
    rw [h2]
    refine osat_mono (hs d (List.mem_of_getElem? hd)) fun ρ1 h3 => sat_mono h3 fun b h4 => ?_
    rw [h4.1]
    have h5 := h4.2
    split
    · rename_i hp
      rw [if_pos hp] at h5
      refine sat_mono h5 fun s h5 => osat_mono h5 fun x h6 => ⟨?_, h6.2⟩
      rw [List.take_add_one, hd, h6.1]
      simp [List.filter_append, hp]
    · rename_i hp
      rw [if_neg hp] at h5
      refine ⟨?_, h5⟩
      rw [List.take_add_one, hd]
      simp [List.filter_append, hp]
  · obtain ⟨rfl, h2⟩ := h
    rw [List.take_length]
    exact hq ρ h2
theorem cutG_from {α : Type} (xs : List α) {i : Int} (h : 0 ≤ i) : cutG xs (some i) none = xs.drop i.toNat := by
  obtain ⟨k, rfl⟩ := Int.eq_ofNat_of_zero_le h
  unfold cutG
  rw [HT.sIx_none]
  show List.take _ (List.drop (HT.sIx xs.length 0 (some (k : Int))) xs) = _
  rw [HT.sIx_nat, Int.toNat_natCast]
  by_cases h : k ≤ xs.length
  · rw [Nat.min_eq_left h, List.take_of_length_le (by simp)]
  · rw [Nat.min_eq_right (by omega), List.drop_eq_nil_of_le (by omega), List.drop_eq_nil_of_le (by omega)]
    simp
theorem cutG_to {α : Type} (xs : List α) {i : Int} (h : 0 ≤ i) : cutG xs none (some i) = xs.take i.toNat := by
  obtain ⟨k, rfl⟩ := Int.eq_ofNat_of_zero_le h
  unfold cutG
  rw [HT.sIx_none]
  show List.take (HT.sIx xs.length xs.length (some (k : Int)) - 0) (List.drop 0 xs) = _
  rw [HT.sIx_nat, Int.toNat_natCast, List.drop_zero, Nat.sub_zero]
  by_cases h : k ≤ xs.length
  · rw [Nat.min_eq_left h]
  · rw [Nat.min_eq_right (by omega), List.take_of_length_le (by omega), List.take_of_length_le (by omega)]
theorem cutG_fromto {α : Type} (xs : List α) {i j : Int} (h : 0 ≤ i) (h' : 0 ≤ j) : cutG xs (some i) (some j) = (xs.drop i.toNat).take (j.toNat - i.toNat) := by
  obtain ⟨k, rfl⟩ := Int.eq_ofNat_of_zero_le h
  obtain ⟨l, rfl⟩ := Int.eq_ofNat_of_zero_le h'
  unfold cutG
  show List.take (HT.sIx xs.length xs.length (some (l : Int)) - HT.sIx xs.length 0 (some (k : Int))) (List.drop (HT.sIx xs.length 0 (some (k : Int))) xs) = _
  rw [HT.sIx_nat, HT.sIx_nat, Int.toNat_natCast, Int.toNat_natCast]
  by_cases h : k ≤ xs.length
  · rw [Nat.min_eq_left h]
    by_cases h2 : l ≤ xs.length
    · rw [Nat.min_eq_left h2]
    · rw [Nat.min_eq_right (by omega), List.take_of_length_le (by simp), List.take_of_length_le (by simp; omega)]
  · rw [Nat.min_eq_right (by omega : xs.length ≤ k), List.drop_eq_nil_of_le (by omega), List.drop_eq_nil_of_le (by omega)]
    simp
@[simp] theorem cutG_1 {α : Type} (xs : List α) : cutG xs (some 1) none = xs.drop 1 := cutG_from xs (i := 1) (by decide)
/-- a slot that holds data or nothing -/
def OD (x : Option Sl) : Prop := x = none ∨ ∃ d, x = some (.dat d)
theorem OD.n : OD none := Or.inl rfl
theorem OD.s {d : PyData} : OD (some (.dat d)) := Or.inr ⟨d, rfl⟩
theorem OD.d {x : Option Sl} (h : OD x) : isDat (some x) = true := by rcases h with rfl | ⟨d, rfl⟩ <;> rfl
@[simp] theorem cutG_m1 {α : Type} (xs : List α) : cutG xs none (some (-1)) = xs.dropLast := by
  unfold cutG
  rw [HT.sIx_none]
  show List.take ((-1 + (xs.length : Int)).toNat - 0) (List.drop 0 xs) = _
  rw [List.drop_zero, List.dropLast_eq_take]
  congr 1
  omega
@[simp] theorem cutG_all {α : Type} (xs : List α) : cutG xs none none = xs := by
  unfold cutG
  rw [HT.sIx_none, HT.sIx_none]
  simp
@[simp] theorem cutG_0 {α : Type} (xs : List α) : cutG xs (some 0) none = xs := (cutG_from xs (i := 0) (by decide)).trans rfl
@[simp] theorem cutG_2 {α : Type} (xs : List α) : cutG xs (some 2) none = xs.drop 2 := cutG_from xs (i := 2) (by decide)
@[simp] theorem cutG_t1 {α : Type} (xs : List α) : cutG xs none (some 1) = xs.take 1 := cutG_to xs (i := 1) (by decide)
theorem map_get {α : Type} {f : α → PyData} {ds : List α} {i : Nat} {d : PyData} (h : (ds.map f)[i]? = some d) : ∃ u, ds[i]? = some u ∧ d = f u ∧ i < ds.length ∧ u ∈ ds := by
  rw [List.getElem?_map] at h
  obtain ⟨u, hu, rfl⟩ := Option.map_eq_some_iff.mp h
  exact ⟨u, hu, rfl, (List.getElem?_eq_some_iff.mp hu).1, List.mem_of_getElem? hu⟩
theorem take_succ {α : Type} {ds : List α} {i : Nat} {u : α} (h : ds[i]? = some u) : ds.take (i + 1) = ds.take i ++ [u] := by rw [List.take_add_one, h]; rfl
end DL
/-! DLl: strings as lists of codes. -/
namespace DL
open PySem PySem.Spec L2
def stL (cs : List Nat) : Str := ⟨cs.toArray⟩
@[simp] theorem str_mk1 (c : Nat) : (Str.mk #[c]) = stL [c] := (Eq.trans rfl rfl)
theorem stL_of (s : Str) : stL s.cps.toList = s := by cases s; rfl
@[simp] theorem stL_len (cs : List Nat) : (stL cs).length = cs.length := by simp [stL, Str.length]
@[simp] theorem stL_cps (cs : List Nat) : (stL cs).cps.toList = cs := by simp [stL]
@[simp] theorem stL_app (a b : List Nat) : stL a ++ stL b = stL (a ++ b) := by
  show Str.mk _ = _
  simp [stL]
@[simp] theorem stL_inj {a b : List Nat} : stL a = stL b ↔ a = b := ⟨fun h => by
  have := congrArg (fun s => s.cps.toList) h
  simpa using this, fun h => by rw [h]⟩
@[simp] theorem cutS_stL (cs : List Nat) (lo hi : Option Int) : cutS (stL cs) lo hi = stL (cutG cs lo hi) := by
  unfold cutS cutG
  rw [stL_len]
  rfl
theorem signs_stL (cs : List Nat) : signs (stL cs) = cs.map fun c => PyData.str (stL [c]) := by
  unfold signs
  rw [stL_cps]
  rfl
@[simp] theorem strMul_stL (cs : List Nat) (k : Int) : strMul (stL cs) k = stL (List.replicate k.toNat cs).flatten := by
  unfold strMul
  rw [stL_cps]
  rfl
@[simp ↓] theorem inD_sign {c : Nat} {cs : List Nat} {Q : Sl → Prop} : osat (inD (.str (stL [c])) (.str (stL cs))) Q = Q (.dat (.bool (decide (c ∈ cs)))) := by
  unfold inD
  rw [osat_map]
  show osat (inS (stL [c]) (stL cs)) _ = _
  unfold inS
  rw [stL_cps, stL_cps]
  rfl
@[simp ↓] theorem notInD_sign {c : Nat} {cs : List Nat} {Q : Sl → Prop} : osat (notInD (.str (stL [c])) (.str (stL cs))) Q = Q (.dat (.bool (!decide (c ∈ cs)))) := by
  unfold notInD
  rw [osat_map]
  show osat (inS (stL [c]) (stL cs)) _ = _
  unfold inS
  rw [stL_cps, stL_cps]
  rfl
/-- text of signs that can stand -/
def chOk (cs : List Nat) : Prop := ∀ c ∈ cs, c < 1114112
theorem strOk_stL {cs : List Nat} (h : chOk cs) : PyData.strOk (stL cs) = true := by
  unfold PyData.strOk
  rw [← Array.all_toList, stL_cps, List.all_eq_true]
  intro c hc
  exact decide_eq_true (h c hc)
end DL
/-! DLm: more of strings: startswith, endswith, index, join; the last item. -/
namespace DL
open PySem PySem.Spec L2
section
variable {K : PySem.W.Frag} {mg : Str → Option Value}
theorem atI_app {α : Type} {l : List α} {x : α} : atI (l ++ [x]) (-1) = some x := by
  have h : ixN (l.length + 1) (-1) = some l.length := by
    unfold ixN
    rw [if_neg (by omega), if_pos (by omega)]
    congr 1
    omega
  unfold atI
  rw [List.length_append, List.length_singleton, h]
  simp
theorem atI_last {α : Type} {l : List α} {x : α} (h : l.getLast? = some x) : atI l (-1) = some x := by
  obtain ⟨p, rfl⟩ := List.getLast?_eq_some_iff.mp h
  exact atI_app
theorem subAt_stL {a b : List Nat} {i : Nat} : Builtin.Str.subAt (stL a) (stL b) i = decide ((a.drop i).take b.length = b) := by
  unfold Builtin.Str.subAt stL
  show (a.toArray.extract i (i + b.toArray.size) == b.toArray) = _
  rw [List.extract_toArray, List.size_toArray, List.extract_eq_drop_take, Nat.add_sub_cancel_left]
  by_cases h : (a.drop i).take b.length = b
  · rw [h]; simp
  · rw [decide_eq_false h]
    simpa using h
theorem starts_stL {a b : List Nat} : Txt.startswith (stL a) (stL b) = decide (a.take b.length = b) := by
  unfold Txt.startswith
  rw [stL_len, stL_len, subAt_stL, List.drop_zero]
  by_cases h : a.take b.length = b
  · have : b.length ≤ a.length := by
      have := congrArg List.length h
      rw [List.length_take] at this
      omega
    simp [h, this]
  · simp [h]
theorem ends_stL {a b : List Nat} : Txt.endswith (stL a) (stL b) = decide (b.length ≤ a.length ∧ a.drop (a.length - b.length) = b) := by
  unfold Txt.endswith
  rw [stL_len, stL_len, subAt_stL]
  by_cases h : b.length ≤ a.length
  · have e : (a.drop (a.length - b.length)).take b.length = a.drop (a.length - b.length) := List.take_of_length_le (by rw [List.length_drop]; omega)
    rw [e]
    simp [h]
  · simp [h]
@[simp ↓] theorem startsD_stL {a b : List Nat} {Q : Sl → Prop} : osat (startsD (stL a) (.str (stL b))) Q = Q (.dat (.bool (decide (a.take b.length = b)))) := by
  rw [← starts_stL]
  rfl
@[simp ↓] theorem endsD_stL {a b : List Nat} {Q : Sl → Prop} : osat (endsD (stL a) (.str (stL b))) Q = Q (.dat (.bool (decide (b.length ≤ a.length ∧ a.drop (a.length - b.length) = b)))) := by
  rw [← ends_stL]
  rfl
/-! text.index(sign) -/
def sindexD (z : Str) : PyData → Option Sl
  | .str y => match Builtin.Str.occurrences z y 0 z.length 1 with
    | i :: _ => some (.dat (.int (i : Nat)))
    | [] => none
  | _ => none
def rSindex : V → List V → Hp → VK → Prop := fun x xs H Q => ∃ a b i rest, x = .str a ∧ xs = [.str b] ∧ Builtin.Str.occurrences a b 0 a.length 1 = i :: rest ∧ Q (.int (i : Nat)) H
theorem mt_sindexU {X : Cx} : MtR X "str.index" rSindex := mt_sindex
theorem sm_sindex : SndM1 K mg rSindex sindexD := by
  intro F H z w e s s0 h es Q q
  unfold sindexD at es
  split at es
  · split at es
    · rename_i y i rest ho
      cases es
      exact ⟨z, _, i, rest, rfl, by rw [h.rep_str], ho, fin_dat s0 q (.int _)⟩
    · cases es
  · cases es
/-! sep.join(list or tuple of texts) -/
def strsOf : List PyData → Option (List Str)
  | [] => some []
  | .str s :: r => (strsOf r).map (s :: ·)
  | _ => none
theorem strsOf_eq : ∀ {ds : List PyData} {ys : List Str}, strsOf ds = some ys → ds = ys.map .str
  | [], _, h => by cases h; rfl
  | .str s :: r, ys, h => by
    unfold strsOf at h
    cases e : strsOf r with
    | none => rw [e] at h; cases h
    | some zs =>
      rw [e] at h
      cases h
      rw [strsOf_eq e]
      rfl
  | .none :: _, _, h | .bool _ :: _, _, h | .int _ :: _, _, h | .list _ :: _, _, h | .tuple _ :: _, _, h | .dict _ :: _, _, h => by cases h
@[simp] theorem strsOf_map (ys : List Str) : strsOf (ys.map .str) = some ys := by
  induction ys with
  | nil => rfl
  | cons a r ih => rw [List.map_cons, strsOf, ih]; rfl
def joinS (z : Str) (ys : List Str) : Option Sl := if (ys.map (·.length)).sum + ys.length * z.length ≤ 16777216 then some (.dat (.str (Txt.join z ys))) else none
def joinD (z : Str) : PyData → Option Sl
  | .list ds => (strsOf ds).bind (joinS z)
  | .tuple ds => (strsOf ds).bind (joinS z)
  | _ => none
def rJoin (K : PySem.W.Frag) : V → List V → Hp → VK → Prop := fun x xs H Q => ∃ a p, ∃ ys : List Str, x = .str a ∧ xs = [.ref p] ∧ (SqL K H p (ys.map V.str) ∨ SqT K H p (ys.map V.str)) ∧ (ys.map (·.length)).sum + ys.length * a.length ≤ 16777216 ∧ Q (.str (Txt.join a ys)) H
theorem mt_joinU {X : Cx} : MtR X "str.join" (rJoin X.K) := mt_join
theorem sm_join : SndM1 K mg (rJoin K) joinD := by
  intro F H z w e s s0 h es Q q
  unfold joinD at es
  split at es
  · rename_i ds
    cases e : strsOf ds with
    | none => rw [e] at es; cases es
    | some ys =>
      rw [e] at es
      cases strsOf_eq e
      have es : joinS z ys = some s := es
      unfold joinS at es
      split at es
      · rename_i hz
        cases es
        obtain ⟨p, ws, rfl, a1, b1⟩ := h.list s0
        cases b1.strs
        exact ⟨z, p, ys, rfl, rfl, .inl (.inl a1), hz, fin_dat s0 q (.str _)⟩
      · cases es
  · rename_i ds
    cases e : strsOf ds with
    | none => rw [e] at es; cases es
    | some ys =>
      rw [e] at es
      cases strsOf_eq e
      have es : joinS z ys = some s := es
      unfold joinS at es
      split at es
      · rename_i hz
        cases es
        obtain ⟨p, ws, rfl, a1, a2, b1⟩ := h.tuple s0
        cases b1.strs
        exact ⟨z, p, ys, rfl, rfl, .inr (.inl a1), hz, fin_dat s0 q (.str _)⟩
      · cases es
  · cases es
end
section
variable {W : XW} {g : PyData → Env → Option Env} {b : SE} {Q : Out → Prop} {t : Tg Q}
/-- a goal that is not looked into (obtain, exact and rcases work out what stands before them, down to great numbers) -/
structure Go (P : Prop) : Prop where
  h : P
/-- over a list that is told by another one -/
theorem sat_for_mapG {α : Type} (f : α → PyData) (I : Nat → Env → Prop) {xs : List α} {ρ : Env} (h0 : I 0 ρ) (hs : ∀ (i : Nat) u ρ, xs[i]? = some u → I i ρ → Go (osat (g (f u) ρ) fun ρ1 => sat (b ρ1) fun o => ∃ ρ2, o = .nx ρ2 ∧ I (i + 1) ρ2)) (hq : ∀ ρ, I xs.length ρ → Go (Q (.nx ρ))) : satH (forL g b (xs.map f) ρ) Q t := by
  refine sat_for0 I h0 (fun i d ρ hd h => ?_) (by rw [List.length_map]; exact fun ρ h => (hq ρ h).h)
  obtain ⟨u, hu, rfl, _⟩ := map_get hd
  exact (hs i u ρ hu h).h
theorem sat_for_rngG {n : Nat} (I : Nat → Env → Prop) {ρ : Env} (h0 : I 0 ρ) (hs : ∀ (i : Nat) ρ, i < n → I i ρ → Go (osat (g (.int i) ρ) fun ρ1 => sat (b ρ1) fun o => ∃ ρ2, o = .nx ρ2 ∧ I (i + 1) ρ2)) (hq : ∀ ρ, I n ρ → Go (Q (.nx ρ))) : satH (forL g b (rangeD 0 n) ρ) Q t := by
  refine sat_for0 I h0 (fun i d ρ hd h => ?_) (by rw [rangeD_len]; exact fun ρ h => (hq ρ h).h)
  obtain ⟨rfl, hi⟩ := rangeD_get hd
  rw [Int.zero_add]
  exact (hs i ρ hi h).h
/-- over a list that is told by another one -/
theorem sat_for_map {α : Type} (f : α → PyData) (I : Nat → Env → Prop) {xs : List α} {ρ : Env} (h0 : I 0 ρ) (hs : ∀ (i : Nat) u ρ, xs[i]? = some u → I i ρ → osat (g (f u) ρ) fun ρ1 => sat (b ρ1) fun o => ∃ ρ2, o = .nx ρ2 ∧ I (i + 1) ρ2) (hq : ∀ ρ, I xs.length ρ → Q (.nx ρ)) : satH (forL g b (xs.map f) ρ) Q t := by
  refine sat_for0 I h0 (fun i d ρ hd h => ?_) (by rw [List.length_map]; exact hq)
  obtain ⟨u, hu, rfl, _⟩ := map_get hd
  exact hs i u ρ hu h
theorem sat_for_mapX {α : Type} (f : α → PyData) (I : Nat → Env → Prop) {xs : List α} {ρ : Env} (h0 : I 0 ρ) (hs : ∀ (i : Nat) u ρ, xs[i]? = some u → I i ρ → osat (g (f u) ρ) fun ρ1 => sat (b ρ1) fun o => match o with
    | .nx ρ2 => I (i + 1) ρ2
    | .ct ρ2 => I (i + 1) ρ2
    | .bk ρ2 => Q (.nx ρ2)
    | .rt s ρ2 => Q (.rt s ρ2)) (hq : ∀ ρ, I xs.length ρ → Q (.nx ρ)) : satH (forL g b (xs.map f) ρ) Q t := by
  refine sat_for I h0 (fun i d ρ hd h => ?_) (by rw [List.length_map]; exact hq)
  obtain ⟨u, hu, rfl, _⟩ := map_get hd
  exact hs i u ρ hu h
/-- over a range -/
theorem sat_for_rng {lo : Int} {n : Nat} (I : Nat → Env → Prop) {ρ : Env} (h0 : I 0 ρ) (hs : ∀ (i : Nat) ρ, i < n → I i ρ → osat (g (.int (lo + i)) ρ) fun ρ1 => sat (b ρ1) fun o => ∃ ρ2, o = .nx ρ2 ∧ I (i + 1) ρ2) (hq : ∀ ρ, I n ρ → Q (.nx ρ)) : satH (forL g b (rangeD lo n) ρ) Q t := by
  refine sat_for0 I h0 (fun i d ρ hd h => ?_) (by rw [rangeD_len]; exact hq)
  obtain ⟨rfl, hi⟩ := rangeD_get hd
  exact hs i ρ hi h
theorem sat_for_rng0 {n : Nat} (I : Nat → Env → Prop) {ρ : Env} (h0 : I 0 ρ) (hs : ∀ (i : Nat) ρ, i < n → I i ρ → osat (g (.int i) ρ) fun ρ1 => sat (b ρ1) fun o => ∃ ρ2, o = .nx ρ2 ∧ I (i + 1) ρ2) (hq : ∀ ρ, I n ρ → Q (.nx ρ)) : satH (forL g b (rangeD 0 n) ρ) Q t :=
  sat_for_rng I h0 (fun i ρ hi h => by rw [Int.zero_add]; exact hs i ρ hi h) hq
theorem sat_for_rngX {lo : Int} {n : Nat} (I : Nat → Env → Prop) {ρ : Env} (h0 : I 0 ρ) (hs : ∀ (i : Nat) ρ, i < n → I i ρ → osat (g (.int (lo + i)) ρ) fun ρ1 => sat (b ρ1) fun o => match o with
    | .nx ρ2 => I (i + 1) ρ2
    | .ct ρ2 => I (i + 1) ρ2
    | .bk ρ2 => Q (.nx ρ2)
    | .rt s ρ2 => Q (.rt s ρ2)) (hq : ∀ ρ, I n ρ → Q (.nx ρ)) : satH (forL g b (rangeD lo n) ρ) Q t := by
  refine sat_for I h0 (fun i d ρ hd h => ?_) (by rw [rangeD_len]; exact hq)
  obtain ⟨rfl, hi⟩ := rangeD_get hd
  exact hs i ρ hi h
end
end DL
/-! DLn: zip. -/
namespace DL
open PySem PySem.Spec L2
section
variable {K : PySem.W.Frag} {mg : Str → Option Value} {E : L2.St → XK}
def zipD (ds es : List PyData) : List PyData := (ds.zip es).map fun p => .tuple [p.1, p.2]
theorem zipD_len (ds es : List PyData) : (zipD ds es).length = min ds.length es.length := by simp [zipD]
theorem zipD_get {ds es : List PyData} {i : Nat} {d e : PyData} (h1 : ds[i]? = some d) (h2 : es[i]? = some e) : (zipD ds es)[i]? = some (.tuple [d, e]) := by
  unfold zipD
  rw [List.getElem?_map, (List.getElem?_zip_eq_some (z := (d, e))).mpr ⟨h1, h2⟩]
  rfl
theorem wk_zipT {F : Hp} {a b : Addr} {xs ys : List V} {ds es : List PyData} (h : SqT K F a xs) (r : Reps K F xs ds) (h' : SqT K F b ys) (r' : Reps K F ys es) : Wk K (RZ.ItzT K a b) F (zipD ds es) where
  stop := fun i H s hi => ⟨xs, ys, Same.sqt s h, Same.sqt s h', by rw [r.length, r'.length]; rw [zipD_len] at hi; omega⟩
  go := fun i H s hi => by
    rw [zipD_len] at hi
    have h1 : i < ds.length := by omega
    have h2 : i < es.length := by omega
    obtain ⟨v, e, _⟩ := r.get (i := i) (d := ds[i]) (by simp [h1])
    obtain ⟨v', e', _⟩ := r'.get (i := i) (d := es[i]) (by simp [h2])
    exact ⟨xs, ys, v, v', Same.sqt s h, Same.sqt s h', e, e'⟩
  yld := fun i H F2 x H' s1 s2 y hi => by
    obtain ⟨T, x', y', rfl, nT, rfl, e1, e2⟩ := y
    have e1 := e1 xs (Same.sqt (s1.trans s2) h)
    have e2 := e2 ys (Same.sqt (s1.trans s2) h')
    obtain ⟨d, ed, hd⟩ := r.getV e1
    obtain ⟨d', ed', hd'⟩ := r'.getV e2
    have x2 := Ext.data (o := .tup [x', y']) s2 nT
    refine ⟨.tuple [d, d'], _, zipD_get ed ed', x2, .tup upd_same (.cons (hd.mono (s1.trans x2.f)) (.cons (hd'.mono (s1.trans x2.f)) .nil))⟩
theorem wk_zipL {F : Hp} {a b : Addr} {xs ys : List V} {ds es : List PyData} (h : SqL K F a xs) (r : Reps K F xs ds) (h' : SqL K F b ys) (r' : Reps K F ys es) : Wk K (Itz K a b) F (zipD ds es) where
  stop := fun i H s hi => ⟨xs, ys, Same.sql s h, Same.sql s h', by rw [r.length, r'.length]; rw [zipD_len] at hi; omega⟩
  go := fun i H s hi => by
    rw [zipD_len] at hi
    have h1 : i < ds.length := by omega
    have h2 : i < es.length := by omega
    obtain ⟨v, e, _⟩ := r.get (i := i) (d := ds[i]) (by simp [h1])
    obtain ⟨v', e', _⟩ := r'.get (i := i) (d := es[i]) (by simp [h2])
    exact ⟨xs, ys, v, v', Same.sql s h, Same.sql s h', e, e'⟩
  yld := fun i H F2 x H' s1 s2 y hi => by
    obtain ⟨T, x', y', rfl, nT, rfl, e1, e2⟩ := y
    have e1 := e1 xs (Same.sql (s1.trans s2) h)
    have e2 := e2 ys (Same.sql (s1.trans s2) h')
    obtain ⟨d, ed, hd⟩ := r.getV e1
    obtain ⟨d', ed', hd'⟩ := r'.getV e2
    have x2 := Ext.data (o := .tup [x', y']) s2 nT
    refine ⟨.tuple [d, d'], _, zipD_get ed ed', x2, .tup upd_same (.cons (hd.mono (s1.trans x2.f)) (.cons (hd'.mono (s1.trans x2.f)) .nil))⟩
def iZp (fl : LE) : DE := fun ρ => do
  let (ps, ρ) ← fl ρ
  let ds ← R.of (getsF ρ ps)
  match ds with
  | [.list ds, .list es] => pure (zipD ds es, ρ)
  | [.tuple ds, .tuple es] => pure (zipD ds es, ρ)
  | _ => .bad
theorem pi_zip {X : Cx} {e e2 : Expr} {ta : TA} {p pos tpos : Pos} {elts : List Expr} {kk : Nat} (hg : Gl X "zip") (hm : X.mg "zip" = none) (ha : PA X [e, e2] ta)
    (hs : starEach [e, e2] X.env = (false, eval e X.env) :: starEach [e2] X.env := by rfl) (hpl : (backTo pos (starEach [e2] X.env)).any (·.1) = false := by rfl) :
    PI X (.Tuple elts kk tpos) (.Call (.Name "zip" p) [e, e2] [] pos) (RZ.iZipA X.K ta) := RZ.pi_zipA hg hm ha hs hpl
theorem sn_iZp {ta : TA} {fl : LE} (h : SndL K mg E ta fl) : SndI K mg E (RZ.iZipA K ta) (iZp fl) := by
  intro G F H σ ρ r Q q
  unfold iZp at q
  rw [post_bind] at q
  refine h G F H σ ρ r _ (q.mono fun ps ρ1 q1 vs F1 H1 e1 r1 h1 => ?_)
  try dsimp only at q1
  obtain ⟨ds, ed, q2⟩ := q1.of
  have hd := h1.getsF r1 ed
  split at q2
  · cases hd with
    | cons hd t =>
      cases t with
      | cons hd2 t =>
        cases t
        cases hd with
        | lst hs hr =>
          cases hd2 with
          | lst hs2 hr2 => exact ⟨_, _, _, _, rfl, .inl ⟨.inl (Same.rd r1.sub hs), .inl (Same.rd r1.sub hs2), q2 _ F1 H1 e1 r1 (wk_zipL (.inl hs) hr (.inl hs2) hr2)⟩⟩
  · cases hd with
    | cons hd t =>
      cases t with
      | cons hd2 t =>
        cases t
        cases hd with
        | tup hs hr =>
          cases hd2 with
          | tup hs2 hr2 => exact ⟨_, _, _, _, rfl, .inr ⟨.inl (.inl (r1.sub _ _ hs)), .inl (.inl (r1.sub _ _ hs2)), q2 _ F1 H1 e1 r1 (wk_zipT (.inl (.inl hs)) hr (.inl (.inl hs2)) hr2)⟩⟩
  · exact q2.elim
@[simp ↓] theorem sat_iZp {W : XW} {fl : LE} {ρ : Env} {Q} : sat (iZp fl ρ) Q = sat (fl ρ) fun p => osat (getsF p.2 p.1) fun ds => match ds with
    | [.list ds, .list es] => Q (zipD ds es, p.2)
    | [.tuple ds, .tuple es] => Q (zipD ds es, p.2)
    | _ => False := by
  unfold iZp
  rw [sat_bind]
  congr 1
  funext p
  rw [sat_bind, sat_of]
  congr 1
  funext ds
  split <;> rfl
end
end DL
/-! DLo: enumerate over a tuple. -/
namespace PySem
open Sem (wp)
open AutoSeq1 (wpAny_loadPart')
theorem DLmeets_enumT (l : Addr) (items : Array Value) :
    Meets (Builtin.«enumerate.__new__» ⟨[.type "enumerate", .ref l], []⟩) (fun _ R s => s.heap.IsTuple l items ∧
      R (.ok (.ret (.ref (s.heap.push { cls := .type "tuple_iterator", data := .fields #[.ref l, .int 0 0] }).objs.size)))
        { s with heap := (s.heap.push { cls := .type "tuple_iterator", data := .fields #[.ref l, .int 0 0] }).push { cls := .type "enumerate", data := .fields #[.none, .bool false, .ref s.heap.objs.size, rawInt 0, .none, .none] } }) :=
  .of_wp fun prog w A R s h => by
    obtain ⟨hp, g, d, tk, os⟩ := s; obtain ⟨hl, h⟩ := h
    have hsub := sub_enumerate
    have hL : Heap.IsTuple (Shared.heap ⟨hp, g, d, tk, os⟩) l items := hl
    wp_walk
    refine wpAny_stack_any fun st => wpAny_pure ?_
    split
    · rename_i c _ _ _ _ _
      cases (c == Value.type "enumerate")
      · wp_walk using wpAny_pyIter_tuple hL
        exact ⟨_, rfl, h⟩
      · wp_walk using wpAny_pyIter_tuple hL
        exact ⟨_, rfl, h⟩
    · wp_walk using wpAny_pyIter_tuple hL
      exact ⟨_, rfl, h⟩
section
variable {prog : Program} {w : World} {A : Around} {E : Value → Shared → Prop} {s : Shared}
theorem DLcall_enumT {l : Addr} {items : Array Value} {Q : Value → Shared → Prop} (hL : s.heap.IsTuple l items)
    (h : ∀ h', IsEnum h' (s.heap.objs.size + 1) s.heap.objs.size 0 .none → h'.IsTupleIter s.heap.objs.size l 0 → h'.objs.size = s.heap.objs.size + 2 →
      (∀ b o, s.heap.get? b = some o → h'.get? b = some o) → Q (.ref (s.heap.objs.size + 1)) { s with heap := h' }) :
    wpAny (model prog w) A (call (.type "enumerate") [.ref l]) Q E s := by
  refine callType_new F.called_enumerate (by decide) (F.typeCall_enumerate_1 _) (F.newCall_enumerate_1 _) (fun obj => F.args_object_init_2 obj _) F.entry_enumerate_new
    (DLmeets_enumT l items) ⟨hL, ?_⟩
  have hz : (s.heap.push { cls := .type "tuple_iterator", data := .fields #[.ref l, .int 0 0] }).objs.size = s.heap.objs.size + 1 := Heap.size_push ..
  show _ ∧ _
  rw [hz]
  have he : IsEnum ((s.heap.push { cls := .type "tuple_iterator", data := .fields #[.ref l, .int 0 0] }).push
      { cls := .type "enumerate", data := .fields #[.none, .bool false, .ref s.heap.objs.size, rawInt 0, .none, .none] }) (s.heap.objs.size + 1) s.heap.objs.size 0 .none := by
    have := Heap.get?_push_size (s.heap.push { cls := .type "tuple_iterator", data := .fields #[.ref l, .int 0 0] })
      (o := { cls := .type "enumerate", data := .fields #[.none, .bool false, .ref s.heap.objs.size, rawInt 0, .none, .none] }) rfl
    rw [hz] at this; exact this
  refine ⟨⟨_, he, rfl⟩, h _ he ⟨_, Heap.get?_push_of_some _ (Heap.get?_push_size _ rfl), rfl, rfl⟩ (by rw [Heap.size_push, hz]) fun b o x => Heap.get?_push_of_some _ (Heap.get?_push_of_some _ x)⟩
end
end PySem
namespace DL
open PySem PySem.Spec L2
open PyProof.Rows
/-- the tuple at a as it stands at each turn, each item in a new pair -/
def ItEt (K : PySem.W.Frag) (a : Addr) : It :=
  ⟨fun i H => ∃ (xs : List V) (x : V), SqT K H a xs ∧ xs[i]? = some x, fun i H v H' => ∃ T x, v = .ref T ∧ H T = none ∧ H' = upd H T (.tup [.int (i : Nat), x]) ∧ ∀ xs, SqT K H a xs → xs[i]? = some x, fun i H => ∃ xs : List V, SqT K H a xs ∧ xs.length ≤ i⟩
theorem turn_enumT {P : Program} {w : World} {K : PySem.W.Frag} {elts : List Expr} {kk : Nat} {tpos : Pos} (a e it : Addr) (hae : a ≠ e) (hai : a ≠ it) :
    Turn P w K (.Tuple elts kk tpos) (ItEt K a) [e, it] e (fun i h => (∃ old, IsEnum h e it ((i : Nat) : Int) old) ∧ h.IsTupleIter it a i ∧ e ≠ it) where
  mem := by simp
  obj := fun i h st b hb => by
    obtain ⟨⟨old, he⟩, ⟨o, ho, hc, hd⟩, _⟩ := st
    have e' : b = e ∨ b = it := by simpa using hb
    rcases e' with z | z
    · rw [z]; exact ⟨_, he, fun v q => nomatch q⟩
    · rw [z]; exact ⟨o, ho, fun v q => by rw [hd] at q; cases q⟩
  keep := fun i h h' st k => let ⟨⟨old, he⟩, hi, hne⟩ := st; ⟨⟨old, k e (by simp) _ he⟩, hi.at fun o q => k it (by simp) o q, hne⟩
  item := by
    intro X hP hw hK hc i pins s σ H E I hf st hg
    subst hP hw hK
    obtain ⟨⟨old, he⟩, hit, hne⟩ := st
    obtain ⟨xs, x, hq, hx⟩ := hg
    obtain ⟨its, rv, p, hz⟩ := I.tuple hq
    have p : s.heap.IsTuple a its.toArray := p
    obtain ⟨u, hu, ru⟩ := rv.get hx
    have hel : e < s.heap.objs.size := Heap.lt_size he
    have hil : it < s.heap.objs.size := by obtain ⟨_, q, _⟩ := hit; exact Heap.lt_size q
    have D := Draws.tuple (prog := X.prog) (w := X.w) (A := X.A.in1) (I.ok.hd hc) it a hai its.toArray
    have hlt : i < its.toArray.size := by
      have := (List.getElem?_eq_some_iff.mp hu).1
      simpa using this
    refine wpAny_pyNext_enum_itemD D he ⟨hit, p⟩ hlt hne (by simp; exact ⟨hne, fun z => hae z.symm⟩) fun x2 h' tk hP ho hst' hT hsz hk => ?_
    obtain rfl : x2 = u := by
      have h3 : its.toArray[i]? = some u := by simpa using hu
      rw [h3] at hP
      exact (Option.some.inj hP).symm
    refine ⟨_, rfl, wpAny_letOwnedTupleGo_enum (s := { s with heap := h', toks := tk + 1 }) ho fun h'' he' sb => ?_⟩
    have hT2 : h''.get? s.heap.objs.size = some { cls := .type "tuple", data := .seq #[.int i tk, x2] } := (sb.2 _ (Nat.ne_of_gt hel)).trans hT
    have new : ObjOk X.prog X.w (upd H s.heap.objs.size (.tup [.int (i : Nat), x])) h'' s.heap.objs.size (.tup [.int (i : Nat), x]) :=
      ⟨by show 2 ≤ sizeLine; decide, [.int i tk, x2], .cons ⟨_, rfl⟩ (.cons ru .nil), ⟨_, hT2, rfl, _, rfl⟩⟩
    have I1 : Inv X pins σ (upd H s.heap.objs.size (.tup [.int (i : Nat), x])) { s with heap := h'', toks := tk + 1 } :=
      I.turnedNew (ch := [e, it]) (fun b ob hb q => (sb.2 b (fun z => hb (by simp [z]))).trans (hk b ob (fun z => hb (by simp [z])) (fun z => hb (by simp [z])) q)) hf (Nat.le_refl _) new
    refine ⟨.ref s.heap.objs.size, _, I1, rfl, ⟨_, x, rfl, I.hok.fresh (Nat.le_refl _), rfl, fun ys hy => by rw [I.tuple_inj hy hq]; exact hx⟩, ⟨⟨x2, ?_⟩, hst'.1.at fun o q => (sb.2 it (Ne.symm hne)).trans q, hne⟩, fun b hb => ?_⟩
    · have e1 : ((i + 1 : Nat) : Int) = (i : Int) + 1 := by omega
      rw [e1]; exact he'
    · have hb' : b < s.heap.objs.size := by
        have e' : b = e ∨ b = it := by simpa using hb
        rcases e' with z | z
        · rw [z]; exact hel
        · rw [z]; exact hil
      rw [upd_ne (Nat.ne_of_lt hb')]
      exact (hf b hb).1
  done := by
    intro X hP hw hK hc i pins s σ H E I hf st hg
    subst hP hw hK
    obtain ⟨⟨old, he⟩, hit, hne⟩ := st
    obtain ⟨xs, hq, hx⟩ := hg
    obtain ⟨its, rv, p, hz⟩ := I.tuple hq
    have p : s.heap.IsTuple a its.toArray := p
    obtain ⟨f0, f1, f2, f3, f4, f5⟩ := hf it (by simp)
    have hl := rv.length
    unfold pyNext
    have hT : s.TypeIs (.ref e) "enumerate" := ⟨_, he, rfl⟩
    refine wpAny_bind (wpAny_attempt (wpAny_callSpecial?_slot (name := Str.ofString "__next__") hT F.slot_enumerate_next
      (wpAny_call_entry F.slot_enumerate_next hT F.entry_enumerate_next ?_ (F.args_enumerate_next_1 _))))
    show wpAny _ _ (field (.ref e) 2 >>= _) _ _ _
    refine wpAny_bind (wpAny_field he rfl (x := .ref it) rfl ?_)
    refine wpAny_bind (RZ.nextOf_tuple_end (I.ok.hd hc) hit p (by simp; omega) fun h' x he' hx' => ?_)
    obtain ⟨o, ho, hcx⟩ := hx'
    refine wpAny_bind (wpAny_isInstance (T := "StopIteration") (b := true) ⟨o, ho, hcx⟩ isSubtype_stop ?_)
    exact wpAny_pure ⟨rfl, I.turned (t' := s.toks) (fun b o hb q => he' b o hb q) f0 f1 f3 f4 f5⟩
  self := fun A i s Q E st h => let ⟨⟨_, he⟩, _⟩ := st; wpAny_pyIter_enum he h
def iEnumA (K : PySem.W.Frag) (ta : TA) : TI := fun σ H R => ta σ H fun vs H1 => ∃ a xs, vs = [.ref a] ∧ ((SqL K H1 a xs ∧ R (Ite K a) H1) ∨ (SqT K H1 a xs ∧ R (ItEt K a) H1))
theorem pi_enumA {X : Cx} {e : Expr} {ta : TA} {p pos tpos : Pos} {elts : List Expr} {kk : Nat} (hg : Gl X "enumerate") (hm : X.mg "enumerate" = none) (ha : PA X [e] ta) (hs : starEach [e] X.env = [(false, eval e X.env)] := by rfl) :
    PI X (.Tuple elts kk tpos) (.Call (.Name "enumerate" p) [e] [] pos) (iEnumA X.K ta) := by
  refine ⟨fun pins s σ H R I h => ?_⟩
  refine Call_ (ld_blt I hg hm boot_enumerate (PyProof.Rows.callWith_type1 (thn (ha.run pos pins s σ H _ I h) fun us s1 ⟨vs, H1, I1, r1, q1⟩ => ?_) hs rfl))
  obtain ⟨a, xs, ex, q1⟩ := q1
  subst ex
  cases r1 with
  | cons r rr =>
    cases rr
    cases r
    rcases q1 with ⟨hq, q⟩ | ⟨hq, q⟩
    · obtain ⟨its, rv, p', hz⟩ := I1.list hq
      refine call_enumerate_list p'.isList fun h' he hit hsz hk => wpAny_pyIter_enum he ?_
      have I2 : Inv X pins σ H1 { s1 with heap := h' } := I1.kept (t' := s1.toks) hk
      refine ⟨s1.heap.objs.size + 1, [s1.heap.objs.size + 1, s1.heap.objs.size], _, _, H1, rfl, I2, turn_enum a (s1.heap.objs.size + 1) s1.heap.objs.size, ⟨⟨.none, he⟩, hit, Nat.succ_ne_self _⟩, fun b hb => ?_, q⟩
      have e' : b = s1.heap.objs.size + 1 ∨ b = s1.heap.objs.size := by simpa using hb
      have hle : s1.heap.objs.size ≤ b := by
        rcases e' with z | z
        · rw [z]; exact Nat.le_add_right _ _
        · rw [z]; exact Nat.le_refl _
      exact I1.fpOk hle (I1.hok.fresh hle)
    · obtain ⟨its, rv, p', hz⟩ := I1.tuple hq
      obtain ⟨o1, ho1, _⟩ := id p'
      have hlt := Heap.lt_size ho1
      refine DLcall_enumT (show s1.heap.IsTuple a its.toArray from p') fun h' he hit hsz hk => wpAny_pyIter_enum he ?_
      have I2 : Inv X pins σ H1 { s1 with heap := h' } := I1.kept (t' := s1.toks) hk
      refine ⟨s1.heap.objs.size + 1, [s1.heap.objs.size + 1, s1.heap.objs.size], _, _, H1, rfl, I2, turn_enumT a (s1.heap.objs.size + 1) s1.heap.objs.size (Nat.ne_of_lt (Nat.lt_succ_of_lt hlt)) (Nat.ne_of_lt hlt), ⟨⟨.none, he⟩, hit, Nat.succ_ne_self _⟩, fun b hb => ?_, q⟩
      have e' : b = s1.heap.objs.size + 1 ∨ b = s1.heap.objs.size := by simpa using hb
      have hle : s1.heap.objs.size ≤ b := by
        rcases e' with z | z
        · rw [z]; exact Nat.le_add_right _ _
        · rw [z]; exact Nat.le_refl _
      exact I1.fpOk hle (I1.hok.fresh hle)
section
variable {K : PySem.W.Frag} {mg : Str → Option Value} {E : L2.St → XK}
theorem wk_enumT {F : Hp} {a : Addr} {xs : List V} {ds : List PyData} (h : SqT K F a xs) (r : Reps K F xs ds) : Wk K (ItEt K a) F (enumD 0 ds) where
  stop := fun i H s hi => ⟨xs, Same.sqt s h, by rw [r.length]; simpa [enumD_len] using hi⟩
  go := fun i H s hi => by
    have hi : i < ds.length := by simpa [enumD_len] using hi
    obtain ⟨v, e, _⟩ := r.get (i := i) (d := ds[i]) (by simp [hi])
    exact ⟨xs, v, Same.sqt s h, e⟩
  yld := fun i H F2 x H' s1 s2 y hi => by
    obtain ⟨T, x', rfl, nT, rfl, y⟩ := y
    have e := y xs (Same.sqt (s1.trans s2) h)
    obtain ⟨d, ed, hd⟩ := r.getV e
    have x2 := Ext.data (o := .tup [.int (i : Nat), x']) s2 nT
    refine ⟨.tuple [.int (i : Nat), d], _, ?_, x2, .tup upd_same (.cons (.int _) (.cons (hd.mono (s1.trans x2.f)) .nil))⟩
    rw [enumD_get, ed]
    simp
def iEnA (fl : LE) : DE := fun ρ => do
  let (ps, ρ) ← fl ρ
  let ds ← R.of (getsF ρ ps)
  match ds with
  | [.list ds] => pure (enumD 0 ds, ρ)
  | [.tuple ds] => pure (enumD 0 ds, ρ)
  | _ => .bad
theorem sn_iEnA {ta : TA} {fl : LE} (h : SndL K mg E ta fl) : SndI K mg E (iEnumA K ta) (iEnA fl) := by
  intro G F H σ ρ r Q q
  unfold iEnA at q
  rw [post_bind] at q
  refine h G F H σ ρ r _ (q.mono fun ps ρ1 q1 vs F1 H1 e1 r1 h1 => ?_)
  try dsimp only at q1
  obtain ⟨ds, ed, q2⟩ := q1.of
  have hd := h1.getsF r1 ed
  split at q2
  · cases hd with
    | cons hd t =>
      cases t
      cases hd with
      | lst hs hr => exact ⟨_, _, rfl, .inl ⟨.inl (Same.rd r1.sub hs), q2 _ F1 H1 e1 r1 (wk_enum (.inl hs) hr)⟩⟩
  · cases hd with
    | cons hd t =>
      cases t
      cases hd with
      | tup hs hr => exact ⟨_, _, rfl, .inr ⟨.inl (.inl (r1.sub _ _ hs)), q2 _ F1 H1 e1 r1 (wk_enumT (.inl (.inl hs)) hr)⟩⟩
  · exact q2.elim
@[simp ↓] theorem sat_iEnA {W : XW} {fl : LE} {ρ : Env} {Q} : sat (iEnA fl ρ) Q = sat (fl ρ) fun p => osat (getsF p.2 p.1) fun ds => match ds with
    | [.list ds] => Q (enumD 0 ds, p.2)
    | [.tuple ds] => Q (enumD 0 ds, p.2)
    | _ => False := by
  unfold iEnA
  rw [sat_bind]
  congr 1
  funext p
  rw [sat_bind, sat_of]
  congr 1
  funext ds
  split <;> rfl
end
end DL
/-! DLp: dicts. -/
namespace DL
open PySem PySem.Spec L2
theorem hu1 {k : Nat} {A : Around} (r : Room k A) : A.units + 1 < cLine := by have := r.un; omega
def kOf1 : PyData → Option Key
  | .int i => some (.inl i)
  | .str s => some (.inr s)
  | _ => none
def kOfL : List PyData → Option (List Key)
  | [] => some []
  | d :: ds => match kOf1 d, kOfL ds with
    | some k, some ks => some (k :: ks)
    | _, _ => none
def kOf : PyData → Option (Key ⊕ List Key)
  | .tuple ds => (kOfL ds).map .inr
  | d => (kOf1 d).map .inl
theorem kOf1_kD (k : Key) : kOf1 (kD k) = some k := by cases k <;> rfl
theorem kOf_kD (k : Key) : kOf (kD k) = some (.inl k) := by cases k <;> rfl
theorem kOfL_kD : ∀ ks : List Key, kOfL (ks.map kD) = some ks
  | [] => rfl
  | k :: ks => by rw [List.map_cons, kOfL, kOf1_kD, kOfL_kD ks]
theorem kOf_tup (ks : List Key) : kOf (.tuple (ks.map kD)) = some (.inr ks) := by
  show (kOfL _).map _ = _
  rw [kOfL_kD]
  rfl
theorem kOf1_eq {d : PyData} {k : Key} (h : kOf1 d = some k) : d = kD k := by
  cases d <;> simp only [kOf1, Option.some.injEq, reduceCtorEq] at h <;> subst h <;> rfl
theorem kOfL_eq : ∀ {ds : List PyData} {ks : List Key}, kOfL ds = some ks → ds = ks.map kD
  | [], ks, h => by cases h; rfl
  | d :: ds, ks, h => by
    unfold kOfL at h
    split at h
    · rename_i k ks' h1 h2
      cases h
      rw [kOf1_eq h1, kOfL_eq h2]
      rfl
    · cases h
theorem kOf_inl {d : PyData} {k : Key} (h : kOf d = some (.inl k)) : d = kD k := by
  unfold kOf at h
  split at h
  · cases e : kOfL _ with
    | none => rw [e] at h; cases h
    | some ks => rw [e] at h; cases h
  · cases e : kOf1 d with
    | none => rw [e] at h; cases h
    | some j => rw [e] at h; cases h; exact kOf1_eq e
theorem kOf_inr {d : PyData} {ks : List Key} (h : kOf d = some (.inr ks)) : d = .tuple (ks.map kD) := by
  unfold kOf at h
  split at h
  · cases e : kOfL _ with
    | none => rw [e] at h; cases h
    | some js => rw [e] at h; cases h; rw [kOfL_eq e]
  · cases e : kOf1 d with
    | none => rw [e] at h; cases h
    | some j => rw [e] at h; cases h
section
variable {κ α : Type} [DecidableEq κ]
def gtA (kvs : List (κ × α)) (k : κ) : Option α := (kvs.find? fun kv => decide (kv.1 = k)).map (·.2)
def ptA (kvs : List (κ × α)) (k : κ) (v : α) : List (κ × α) :=
  if (kvs.any fun kv => decide (kv.1 = k)) = true then kvs.map (fun kv => if kv.1 = k then (kv.1, v) else kv) else kvs ++ [(k, v)]
end
section
variable {K : PySem.W.Frag} {F : Hp}
theorem RepK.len : ∀ {r : List (Key × V)} {s : List (Key × PyData)}, RepK K F r s → r.length = s.length
  | _, _, .nil => rfl
  | _, _, .cons _ t => congrArg (· + 1) t.len
theorem RepT.len : ∀ {r : List (List Key × V)} {s : List (List Key × PyData)}, RepT K F r s → r.length = s.length
  | _, _, .nil => rfl
  | _, _, .cons _ t => congrArg (· + 1) t.len
theorem RepK.get {k : Key} : ∀ {r : List (Key × V)} {s : List (Key × PyData)} {d : PyData}, RepK K F r s → gtA s k = some d → ∃ v, valV r k = some v ∧ Rep K F v d
  | _, _, _, .nil, h => by cases h
  | _, _, d, .cons (k := j) (v := v) h t, e => by
    unfold gtA at e
    rw [List.find?_cons] at e
    by_cases q : j = k
    · rw [decide_eq_true q] at e
      cases e
      exact ⟨v, valV_pos q, h⟩
    · rw [decide_eq_false q] at e
      obtain ⟨v', e1, h1⟩ := t.get (k := k) e
      exact ⟨v', by rw [valV_neg q]; exact e1, h1⟩
theorem RepT.get {k : List Key} : ∀ {r : List (List Key × V)} {s : List (List Key × PyData)} {d : PyData}, RepT K F r s → gtA s k = some d → ∃ v, valV r k = some v ∧ Rep K F v d
  | _, _, _, .nil, h => by cases h
  | _, _, d, .cons (k := j) (v := v) h t, e => by
    unfold gtA at e
    rw [List.find?_cons] at e
    by_cases q : j = k
    · rw [decide_eq_true q] at e
      cases e
      exact ⟨v, valV_pos q, h⟩
    · rw [decide_eq_false q] at e
      obtain ⟨v', e1, h1⟩ := t.get (k := k) e
      exact ⟨v', by rw [valV_neg q]; exact e1, h1⟩
theorem RepK.any {k : Key} : ∀ {r : List (Key × V)} {s : List (Key × PyData)}, RepK K F r s → (r.any fun p => decide (p.1 = k)) = (s.any fun p => decide (p.1 = k))
  | _, _, .nil => rfl
  | _, _, .cons _ t => by rw [List.any_cons, List.any_cons, t.any]
theorem RepT.any {k : List Key} : ∀ {r : List (List Key × V)} {s : List (List Key × PyData)}, RepT K F r s → (r.any fun p => decide (p.1 = k)) = (s.any fun p => decide (p.1 = k))
  | _, _, .nil => rfl
  | _, _, .cons _ t => by rw [List.any_cons, List.any_cons, t.any]
theorem RepK.repl {k : Key} {v : V} {d : PyData} (h : Rep K F v d) : ∀ {r : List (Key × V)} {s : List (Key × PyData)}, RepK K F r s → RepK K F (r.map fun p => if p.1 = k then (p.1, v) else p) (s.map fun p => if p.1 = k then (p.1, d) else p)
  | _, _, .nil => .nil
  | _, _, .cons (k := j) h1 t => by
    rw [List.map_cons, List.map_cons]
    by_cases q : j = k
    · simp only [if_pos q]; exact .cons h (t.repl h)
    · simp only [if_neg q]; exact .cons h1 (t.repl h)
theorem RepT.repl {k : List Key} {v : V} {d : PyData} (h : Rep K F v d) : ∀ {r : List (List Key × V)} {s : List (List Key × PyData)}, RepT K F r s → RepT K F (r.map fun p => if p.1 = k then (p.1, v) else p) (s.map fun p => if p.1 = k then (p.1, d) else p)
  | _, _, .nil => .nil
  | _, _, .cons (k := j) h1 t => by
    rw [List.map_cons, List.map_cons]
    by_cases q : j = k
    · simp only [if_pos q]; exact .cons h (t.repl h)
    · simp only [if_neg q]; exact .cons h1 (t.repl h)
theorem RepK.snoc {k : Key} {v : V} {d : PyData} (h : Rep K F v d) : ∀ {r : List (Key × V)} {s : List (Key × PyData)}, RepK K F r s → RepK K F (r ++ [(k, v)]) (s ++ [(k, d)])
  | _, _, .nil => .cons h .nil
  | _, _, .cons h1 t => .cons h1 (t.snoc h)
theorem RepT.snoc {k : List Key} {v : V} {d : PyData} (h : Rep K F v d) : ∀ {r : List (List Key × V)} {s : List (List Key × PyData)}, RepT K F r s → RepT K F (r ++ [(k, v)]) (s ++ [(k, d)])
  | _, _, .nil => .cons h .nil
  | _, _, .cons h1 t => .cons h1 (t.snoc h)
theorem RepK.put {k : Key} {v : V} {d : PyData} (h : Rep K F v d) {r : List (Key × V)} {s : List (Key × PyData)} (t : RepK K F r s) : RepK K F (putK r k v) (ptA s k d) := by
  unfold putK ptA
  rw [t.any]
  split
  · exact t.repl h
  · exact t.snoc h
theorem RepT.put {k : List Key} {v : V} {d : PyData} (h : Rep K F v d) {r : List (List Key × V)} {s : List (List Key × PyData)} (t : RepT K F r s) : RepT K F (putK r k v) (ptA s k d) := by
  unfold putK ptA
  rw [t.any]
  split
  · exact t.repl h
  · exact t.snoc h
theorem Reps.keysV : ∀ {vs : List V} {ks : List Key}, Reps K F vs (ks.map kD) → vs = ks.map kV
  | _, [], h => by cases h; rfl
  | _, k :: ks, h => by
    cases h with
    | cons h t =>
      rename_i v vs
      have e : v = kV k := by cases k <;> (cases h; rfl)
      rw [Reps.keysV t, e]
      rfl
end
section
variable {K : PySem.W.Frag} {mg : Str → Option Value} {F H : Hp} {v : V}
theorem RepB.dict {des : List (PyData × PyData)} (s0 : Same F H) (h : RepB K mg F H v (.dict des)) : ∃ p, v = .ref p ∧ ((∃ kvs de, Rd H p (.dK kvs) ∧ RepK K F kvs de ∧ des = de.map fun p => (kD p.1, p.2)) ∨ (∃ kvs de, Rd H p (.dT kvs) ∧ RepT K F kvs de ∧ des = de.map fun p => (.tuple (p.1.map kD), p.2)) ∨ ∃ ds, des = [(.list ds, .none)]) := by
  obtain ⟨s, O, h, e⟩ := h
  cases h with
  | dat h =>
    cases e
    cases h with
    | dK h r => exact ⟨_, rfl, .inl ⟨_, _, Same.rd s0 h, r, rfl⟩⟩
    | dT h r => exact ⟨_, rfl, .inr (.inl ⟨_, _, Same.rd s0 h, r, rfl⟩)⟩
    | scr h r => exact ⟨_, rfl, .inr (.inr ⟨_, rfl⟩)⟩
  | lst h r => cases e
  | dK h r => cases e; exact ⟨_, rfl, .inl ⟨_, _, .inl h, r, rfl⟩⟩
  | dT h r => cases e; exact ⟨_, rfl, .inr (.inl ⟨_, _, .inl h, r, rfl⟩)⟩
  | ins => cases e
/-! d[k] -/
def rDGet : R2 := fun x y H Q => ∃ a v, x = .ref a ∧ DGet H a y (some v) ∧ Q v H
def dgetD : PyData → PyData → Option Sl
  | .dict des, k => (kOf k).bind fun kk => (des.find? fun p => decide (kOf p.1 = some kk)).map fun p => .dat p.2
  | _, _ => none
theorem find_K {k : Key} : ∀ {de : List (Key × PyData)}, ((de.map fun p => (kD p.1, p.2)).find? fun p => decide (kOf p.1 = some (.inl k))).map (·.2) = gtA de k
  | [] => rfl
  | (j, d) :: r => by
    unfold gtA
    rw [List.map_cons, List.find?_cons, List.find?_cons]
    have e : (kOf (kD j) = some (.inl k)) ↔ (j = k) := by rw [kOf_kD]; exact ⟨fun h => by cases h; rfl, fun h => by rw [h]⟩
    by_cases q : j = k
    · rw [decide_eq_true (e.mpr q), decide_eq_true q]
      rfl
    · rw [decide_eq_false (fun h => q (e.mp h)), decide_eq_false q]
      exact find_K (de := r)
theorem find_T {k : List Key} : ∀ {de : List (List Key × PyData)}, ((de.map fun p => (PyData.tuple (p.1.map kD), p.2)).find? fun p => decide (kOf p.1 = some (.inr k))).map (·.2) = gtA de k
  | [] => rfl
  | (j, d) :: r => by
    unfold gtA
    rw [List.map_cons, List.find?_cons, List.find?_cons]
    have e : (kOf (.tuple (j.map kD)) = some (.inr k)) ↔ (j = k) := by rw [kOf_tup]; exact ⟨fun h => by cases h; rfl, fun h => by rw [h]⟩
    by_cases q : j = k
    · rw [decide_eq_true (e.mpr q), decide_eq_true q]
      rfl
    · rw [decide_eq_false (fun h => q (e.mp h)), decide_eq_false q]
      exact find_T (de := r)
theorem find_KT {k : List Key} : ∀ {de : List (Key × PyData)}, ((de.map fun p => (kD p.1, p.2)).find? fun p => decide (kOf p.1 = some (.inr k))) = none
  | [] => rfl
  | (j, d) :: r => by
    rw [List.map_cons, List.find?_cons, decide_eq_false (by rw [kOf_kD]; exact nofun)]
    exact find_KT (de := r)
theorem find_TK {k : Key} : ∀ {de : List (List Key × PyData)}, ((de.map fun p => (PyData.tuple (p.1.map kD), p.2)).find? fun p => decide (kOf p.1 = some (.inl k))) = none
  | [] => rfl
  | (j, d) :: r => by
    rw [List.map_cons, List.find?_cons, decide_eq_false (by rw [kOf_tup]; exact nofun)]
    exact find_TK (de := r)
theorem RepB.key {k : Key} (h : RepB K mg F H v (kD k)) : v = kV k := by
  cases k with
  | inl i => exact h.rep_int
  | inr s => exact h.rep_str
theorem sr_dget : SndR2 K mg rDGet dgetD := by
  intro F H v w d e s s0 h1 h2 es Q q
  unfold dgetD at es
  split at es
  · rename_i des
    obtain ⟨p, rfl, hd⟩ := h1.dict s0
    cases hk : kOf e with
    | none => rw [hk] at es; cases es
    | some kk =>
      rw [hk, Option.bind_some] at es
      cases kk with
      | inl k =>
        cases kOf_inl hk
        have hw := h2.key
        subst hw
        rcases hd with ⟨kvs, de, hr, hp, rfl⟩ | ⟨kvs, de, hr, hp, rfl⟩ | ⟨ds, rfl⟩
        · have e1 := find_K (k := k) (de := de)
          cases hf : (de.map fun p => (kD p.1, p.2)).find? fun p => decide (kOf p.1 = some (.inl k)) with
          | none => rw [hf] at es; cases es
          | some x =>
            rw [hf] at es e1
            cases es
            obtain ⟨v, e2, h3⟩ := hp.get (k := k) e1.symm
            exact ⟨p, v, rfl, .inl ⟨kvs, k, hr, rfl, e2.symm⟩, fin_dat s0 q h3⟩
        · rw [find_TK] at es; cases es
        · cases es
      | inr k =>
        cases kOf_inr hk
        rcases hd with ⟨kvs, de, hr, hp, rfl⟩ | ⟨kvs, de, hr, hp, rfl⟩ | ⟨ds, rfl⟩
        · rw [find_KT] at es; cases es
        · have e1 := find_T (k := k) (de := de)
          obtain ⟨b, vs, rfl, _, hb, hv⟩ := h2.tuple s0
          cases hv.keysV
          cases hf : (de.map fun p => (PyData.tuple (p.1.map kD), p.2)).find? fun p => decide (kOf p.1 = some (.inr k)) with
          | none => rw [hf] at es; cases es
          | some x =>
            rw [hf] at es e1
            cases es
            obtain ⟨v, e2, h3⟩ := hp.get (k := k) e1.symm
            exact ⟨p, v, rfl, .inr ⟨kvs, k, b, hr, rfl, s0 _ _ hb, e2.symm⟩, fin_dat s0 q h3⟩
        · cases es
  · cases es
/-! list(d.keys()) -/
def rKeysL (x : V) (H : Hp) (Q : VK) : Prop := ∃ d, x = .ref d ∧ ((∃ kvs, Rd H d (.dK kvs) ∧ ∀ q, H q = none → Q (.ref q) (upd H q (.lst (kvs.map fun kv => kV kv.1)))) ∨
  ∃ kvs, Rd H d (.dT kvs) ∧ ∀ p bs, H p = none → IsKeys H kvs bs → Q (.ref p) (upd H p (.lst (bs.map V.ref))))
def keysD : PyData → Option Sl
  | .dict des => if (des.all fun p => (kOf p.1).isSome) = true then some (.lst (des.map (·.1))) else none
  | _ => none
theorem Reps.keysK : ∀ {kvs : List (Key × V)} {de : List (Key × PyData)}, RepK K F kvs de → Reps K F (kvs.map fun kv => kV kv.1) (de.map fun p => kD p.1)
  | _, _, .nil => .nil
  | _, _, .cons (k := k) _ r => .cons (by cases k; exact .int _; exact .str _) (Reps.keysK r)
theorem sr_keysL : SndR1 K mg rKeysL keysD := by
  intro F H v d s s0 h es Q q
  unfold keysD at es
  split at es
  case h_2 => cases es
  rename_i des
  split at es
  case isFalse => cases es
  rename_i hall
  cases es
  obtain ⟨p, rfl, hd⟩ := h.dict s0
  rcases hd with ⟨kvs, de, hr, hp, rfl⟩ | ⟨kvs, de, hr, hp, rfl⟩ | ⟨ds, rfl⟩
  · refine ⟨p, rfl, .inl ⟨kvs, hr, ?_⟩⟩
    refine fin_lst s0 q ?_
    rw [List.map_map]
    exact Reps.keysK hp
  · refine ⟨p, rfl, .inr ⟨kvs, hr, fun a bs na ik => ?_⟩⟩
    obtain ⟨F', hF⟩ : ∃ F' : Hp, F' = fun a => match F a with | some o => some o | none => if a ∈ bs then H a else none := ⟨_, rfl⟩
    have f1 : Same F F' := fun a o e => by rw [hF]; simp only [e]
    have ha : ∀ x, F x = none → F' x = if x ∈ bs then H x else none := fun x e => by rw [hF]; simp only [e]
    have f2 : Same F' H := fun x o e => by
      cases e0 : F x with
      | some o' =>
        have e1 := f1 _ _ e0
        rw [e1] at e
        cases e
        exact s0 _ _ e0
      | none =>
        rw [ha x e0] at e
        split at e
        · exact e
        · cases e
    have hbt : ∀ (kvs : List (List Key × V)) (de : List (List Key × PyData)) (cs : List Addr), IsKeys H kvs cs → RepT K F kvs de → (∀ b ∈ cs, b ∈ bs) → Reps K F' (cs.map V.ref) (de.map fun p => .tuple (p.1.map kD)) ∧ ∀ b ∈ cs, ∃ xs, H b = some (.tup xs) := by
      intro kvs de cs hi
      induction hi generalizing de with
      | nil =>
        intro hr _
        cases hr
        exact ⟨.nil, fun _ h => by cases h⟩
      | @cons x b xs cs' hb hcs ih =>
        intro hr hm
        cases hr with
        | cons h1 h2 =>
          rename_i k v d s
          obtain ⟨g1, g2⟩ := ih _ h2 fun c hc => hm c (List.mem_cons_of_mem _ hc)
          have hb' : H b = some (.tup (k.map kV)) := hb
          refine ⟨.cons (.tup (xs := k.map kV) ?_ ?_) g1, fun c hc => ?_⟩
          · cases e0 : F b with
            | some o =>
              have e1 := s0 _ _ e0
              rw [hb'] at e1
              cases e1
              exact f1 _ _ e0
            | none => rw [ha b e0, if_pos (hm b List.mem_cons_self)]; exact hb'
          · have : ∀ l : List Key, Reps K F' (l.map kV) (l.map kD) := fun l => by
              induction l with
              | nil => exact .nil
              | cons k l ih => exact .cons (by cases k; exact .int _; exact .str _) ih
            exact this k
          · rcases List.mem_cons.mp hc with rfl | hc
            · exact ⟨_, hb'⟩
            · exact g2 c hc
    obtain ⟨g1, g2⟩ := hbt kvs de bs ik hp fun _ h => h
    have fa : F a = none := s0.free na
    refine q _ F' _ [a] ⟨f1, same_upd na, fun x o e => ?_, fun x hx e => ?_, fun x hx => ?_, by simp⟩ (.lst upd_same ?_)
    · have := f2 x o e
      rw [upd_ne (ne_of_none this na)]
      exact this
    · rw [ha x e] at hx
      split at hx
      · rename_i hb
        exact .inr (g2 x hb)
      · exact absurd rfl hx
    · rw [List.mem_singleton.mp hx]
      refine ⟨na, ?_, by rw [upd_same]; exact nofun⟩
      rw [ha a fa]
      split
      · exact na
      · rfl
    · rw [List.map_map]
      exact g1
  · cases hall
end
open PyProof.Rows in
theorem pe_listKeys {X : Cx} {o : Expr} {to : TE} {p pos apos cpos : Pos} (hc : X.calm = true) (hg : Gl X "list") (hm : X.mg "list" = none) (ho : PE X o to)
    (hbase : attributeBase o "keys" X.env (eval o X.env) = eval o X.env := by rfl) (hline : (apos.endLine == cpos.line) = true := by rfl)
    (na : starEach [.Call (.Attribute o "keys" apos) [] [] cpos] X.env = (false, eval (.Call (.Attribute o "keys" apos) [] [] cpos) X.env) :: starEach [] X.env := by rfl) :
    PE X (.Call (.Name "list" p) [.Call (.Attribute o "keys" apos) [] [] cpos] [] pos) (tUn rKeysL to) := by
  refine ⟨fun pins s σ H Q I h => ?_⟩
  refine Call_ (ld_blt I hg hm boot_list (PyProof.Rows.callWith_type1 (args_cons ?_ na) na))
  refine wpAny_Call_method (T := "dict") (id := "dict.keys") hbase rfl hline F.plainAttrs_dict F.slot_dict_keys F.type_dict_keys (thn (ho.run pins s σ H _ I h) fun u s1 ⟨x, H1, I1, rx, d, ex, q⟩ => ?_)
  subst ex
  obtain rfl : u = Value.ref d := rx
  have I2 : Inv X pins σ H1 { s1 with heap := s1.heap.push { cls := .type "dict_keys", data := .fields #[.ref d] } } := I1.kept (t' := s1.toks) fun b ob q => Heap.get?_push_of_some _ q
  rcases q with ⟨kvs, hd, q⟩ | ⟨kvs, hd, q⟩
  · obtain ⟨t1, t2, lo⟩ := isD_at I1 (.inl ⟨kvs, hd⟩)
    refine ⟨t1, t2, ?_⟩
    obtain ⟨z, _, vs, rk, dd⟩ := dk_rd I1.hok hd
    obtain ⟨ep, hat⟩ := dd.dictAt
    have hl : kvs.length = vs.length := Paired.length rk
    show wpAny _ _ (callWith cpos (.builtin "dict.keys") [.ref d] [] []) _ X.xe s1
    refine method_meetsIn F.slot_dict_keys F.entry_dict_keys rfl (PySem.evalArgs_none ⟨rfl, t1, F.args_dict_keys_1 _, _, PySem.W.kdl_meets_keys (mixKind X.prog X.w) d lo, ⟨vs, dd⟩, args_nil ?_⟩)
    refine PySem.W.kdl_call (PySem.W.kdl_keys (knd := mixKind X.prog X.w) (r := s1.heap.objs.size) (d := d) (kvs := vs) (ep := ep)) (I2.ok.hd hc) ⟨⟨_, Heap.get?_push_size _ rfl, rfl, rfl⟩, hat.push _⟩ (by rw [← hl]; exact z) fun h' tk acc' c' hkeep hS hacc => ?_
    refine ⟨.ref _, upd H1 _ (.lst (kvs.map fun kv => kV kv.1)), I2.laid hkeep (Nat.le_refl _) (show ObjOk X.prog X.w _ _ _ (.lst (kvs.map fun kv => kV kv.1)) from ⟨?_, acc'.toList, c', ?_, ?_⟩), rfl, q _ (I2.hok.fresh (Nat.le_refl _))⟩
    · rw [List.length_map]; exact z
    · have el : acc'.toList.length = acc'.size := by simp
      refine vals_of_at (by rw [List.length_map, el, hacc.1, hl]) fun j x w h1 h2 => ?_
      obtain ⟨k, y, hky, hi⟩ := hacc.2 j w (by rw [← Array.getElem?_toList]; exact h2)
      have e1 : (kvs.map (·.1))[j]? = some k := by
        rw [KV.keys rk, List.getElem?_map, hky] <;> rfl
      have e2 : (kvs.map fun kv => kV kv.1)[j]? = some (kV k) := by
        have e3 : (kvs.map fun kv => kV kv.1) = (kvs.map (·.1)).map kV := by rw [List.map_map] <;> rfl
        rw [e3, List.getElem?_map, e1] <;> rfl
      rw [e2] at h1
      cases h1
      exact keyIs_rel hi
    · rw [Array.toArray_toList]; exact hS
  · obtain ⟨t1, t2, lo⟩ := isD_at I1 (.inr ⟨kvs, hd⟩)
    refine ⟨t1, t2, ?_⟩
    obtain ⟨z, hs, ks, pr, o, es, ep, ho, hx, hdt, he, hn⟩ := (show ObjOk X.prog X.w H1 s1.heap d (.dT kvs) from hd.ok I1.hok)
    have l1 : es.size = ks.length := size_of_entries he
    have l2 : kvs.length = ks.length := Paired.length pr
    have raw : s1.heap.DictRaw d es ep := ⟨o, ho, hx, hdt⟩
    show wpAny _ _ (callWith cpos (.builtin "dict.keys") [.ref d] [] []) _ X.xe s1
    refine method_meetsIn F.slot_dict_keys F.entry_dict_keys rfl (PySem.evalArgs_none ⟨rfl, t1, F.args_dict_keys_1 _, _, meets_dict_keys_raw d lo, ⟨es, ep, raw⟩, args_nil ?_⟩)
    refine PySem.W.kdl_call (KdlSrc.rawKeys (r := s1.heap.objs.size) (d := d) (es := es) (ep := ep)) (I2.ok.hd hc) ⟨⟨_, Heap.get?_push_size _ rfl, rfl, rfl⟩, raw.push _⟩ (by rw [l1, ← l2]; exact z) fun h' tk acc' c' hkeep hS it => ?_
    have ea : acc'.toList = ks.map fun x => Value.ref x.2.1 := by
      have hl : acc'.toList.length = ks.length := by rw [Array.length_toList, it.1]; exact l1
      apply List.ext_getElem?
      intro j
      rw [List.getElem?_map]
      cases hj : acc'.toList[j]? with
      | none =>
        have h1 := List.getElem?_eq_none_iff.mp hj
        rw [List.getElem?_eq_none (by omega)]
        all_goals rfl
      | some v =>
        obtain ⟨hen0, hv⟩ := it.2 j v (by rw [← Array.getElem?_toList]; exact hj)
        have hen : es[j]? = some es[j] := Array.getElem?_eq_getElem hen0
        have qe := entry_at he j
        rw [hen] at qe
        cases hb : ks[j]? with
        | none =>
          rw [hb] at qe
          exact nomatch (show some es[j] = none from qe)
        | some b =>
          rw [hb] at qe
          have e2 : es[j] = entryOfKey (tupleKind (mixKind X.prog X.w)) b := Option.some.inj qe
          rw [hv, e2]
          all_goals rfl
    have eb : acc'.toList = (ks.map fun x => x.2.1).map Value.ref := by rw [ea, List.map_map]; all_goals rfl
    have rv : Vals ((ks.map fun x => x.2.1).map V.ref) acc'.toList := by rw [eb]; exact vals_refs _
    have hz : ((ks.map fun x => x.2.1).map V.ref).length ≤ sizeLine := by rw [List.length_map, List.length_map]; omega
    refine ⟨.ref _, _, I2.laid (t' := tk) (o := .lst ((ks.map fun x => x.2.1).map V.ref)) hkeep (Nat.le_refl _) ?_, rfl, q _ _ (I2.hok.fresh (Nat.le_refl _)) (isKeys_of pr)⟩
    exact ⟨hz, acc'.toList, c', rv, by rw [Array.toArray_toList]; exact hS⟩
/-! {} -/
def dNwK : EE := fun ρ => .ok (.dK [], ρ)
def dNwT : EE := fun ρ => .ok (.dT [], ρ)
section
variable {K : PySem.W.Frag} {mg : Str → Option Value} {E : L2.St → XK} {ps : List Bool}
theorem sn_nwK : SndE K mg E tDNewK dNwK := fun G F H σ ρ r Q q p np => q _ F _ [p] (Same.refl F) (r.ext (Ext.newOwn r.sub np)) (.dK upd_same .nil)
theorem sn_nwT : SndE K mg E tDNewT dNwT := fun G F H σ ρ r Q q p np => q _ F _ [p] (Same.refl F) (r.ext (Ext.newOwn r.sub np)) (.dT upd_same .nil)
/-! d[k] = v -/
def dPut (s : Sl) (x d : PyData) : Option Sl := match s, kOf x with
  | .dK kvs, some (.inl k) => if kvs.length < 1000000 then some (.dK (ptA kvs k d)) else none
  | .dT kvs, some (.inr k) => if kvs.length < 1000000 then some (.dT (ptA kvs k d)) else none
  | _, _ => none
def sPut (i : Nat) (f : EE) (fk : AE) : SE := fun ρ => do
  let (d, ρ) ← fz f ρ
  match ρ[i]? with
  | some (some _) => do
    let (a, ρ) ← fk ρ
    let x ← a.get ρ
    match ρ[i]? with
    | some (some s) => match dPut s x d with
      | some s' => pure (.nx (ρ.set i (some s')))
      | none => .bad
    | _ => .bad
  | _ => .bad
theorem sn_put {i : Nat} {te tk : TE} {f : EE} {fk : AE} (h : SndE K mg E te f) (h2 : SndA K mg E tk fk) : SndS K mg ps E (sDPut (tVar i) tk te) (sPut i f fk) := by
  intro Z F H σ ρ hp hz r D q
  unfold sPut at q
  refine sn_fz h r ((post_ofA hz q).mono fun d ρ1 q1 v F1 H1 e1 r1 h1 => ?_)
  try dsimp only at q1
  split at q1
  case h_2 => exact q1.elim
  rename_i s0 hs0
  obtain ⟨v0, O0, ev, h0⟩ := r1.at hs0
  refine ⟨v0, ev, h2 Z.g F1 H1 σ ρ1 r1 _ ((post_ofA hz q1).mono fun a ρ2 q2 w F2 H2 e2 r2 h3 => ?_)⟩
  try dsimp only at q2
  obtain ⟨x, ex, q3⟩ := q2.get
  have hb := RPd.get r2 h3 ex
  split at q3
  case h_2 => exact q3.elim
  rename_i s hs
  split at q3
  case h_2 => exact q3.elim
  rename_i s' hs'
  obtain ⟨v', O, e3, h4, r4⟩ := r2.take hs
  rw [ev] at e3
  cases e3
  unfold dPut at hs'
  split at hs'
  · rename_i kvs k hk
    split at hs'
    case isFalse => cases hs'
    rename_i hlen
    cases hs'
    cases kOf_inl hk
    cases hb.key
    cases h4 with
    | dK hH hr =>
      rename_i p vs
      refine ⟨p, _, rfl, .inl ⟨vs, k, hH, rfl, Nat.lt_of_lt_of_le (by rw [hr.len]; exact hlen) (by decide), rfl⟩, ?_⟩
      have r5 := r4.write (o := .dK (putK vs k v)) (p := p) (by simp)
      exact q3 σ F2 _ hz (r5.back (.dK upd_same (hr.put (h1.mono e2))) ev)
  · rename_i kvs k hk
    split at hs'
    case isFalse => cases hs'
    rename_i hlen
    cases hs'
    cases kOf_inr hk
    obtain ⟨b, vs', rfl, _, hb1, hv⟩ := hb.tuple r2.sub
    cases hv.keysV
    cases h4 with
    | dT hH hr =>
      rename_i p vs
      refine ⟨p, _, rfl, .inr ⟨vs, k, b, hH, rfl, ?_, Nat.lt_of_lt_of_le (by rw [hr.len]; exact hlen) (by decide), rfl⟩, ?_⟩
      · exact r2.sub _ _ hb1
      have r5 := r4.write (o := .dT (putK vs k v)) (p := p) (by simp)
      exact q3 σ F2 _ hz (r5.back (.dT upd_same (hr.put (h1.mono e2))) ev)
  · cases hs'
end
section
variable {W : XW} {ρ : Env} {i : Nat}
@[simp ↓] theorem sat_nwK {Q} : sat (dNwK ρ) Q = Q (.dK [], ρ) := (Eq.trans rfl rfl)
@[simp ↓] theorem sat_nwT {Q} : sat (dNwT ρ) Q = Q (.dT [], ρ) := (Eq.trans rfl rfl)
@[simp ↓] theorem osat_frz_dK {d : List (Key × PyData)} {Q} : osat (frz (.dK d)) Q = Q (.dict (d.map fun p => (kD p.1, p.2))) := (Eq.trans rfl rfl)
@[simp ↓] theorem osat_frz_dT {d : List (List Key × PyData)} {Q} : osat (frz (.dT d)) Q = Q (.dict (d.map fun p => (.tuple (p.1.map kD), p.2))) := (Eq.trans rfl rfl)
@[simp ↓] theorem sat_sPut {f : EE} {fk : AE} {Q} : sat (sPut i f fk ρ) Q = sat (f ρ) fun p => osat (frz p.1) fun d => slotK p.2 i fun _ => sat (fk p.2) fun a => sat (a.1.get a.2) fun x => slotK a.2 i fun s =>
    osatH (dPut s x d) (fun s' => setK a.2 i (some s') fun ρ => Q (.nx ρ)) ⟨⟩ := by
  unfold sPut osatH
  simp only [sat_bind, sat_fz]
  congr 1
  funext p
  congr 1
  funext d
  rw [slotK_def]
  cases p.2[i]? with
  | none => rfl
  | some o =>
    cases o with
    | none => rfl
    | some s =>
      simp only [sat_bind]
      congr 1
      funext a
      congr 1
      funext x
      unfold slotK setK
      cases h2 : a.2[i]? with
      | none => rfl
      | some o =>
        cases o with
        | none => rfl
        | some s =>
          have hi := (List.getElem?_eq_some_iff.mp h2).1
          dsimp only
          cases h : dPut s x d <;> simp [hi]
end
end DL
/-! DLq: sorted data; tables. -/
namespace DL
open PySem PySem.Spec L2
theorem dle {α : Type} (f : α → PyData) : PySem.W.TotalLe (PySem.W.dataLe false f) := PySem.W.sortLe_total _ _ _
/-- what is sorted is told by any list of the same items that rises -/
theorem srt_eq {α : Type} (f : α → PyData) {l m : List α} (hp : l.Perm m) (hs : m.Pairwise fun a b => PySem.W.dataLt (f b) (f a) = false)
    (inj : ∀ a b, PySem.W.dataLt (f a) (f b) = false → PySem.W.dataLt (f b) (f a) = false → a = b) : (l.map f).mergeSort (PySem.W.dataLe false id) = m.map f := by
  have e : ∀ a b : α, PySem.W.dataLe false f a b = PySem.W.dataLe false id (f a) (f b) := fun a b => rfl
  rw [← List.map_mergeSort (r := PySem.W.dataLe false f) (fun a _ b _ => e a b)]
  have t := dle f
  have h : l.mergeSort (PySem.W.dataLe false f) = m := by
    have e2 : ∀ a b : α, PySem.W.dataLe false f a b = !PySem.W.dataLt (f b) (f a) := fun a b => by rw [PySem.W.dataLe_eq]; rfl
    refine List.Perm.eq_of_pairwise (le := fun a b => PySem.W.dataLe false f a b = true) ?_ (List.pairwise_mergeSort t.trans (fun a b => by rw [Bool.or_eq_true]; exact t.total a b) l) (hs.imp fun h => ?_) ((List.mergeSort_perm l _).trans hp)
    · intro a b _ _ h1 h2
      rw [e2] at h1 h2
      exact inj a b (by simpa using h2) (by simpa using h1)
    · rw [e2, h]; rfl
  rw [h]
/-- .. and the sorted list is one such -/
theorem srt_ex {α : Type} (f : α → PyData) (l : List α) : ∃ m : List α, m.Perm l ∧ (m.Pairwise fun a b => PySem.W.dataLt (f b) (f a) = false) ∧ (l.map f).mergeSort (PySem.W.dataLe false id) = m.map f := by
  have e : ∀ a b : α, PySem.W.dataLe false f a b = PySem.W.dataLe false id (f a) (f b) := fun a b => rfl
  have t := dle f
  refine ⟨l.mergeSort (PySem.W.dataLe false f), List.mergeSort_perm _ _, (List.pairwise_mergeSort t.trans (fun a b => by rw [Bool.or_eq_true]; exact t.total a b) l).imp fun h => ?_, ?_⟩
  · rename_i a b
    have e2 : PySem.W.dataLe false f a b = !PySem.W.dataLt (f b) (f a) := by rw [PySem.W.dataLe_eq]; rfl
    rw [e2] at h
    simpa using h
  · rw [List.map_mergeSort (r := PySem.W.dataLe false f) (fun a _ b _ => e a b)]
theorem alike_str (a b : Str) : PySem.W.alike (.str a) (.str b) = true := by simp only [PySem.W.alike]
theorem alike_int (a b : Int) : PySem.W.alike (.int a) (.int b) = true := by simp only [PySem.W.alike]
theorem eqv_str {a b : Str} : PyData.eqv (.str a) (.str b) = decide (a = b) := by
  rw [eqv_dec rfl rfl]
  simp
theorem eqv_int {a b : Int} : PyData.eqv (.int a) (.int b) = decide (a = b) := by
  rw [eqv_dec rfl rfl]
  simp
theorem lt_cons_str {a b : Str} {xs ys : List PyData} : PyProof.Rows.lexLt PyProof.Rows.itemOrd (PySem.W.keyToksAll (.str a :: xs)) (PySem.W.keyToksAll (.str b :: ys)) = if a = b then PyProof.Rows.lexLt PyProof.Rows.itemOrd (PySem.W.keyToksAll xs) (PySem.W.keyToksAll ys) else decide (a.cps.toList < b.cps.toList) := by
  rw [PySem.W.dataLt_cons (alike_str a b), eqv_str, PySem.W.dataLt_str]
  simp
theorem lt_cons_int {a b : Int} {xs ys : List PyData} : PyProof.Rows.lexLt PyProof.Rows.itemOrd (PySem.W.keyToksAll (.int a :: xs)) (PySem.W.keyToksAll (.int b :: ys)) = if a = b then PyProof.Rows.lexLt PyProof.Rows.itemOrd (PySem.W.keyToksAll xs) (PySem.W.keyToksAll ys) else decide (a < b) := by
  rw [PySem.W.dataLt_cons (alike_int a b), eqv_int, PySem.W.dataLt_int]
  simp
theorem str_ext {a b : Str} (h : a.cps.toList = b.cps.toList) : a = b := by
  cases a; cases b
  congr 1
  exact Array.toList_inj.mp h
theorem str_tot {a b : Str} (h1 : ¬ a.cps.toList < b.cps.toList) (h2 : ¬ b.cps.toList < a.cps.toList) : a = b :=
  str_ext (List.le_antisymm h2 h1)
/-! ### tables -/
section
variable {κ α : Type} [DecidableEq κ]
theorem gtA_nil {k : κ} : gtA ([] : List (κ × α)) k = none := rfl
theorem gtA_cons {p : κ × α} {r : List (κ × α)} {k : κ} : gtA (p :: r) k = if p.1 = k then some p.2 else gtA r k := by
  unfold gtA
  rw [List.find?_cons]
  by_cases h : p.1 = k
  · rw [decide_eq_true h, if_pos h]; rfl
  · rw [decide_eq_false h, if_neg h]
theorem gtA_app {l r : List (κ × α)} {k : κ} : gtA (l ++ r) k = (gtA l k).or (gtA r k) := by
  induction l with
  | nil => simp [gtA_nil]
  | cons p l ih =>
    rw [List.cons_append, gtA_cons, gtA_cons, ih]
    split <;> rfl
theorem gtA_mem {l : List (κ × α)} {k : κ} : (gtA l k).isSome = true ↔ k ∈ l.map (·.1) := by
  induction l with
  | nil => simp [gtA_nil]
  | cons p l ih =>
    rw [gtA_cons, List.map_cons, List.mem_cons]
    by_cases h : p.1 = k
    · rw [if_pos h]; simp [h]
    · rw [if_neg h, ih]
      exact ⟨.inr, fun x => x.resolve_left fun e => h e.symm⟩
theorem any_mem {l : List (κ × α)} {k : κ} : (l.any fun kv => decide (kv.1 = k)) = true ↔ k ∈ l.map (·.1) := by
  rw [List.any_eq_true]
  simp
theorem gtA_repl (k j : κ) (y : α) : ∀ l : List (κ × α), gtA (l.map fun kv => if kv.1 = k then (kv.1, y) else kv) j = (gtA l j).map fun x => if j = k then y else x
  | [] => rfl
  | p :: r => by
    have ih := gtA_repl k j y r
    rw [List.map_cons, gtA_cons, gtA_cons, ih]
    by_cases h : p.1 = k
    · rw [if_pos h]
      by_cases e : p.1 = j
      · rw [if_pos e, if_pos e, Option.map_some, if_pos (e.symm.trans h)]
      · rw [if_neg e, if_neg e]
    · rw [if_neg h]
      by_cases e : p.1 = j
      · rw [if_pos e, if_pos e, Option.map_some, if_neg (fun z => h (e.trans z))]
      · rw [if_neg e, if_neg e]
theorem gtA_put {l : List (κ × α)} {k j : κ} {v : α} : gtA (ptA l k v) j = if k = j then some v else gtA l j := by
  unfold ptA
  split
  · rename_i h
    rw [any_mem, ← gtA_mem] at h
    rw [gtA_repl]
    by_cases e : k = j
    · obtain ⟨x, hx⟩ := Option.isSome_iff_exists.mp h
      rw [← e, hx]
      simp
    · rw [if_neg e]
      cases gtA l j with
      | none => rfl
      | some x => rw [Option.map_some, if_neg fun z => e z.symm]
  · rename_i h
    rw [any_mem] at h
    rw [gtA_app, gtA_cons, gtA_nil]
    by_cases e : k = j
    · have : gtA l j = none := by
        cases q : gtA l j with
        | none => rfl
        | some x => exact absurd (e ▸ gtA_mem.mp (by rw [q]; rfl)) h
      rw [this, if_pos e]
      simp [e]
    · simp [e]
theorem keys_put {l : List (κ × α)} {k : κ} {v : α} : (ptA l k v).map (·.1) = if k ∈ l.map (·.1) then l.map (·.1) else l.map (·.1) ++ [k] := by
  unfold ptA
  simp only [any_mem]
  split
  · rw [List.map_map]
    refine List.map_congr_left fun x _ => ?_
    show (if x.1 = k then (x.1, v) else x).1 = x.1
    split <;> rfl
  · rw [List.map_append]; rfl
theorem nodup_put {l : List (κ × α)} {k : κ} {v : α} (h : (l.map (·.1)).Nodup) : ((ptA l k v).map (·.1)).Nodup := by
  rw [keys_put]
  split
  · exact h
  · rename_i hk
    exact List.nodup_append.mpr ⟨h, by simp, fun a ha b hb e => by
      rw [List.mem_singleton.mp hb] at e
      exact hk (e ▸ ha)⟩
theorem mem_put {l : List (κ × α)} {k j : κ} {v : α} : j ∈ (ptA l k v).map (·.1) ↔ j = k ∨ j ∈ l.map (·.1) := by
  rw [keys_put]
  split
  · rename_i h
    exact ⟨.inr, fun x => x.elim (fun e => e ▸ h) id⟩
  · rw [List.mem_append, List.mem_singleton]
    exact ⟨fun x => x.elim .inr .inl, fun x => x.elim .inr .inl⟩
theorem len_put {l : List (κ × α)} {k : κ} {v : α} : (ptA l k v).length ≤ l.length + 1 := by
  unfold ptA
  split
  · rw [List.length_map]; omega
  · simp
end
/-! ### keys -/
@[simp] theorem kOf_s {s : Str} : kOf (.str s) = some (.inl (.inr s)) := rfl
@[simp] theorem kOf_i {s : Int} : kOf (.int s) = some (.inl (.inl s)) := rfl
@[simp] theorem kOf_si {s : Str} {i : Int} : kOf (.tuple [.str s, .int i]) = some (.inr [.inr s, .inl i]) := rfl
theorem dPut_K {kvs : List (Key × PyData)} {k : Key} {x d : PyData} {Q : Sl → Prop} {t : Tg Q} (h : kOf x = some (.inl k)) : osatH (dPut (.dK kvs) x d) Q t = (kvs.length < 1000000 ∧ Q (.dK (ptA kvs k d))) := by
  unfold dPut
  rw [h]
  show osat (if _ then _ else _) Q = _
  rw [osat_ite, osat_none, if_false_right]; rfl
theorem dPut_T {kvs : List (List Key × PyData)} {k : List Key} {x d : PyData} {Q : Sl → Prop} {t : Tg Q} (h : kOf x = some (.inr k)) : osatH (dPut (.dT kvs) x d) Q t = (kvs.length < 1000000 ∧ Q (.dT (ptA kvs k d))) := by
  unfold dPut
  rw [h]
  show osat (if _ then _ else _) Q = _
  rw [osat_ite, osat_none, if_false_right]; rfl
theorem dget_K {kvs : List (Key × PyData)} {k : Key} {x d : PyData} {Q : Sl → Prop} (h : kOf x = some (.inl k)) (hg : gtA kvs k = some d) : osat (dgetD (.dict (kvs.map fun p => (kD p.1, p.2))) x) Q = Q (.dat d) := by
  rw [show dgetD (.dict _) x = (kOf x).bind _ from rfl]
  have := find_K (k := k) (de := kvs)
  rw [hg] at this
  rw [h]
  show osat (Option.map _ _) Q = _
  rw [osat_map]
  cases q : (kvs.map fun p => (kD p.1, p.2)).find? fun p => decide (kOf p.1 = some (.inl k)) with
  | none => rw [q] at this; cases this
  | some y => rw [q] at this; cases this; rfl
theorem dget_T {kvs : List (List Key × PyData)} {k : List Key} {x d : PyData} {Q : Sl → Prop} (h : kOf x = some (.inr k)) (hg : gtA kvs k = some d) : osat (dgetD (.dict (kvs.map fun p => (.tuple (p.1.map kD), p.2))) x) Q = Q (.dat d) := by
  rw [show dgetD (.dict _) x = (kOf x).bind _ from rfl]
  have := find_T (k := k) (de := kvs)
  rw [hg] at this
  rw [h]
  show osat (Option.map _ _) Q = _
  rw [osat_map]
  cases q : (kvs.map fun p => (PyData.tuple (p.1.map kD), p.2)).find? fun p => decide (kOf p.1 = some (.inr k)) with
  | none => rw [q] at this; cases this
  | some y => rw [q] at this; cases this; rfl
theorem keys_K {kvs : List (Key × PyData)} {Q : Sl → Prop} : osat (keysD (.dict (kvs.map fun p => (kD p.1, p.2)))) Q = Q (.lst (kvs.map fun p => kD p.1)) := by
  rw [show keysD (.dict _) = if _ then _ else _ from rfl, if_pos]
  · rw [List.map_map]; rfl
  · rw [List.all_map, List.all_eq_true]
    intro p _
    show (kOf (kD p.1)).isSome = true
    rw [kOf_kD]; rfl
theorem keys_T {kvs : List (List Key × PyData)} {Q : Sl → Prop} : osat (keysD (.dict (kvs.map fun p => (.tuple (p.1.map kD), p.2)))) Q = Q (.lst (kvs.map fun p => .tuple (p.1.map kD))) := by
  rw [show keysD (.dict _) = if _ then _ else _ from rfl, if_pos]
  · rw [List.map_map]; rfl
  · rw [List.all_map, List.all_eq_true]
    intro p _
    show (kOf (.tuple (p.1.map kD))).isSome = true
    rw [kOf_tup]; rfl
end DL
/-! DLr: own exceptions: super().__init__(..) in their making. -/
namespace DL
open PySem PySem.Spec L2

/-- what the written part says of an own exception class over ValueError, at C, and of its __init__, at fI; cc the cell of its class -/
structure XcT (P : Program) (K : PySem.W.Frag) (mg : Str → Option Value) (C fI cc : Addr) : Prop where
  oc : OexC K C
  sup : PySem.W.ks_superIn K C C "__init__" = some (some (.builtin "ValueError.__init__"))
  sub : PySem.W.subIn K (.ref C) (.type "ValueError") = some true
  self : PySem.W.mroIn K C (.ref C) = some true
  opq : PySem.W.nsIn K cStatics "thirdparty.any" = some none
  cell : ∃ (cl : Value) (cld : Option Addr) (csl : Array (Option Value)), K.lookup cc = some ⟨cl, cld, .cell (some (.ref C)), csl⟩
  gs : mg "super" = none
  top : (P.main.scope.names.lookup ("super" : Str)).isSome = false
  ii : PySem.W.findIn K (.ref C) "__init__" = some (some (.ref fI))
  ti : PySem.W.typeIn K (.ref fI) = some (.type "function")

section
variable {X : Cx} {pins : List (Addr × Obj)} {σ : L2.St} {H : Hp} {s : Shared} {C fI cc e : Addr}
theorem mw_call {E : Value → Shared → Prop} {us : List Value} {Q : Value → Shared → Prop} {u : Addr} (T : OexC X.K C) (I : Inv X pins σ H s) (ee : H e = some (exo e C none)) (hu : s.heap.get? u = some (PySem.W.kxs_mw "ValueError.__init__" e)) (hl : us.length ≤ sizeLine)
    (k : ∀ s', Inv X pins σ H s' → Q .none s') : wpAny (model X.prog X.w) X.A (call (.ref u) us) Q E s := by
  obtain ⟨nm, q, N, bs, bm, sn, sub, ab, col, dd, k0, k1, k2, k3, k5, hC, hbm⟩ := T.cls
  obtain ⟨t2, ho⟩ := exo_at I.hok ee
  have hC2 := I.kIn _ _ hC
  obtain ⟨hp, g, d, t, os⟩ := s
  refine wpAny_call (codeAny_of_tree ?_)
  show wpAny _ X.A.in1 (callAny (.ref u) ⟨us, []⟩) _ _ _
  simp only [callAny]
  refine wpAny_bind (wpAny_load hu ?_)
  simp only [PySem.W.kxs_mw, show (Value.type "method-wrapper" == Value.type "method" || Value.type "method-wrapper" == Value.type "builtin_function_or_method" || Value.type "method-wrapper" == Value.type "method-wrapper") = true by decide, if_true]
  refine PySem.W.KFB.if_so (by decide) ?_
  refine wpAny_bind (PySem.W.check_bound_init F.excBase_ValueError.toExcCallFacts hC2 ho rfl ?_)
  refine wpAny_bind (wpAny_pure (wpAny_pure ⟨plainId_quiet F.excBase_ValueError.init.plain _, codeAny_builtin F.excBase_ValueError.initEntry ?_⟩))
  refine PySem.W.exc_init_tree (cls := .ref C) (t0 := t2) (dv := none) (c2 := .none) (c3 := .none) (b4 := .bool false) ho hl fun h' k1 k2 _ => ?_
  have J := I.write (t' := t) (x := e) (e := e) (o := exo e C none) (by rw [ee]; exact True.intro) (.inl rfl) k1 ⟨_, k2⟩ (exo_ok k2)
  have eu : upd H e (exo e C none) = H := by
    funext b
    by_cases hb : b = e
    · rw [hb, upd_same, ee]
    · rw [upd_ne hb]
  rw [eu] at J
  exact k _ J
/-- the statement super().__init__(e1) -/
theorem run_super {f c : Addr} {of occ : Obj} {fd : FuncData} {ar : Arg} {vs : Array Value} {file : Str} {tf : Tok} {body : List Stmt} {e1 : Expr} {t1 : TE} {p0 p1 p2 p3 p4 : Pos} {Q : Flow → Shared → Prop} (T : XcT X.prog X.K X.mg C fI cc) (I : Inv X pins σ H s) (ee : H e = some (exo e C none))
    (ks : X.env.kindOf "super" = some .globalImplicit) (kc : X.env.kindOf "__class__" = some .free) (lc : X.env.cells.lookup ("__class__" : Str) = some cc) (ef : X.env.func = some f) (hf : X.K.lookup f = some of) (df : of.data = .func fd)
    (hp : (fd.params.posonlyargs ++ fd.params.args).head? = some ar) (ka : X.env.kindOf ar.arg = some .local) (na : X.N[0]? = some ar.arg) (s0 : σ[0]? = some (some (.ref e)))
    (ec : X.env.code = .ref c) (hc : X.K.lookup c = some occ) (dc : occ.data = .fields vs) (v2 : vs[2]? = some (.str file tf)) (fe : ((X.prog.main.file : Str) == file) = true) (hi : interactive X.env = false) (he1 : PE X e1 t1)
    (q : t1 σ H fun v H1 => [v].length ≤ 1000 ∧ H1 e = some (exo e C none) ∧ ∀ s1, Inv X pins σ H1 s1 → Q .next s1)
    (hs : swapsWith (.Call (.Attribute (.Call (.Name "super" p0) [] [] p1) "__init__" p2) [e1] [] p3) none p4.line X.env = pure false := by rfl)
    (hst : starEach [e1] X.env = (false, eval e1 X.env) :: starEach [] X.env := by rfl) {pl : Sem Bool}
    (hev : eval (.Call (.Attribute (.Call (.Name "super" p0) [] [] p1) "__init__" p2) [e1] [] p3) X.env = (do
      let ov ← attributeBase (.Call (.Name "super" p0) [] [] p1) "__init__" X.env (eval (.Call (.Name "super" p0) [] [] p1) X.env)
      standAt p2.atName
      let (f, first) ← holding [ov] (getMethod ov "__init__" pl)
      callWith p3 f first (backTo p3 (starEach [e1] X.env)) []) := by rfl) :
    wpAt (model X.prog X.w) X.A (.func body X.env) (exec (.Expr (.Call (.Attribute (.Call (.Name "super" p0) [] [] p1) "__init__" p2) [e1] [] p3) p4) X.env) Q X.xe s := by
  refine ks_wpAt_Expr_any ?_ hi hs
  refine ks_wpAt_MethodCall (pl := pl) ?_ hev
  have KX := I.kIn
  obtain ⟨cl, cld, csl, hcell⟩ := T.cell
  refine ks_wpAt_super_base ks kc (by decide) ef (KX _ _ hf) df hp ec (KX _ _ hc) dc v2 fe T.top ?_
  obtain ⟨nm, qn, N, bs, bm, sn, sub, ab, col, dd, k0, k1, k2, k3, k5, hC, hbm⟩ := T.oc.cls
  obtain ⟨t2, ho⟩ := exo_at I.hok ee
  obtain ⟨mb, h1, h2⟩ := I.mod.blt
  refine PySem.W.ks_loadName_global I.ok.kind ks (Calls.loadGlobal_builtin (by rw [I.ok.glob]; exact I.mod.glob.keeps I.bk) T.gs (by rw [I.ok.blt]; exact h1.keeps I.bk) ((h2 _ (by decide)).trans (by decide +kernel)) ⟨rfl, ?_⟩)
  refine wpAny_loadName_free I.ok.kind kc lc ⟨_, KX _ _ hcell, rfl⟩ ?_
  obtain ⟨m, hm, hloc⟩ := I.loc
  obtain ⟨u, ru, hu⟩ := hloc 0 ar.arg (.ref e) na s0 (.inl ka)
  have hu2 : m ar.arg = some u := by
    rcases hu with ⟨_, h⟩ | ⟨h, _⟩
    · exact h
    · rw [ka] at h
      rcases h with h | h <;> cases h
  obtain rfl : u = Value.ref e := ru
  refine wpAny_loadName_local I.ok.kind ka hm hu2 ?_
  have hCh := KX _ _ hC
  refine ks_wpAny_isType_cls hCh rfl ⟨rfl, ?_⟩
  obtain ⟨hh, g, d, t, os⟩ := s
  refine ks_wpAny_call_super hCh rfl ho rfl (fun c e => by cases e) (PySem.W.looks_mroIn KX T.self) fun h' e' k' => ?_
  have I1 : Inv X pins σ H ⟨h', g, d, t, os⟩ := I.kept k'
  have K1 := I1.kIn
  obtain ⟨t3, ho1⟩ := exo_at I1.hok ee
  have J : PySem.W.InstAt h' e _ C none := ⟨ho1, rfl, rfl, trivial⟩
  have hI : PySem.W.Looks (model X.prog X.w) h' (isInstance (.ref e) (.type "ValueError")) true := J.type.andThen (PySem.W.looks_subIn K1 T.sub)
  have hcl : ∃ cd, PySem.W.clsIn X.K C = some cd := by unfold PySem.W.clsIn; rw [hC]; exact ⟨_, rfl⟩
  obtain ⟨cd, hcd⟩ := hcl
  have hm2 := T.sup
  unfold PySem.W.ks_superIn at hm2
  rw [hcd] at hm2
  refine PySem.W.kxs_getMethod PySem.W.kxs_ValueError e' (PySem.W.looks_opaque K1 T.opq) (l₀ := cd.mro) (fun A Q E s k q => wpAny_bind ((PySem.W.looks_clsIn K1 hcd) A _ E s k (wpAny_pure q))) rfl K1 hm2 hI (PySem.W.ks_ne K1 J hcd) (by decide) ?_
  have hnew : (h'.push (PySem.W.kxs_mw "ValueError.__init__" e)).get? h'.objs.size = some (PySem.W.kxs_mw "ValueError.__init__" e) := Heap.get?_push_at rfl rfl
  have I2 : Inv X pins σ H ⟨h'.push (PySem.W.kxs_mw "ValueError.__init__" e), g, d, t + 1, os⟩ := I1.kept (t' := t + 1) fun b u z => Heap.get?_push_of_some _ z
  have I3 : Inv X ((h'.objs.size, PySem.W.kxs_mw "ValueError.__init__" e) :: pins) σ H ⟨h'.push (PySem.W.kxs_mw "ValueError.__init__" e), g, d, t + 1, os⟩ := I2.pins_of fun p hp => by
    rcases List.mem_cons.mp hp with rfl | hp
    · refine ⟨hnew, I1.hok.fresh (Nat.le_refl _), Nat.ne_of_gt I1.lt, I1.nofs (Nat.le_refl _), fun v z => by cases z⟩
    · exact I2.pin p (List.mem_append_right _ hp)
  refine PySem.W.kxs_callWith (i := "ValueError.__init__") (x := e) (by rw [hst]; rfl) ?_
  have hr : wpAny (model X.prog X.w) X.A (spliced (backTo p3 (starEach [e1] X.env))) (fun us s1 => PySem.W.KxsAt "ValueError.__init__" h'.objs.size e s1.heap ∧ wpAny (model X.prog X.w) X.A (call (.ref h'.objs.size) us) (fun _ => Q .next) X.xe s1) X.xe ⟨h'.push (PySem.W.kxs_mw "ValueError.__init__" e), g, d, t + 1, os⟩ := by
    refine thn ((pa_cons he1 pa_nil hst).run p3 _ _ σ H (fun vs H1 => vs.length ≤ 1000 ∧ H1 e = some (exo e C none) ∧ ∀ s1, Inv X pins σ H1 s1 → Q .next s1) I3 q) fun us s1 hh => ?_
    obtain ⟨vs', H1, J1, r1, hlen, ee1, q1⟩ := hh
    have hp1 := J1.pin (h'.objs.size, PySem.W.kxs_mw "ValueError.__init__" e) (List.mem_append_right _ List.mem_cons_self)
    have J2 : Inv X pins σ H1 s1 := J1.pins_of fun p hp => J1.pin p (List.mem_append_right _ (List.mem_cons_of_mem _ hp))
    exact ⟨hp1.1, mw_call T.oc J2 ee1 hp1.1 (by rw [← r1.length, sizeLine_eq]; omega) q1⟩
  rw [hst] at hr ⊢
  exact Calls.evalArgs_plain hr
end
/-- where such an __init__ stands -/
structure FnS (P : Program) (K : PySem.W.Frag) (qual : Str) (st : Stmt) (f cc : Addr) (fd : FuncData) : Prop where
  ex : ∃ (doc pm ctv oc : Value) (c : Addr) (od : Option Addr) (osl : Array (Option Value)), fd = NdefX.NF.fd ⟨"__init__", qual, defArgs st, defBody st, defScope st, [(("__class__" : Str), cc)], c⟩ doc pm ctv ∧ K.lookup f = some ⟨oc, od, .func fd, osl⟩ ∧ PySem.W.codeIn K (.ref c) qual = true ∧
    ∃ (occ : Obj) (vs : Array Value) (file : Str) (tf : Tok), K.lookup c = some occ ∧ occ.data = .fields vs ∧ vs[2]? = some (.str file tf) ∧ ((P.main.file : Str) == file) = true
section
variable {P : Program} {w : World} {K : PySem.W.Frag} {mg : Str → Option Value} {base : Heap} {CX : CXT} {N ps : List Str} {qual : Str} {st : Stmt} {f fd' cc C : Addr} {fd : FuncData} {k : Nat} {sp : Sp} {es1 : List Expr} {p5 : Pos} {rest : List Stmt} {p0 p1 p2 p3 p4 : Pos} {ar : Arg}
theorem fn_init (F : FnS P K qual st f cc fd) (T : XcT P K mg C f cc) (S : NdefX.NScope N ps [("__class__" : Str)] (defScope st)) (hbd : defBody st = .Expr (.Call (.Attribute (.Call (.Name "super" p0) [] [] p1) "__init__" p2) [.JoinedStr es1 p5] [] p3) p4 :: rest)
    (ks : (defScope st).names.lookup ("super" : Str) = some .globalImplicit) (kc : (defScope st).names.lookup ("__class__" : Str) = some .free) (ka : (defScope st).names.lookup ar.arg = some .local)
    (hp : ((defArgs st).posonlyargs ++ (defArgs st).args).head? = some ar) (na : N[0]? = some ar.arg) (len : ∀ vs H Q E, sp vs H Q E → vs.length = ps.length)
    (hbody : ∀ (c : Addr) (A : Around) (outer : List PySem.Env) (s : Shared) (H : Hp) (vs : List V) (Q : VK) (E : XK), sp vs H Q E → ∃ (t1 : TE) (tr : TS) (e : Addr) (r : List V), PE (NdefX.ncx CX P w K mg base N ⟨"__init__", qual, defArgs st, defBody st, defScope st, [(("__class__" : Str), cc)], c⟩ f A outer s H E) (.JoinedStr es1 p5) t1 ∧ PSs (NdefX.ncx CX P w K mg base N ⟨"__init__", qual, defArgs st, defBody st, defScope st, [(("__class__" : Str), cc)], c⟩ f A outer s H E) rest tr ∧ vs = .ref e :: r ∧ H e = some (exo e C none) ∧
      (∃ v0, ∀ R : VK, R v0 H → t1 (NdefX.startF N vs [none]) H R) ∧ tr { nx := fun _ H' => Q .non H', rt := Q } (NdefX.startF N vs [none]) H)
    (hev : ∀ env : PySem.Env, ∃ pl : Sem Bool, eval (.Call (.Attribute (.Call (.Name "super" p0) [] [] p1) "__init__" p2) [.JoinedStr es1 p5] [] p3) env = (do
      let ov ← attributeBase (.Call (.Name "super" p0) [] [] p1) "__init__" env (eval (.Call (.Name "super" p0) [] [] p1) env)
      standAt p2.atName
      let (f, first) ← holding [ov] (getMethod ov "__init__" pl)
      callWith p3 f first (backTo p3 (starEach [.JoinedStr es1 p5] env)) []))
    (hst : ∀ env : PySem.Env, starEach [.JoinedStr es1 p5] env = (false, eval (.JoinedStr es1 p5) env) :: starEach [] env := by intro env; rfl) : FnOk P w K mg base CX (k + 1) f fd ps sp := by
  refine ⟨len, fun A outer s H args us vs Q E hr e0 hb r hsp => ?_⟩
  have hl := len _ _ _ _ hsp
  have KX : K.In s.heap := e0.mod.kin.keeps fun b o e => (e0.bs b o e).1
  have lim : s.heap.NoLimit := e0.mod.nolimit.keeps fun b o e => (e0.bs b o e).1
  obtain ⟨doc, pm, ctv, oc, c, od, osl, rfl, ho, hcd, occ, cvs, file, tf, hc, dc, v2, fe⟩ := F.ex
  obtain ⟨cl, cld, csl, hcell⟩ := T.cell
  have hcB := e0.bs _ _ (e0.mod.kin _ _ hcell)
  have CA : NdefX.CellsAt [(("__class__" : Str), cc)] [("__class__" : Str)] [none] s.heap H := by
    refine ⟨rfl, fun y c' z => ?_, fun x y c' z1 z2 => ?_, fun i y z => ?_⟩
    · have hy : c' = cc := by
        unfold List.lookup at z
        split at z
        · exact (Option.some.inj z).symm
        · cases z
      rw [hy]
      exact ⟨hcB.2, _, _, hcB.1, rfl⟩
    · unfold List.lookup at z1 z2
      split at z1
      · rename_i q1
        split at z2
        · rename_i q2
          exact (eq_of_beq q1).trans (eq_of_beq q2).symm
        · cases z2
      · cases z1
    · cases i with
      | zero =>
        cases z
        exact ⟨cc, by simp [List.lookup], fun v hv => by cases hv⟩
      | succ i => cases z
  refine ks_codeAny_call_defAt hr.depth (KX _ _ ho) rfl lim (PySem.W.codeRec_of KX hcd) rfl hb S.nocell (fun ⟨n, _⟩ hy => S.par n (List.of_mem_zip hy).1) (fun h₁ hns kp => ?_) S.co S.gen S.kind
  have I := NdefX.inv_startN (CX := CX) (E := E) (F := ⟨"__init__", qual, defArgs st, defBody st, defScope st, [(("__class__" : Str), cc)], c⟩) (f := f) (tk := s.toks + (ps.zip us).length) S hr.hd e0 hl r CA hns kp
  obtain ⟨t1, tr, e, us', h1, h2, ev, he, ⟨v0, hv0⟩, q⟩ := hbody c A outer s H vs Q E hsp
  have hs0 : (NdefX.startF N vs [none])[0]? = some (some (V.ref e)) := by
    rw [ev]
    rfl
  rw [show defBody st = _ from hbd]
  obtain ⟨pl, hpl⟩ := hev (NdefX.ncx CX P w K mg base N ⟨"__init__", qual, defArgs st, defBody st, defScope st, [(("__class__" : Str), cc)], c⟩ f A outer s H E).env
  refine ks_wpAt_execs_cons (run_super (body := _) (pl := pl) T I he ks kc (show List.lookup (("__class__" : Str)) [(("__class__" : Str), cc)] = some cc by simp [List.lookup]) rfl ho rfl hp ka na hs0 rfl hc dc v2 fe I.quiet h1 (hv0 _ ⟨(by show 1 ≤ 1000; decide), he, fun s1 J => ?_⟩) rfl (hst _) hpl)
  refine wpAt_of_wpAny (wpAny_mono (h2.run [] s1 _ H _ J q) (fun fl s' hs => ?_) fun er s' hs => hs)
  have fin : ∀ {σ' : L2.St} {H' : Hp} {v : V} {u : Value}, Inv (NdefX.ncx CX P w K mg base N ⟨"__init__", qual, defArgs st, defBody st, defScope st, [(("__class__" : Str), cc)], c⟩ f A outer s H E) [] σ' H' s' → RelV v u → Q v H' → CE outer P w H s Q u s' := fun {σ' H' v u} J rv q => ⟨v, H', J.os, J.bare, J.base, J.hok, rv, q⟩
  cases fl with
  | ret u =>
    obtain ⟨v, σ', H', J, rv, q⟩ := hs
    exact fin J rv q
  | next =>
    obtain ⟨σ', H', J, q⟩ := hs
    exact fin (v := V.non) (u := Value.none) J rfl q
  | brk => exact hs.choose_spec.choose_spec.2.elim
  | cont => exact hs.choose_spec.choose_spec.2.elim
end
/-! ### the text that an exception is made with -/
theorem num_len : ∀ i : Fin 640, (Str.ofString (toString (i.val : Int))).length ≤ 10 := by decide +kernel
/-- what stands in such a text -/
def FmtV (v : V) : Prop := (∃ y : Str, v = .str y ∧ y.length ≤ 1000) ∨ ∃ i : Int, v = .int i ∧ 0 ≤ i ∧ i < 640
/-- a part's reading gives a text of at most n signs -/
def TxR (n : Nat) (t : TE) (σ : L2.St) (H : Hp) : Prop := ∃ y : Str, y.length ≤ n ∧ ∀ R : VK, R (.str y) H → t σ H R
theorem tx_str {a : Str} {σ : L2.St} {H : Hp} (h : a.length ≤ 1000) : TxR 1000 (tC (.str a)) σ H := ⟨a, h, fun R q => q⟩
theorem tx_fmt {i : Nat} {v : V} {σ : L2.St} {H : Hp} (h : σ[i]? = some (some v)) (f : FmtV v) : TxR 1000 (tFmt (tVar i)) σ H := by
  rcases f with ⟨y, rfl, hy⟩ | ⟨j, rfl, h0, h1⟩
  · exact ⟨y, hy, fun R q => ⟨_, h, .inl ⟨y, rfl, by rw [sizeLine_eq]; omega, q⟩⟩⟩
  · refine ⟨Str.ofString (toString j), ?_, fun R q => ⟨_, h, .inr ⟨j, rfl, ?_, q⟩⟩⟩
    · have := num_len ⟨j.toNat, by omega⟩
      rw [show ((⟨j.toNat, by omega⟩ : Fin 640).val : Int) = j by simp; omega] at this
      omega
    · have : j.natAbs < 2 ^ 1920 := Nat.lt_of_lt_of_le (by omega : j.natAbs < 1024) (by decide +kernel)
      by_cases hz : j.natAbs = 0
      · rw [hz]; decide
      · exact (Nat.log2_lt hz).mpr this
theorem tx_joined : ∀ {ts : List TE} {acc : Str} {σ : L2.St} {H : Hp}, (∀ t ∈ ts, TxR 1000 t σ H) → acc.length + ts.length * 1000 ≤ 100000 → ∃ out : Str, ∀ Q : Str → Hp → Prop, Q out H → tJs ts acc σ H Q
  | [], acc, _, _, _, _ => ⟨acc, fun Q q => q⟩
  | t :: ts, acc, σ, H, h, hl => by
    obtain ⟨y, hy, k⟩ := h t (by simp)
    rw [List.length_cons] at hl
    have e : (acc ++ y).length = acc.length + y.length := by
      show (Str.mk (acc.cps ++ y.cps)).cps.size = _
      rw [Array.size_append]
      rfl
    obtain ⟨out, ho⟩ := tx_joined (ts := ts) (acc := acc ++ y) (fun t ht => h t (by simp [ht])) (by rw [e]; omega)
    exact ⟨out, fun Q q => k _ ⟨y, rfl, by rw [sizeLine_eq, e]; omega, ho Q q⟩⟩
theorem tx_text {ts : List TE} {σ : L2.St} {H : Hp} (h : ∀ t ∈ ts, TxR 1000 t σ H) (hl : ts.length ≤ 100) : ∃ v0 : V, ∀ R : VK, R v0 H → (fun (σ : L2.St) (H : Hp) (Q : VK) => tJs ts Str.empty σ H fun out H1 => Q (.str out) H1) σ H R := by
  obtain ⟨out, k⟩ := tx_joined (acc := Str.empty) h (by show 0 + _ ≤ _; omega)
  exact ⟨.str out, fun R q => k _ q⟩
/-! ### what such an __init__ promises: one field, two fields -/
def spI1 (K : PySem.W.Frag) (C : Addr) (f : Str) : Sp := fun vs H Q _ => ∃ (a : Addr) (v : V), vs = [.ref a, v] ∧ FmtV v ∧ OexC K C ∧ PySem.W.findIn K (.ref C) f = some none ∧ H a = some (exo a C none) ∧
  ∀ dx, H dx = none → dx ≠ a → Q .non (upd (upd H dx (exd dx [(f, v)])) a (exo a C (some dx)))
def spI2 (K : PySem.W.Frag) (C : Addr) (f g : Str) : Sp := fun vs H Q _ => ∃ (a : Addr) (v w : V), vs = [.ref a, v, w] ∧ FmtV v ∧ FmtV w ∧ OexC K C ∧ PySem.W.findIn K (.ref C) f = some none ∧ PySem.W.findIn K (.ref C) g = some none ∧ H a = some (exo a C none) ∧
  ∀ dx, H dx = none → dx ≠ a → Q .non (upd (upd (upd H dx (exd dx [(f, v)])) a (exo a C (some dx))) dx (exd dx [(g, w), (f, v)]))
theorem spI1_len {K : PySem.W.Frag} {C : Addr} {f : Str} (vs : List V) (H : Hp) (Q : VK) (E : XK) (h : spI1 K C f vs H Q E) : vs.length = 2 := by
  obtain ⟨a, v, rfl, _⟩ := h; rfl
theorem spI2_len {K : PySem.W.Frag} {C : Addr} {f g : Str} (vs : List V) (H : Hp) (Q : VK) (E : XK) (h : spI2 K C f g vs H Q E) : vs.length = 3 := by
  obtain ⟨a, v, w, rfl, _⟩ := h; rfl
/-- the body's answer: one field -/
theorem init1_ans {K : PySem.W.Frag} {C : Addr} {f x : Str} {vs : List V} {H : Hp} {Q : VK} {E : XK} (h : spI1 K C f vs H Q E) : ∃ (e : Addr) (r : List V), vs = .ref e :: r ∧ H e = some (exo e C none) ∧ (∃ v, FmtV v ∧ (NdefX.startF ["self", x, "__class__"] vs [none])[1]? = some (some v)) ∧
    tOst K f (tVar 0) (tVar 1) { nx := fun _ H' => Q .non H', rt := Q } (NdefX.startF ["self", x, "__class__"] vs [none]) H := by
  obtain ⟨a, v, rfl, hv, hc, hf, ha, q⟩ := h
  exact ⟨a, [v], rfl, ha, ⟨v, hv, rfl⟩, v, rfl, .ref a, rfl, a, C, rfl, hc, hf, .inl ⟨ha, fun dx n ne => q dx n ne⟩⟩
theorem init2_ans {K : PySem.W.Frag} {C : Addr} {f g x y : Str} {vs : List V} {H : Hp} {Q : VK} {E : XK} (h : spI2 K C f g vs H Q E) : ∃ (e : Addr) (r : List V), vs = .ref e :: r ∧ H e = some (exo e C none) ∧ (∃ v, FmtV v ∧ (NdefX.startF ["self", x, y, "__class__"] vs [none])[1]? = some (some v)) ∧ (∃ v, FmtV v ∧ (NdefX.startF ["self", x, y, "__class__"] vs [none])[2]? = some (some v)) ∧
    tSeq (tOst K f (tVar 0) (tVar 1)) (tOst K g (tVar 0) (tVar 2)) { nx := fun _ H' => Q .non H', rt := Q } (NdefX.startF ["self", x, y, "__class__"] vs [none]) H := by
  obtain ⟨a, v, w, rfl, hv, hw, hc, hf, hg, ha, q⟩ := h
  refine ⟨a, [v, w], rfl, ha, ⟨v, hv, rfl⟩, ⟨w, hw, rfl⟩, v, rfl, .ref a, rfl, a, C, rfl, hc, hf, .inl ⟨ha, fun dx n ne => ?_⟩⟩
  exact ⟨w, rfl, .ref a, rfl, a, C, rfl, hc, hg, .inr ⟨dx, [(f, v)], upd_same, by rw [upd_ne ne, upd_same], by show 1 ≤ 900; decide, q dx n ne⟩⟩
end DL
/-! DLs: raise, try. -/
namespace DL
open PySem PySem.Spec L2
section
variable {K : PySem.W.Frag} {mg : Str → Option Value} {E : L2.St → XK} {ps : List Bool}
theorem PostS.getsB {Z : Gs} {D : Ends} {ρ : Env} {g : List PyData → R Out} : ∀ {p : List Pd}, PostS K mg E Z (getsB ρ p >>= g) D → ∃ d, getsB ρ p = .ok d ∧ PostS K mg E Z (g d) D := by
  intro p h
  cases e : DL.getsB ρ p with
  | ok d => rw [e] at h; exact ⟨d, rfl, h⟩
  | bad => rw [e] at h; exact h.elim
  | ex x ρ' => exact absurd e (getsB_no ρ p x ρ')
/-- a call of a def that may raise -/
theorem sn_callS {fD : EE} {refs : List Bool} {ta : TA} {fl : LE} (h : SndL K mg E ta fl) : SndE K mg E (tCallS (spF K mg fD) E ta) (dCall fD refs fl) := by
  intro G F H σ ρ r0 Q q
  unfold dCall at q
  rw [post_bind] at q
  refine h G F H σ ρ r0 _ (q.mono fun ps ρ1 q1 vs F1 H1 e1 r1 h1 => ?_)
  try dsimp only at q1
  obtain ⟨⟨ρc, ρ2⟩, et, q2⟩ := q1.of
  obtain ⟨Oc, hc, r2⟩ := takeA_ok r1 h1 et
  rw [List.append_nil] at r2
  obtain ⟨O, _, nd, own⟩ := r2.sls
  refine ⟨F1, ρc, Oc, r1.sub, hc, (List.nodup_append.mp nd).1, fun a ha => (own a (List.mem_append_left _ ha)).1, ?_⟩
  try dsimp only at q2
  cases ef : fD ρc with
  | bad => rw [ef] at q2; exact q2
  | ex x ρo =>
    rw [ef] at q2
    intro F' H' C d rc hcl hx
    obtain ⟨Oo, ho, ra⟩ := r2.after rc
    exact q2 F' H' C d (putA_ok h1 ho ra) hcl hx
  | ok p =>
    obtain ⟨s, ρo⟩ := p
    rw [ef] at q2
    intro v F' H' Os rc hv
    obtain ⟨Oo, ho, ra⟩ := r2.after rc
    exact q2 v F' H' Os (e1.trans rc.f0) (putA_ok h1 ho ra) hv

/-! ### raise -/
def excA : PyData → Bool
  | .str z => decide (z.length ≤ 1000)
  | .int i => decide (0 ≤ i ∧ i < 640)
  | _ => false
def sRaise (name : Str) (fs : List Str) (fl : LE) : SE := fun ρ => do
  let (ps, ρ) ← fl ρ
  let ds ← getsB ρ ps
  if ds.length = fs.length ∧ ds.all excA = true then .ex ⟨name, some (fs.zip ds).reverse⟩ ρ else .bad
theorem fmt_of {F H : Hp} {v : V} {d : PyData} (h : RepB K mg F H v d) (e : excA d = true) : FmtV v ∧ Rep K F v d := by
  cases d with
  | str z =>
    have := h.rep_str
    subst this
    exact ⟨.inl ⟨z, rfl, of_decide_eq_true e⟩, .str z⟩
  | int i =>
    have := h.rep_int
    subst this
    have := of_decide_eq_true e
    exact ⟨.inr ⟨i, rfl, this.1, this.2⟩, .int i⟩
  | _ => cases e
theorem xd_at {H1 : Hp} {a dx : Addr} {fs : List (Str × V)} (n : H1 a = none) (ne : dx ≠ a) {H2 : Hp} (h2 : ∀ b, b ≠ a → b ≠ dx → H2 b = H1 b) :
    upd (del H2 a) dx (.xd fs) = upd H1 dx (.xd fs) := by
  funext b
  by_cases hd : b = dx
  · rw [hd, upd_same, upd_same]
  · rw [upd_ne hd, upd_ne hd]
    by_cases ha : b = a
    · rw [ha, del_same, n]
    · rw [del_ne ha, h2 b ha hd]
theorem sn_raise1 {name f : Str} {C : Addr} {ta : TA} {fl : LE} (g : mg name = some (.ref C)) (hc : OexC K C) (hf : PySem.W.findIn K (.ref C) f = some none) (h : SndL K mg E ta fl) :
    SndS K mg ps E (fun _ σ H => tMkO C (spI1 K C f) [] ta σ H fun cls d H' => E σ cls d H') (sRaise name [f] fl) := by
  intro Z F H σ ρ hp hz r D q
  unfold sRaise at q
  refine h Z.g F H σ ρ r _ ((post_ofA hz q).mono fun pd ρ1 q1 vs F1 H1 e1 r1 h1 => ?_)
  try dsimp only at q1
  obtain ⟨ds, ed, q2⟩ := q1.getsB
  have hb := h1.getsB r1 ed
  split at q2
  · rename_i hl
    obtain ⟨d, rfl⟩ : ∃ d, ds = [d] := by
      match ds, hl.1 with
      | [d], _ => exact ⟨d, rfl⟩
    obtain ⟨v, rfl, hv⟩ := hb.one
    have h2 : excA d = true := by simpa using hl.2
    obtain ⟨hfm, hrep⟩ := fmt_of hv h2
    refine ⟨by show 1 ≤ 1000; decide, fun a na => ⟨a, v, rfl, hfm, hc, hf, upd_same, fun dx n ne => ?_⟩⟩
    have n1 : H1 dx = none := by rwa [upd_ne ne] at n
    refine ⟨rfl, dx, [(f, v)], upd_same, by rw [upd_ne ne, upd_same], n1, ?_⟩
    rw [xd_at na ne (fun b h1 h2 => by rw [upd_ne h1, upd_ne h2, upd_ne h1])]
    exact q2 σ hz F1 _ C (some dx) (r1.ext (Ext.newOwn r1.sub n1)).drop g ⟨dx, [(f, v)], rfl, upd_same, rfl, .cons hrep .nil⟩
  · exact q2.elim
theorem sn_raise2 {name f g' : Str} {C : Addr} {ta : TA} {fl : LE} (g : mg name = some (.ref C)) (hc : OexC K C) (hf : PySem.W.findIn K (.ref C) f = some none) (hg : PySem.W.findIn K (.ref C) g' = some none) (h : SndL K mg E ta fl) :
    SndS K mg ps E (fun _ σ H => tMkO C (spI2 K C f g') [] ta σ H fun cls d H' => E σ cls d H') (sRaise name [f, g'] fl) := by
  intro Z F H σ ρ hp hz r D q
  unfold sRaise at q
  refine h Z.g F H σ ρ r _ ((post_ofA hz q).mono fun pd ρ1 q1 vs F1 H1 e1 r1 h1 => ?_)
  try dsimp only at q1
  obtain ⟨ds, ed, q2⟩ := q1.getsB
  have hb := h1.getsB r1 ed
  split at q2
  · rename_i hl
    obtain ⟨d, e, rfl⟩ : ∃ d e, ds = [d, e] := by
      match ds, hl.1 with
      | [d, e], _ => exact ⟨d, e, rfl⟩
    obtain ⟨v, w, rfl, hv, hw⟩ := hb.two
    have h2 : excA d = true ∧ excA e = true := by simpa using hl.2
    obtain ⟨hfm, hrep⟩ := fmt_of hv h2.1
    obtain ⟨hfm2, hrep2⟩ := fmt_of hw h2.2
    refine ⟨by show 2 ≤ 1000; decide, fun a na => ⟨a, v, w, rfl, hfm, hfm2, hc, hf, hg, upd_same, fun dx n ne => ?_⟩⟩
    have n1 : H1 dx = none := by rwa [upd_ne ne] at n
    refine ⟨rfl, dx, [(g', w), (f, v)], by rw [upd_ne ne.symm, upd_same], upd_same, n1, ?_⟩
    rw [xd_at na ne (fun b h1 h2 => by rw [upd_ne h2, upd_ne h1, upd_ne h2, upd_ne h1])]
    exact q2 σ hz F1 _ C (some dx) (r1.ext (Ext.newOwn r1.sub n1)).drop g ⟨dx, [(g', w), (f, v)], rfl, upd_same, rfl, .cons hrep2 (.cons hrep .nil)⟩
  · exact q2.elim

/-! ### try: .. except C as n: .. -/
def clrO (i : Nat) : Out → Out
  | .nx ρ => .nx (ρ.set i none)
  | .bk ρ => .bk (ρ.set i none)
  | .ct ρ => .ct (ρ.set i none)
  | .rt s ρ => .rt s ρ
def isCaught (tab : List (Str × Bool)) (n : Str) : Option Bool := (tab.find? fun p => decide (p.1 = n)).map (·.2)
def sTry (i : Nat) (tab : List (Str × Bool)) (fb : SE) (fs : Xc → SE) : SE := fun ρ => match fb ρ with
  | .ex x ρ' => match isCaught tab x.name with
    | some true => if i < ρ'.length then
        match fs x (ρ'.set i none) with
        | .ok o => .ok (clrO i o)
        | _ => .bad
      else .bad
    | some false => .ex x ρ'
    | none => .bad
  | r => r
def SndU (K : PySem.W.Frag) (mg : Str → Option Value) (ps : List Bool) (i : Nat) (ts : Addr → Value → Option Addr → TS) (fs : Xc → SE) : Prop :=
  ∀ (x : Xc) (a C : Addr) (d : Option Addr) (Z : Gs) F H σ ρ, (∀ i v, Z.pin i = some v → ps[i]? = some true) → Z.ok σ → mg x.name = some (.ref C) → XR K F H x.fields d → σ[i]? = some (some (.ref a)) → Rp K mg Z.g F H [] σ ρ →
    ∀ D, PostS K mg (fun _ _ _ _ => False) Z (fs x ρ) D → ts a (.ref C) d D σ H
theorem Rp.hide {G : Gr} {F H : Hp} {Os : List Addr} {σ : L2.St} {ρ : Env} (i : Nat) (x : Option V) (r : Rp K mg G F H Os σ ρ) : Rp K mg G F H Os (σ.set i x) (ρ.set i none) := by
  by_cases hi : i < σ.length
  · obtain ⟨O, hs, nd, own⟩ := r.sls
    obtain ⟨O1, O2, O3, e, _, k⟩ := hs.put hi
    subst e
    refine ⟨r.f0, r.sub, r.bas, r.new, _, k x, ?_, fun a ha => own a ?_⟩
    · simp only [List.nodup_append, List.mem_append] at nd ⊢
      grind
    · simp only [List.mem_append] at ha ⊢
      grind
  · rw [List.set_eq_of_length_le (by omega), List.set_eq_of_length_le (by rw [← r.len]; omega)]
    exact r
def tTryAs (K : PySem.W.Frag) (c : Value) (i : Nat) (tb : WX → TS) (ts : Addr → Value → Option Addr → TS) (Wout : WX) : TS := fun D σ H => tb (wAs K c i ts Wout D) D σ H
theorem ps_tryA {X : Cx} {x n : Str} {c : Value} {i : Nat} {body suite : List Stmt} {b₀ : Stmt} {np pos pos' : Pos} {tb : WX → TS} {ts : Addr → Value → Option Addr → TS} {Wout : WX} (hs : X.stack = X.env :: X.outer) (hf : X.env.frame = some X.env.locals) (hN : X.N.Nodup) (hi : X.N[i]? = some n) (hln : X.env.kindOf n = some .local)
    (hc : Names X x c) (tk : Takes X Wout) (hb : ∀ (W : WX) (pn : List (Addr × Obj)) (xe : Value → Shared → Prop), Takes (X.tr pn xe) W → PassesOwn (model X.prog X.w) X.A X.env xe → PSs (X.tr pn xe) body (tb W))
    (hsu : ∀ (a : Addr) (oe : Obj) (cls : Value) (d : Option Addr) (pn : List (Addr × Obj)), Zc cls d oe → (∃ vs, oe.data = .fields vs) → PSs (X.suite a ((a, oe) :: pn)) (b₀ :: suite) (ts a cls d)) :
    PS X (.Try body [.ExceptHandler (some (.Name x np)) (some n) (b₀ :: suite) pos'] [] [] pos) (tTryAs X.K c i tb ts Wout) := ps_try_as hs hf hN hi hln hc tk hb hsu
theorem sn_tryAs {c : Value} {i : Nat} {tb : WX → TS} {ts : Addr → Value → Option Addr → TS} {fb : SE} {fs : Xc → SE} {tab : List (Str × Bool)} {Wout : WX} (hb : ∀ W : WX, SndS K mg ps (WE W) (tb W) fb) (hs : SndU K mg ps i ts fs)
    (ht : ∀ p ∈ tab, ∃ C : Addr, mg p.1 = some (.ref C) ∧ PySem.W.exmOne K (.ref C) c = some p.2) (hi : ps[i]? ≠ some true := by decide) : SndS K mg ps (WE Wout) (tTryAs K c i tb ts Wout) (sTry i tab fb fs) := by
  intro Z F H σ ρ hp hz r D q
  refine hb (wAs K c i ts Wout D) Z F H σ ρ hp hz r D ?_
  unfold sTry at q
  cases e : fb ρ with
  | bad => rw [e] at q; exact q
  | ok o => rw [e] at q; cases o <;> exact q
  | ex x ρ' =>
    rw [e] at q
    dsimp only at q
    intro σ' hz' F' H' C d r' hcl hxr
    have hcaught : ∀ b, isCaught tab x.name = some b → PySem.W.exmOne K (.ref C) c = some b := fun b hb => by
      unfold isCaught at hb
      obtain ⟨p, hp1, rfl⟩ := Option.map_eq_some_iff.mp hb
      obtain ⟨C', h1, h2⟩ := ht p (List.mem_of_find?_eq_some hp1)
      have hn := List.find?_some hp1
      have hn := of_decide_eq_true hn
      rw [hn, hcl] at h1
      cases h1
      exact h2
    split at q
    · rename_i hk
      refine ⟨true, hcaught _ hk, fun _ a na => ?_, (fun z => (by cases z))⟩
      split at q
      · rename_i hin
        rw [← r'.len] at hin
        refine hs x a C d Z F' H' (σ'.set i (some (.ref a))) (ρ'.set i none) hp (hz'.set hp hi) hcl hxr (by rw [List.getElem?_set_self hin]) (r'.hide i _) _ ?_
        cases e2 : fs x (ρ'.set i none) with
        | bad => rw [e2] at q; exact q.elim
        | ex => rw [e2] at q; exact q.elim
        | ok o =>
          rw [e2] at q
          cases o with
          | nx ρ2 => exact fun σ2 F2 H2 z2 r2 => q (σ2.set i none) F2 H2 (z2.set hp hi) (r2.hide i none)
          | bk ρ2 => exact fun σ2 F2 H2 z2 r2 => q (σ2.set i none) F2 H2 (z2.set hp hi) (r2.hide i none)
          | ct ρ2 => exact fun σ2 F2 H2 z2 r2 => q (σ2.set i none) F2 H2 (z2.set hp hi) (r2.hide i none)
          | rt s ρ2 => exact q
      · exact q.elim
    · rename_i hk
      refine ⟨false, hcaught _ hk, (fun z => (by cases z)), fun _ => ?_⟩
      exact q σ' hz' F' H' C d r' hcl hxr
    · exact q.elim
/-! ### the suite -/
def SndX (K : PySem.W.Frag) (mg : Str → Option Value) (i : Nat) (te : Addr → Value → Option Addr → TE) (g : Xc → Option PyData) : Prop :=
  ∀ (x : Xc) (a C : Addr) (d : Option Addr) F H σ, mg x.name = some (.ref C) → XR K F H x.fields d → σ[i]? = some (some (.ref a)) → ∀ e, g x = some e → ∀ Q : VK, (∀ v, Rep K F v e → Q v H) → te a (.ref C) d σ H Q
def xfE (name f : Str) : Xc → Option PyData := fun x => if x.name = name then
    match x.fields with
    | some fs => (fs.find? fun p => decide (p.1 = f)).map (·.2)
    | none => none
  else none
theorem xd_look {F : Hp} {f : Str} : ∀ {vs : List (Str × V)} {fs : List (Str × PyData)} {e : PyData}, vs.map (·.1) = fs.map (·.1) → Reps K F (vs.map (·.2)) (fs.map (·.2)) → (fs.find? fun p => decide (p.1 = f)).map (·.2) = some e → ∃ v, vs.lookup f = some v ∧ Rep K F v e
  | [], [], _, _, _, h => by cases h
  | [], _ :: _, _, h, _, _ => by cases h
  | _ :: _, [], _, h, _, _ => by cases h
  | (n, v) :: vs, (n', d) :: fs, e, h, r, hf => by
    rw [List.map_cons, List.map_cons, List.cons.injEq] at h
    obtain ⟨h1, h2⟩ := h
    have h1 : n = n' := h1
    subst h1
    cases r with
    | cons r1 r2 =>
      by_cases hn : n = f
      · subst hn
        simp only [List.find?_cons, decide_true, Option.map_some, Option.some.injEq] at hf
        subst hf
        exact ⟨v, by simp [List.lookup], r1⟩
      · rw [List.find?_cons_of_neg (by simpa using hn)] at hf
        obtain ⟨w, h3, h4⟩ := xd_look h2 r2 hf
        refine ⟨w, ?_, h4⟩
        have : (f == n) = false := by simpa using fun z : f = n => hn z.symm
        simp only [List.lookup, this]
        exact h3
theorem sx_xf {i : Nat} {name f : Str} {C0 : Addr} (g : mg name = some (.ref C0)) : SndX K mg i (fun a cls d => tXf a cls d C0 f (tVar i)) (xfE name f) := by
  intro x a C d F H σ hcl hxr hi e he Q q
  unfold xfE at he
  split at he
  · rename_i hn
    rw [hn, g] at hcl
    cases hcl
    cases hfs : x.fields with
    | none => rw [hfs] at he; cases he
    | some fs =>
      rw [hfs] at he hxr
      obtain ⟨p, vs, hd, hp, hk, hr⟩ := hxr
      obtain ⟨v, h1, h2⟩ := xd_look hk hr he
      exact ⟨_, hi, rfl, rfl, p, vs, v, hd, hp, h1, q v h2⟩
  · cases he
def cE (d : PyData) : Xc → Option PyData := fun _ => some d
theorem sx_bl {i : Nat} {b : Bool} : SndX K mg i (fun _ _ _ => tC (.bl b)) (cE (.bool b)) := fun _ _ _ _ _ _ _ _ _ _ e he Q q => by
  cases he
  exact q _ (.bl b)
theorem sx_int {i : Nat} {b : Int} : SndX K mg i (fun _ _ _ => tC (.int b)) (cE (.int b)) := fun _ _ _ _ _ _ _ _ _ _ e he Q q => by
  cases he
  exact q _ (.int b)
theorem sx_non {i : Nat} : SndX K mg i (fun _ _ _ => tC .non) (cE .none) := fun _ _ _ _ _ _ _ _ _ _ e he Q q => by
  cases he
  exact q _ .non
/-- an int of it, == a written int -/
def eqXE (g : Xc → Option PyData) (j : Int) : Xc → Option PyData := fun x => match g x with
  | some (.int i) => some (.bool (decide (i = j)))
  | _ => none
theorem sx_eqI {i : Nat} {te : Addr → Value → Option Addr → TE} {g : Xc → Option PyData} {j : Int} (h : SndX K mg i te g) : SndX K mg i (fun a cls d => tOp (rEqU K) (te a cls d) (tC (.int j))) (eqXE g j) := by
  intro x a C d F H σ hcl hxr hi e he Q q
  unfold eqXE at he
  split at he
  · rename_i k hk
    cases he
    refine h x a C d F H σ hcl hxr hi _ hk _ fun v hv => ?_
    cases hv
    exact .inl ⟨rfl, by
      have : decide (V.int k = V.int j) = decide (k = j) := by simp
      show Q (.bl (decide (V.int k = V.int j))) H
      rw [this]
      exact q _ (.bl _)⟩
  · cases he
def uRet (g : Xc → Option PyData) : Xc → SE := fun x ρ => match g x with
  | some e => .ok (.rt (.dat e) ρ)
  | none => .bad
theorem su_ret {i : Nat} {te : Addr → Value → Option Addr → TE} {g : Xc → Option PyData} (h : SndX K mg i te g) : SndU K mg ps i (fun a cls d => tRet (te a cls d)) (uRet g) := by
  intro x a C d Z F H σ ρ hp hz hcl hxr hi r D q
  unfold uRet at q
  split at q
  · rename_i e he
    exact h x a C d F H σ hcl hxr hi e he _ fun v hv => q σ v F H [] hz r (.dat hv)
  · exact q.elim
end
/-! ### in the calculus -/
section
variable {W : XW} {ρ : Env} {i : Nat}
def excK (fs : List Str) (ds : List PyData) (Q : Prop) : Prop := (ds.length = fs.length ∧ ds.all excA = true) ∧ Q
@[simp ↓] theorem sat_sRaise {name : Str} {fs : List Str} {fl : LE} {Q} : sat (sRaise name fs fl ρ) Q = sat (fl ρ) fun p => sat (getsB p.2 p.1) fun ds => (ds.length = fs.length ∧ ds.all excA = true) ∧ W.E ⟨name, some (fs.zip ds).reverse⟩ p.2 := by
  unfold sRaise
  simp only [sat_bind, sat_ite, sat_ex, sat_bad, if_false_right]
def tryK (W : XW) (i : Nat) (tab : List (Str × Bool)) (fs : Xc → SE) (Q : Out → Prop) (x : Xc) (ρ' : Env) : Prop := match isCaught tab x.name with
  | some true => i < ρ'.length ∧ @sat _ noXW (fs x (ρ'.set i none)) fun o => Q (clrO i o)
  | some false => W.E x ρ'
  | none => False
@[simp ↓] theorem sat_sTry {tab : List (Str × Bool)} {fb : SE} {fs : Xc → SE} {Q} : sat (sTry i tab fb fs ρ) Q = @sat _ ⟨tryK W i tab fs Q⟩ (fb ρ) Q := by
  unfold sTry
  cases fb ρ with
  | ok o => rfl
  | bad => rfl
  | ex x ρ' =>
    dsimp only
    show _ = tryK W i tab fs Q x ρ'
    unfold tryK
    split
    · split
      · rename_i h
        cases e : fs x (ρ'.set i none) <;> simp [sat, h]
      · rename_i h
        simp [sat, h]
    · rfl
    · rfl
@[simp ↓] theorem sat_uRet {g : Xc → Option PyData} {x : Xc} {Q} : @sat _ noXW (uRet g x ρ) Q = osat (g x) fun e => Q (.rt (.dat e) ρ) := by
  unfold uRet
  cases g x <;> rfl
end
end DL
namespace DL
open PySem PySem.Spec L2
section
variable {K : PySem.W.Frag} {mg : Str → Option Value} {E : L2.St → XK} {ps : List Bool}
/-- a statement that is never reached -/
def sNv : SE := fun _ => .bad
theorem sn_nv : SndS K mg ps E tNever sNv := fun _ _ _ _ _ _ _ _ _ q => q.elim
/-- a statement that lets nothing out -/
def sNoX (f : SE) : SE := fun ρ => match f ρ with
  | .ok o => .ok o
  | _ => .bad
theorem sn_noX {Wo : WX} {ts : TS} {f : SE} (h : SndS K mg ps (WE Wo) ts f) : SndS K mg ps E ts (sNoX f) := by
  intro Z F H σ ρ hp hz r D q
  refine h Z F H σ ρ hp hz r D ?_
  unfold sNoX at q
  cases e : f ρ with
  | ok o => rw [e] at q; cases o <;> exact q
  | ex x ρ' => rw [e] at q; exact q.elim
  | bad => rw [e] at q; exact q
end
section
variable {W : XW} {ρ : Env}
@[simp ↓] theorem sat_sNv {Q} : sat (sNv ρ) Q = False := (Eq.trans rfl rfl)
@[simp ↓] theorem sat_sNoX {f : SE} {Q} : sat (sNoX f ρ) Q = @sat _ noXW (f ρ) Q := by
  unfold sNoX
  cases f ρ <;> rfl
end
end DL
namespace DL
open PySem PySem.Spec L2
@[simp ↓] theorem ltD_stL {a b : List Nat} {Q : Sl → Prop} : osat (ltD (.str (stL a)) (.str (stL b))) Q = Q (.dat (.bool (decide (a < b)))) := by
  unfold ltD; rw [osat_some, stL_cps, stL_cps]
@[simp ↓] theorem leD_stL {a b : List Nat} {Q : Sl → Prop} : osat (leD (.str (stL a)) (.str (stL b))) Q = Q (.dat (.bool (!decide (b < a)))) := by
  unfold leD; rw [osat_some, stL_cps, stL_cps]
@[simp ↓] theorem gtD_stL {a b : List Nat} {Q : Sl → Prop} : osat (gtD (.str (stL a)) (.str (stL b))) Q = Q (.dat (.bool (decide (b < a)))) := by
  unfold gtD; rw [osat_some, stL_cps, stL_cps]
@[simp ↓] theorem geD_stL {a b : List Nat} {Q : Sl → Prop} : osat (geD (.str (stL a)) (.str (stL b))) Q = Q (.dat (.bool (!decide (a < b)))) := by
  unfold geD; rw [osat_some, stL_cps, stL_cps]
@[simp] theorem stL_get0 {c : Nat} {r : List Nat} : (stL (c :: r)).cps[0]?.getD 0 = c := by simp [stL]
@[simp] theorem one_lt {a b : Nat} : ([a] < [b]) = (a < b) := by
  apply propext
  rw [List.cons_lt_cons_iff]
  simp
end DL
namespace DL
open PySem PySem.Spec L2
@[simp] theorem atI_10 {α : Type} {a b c d e f g h i j k : α} {l : List α} : atI (a :: b :: c :: d :: e :: f :: g :: h :: i :: j :: k :: l) 10 = some k := atI_nat (j := 10) rfl
@[simp] theorem atI_11 {α : Type} {a b c d e f g h i j k m : α} {l : List α} : atI (a :: b :: c :: d :: e :: f :: g :: h :: i :: j :: k :: m :: l) 11 = some m := atI_nat (j := 11) rfl
end DL
namespace DL
open PySem PySem.Spec L2
/-! a for over written items -/
def turnK [W : XW] (g : PyData → Env → Option Env) (b : SE) (ds : List PyData) (Q : Out → Prop) : Out → Prop
  | .nx ρ => satH (forL g b ds ρ) Q ⟨⟩
  | .ct ρ => satH (forL g b ds ρ) Q ⟨⟩
  | .bk ρ => Q (.nx ρ)
  | .rt s ρ => Q (.rt s ρ)
section
variable {W : XW} {g : PyData → Env → Option Env} {b : SE} {Q : Out → Prop} {t : Tg Q} {ds : List PyData} {d : PyData} {ρ : Env} {s : Sl}
theorem forL_nil : satH (forL g b [] ρ) Q t = Q (.nx ρ) := (Eq.trans rfl rfl)
theorem forL_cons : satH (forL g b (d :: ds) ρ) Q t = osat (g d ρ) fun ρ => sat (b ρ) (turnK g b ds Q) := by
  show sat (forL g b (d :: ds) ρ) Q = _
  rw [forL, sat_bind, sat_of]
  congr 1
  funext ρ1
  rw [sat_bind]
  congr 1
  funext o
  cases o <;> rfl
@[simp ↓] theorem turnK_nx : turnK g b ds Q (.nx ρ) = satH (forL g b ds ρ) Q ⟨⟩ := (Eq.trans rfl rfl)
@[simp ↓] theorem turnK_ct : turnK g b ds Q (.ct ρ) = satH (forL g b ds ρ) Q ⟨⟩ := (Eq.trans rfl rfl)
@[simp ↓] theorem turnK_bk : turnK g b ds Q (.bk ρ) = Q (.nx ρ) := (Eq.trans rfl rfl)
@[simp ↓] theorem turnK_rt : turnK g b ds Q (.rt s ρ) = Q (.rt s ρ) := (Eq.trans rfl rfl)
end
theorem range0_2 : rangeD 0 2 = [.int 0, .int 1] := rfl
theorem range0_3 : rangeD 0 3 = [.int 0, .int 1, .int 2] := rfl
theorem range0_4 : rangeD 0 4 = [.int 0, .int 1, .int 2, .int 3] := rfl
end DL
namespace W
open PySem PySem.Spec L2 DL
/-! the text, by places -/
def topS (i : Nat) : Stmt := PySem.Challenge.pw_timeshelf_k09_standings_of_rows.main.body.getD i (.Pass ⟨0, 0, 0, 0⟩)
abbrev s_fits : Stmt := topS 5
theorem sc_fits : FnScope ["word", "pattern"] ["word", "pattern"] (defScope s_fits) := ⟨rfl, rfl, rfl, by decide +kernel, rfl, by decide +kernel, by decide +kernel⟩
abbrev s_standings : Stmt := topS 6
theorem sc_standings : FnScope ["document", "row", "patterns", "last_place", "ways", "pattern", "longer", "way", "first", "end", "place"] ["document", "row"] (defScope s_standings) := ⟨rfl, rfl, rfl, by decide +kernel, rfl, by decide +kernel, by decide +kernel⟩
abbrev s_l_cell : Stmt := topS 8
theorem sc_l_cell : FnScope ["_law_script", "_law_k"] ["_law_script", "_law_k"] (defScope s_l_cell) := ⟨rfl, rfl, rfl, by decide +kernel, rfl, by decide +kernel, by decide +kernel⟩
abbrev s_l_digits : Stmt := topS 9
theorem sc_l_digits : FnScope ["_law_script", "_law_first", "_law_last", "_law_digits_here", "_law_k", "_law_cell_here", "_law_turn", "_law_seed"] ["_law_script", "_law_first", "_law_last"] (defScope s_l_digits) := ⟨rfl, rfl, rfl, by decide +kernel, rfl, by decide +kernel, by decide +kernel⟩
abbrev s_l_draw : Stmt := topS 10
theorem sc_l_draw : FnScope ["_law_box", "_law_many", "_law_at"] ["_law_box", "_law_many"] (defScope s_l_draw) := ⟨rfl, rfl, rfl, by decide +kernel, rfl, by decide +kernel, by decide +kernel⟩
abbrev s_l_same : Stmt := topS 11
theorem sc_l_same : FnScope ["_law_actual", "_law_due", "_law_k"] ["_law_actual", "_law_due"] (defScope s_l_same) := ⟨rfl, rfl, rfl, by decide +kernel, rfl, by decide +kernel, by decide +kernel⟩
abbrev s_l_word : Stmt := topS 12
theorem sc_l_word : FnScope ["_law_box", "_law_kind", "_law_word_here", "_law_k"] ["_law_box"] (defScope s_l_word) := ⟨rfl, rfl, rfl, by decide +kernel, rfl, by decide +kernel, by decide +kernel⟩
abbrev s_l_pattern : Stmt := topS 13
theorem sc_l_pattern : FnScope ["_law_box"] ["_law_box"] (defScope s_l_pattern) := ⟨rfl, rfl, rfl, by decide +kernel, rfl, by decide +kernel, by decide +kernel⟩
abbrev s_l_document : Stmt := topS 14
theorem sc_l_document : FnScope ["_law_box", "_law_most", "_law_words", "_law_k"] ["_law_box", "_law_most"] (defScope s_l_document) := ⟨rfl, rfl, rfl, by decide +kernel, rfl, by decide +kernel, by decide +kernel⟩
abbrev s_l_fits : Stmt := topS 15
theorem sc_l_fits : FnScope ["_law_word_here", "_law_pattern_here"] ["_law_word_here", "_law_pattern_here"] (defScope s_l_fits) := ⟨rfl, rfl, rfl, by decide +kernel, rfl, by decide +kernel, by decide +kernel⟩
abbrev s_l_standings : Stmt := topS 16
theorem sc_l_standings : FnScope ["_law_document_here", "_law_row", "_law_ways", "_law_pattern_here", "_law_longer", "_law_way", "_law_place"] ["_law_document_here", "_law_row"] (defScope s_l_standings) := ⟨rfl, rfl, rfl, by decide +kernel, rfl, by decide +kernel, by decide +kernel⟩
abbrev s_l_told : Stmt := topS 17
theorem sc_l_told : FnScope ["_law_document_here", "_law_row", "wrong"] ["_law_document_here", "_law_row"] (defScope s_l_told) := ⟨rfl, rfl, rfl, by decide +kernel, rfl, by decide +kernel, by decide +kernel⟩
abbrev s_law : Stmt := topS 18
theorem sc_law : FnScope ["_law_script", "_law_box", "_law_document_here", "_law_patterns", "_law_row", "_law_word_here", "_law_pattern_here", "_law_due", "_law_k"] ["_law_script"] (defScope s_law) := ⟨rfl, rfl, rfl, by decide +kernel, rfl, by decide +kernel, by decide +kernel⟩
abbrev sI_TooMany : Stmt := inClass (topS 2) 0
/-! what each def computes -/
def b_fits : SE :=
    (sSeq (sIf (dB (dOp eqD (aV (dOp idxD (aN 1) (aV (dC (.int 0))))) (aV (dC (.str (Str.ofString "start"))))))
    (sRet (dM1 startsD (aN 0) (aV (dOp idxD (aN 1) (aV (dC (.int 1)))))))
    sNx)
    (sRet (dOp eqD (aN 0) (aV (dOp idxD (aN 1) (aV (dC (.int 1))))))))
def d_fits : EE := dFn 2 [false, false] b_fits
theorem e_fits {x0 x1 : Option Sl} {Q} : sat (d_fits [x0, x1]) Q = sat (b_fits [x0, x1]) (endS [false, false] Q) := sat_dFn rfl
def b_standings : SE :=
    (sSeq (sDat 2 (dOp idxD (aN 1) (aV (dC (.int 1)))))
    (sSeq (sDat 3 (dOp addD (aV (dOp subD (aV (dCB lenD (lC (aN 2) lN))) (aV (dC (.int 1))))) (aV (dOp idxD (aN 1) (aV (dC (.int 2)))))))
    (sSeq (sDat 4 (dLst (lC (aV (dTup lN)) lN)))
    (sSeq (sFor (iA (dN 2)) (gN 5)
    (sSeq (sSet 6 (dLst lN))
    (sSeq (sFor (iA (dN 4)) (gN 7)
    (sSeq (sDat 8 (dC (.int 0)))
    (sSeq (sDat 9 (dCB lenD (lC (aN 0) lN)))
    (sSeq (sIf (dB (dOp gtD (aV (dCB lenD (lC (aN 7) lN))) (aV (dC (.int 0)))))
    (sSeq (sDat 8 (dOp addD (aV (dOp idxD (aN 7) (aV (dUn negD (aV (dC (.int 1))))))) (aV (dC (.int 1)))))
    (sDat 9 (dCB minD (lC (aN 9) (lC (aV (dOp addD (aV (dOp addD (aV (dOp idxD (aN 7) (aV (dC (.int 0))))) (aN 3))) (aV (dC (.int 1))))) lN)))))
    sNx)
    (sFor (iR2 (lC (aN 8) (lC (aN 9) lN))) (gN 10)
    (sIf (dB (dCall (noX d_fits) [false, false] (lC (aV (dOp idxD (aN 0) (aN 10))) (lC (aN 5) lN))))
    (sApp 6 (dOp addD (aN 7) (aV (dTup (lC (aN 10) lN)))))
    sNx))))))
    (sDat 4 (dN 6)))))
    (sSeq (sIf (dB (dOp gtD (aV (dCB lenD (lC (aN 4) lN))) (aV (dC (.int 500)))))
    (sRaise "TooMany" ["limit"] (lC (aV (dC (.int 500))) lN))
    sNx)
    (sRet (dN 4)))))))
def d_standings : EE := dFn 11 [false, false] b_standings
theorem e_standings {x0 x1 : Option Sl} {Q} : sat (d_standings [x0, x1]) Q = sat (b_standings [x0, x1, none, none, none, none, none, none, none, none, none]) (endS [false, false] Q) := sat_dFn rfl
theorem ex_standings {W : XW} {x0 x1 : Option Sl} {Q} : sat (d_standings [x0, x1]) Q = @sat _ ⟨fun x ρ => W.E x (maskE [false, false] ρ)⟩ (b_standings [x0, x1, none, none, none, none, none, none, none, none, none]) (endS [false, false] Q) := sat_dFnX rfl
def b_l_cell : SE :=
    (sSeq (sIf (dB (dOp ltD (aN 1) (aV (dCB lenD (lC (aN 0) lN)))))
    (sRet (dOp idxD (aN 0) (aN 1)))
    sNx)
    (sRet (dC (.int 0))))
def d_l_cell : EE := dFn 2 [false, false] b_l_cell
theorem e_l_cell {x0 x1 : Option Sl} {Q} : sat (d_l_cell [x0, x1]) Q = sat (b_l_cell [x0, x1]) (endS [false, false] Q) := sat_dFn rfl
def b_l_digits : SE :=
    (sSeq (sSet 3 (dLst lN))
    (sSeq (sFor (iR2 (lC (aN 1) (lC (aN 2) lN))) (gN 4)
    (sSeq (sDat 5 (dCall (noX d_l_cell) [false, false] (lC (aN 0) (lC (aN 4) lN))))
    (sSeq (sIf (dB (dOp ltD (aN 5) (aV (dC (.int 0)))))
    (sDat 5 (dOp subD (aV (dC (.int 1))) (aV (dOp mulD (aV (dC (.int 2))) (aN 5)))))
    sNx)
    (sIf (dB (dOp geD (aN 5) (aV (dOp powD (aV (dC (.int 10))) (aV (dC (.int 18)))))))
    (sFor (iR1 (lC (aV (dC (.int 60))) lN)) (gN 6)
    (sIf (dB (dOp gtD (aN 5) (aV (dC (.int 0)))))
    (sSeq (sApp 3 (dOp modD (aV (dCB intD (lC (aN 5) lN))) (aV (dC (.int 1000)))))
    (sDat 5 (dOp fdivD (aN 5) (aV (dC (.int 1000))))))
    sNx))
    (sSeq (sDat 7 (dOp modD (aV (dCB intD (lC (aV (dOp addD (aV (dOp addD (aV (dOp mulD (aN 5) (aV (dC (.int 48271))))) (aV (dOp mulD (aN 4) (aV (dC (.int 69621))))))) (aV (dC (.int 11))))) lN))) (aV (dC (.int 2147483647)))))
    (sFor (iR1 (lC (aV (dC (.int 12))) lN)) (gN 6)
    (sSeq (sDat 7 (dOp modD (aV (dCB intD (lC (aV (dOp addD (aV (dOp addD (aV (dOp mulD (aN 7) (aV (dC (.int 16807))))) (aV (dOp mulD (aV (dC (.int 7))) (aN 6))))) (aV (dC (.int 1))))) lN))) (aV (dC (.int 2147483647)))))
    (sApp 3 (dOp modD (aV (dCB intD (lC (aV (dOp fdivD (aN 7) (aV (dC (.int 997))))) lN))) (aV (dC (.int 1000))))))))))))
    (sRetN 3)))
def d_l_digits : EE := dFn 8 [false, false, false] b_l_digits
theorem e_l_digits {x0 x1 x2 : Option Sl} {Q} : sat (d_l_digits [x0, x1, x2]) Q = sat (b_l_digits [x0, x1, x2, none, none, none, none, none]) (endS [false, false, false] Q) := sat_dFn rfl
def b_l_draw : SE :=
    (sSeq (sDat 2 (dOp idxD (aN 0) (aV (dC (.int 1)))))
    (sSeq (sSetI 0 (dOp addD (aN 2) (aV (dC (.int 1)))) (aV (dC (.int 1))))
    (sSeq (sIf (dB (dOp ltD (aN 2) (aV (dCB lenD (lC (aV (dOp idxD (aN 0) (aV (dC (.int 0))))) lN)))))
    (sRet (dOp modD (aV (dCB intD (lC (aV (dOp idxD (aV (dOp idxD (aN 0) (aV (dC (.int 0))))) (aN 2))) lN))) (aN 1)))
    sNx)
    (sRet (dC (.int 0))))))
def d_l_draw : EE := dFn 3 [true, false] b_l_draw
theorem e_l_draw {x0 x1 : Option Sl} {Q} : sat (d_l_draw [x0, x1]) Q = sat (b_l_draw [x0, x1, none]) (endS [true, false] Q) := sat_dFn rfl
def d_l_same : Nat → EE
  | 0 => fun _ => .bad
  | n + 1 => dFn 3 [false, false]
    (sSeq (sIf (dOr (dB (dIsi "list" (aN 1))) (dB (dIsi "tuple" (aN 1))))
    (sSeq (sIf (dOr (dB (dOp neD (aV (dIsi "list" (aN 1))) (aV (dIsi "list" (aN 0))))) (dB (dOp neD (aV (dIsi "tuple" (aN 1))) (aV (dIsi "tuple" (aN 0))))))
    (sRet (dC (.bool false)))
    sNx)
    (sSeq (sIf (dB (dOp neD (aV (dCB lenD (lC (aN 0) lN))) (aV (dCB lenD (lC (aN 1) lN)))))
    (sRet (dC (.bool false)))
    sNx)
    (sSeq (sFor (iR1 (lC (aV (dCB lenD (lC (aN 1) lN))) lN)) (gN 2)
    (sIf (dNot (dB (dCall (noX (d_l_same n)) [false, false] (lC (aV (dOp idxD (aN 0) (aN 2))) (lC (aV (dOp idxD (aN 1) (aN 2))) lN)))))
    (sRet (dC (.bool false)))
    sNx))
    (sRet (dC (.bool true))))))
    sNx)
    (sSeq (sIf (dB (dOp isND (aN 1) (aV (dC .none))))
    (sRet (dOp isND (aN 0) (aV (dC .none))))
    sNx)
    (sSeq (sIf (dB (dIsi "bool" (aN 1)))
    (sRet (dAndV (dIsi "bool" (aN 0)) (dOp eqD (aN 0) (aN 1))))
    sNx)
    (sSeq (sIf (dB (dIsi "str" (aN 1)))
    (sRet (dAndV (dIsi "str" (aN 0)) (dOp eqD (aN 0) (aN 1))))
    sNx)
    (sRet (dAndV (dIsi "int" (aN 0)) (dAndV (dNotV (dIsi "bool" (aN 0))) (dOp eqD (aN 0) (aN 1)))))))))
def b_l_same (n : Nat) : SE :=
    (sSeq (sIf (dOr (dB (dIsi "list" (aN 1))) (dB (dIsi "tuple" (aN 1))))
    (sSeq (sIf (dOr (dB (dOp neD (aV (dIsi "list" (aN 1))) (aV (dIsi "list" (aN 0))))) (dB (dOp neD (aV (dIsi "tuple" (aN 1))) (aV (dIsi "tuple" (aN 0))))))
    (sRet (dC (.bool false)))
    sNx)
    (sSeq (sIf (dB (dOp neD (aV (dCB lenD (lC (aN 0) lN))) (aV (dCB lenD (lC (aN 1) lN)))))
    (sRet (dC (.bool false)))
    sNx)
    (sSeq (sFor (iR1 (lC (aV (dCB lenD (lC (aN 1) lN))) lN)) (gN 2)
    (sIf (dNot (dB (dCall (noX (d_l_same n)) [false, false] (lC (aV (dOp idxD (aN 0) (aN 2))) (lC (aV (dOp idxD (aN 1) (aN 2))) lN)))))
    (sRet (dC (.bool false)))
    sNx))
    (sRet (dC (.bool true))))))
    sNx)
    (sSeq (sIf (dB (dOp isND (aN 1) (aV (dC .none))))
    (sRet (dOp isND (aN 0) (aV (dC .none))))
    sNx)
    (sSeq (sIf (dB (dIsi "bool" (aN 1)))
    (sRet (dAndV (dIsi "bool" (aN 0)) (dOp eqD (aN 0) (aN 1))))
    sNx)
    (sSeq (sIf (dB (dIsi "str" (aN 1)))
    (sRet (dAndV (dIsi "str" (aN 0)) (dOp eqD (aN 0) (aN 1))))
    sNx)
    (sRet (dAndV (dIsi "int" (aN 0)) (dAndV (dNotV (dIsi "bool" (aN 0))) (dOp eqD (aN 0) (aN 1)))))))))
theorem e_l_same {n : Nat} {x0 x1 : Option Sl} {Q} : sat (d_l_same (n + 1) [x0, x1]) Q = sat (b_l_same n [x0, x1, none]) (endS [false, false] Q) := sat_dFn rfl
def b_l_word : SE :=
    (sSeq (sDat 1 (dCall (noX d_l_draw) [true, false] (lC (aN 0) (lC (aV (dC (.int 3))) lN))))
    (sSeq (sIf (dB (dOp gtD (aN 1) (aV (dC (.int 0)))))
    (sRet (dOp idxD (aV (dLst (lC (aV (dC (.str (Str.ofString "a")))) (lC (aV (dC (.str (Str.ofString "ab")))) (lC (aV (dC (.str (Str.ofString "abc")))) (lC (aV (dC (.str (Str.ofString "b")))) (lC (aV (dC (.str (Str.ofString "ba")))) (lC (aV (dC (.str (Str.ofString "mill")))) (lC (aV (dC (.str (Str.ofString "mills")))) (lC (aV (dC (.str (Str.ofString "weir")))) (lC (aV (dC (.str (Str.ofString "0")))) (lC (aV (dC (.str (Str.ofString "a0")))) (lC (aV (dC (.str (Str.ofString "z9")))) (lC (aV (dC (.str (Str.ofString "bab")))) lN)))))))))))))) (aV (dCall (noX d_l_draw) [true, false] (lC (aN 0) (lC (aV (dC (.int 12))) lN))))))
    sNx)
    (sSeq (sDat 2 (dC (.str (Str.ofString ""))))
    (sSeq (sFor (iR1 (lC (aV (dOp addD (aV (dC (.int 1))) (aV (dCall (noX d_l_draw) [true, false] (lC (aN 0) (lC (aV (dOp idxD (aV (dLst (lC (aV (dC (.int 3))) (lC (aV (dC (.int 12))) lN)))) (aV (dCall (noX d_l_draw) [true, false] (lC (aN 0) (lC (aV (dC (.int 2))) lN)))))) lN)))))) lN)) (gN 3)
    (sDat 2 (dOp addD (aN 2) (aV (dOp idxD (aV (dC (.str (Str.ofString "abcdefghijklmnopqrstuvwxyz0123456789")))) (aV (dCall (noX d_l_draw) [true, false] (lC (aN 0) (lC (aV (dC (.int 36))) lN)))))))))
    (sRet (dN 2))))))
def d_l_word : EE := dFn 4 [true] b_l_word
theorem e_l_word {x0 : Option Sl} {Q} : sat (d_l_word [x0]) Q = sat (b_l_word [x0, none, none, none]) (endS [true] Q) := sat_dFn rfl
def b_l_pattern : SE :=
    (sRet (dTup (lC (aV (dOp idxD (aV (dLst (lC (aV (dC (.str (Str.ofString "word")))) (lC (aV (dC (.str (Str.ofString "start")))) (lC (aV (dC (.str (Str.ofString "word")))) lN))))) (aV (dCall (noX d_l_draw) [true, false] (lC (aN 0) (lC (aV (dC (.int 3))) lN)))))) (lC (aV (dCall (noX d_l_word) [true] (lC (aN 0) lN))) lN))))
def d_l_pattern : EE := dFn 1 [true] b_l_pattern
theorem e_l_pattern {x0 : Option Sl} {Q} : sat (d_l_pattern [x0]) Q = sat (b_l_pattern [x0]) (endS [true] Q) := sat_dFn rfl
def b_l_document : SE :=
    (sSeq (sSet 2 (dLst lN))
    (sSeq (sFor (iR1 (lC (aV (dCall (noX d_l_draw) [true, false] (lC (aN 0) (lC (aV (dOp addD (aN 1) (aV (dC (.int 1))))) lN)))) lN)) (gN 3)
    (sApp 2 (dOp idxD (aV (dLst (lC (aV (dC (.str (Str.ofString "a")))) (lC (aV (dC (.str (Str.ofString "ab")))) (lC (aV (dC (.str (Str.ofString "abc")))) (lC (aV (dC (.str (Str.ofString "b")))) (lC (aV (dC (.str (Str.ofString "ba")))) (lC (aV (dC (.str (Str.ofString "mill")))) (lC (aV (dC (.str (Str.ofString "mills")))) (lC (aV (dC (.str (Str.ofString "weir")))) (lC (aV (dC (.str (Str.ofString "0")))) (lC (aV (dC (.str (Str.ofString "a0")))) (lC (aV (dC (.str (Str.ofString "z9")))) (lC (aV (dC (.str (Str.ofString "bab")))) (lC (aV (dC (.str (Str.ofString "c")))) (lC (aV (dC (.str (Str.ofString "b")))) lN)))))))))))))))) (aV (dCall (noX d_l_draw) [true, false] (lC (aN 0) (lC (aV (dC (.int 14))) lN)))))))
    (sRet (dCB tupD (lC (aN 2) lN)))))
def d_l_document : EE := dFn 4 [true, false] b_l_document
theorem e_l_document {x0 x1 : Option Sl} {Q} : sat (d_l_document [x0, x1]) Q = sat (b_l_document [x0, x1, none, none]) (endS [true, false] Q) := sat_dFn rfl
def b_l_fits : SE :=
    (sSeq (sIf (dB (dOp eqD (aV (dOp idxD (aN 1) (aV (dC (.int 0))))) (aV (dC (.str (Str.ofString "start"))))))
    (sRet (dOp eqD (aV (dSl (aN 0) oNo (oSo (dCB lenD (lC (aV (dOp idxD (aN 1) (aV (dC (.int 1))))) lN))))) (aV (dOp idxD (aN 1) (aV (dC (.int 1)))))))
    sNx)
    (sRet (dOp eqD (aN 0) (aV (dOp idxD (aN 1) (aV (dC (.int 1))))))))
def d_l_fits : EE := dFn 2 [false, false] b_l_fits
theorem e_l_fits {x0 x1 : Option Sl} {Q} : sat (d_l_fits [x0, x1]) Q = sat (b_l_fits [x0, x1]) (endS [false, false] Q) := sat_dFn rfl
def b_l_standings : SE :=
    (sSeq (sDat 2 (dLst (lC (aV (dTup lN)) lN)))
    (sSeq (sFor (iA (dOp idxD (aN 1) (aV (dC (.int 1))))) (gN 3)
    (sSeq (sSet 4 (dLst lN))
    (sSeq (sFor (iA (dN 2)) (gN 5)
    (sFor (iR1 (lC (aV (dCB lenD (lC (aN 0) lN))) lN)) (gN 6)
    (sIf (dOr (dB (dOp eqD (aV (dCB lenD (lC (aN 5) lN))) (aV (dC (.int 0))))) (dB (dOp gtD (aN 6) (aV (dOp idxD (aN 5) (aV (dUn negD (aV (dC (.int 1))))))))))
    (sIf (dB (dCall (noX d_l_fits) [false, false] (lC (aV (dOp idxD (aN 0) (aN 6))) (lC (aN 3) lN))))
    (sIf (dOr (dB (dOp eqD (aV (dCB lenD (lC (aN 5) lN))) (aV (dC (.int 0))))) (dB (dOp ltD (aV (dOp subD (aN 6) (aV (dOp idxD (aN 5) (aV (dC (.int 0))))))) (aV (dOp addD (aV (dCB lenD (lC (aV (dOp idxD (aN 1) (aV (dC (.int 1))))) lN))) (aV (dOp idxD (aN 1) (aV (dC (.int 2))))))))))
    (sApp 4 (dOp addD (aN 5) (aV (dTup (lC (aN 6) lN)))))
    sNx)
    sNx)
    sNx)))
    (sDat 2 (dN 4)))))
    (sRet (dCB sortedD (lC (aN 2) lN)))))
def d_l_standings : EE := dFn 7 [false, false] b_l_standings
theorem e_l_standings {x0 x1 : Option Sl} {Q} : sat (d_l_standings [x0, x1]) Q = sat (b_l_standings [x0, x1, none, none, none, none, none]) (endS [false, false] Q) := sat_dFn rfl
def b_l_told : SE :=
    (sNoX (sTry 2 [("TooMany", true)] (sRet (dCall d_standings [false, false] (lC (aN 0) (lC (aN 1) lN))))
    (uRet (xfE "TooMany" "limit"))))
def d_l_told : EE := dFn 3 [false, false] b_l_told
theorem e_l_told {x0 x1 : Option Sl} {Q} : sat (d_l_told [x0, x1]) Q = sat (b_l_told [x0, x1, none]) (endS [false, false] Q) := sat_dFn rfl
def t_law_8 : SE :=
    (sRet (dCall (noX (d_l_same 40)) [false, false] (lC (aV (dCall (noX d_l_told) [false, false] (lC (aN 2) (lC (aN 4) lN)))) (lC (aN 7) lN))))
def t_law_7 : SE :=
    (sSeq (sIf (dB (dOp gtD (aV (dCB lenD (lC (aN 7) lN))) (aV (dC (.int 500)))))
    (sDat 7 (dC (.int 500)))
    sNx)
    t_law_8)
def t_law_6 : SE :=
    (sSeq (sDat 7 (dCall (noX d_l_standings) [false, false] (lC (aN 2) (lC (aN 4) lN))))
    t_law_7)
def t_law_5 : SE :=
    (sSeq (sFor (iA (dN 2)) (gN 5)
    (sFor (iA (dN 3)) (gN 6)
    (sIf (dNot (dB (dCall (noX (d_l_same 40)) [false, false] (lC (aV (dCall (noX d_fits) [false, false] (lC (aN 5) (lC (aN 6) lN)))) (lC (aV (dCall (noX d_l_fits) [false, false] (lC (aN 5) (lC (aN 6) lN)))) lN)))))
    (sRet (dC (.bool false)))
    sNx)))
    t_law_6)
def t_law_4 : SE :=
    (sSeq (sDat 4 (dTup (lC (aV (dC (.str (Str.ofString "row")))) (lC (aN 3) (lC (aV (dCall (noX d_l_draw) [true, false] (lC (aN 1) (lC (aV (dC (.int 10))) lN)))) lN)))))
    t_law_5)
def t_law_3 : SE :=
    (sSeq (sIf (dB (dOp eqD (aV (dCall (noX d_l_draw) [true, false] (lC (aN 1) (lC (aV (dC (.int 5))) lN)))) (aV (dC (.int 0)))))
    (sSeq (sDat 3 (dOp mulD (aV (dTup (lC (aV (dTup (lC (aV (dC (.str (Str.ofString "start")))) (lC (aV (dC (.str (Str.ofString "a")))) lN)))) lN))) (aV (dOp addD (aV (dC (.int 1))) (aV (dCall (noX d_l_draw) [true, false] (lC (aN 1) (lC (aV (dC (.int 6))) lN))))))))
    (sDat 2 (dOp mulD (aV (dTup (lC (aV (dC (.str (Str.ofString "a")))) (lC (aV (dC (.str (Str.ofString "ab")))) lN)))) (aV (dC (.int 6))))))
    sNx)
    t_law_4)
def t_law_2 : SE :=
    (sSeq (sDat 3 (dCB tupD (lC (aV (dLc (iR1 (lC (aV (dOp addD (aV (dC (.int 1))) (aV (dCall (noX d_l_draw) [true, false] (lC (aN 1) (lC (aV (dC (.int 4))) lN)))))) lN)) (gN 8) bYes (dCall (noX d_l_pattern) [true] (lC (aN 1) lN)) [8])) lN)))
    t_law_3)
def t_law_1 : SE :=
    (sSeq (sDat 2 (dCall (noX d_l_document) [true, false] (lC (aN 1) (lC (aV (dC (.int 12))) lN))))
    t_law_2)
def b_law : SE :=
    (sSeq (sSet 1 (dLst (lC (aV (dCall (noX d_l_digits) [false, false, false] (lC (aN 0) (lC (aV (dC (.int 0))) (lC (aV (dC (.int 63))) lN))))) (lC (aV (dC (.int 0))) lN))))
    t_law_1)
def d_law : EE := dFn 9 [false] b_law
theorem e_law {x0 : Option Sl} {Q} : sat (d_law [x0]) Q = sat (b_law [x0, none, none, none, none, none, none, none, none]) (endS [false] Q) := sat_dFn rfl
/-! the strings -/
@[simp] theorem k_0 : Str.ofString "start" = stL [115, 116, 97, 114, 116] := by decide +kernel
@[simp] theorem k_1 : Str.ofString "a" = stL [97] := by decide +kernel
@[simp] theorem k_2 : Str.ofString "ab" = stL [97, 98] := by decide +kernel
@[simp] theorem k_3 : Str.ofString "abc" = stL [97, 98, 99] := by decide +kernel
@[simp] theorem k_4 : Str.ofString "b" = stL [98] := by decide +kernel
@[simp] theorem k_5 : Str.ofString "ba" = stL [98, 97] := by decide +kernel
@[simp] theorem k_6 : Str.ofString "mill" = stL [109, 105, 108, 108] := by decide +kernel
@[simp] theorem k_7 : Str.ofString "mills" = stL [109, 105, 108, 108, 115] := by decide +kernel
@[simp] theorem k_8 : Str.ofString "weir" = stL [119, 101, 105, 114] := by decide +kernel
@[simp] theorem k_9 : Str.ofString "0" = stL [48] := by decide +kernel
@[simp] theorem k_10 : Str.ofString "a0" = stL [97, 48] := by decide +kernel
@[simp] theorem k_11 : Str.ofString "z9" = stL [122, 57] := by decide +kernel
@[simp] theorem k_12 : Str.ofString "bab" = stL [98, 97, 98] := by decide +kernel
@[simp] theorem k_13 : Str.ofString "" = stL [] := by decide +kernel
def K_14 : List Nat := [97, 98, 99, 100, 101, 102, 103, 104, 105, 106, 107, 108, 109, 110, 111, 112, 113, 114, 115, 116, 117, 118, 119, 120, 121, 122, 48, 49, 50, 51, 52, 53, 54, 55, 56, 57]
@[simp] theorem kl_14 : K_14.length = 36 := rfl
@[simp] theorem k_14 : Str.ofString "abcdefghijklmnopqrstuvwxyz0123456789" = stL K_14 := by decide +kernel
@[simp] theorem k_15 : Str.ofString "word" = stL [119, 111, 114, 100] := by decide +kernel
@[simp] theorem k_16 : Str.ofString "c" = stL [99] := by decide +kernel
@[simp] theorem k_17 : Str.ofString "row" = stL [114, 111, 119] := by decide +kernel
/-! what the top has left -/
structure DefAt (K : PySem.W.Frag) (mg : Str → Option Value) (x : Str) (st : Stmt) (ps : List Str) where
  f : Addr
  fd : FuncData
  F : Fun K x x st f fd
  b : Binds K fd ps []
  g : mg x = some (.ref f)
/-- an own exception class with its __init__ -/
structure XAt (P : Program) (K : PySem.W.Frag) (mg : Str → Option Value) (x qual : Str) (st : Stmt) (ps : List Str) where
  C : Addr
  fI : Addr
  cc : Addr
  fd : FuncData
  t : XcT P K mg C fI cc
  g : mg x = some (.ref C)
  F : FnS P K qual st fI cc fd
  b : Binds K fd ps []
  r : XfC K C
structure XBt (K : PySem.W.Frag) (mg : Str → Option Value) (x : Str) where
  C : Addr
  g : mg x = some (.ref C)
structure Txt (P : Program) (K : PySem.W.Frag) (mg : Str → Option Value) where
  x_TooMany : XAt P K mg "TooMany" "TooMany.__init__" sI_TooMany ["self", "limit"]
  f_TooMany_limit : PySem.W.findIn K (.ref x_TooMany.C) "limit" = some none
  m_TooMany_TooMany : PySem.W.exmOne K (.ref x_TooMany.C) (.ref x_TooMany.C) = some true
  fits : DefAt K mg "fits" s_fits ["word", "pattern"]
  standings : DefAt K mg "standings" s_standings ["document", "row"]
  l_cell : DefAt K mg "_law_cell" s_l_cell ["_law_script", "_law_k"]
  l_digits : DefAt K mg "_law_digits" s_l_digits ["_law_script", "_law_first", "_law_last"]
  l_draw : DefAt K mg "_law_draw" s_l_draw ["_law_box", "_law_many"]
  l_same : DefAt K mg "_law_same" s_l_same ["_law_actual", "_law_due"]
  l_word : DefAt K mg "_law_word" s_l_word ["_law_box"]
  l_pattern : DefAt K mg "_law_pattern" s_l_pattern ["_law_box"]
  l_document : DefAt K mg "_law_document" s_l_document ["_law_box", "_law_most"]
  l_fits : DefAt K mg "_law_fits" s_l_fits ["_law_word_here", "_law_pattern_here"]
  l_standings : DefAt K mg "_law_standings" s_l_standings ["_law_document_here", "_law_row"]
  l_told : DefAt K mg "_law_told" s_l_told ["_law_document_here", "_law_row"]
  law : DefAt K mg "law" s_law ["_law_script"]
  z_bool : mg "bool" = none
  z_int : mg "int" = none
  z_isinstance : mg "isinstance" = none
  z_len : mg "len" = none
  z_list : mg "list" = none
  z_min : mg "min" = none
  z_range : mg "range" = none
  z_sorted : mg "sorted" = none
  z_str : mg "str" = none
  z_tuple : mg "tuple" = none
  t_MOST_STANDINGS : Tok
  c_MOST_STANDINGS : mg "MOST_STANDINGS" = some (.int 500 t_MOST_STANDINGS)
theorem okI_TooMany {P : Program} {w : World} {K : PySem.W.Frag} {mg : Str → Option Value} {base : Heap} (T : Txt P K mg) : FnOk P w K mg base CX0 1 T.x_TooMany.fI T.x_TooMany.fd ["self", "limit"] (spI1 K T.x_TooMany.C "limit") :=
  fn_init (N := ["self", "limit", "__class__"]) (k := 0) T.x_TooMany.F T.x_TooMany.t (NdefX.nscope_by (by decide +kernel)) rfl rfl rfl rfl rfl rfl spI1_len (fun c A outer s H vs Q E h => by
      obtain ⟨e, r, ev, he, ⟨v1, f1, e1⟩, ans⟩ := init1_ans h
      refine ⟨_, _, e, r, pe_joined (PJ.cons pe_str (PJ.cons (pe_fmt (pv 1)) PJ.nil)), (pss_one (ps_ost (pv 0) (pv 1) rfl)), ev, he, tx_text (fun t ht => by
        simp only [List.mem_cons, List.not_mem_nil, or_false] at ht
        rcases ht with rfl | rfl
        · exact tx_str (by decide)
        · exact tx_fmt e1 f1) (by show 2 ≤ 100; decide), ans⟩)
    (fun env => ⟨_, rfl⟩) (fun env => rfl)
section
variable {P : Program} {w : World} {K : PySem.W.Frag} {mg : Str → Option Value} {base : Heap}
theorem ok_fits (T : Txt P K mg) : FnOk P w K mg base CX0 1 T.fits.f T.fits.fd ["word", "pattern"] (spF K mg d_fits) :=
  T.fits.F.ok sc_fits (fun vs H Q E h => fn_len h) fun cdv A outer s H vs Q E hr h => ⟨_,
      (pss_cons (ps_if (pt_cmpR (op_eqU hr.units) (pe_ix ix_seq (pv 1) pe_int (fun _ _ => rfl)) pe_str (nomark _))
      (pss_one (ps_ret (pe_m1 PySem.F.slot_str_startswith PySem.F.type_str_startswith mt_startsU (pv 0) (pe_ix ix_seq (pv 1) pe_int (fun _ _ => rfl)))))
      pss_nil)
      (pss_one (ps_ret (pe_cmpR (op_eqU hr.units) (pv 0) (pe_ix ix_seq (pv 1) pe_int (fun _ _ => rfl)) (nomark _))))),
      fn_body rfl (by decide) (sn_seq (sn_if (sn_tT (sn_op sr_eq (sn_aV (sn_op sr_idx sn_aN (sn_aV sn_int))) (sn_aV sn_str)))
      (sn_ret (sn_m1 sm_starts sn_aN (sn_aV (sn_op sr_idx sn_aN (sn_aV sn_int)))))
      sn_nx)
      (sn_ret (sn_op sr_eq sn_aN (sn_aV (sn_op sr_idx sn_aN (sn_aV sn_int)))))) h⟩
theorem ok_standings (T : Txt P K mg) : FnOk P w K mg base (L2.CX P w) 3 T.standings.f T.standings.fd ["document", "row"] (spF K mg d_standings) :=
  T.standings.F.okX sc_standings (fun vs H Q E h => fn_len h) fun cdv A outer s H vs Q E hr h => ⟨_,
      (pss_cons (ps_set (i := 2) sc_standings.nd rfl (Or.inl rfl) (pe_ix ix_seq (pv 1) pe_int (fun _ _ => rfl)))
      (pss_cons (ps_set (i := 3) sc_standings.nd rfl (Or.inl rfl) (pe_op op_addU (pe_op op_sub (pe_callB call_lenU (by rfl) T.z_len (by decide +kernel) (pa_cons (pv 2) pa_nil)) pe_int) (pe_ix ix_seq (pv 1) pe_int (fun _ _ => rfl))))
      (pss_cons (ps_set (i := 4) sc_standings.nd rfl (Or.inl rfl) (pe_lst (pa_cons (pe_tup pa_nil) pa_nil)))
      (pss_cons (ps_for (passes_of rfl) rfl (pi_any (pv 2)) (pg_name (i := 5) sc_standings.nd rfl (Or.inl rfl))
      (pss_cons (ps_set (i := 6) sc_standings.nd rfl (Or.inl rfl) (pe_lst pa_nil))
      (pss_cons (ps_for (passes_of rfl) rfl (pi_any (pv 4)) (pg_name (i := 7) sc_standings.nd rfl (Or.inl rfl))
      (pss_cons (ps_set (i := 8) sc_standings.nd rfl (Or.inl rfl) pe_int)
      (pss_cons (ps_set (i := 9) sc_standings.nd rfl (Or.inl rfl) (pe_callB call_lenU (by rfl) T.z_len (by decide +kernel) (pa_cons (pv 0) pa_nil)))
      (pss_cons (ps_if (pt_cmpR op_gtU (pe_callB call_lenU (by rfl) T.z_len (by decide +kernel) (pa_cons (pv 7) pa_nil)) pe_int (nomark _))
      (pss_cons (ps_set (i := 8) sc_standings.nd rfl (Or.inl rfl) (pe_op op_addU (pe_ix ix_seq (pv 7) (pe_un un_neg pe_int) (fun _ _ => rfl)) pe_int))
      (pss_one (ps_set (i := 9) sc_standings.nd rfl (Or.inl rfl) (pe_callB (call_minU rfl) (by rfl) T.z_min (by decide +kernel) (pa_cons (pv 9) (pa_cons (pe_op op_addU (pe_op op_addU (pe_ix ix_seq (pv 7) pe_int (fun _ _ => rfl)) (pv 3)) pe_int) pa_nil))))))
      pss_nil)
      (pss_one (ps_for (passes_of rfl) rfl (pi_range2 rfl T.z_range (pa_cons (pv 8) (pa_cons (pv 9) pa_nil))) (pg_name (i := 10) sc_standings.nd rfl (Or.inl rfl))
      (pss_one (ps_if (pt_val (pe_call (ok_fits T) (hr.mono (by decide)) (by rfl) T.fits.g T.fits.F.kp T.fits.b .nil pass0 (pa_cons (pe_ix ix_seq (pv 0) (pv 10) (fun _ _ => rfl)) (pa_cons (pv 5) pa_nil))))
      (pss_one (ps_expr (pe_bm PySem.F.plainAttrs_list PySem.F.slot_list_append PySem.F.type_list_append mt_append (pv 6) (pa_cons (pe_op op_addU (pv 7) (pe_tup (pa_cons (pv 10) pa_nil))) pa_nil))))
      pss_nil))))))))
      (pss_one (ps_set (i := 4) sc_standings.nd rfl (Or.inl rfl) (pv 6))))))
      (pss_cons (ps_if (pt_cmpR op_gtU (pe_callB call_lenU (by rfl) T.z_len (by decide +kernel) (pa_cons (pv 4) pa_nil)) (pe_glob (v := .int 500) rfl T.c_MOST_STANDINGS ⟨_, rfl⟩) (nomark _))
      (pss_one (ps_raise rfl (takes_of rfl rfl rfl rfl) (pmk_oex T.x_TooMany.t.oc T.x_TooMany.t.ii T.x_TooMany.t.ti (okI_TooMany T) (hr.mono (by omega)) T.x_TooMany.b .nil pass0 (by rfl) T.x_TooMany.g (pa_cons (pe_glob (v := .int 500) rfl T.c_MOST_STANDINGS ⟨_, rfl⟩) pa_nil))))
      pss_nil)
      (pss_one (ps_ret (pv 4)))))))),
      fn_body rfl (by decide) (sn_seq (sn_dat (sn_op sr_idx sn_aN (sn_aV sn_int)))
      (sn_seq (sn_dat (sn_op sr_add (sn_aV (sn_op sr_sub (sn_aV (sn_cb sl_len (sn_lC sn_aN sn_lN))) (sn_aV sn_int))) (sn_aV (sn_op sr_idx sn_aN (sn_aV sn_int)))))
      (sn_seq (sn_dat (sn_lst (sn_lC (sn_aV (sn_tup sn_lN)) sn_lN)))
      (sn_seq (sn_for (sn_iA sn_dN) sn_gN
      (sn_seq (sn_set (sn_lst sn_lN))
      (sn_seq (sn_for (sn_iA sn_dN) sn_gN
      (sn_seq (sn_dat sn_int)
      (sn_seq (sn_dat (sn_cb sl_len (sn_lC sn_aN sn_lN)))
      (sn_seq (sn_if (sn_tT (sn_op sr_gt (sn_aV (sn_cb sl_len (sn_lC sn_aN sn_lN))) (sn_aV sn_int)))
      (sn_seq (sn_dat (sn_op sr_add (sn_aV (sn_op sr_idx sn_aN (sn_aV (sn_un sr_neg (sn_aV sn_int))))) (sn_aV sn_int)))
      (sn_dat (sn_cb sl_min (sn_lC sn_aN (sn_lC (sn_aV (sn_op sr_add (sn_aV (sn_op sr_add (sn_aV (sn_op sr_idx sn_aN (sn_aV sn_int))) sn_aN)) (sn_aV sn_int))) sn_lN)))))
      sn_nx)
      (sn_for (sn_iR2 (sn_lC sn_aN (sn_lC sn_aN sn_lN))) sn_gN
      (sn_if (sn_tB (sn_call0 (sn_lC (sn_aV (sn_op sr_idx sn_aN sn_aN)) (sn_lC sn_aN sn_lN))))
      (sn_app (sn_op sr_add sn_aN (sn_aV (sn_tup (sn_lC sn_aN sn_lN)))))
      sn_nx))))))
      (sn_dat sn_dN))))
      (sn_seq (sn_if (sn_tT (sn_op sr_gt (sn_aV (sn_cb sl_len (sn_lC sn_aN sn_lN))) (sn_aV sn_int)))
      (sn_raise1 T.x_TooMany.g T.x_TooMany.t.oc T.f_TooMany_limit (sn_lC (sn_aV sn_int) sn_lN))
      sn_nx)
      (sn_ret sn_dN)))))) h⟩
theorem ok_l_cell (T : Txt P K mg) : FnOk P w K mg base CX0 1 T.l_cell.f T.l_cell.fd ["_law_script", "_law_k"] (spF K mg d_l_cell) :=
  T.l_cell.F.ok sc_l_cell (fun vs H Q E h => fn_len h) fun cdv A outer s H vs Q E hr h => ⟨_,
      (pss_cons (ps_if (pt_cmpR op_ltU (pv 1) (pe_callB call_lenU (by rfl) T.z_len (by decide +kernel) (pa_cons (pv 0) pa_nil)) (nomark _))
      (pss_one (ps_ret (pe_ix ix_seq (pv 0) (pv 1) (fun _ _ => rfl))))
      pss_nil)
      (pss_one (ps_ret pe_int))),
      fn_body rfl (by decide) (sn_seq (sn_if (sn_tT (sn_op sr_lt sn_aN (sn_aV (sn_cb sl_len (sn_lC sn_aN sn_lN)))))
      (sn_ret (sn_op sr_idx sn_aN sn_aN))
      sn_nx)
      (sn_ret sn_int)) h⟩
theorem ok_l_digits (T : Txt P K mg) : FnOk P w K mg base CX0 2 T.l_digits.f T.l_digits.fd ["_law_script", "_law_first", "_law_last"] (spF K mg d_l_digits) :=
  T.l_digits.F.ok sc_l_digits (fun vs H Q E h => fn_len h) fun cdv A outer s H vs Q E hr h => ⟨_,
      (pss_cons (ps_set (i := 3) sc_l_digits.nd rfl (Or.inl rfl) (pe_lst pa_nil))
      (pss_cons (ps_for PassesOwn.never rfl (pi_range2 rfl T.z_range (pa_cons (pv 1) (pa_cons (pv 2) pa_nil))) (pg_name (i := 4) sc_l_digits.nd rfl (Or.inl rfl))
      (pss_cons (ps_set (i := 5) sc_l_digits.nd rfl (Or.inl rfl) (pe_call (ok_l_cell T) (hr.mono (by decide)) (by rfl) T.l_cell.g T.l_cell.F.kp T.l_cell.b .nil pass0 (pa_cons (pv 0) (pa_cons (pv 4) pa_nil))))
      (pss_cons (ps_if (pt_cmpR op_ltU (pv 5) pe_int (nomark _))
      (pss_one (ps_set (i := 5) sc_l_digits.nd rfl (Or.inl rfl) (pe_op op_sub pe_int (pe_op op_mulU pe_int (pv 5)))))
      pss_nil)
      (pss_one (ps_if (pt_cmpR op_geU (pv 5) (pe_op op_pow pe_int pe_int) (nomark _))
      (pss_one (ps_for PassesOwn.never rfl (pi_range1 rfl T.z_range (pa_cons pe_int pa_nil)) (pg_name (i := 6) sc_l_digits.nd rfl (Or.inl rfl))
      (pss_one (ps_if (pt_cmpR op_gtU (pv 5) pe_int (nomark _))
      (pss_cons (ps_expr (pe_bm PySem.F.plainAttrs_list PySem.F.slot_list_append PySem.F.type_list_append mt_append (pv 3) (pa_cons (pe_op op_mod (pe_callTy call_intU (by rfl) T.z_int (by decide +kernel) (pa_cons (pv 5) pa_nil)) pe_int) pa_nil)))
      (pss_one (ps_set (i := 5) sc_l_digits.nd rfl (Or.inl rfl) (pe_op op_fdiv (pv 5) pe_int))))
      pss_nil))))
      (pss_cons (ps_set (i := 7) sc_l_digits.nd rfl (Or.inl rfl) (pe_op op_mod (pe_callTy call_intU (by rfl) T.z_int (by decide +kernel) (pa_cons (pe_op op_addU (pe_op op_addU (pe_op op_mulU (pv 5) pe_int) (pe_op op_mulU (pv 4) pe_int)) pe_int) pa_nil)) pe_int))
      (pss_one (ps_for PassesOwn.never rfl (pi_range1 rfl T.z_range (pa_cons pe_int pa_nil)) (pg_name (i := 6) sc_l_digits.nd rfl (Or.inl rfl))
      (pss_cons (ps_set (i := 7) sc_l_digits.nd rfl (Or.inl rfl) (pe_op op_mod (pe_callTy call_intU (by rfl) T.z_int (by decide +kernel) (pa_cons (pe_op op_addU (pe_op op_addU (pe_op op_mulU (pv 7) pe_int) (pe_op op_mulU pe_int (pv 6))) pe_int) pa_nil)) pe_int))
      (pss_one (ps_expr (pe_bm PySem.F.plainAttrs_list PySem.F.slot_list_append PySem.F.type_list_append mt_append (pv 3) (pa_cons (pe_op op_mod (pe_callTy call_intU (by rfl) T.z_int (by decide +kernel) (pa_cons (pe_op op_fdiv (pv 7) pe_int) pa_nil)) pe_int) pa_nil)))))))))))))
      (pss_one (ps_ret (pv 3))))),
      fn_body rfl (by decide) (sn_seq (sn_set (sn_lst sn_lN))
      (sn_seq (sn_for (sn_iR2 (sn_lC sn_aN (sn_lC sn_aN sn_lN))) sn_gN
      (sn_seq (sn_dat (sn_call0 (sn_lC sn_aN (sn_lC sn_aN sn_lN))))
      (sn_seq (sn_if (sn_tT (sn_op sr_lt sn_aN (sn_aV sn_int)))
      (sn_dat (sn_op sr_sub (sn_aV sn_int) (sn_aV (sn_op sr_mul (sn_aV sn_int) sn_aN))))
      sn_nx)
      (sn_if (sn_tT (sn_op sr_ge sn_aN (sn_aV (sn_op sr_pow (sn_aV sn_int) (sn_aV sn_int)))))
      (sn_for (sn_iR1 (sn_lC (sn_aV sn_int) sn_lN)) sn_gN
      (sn_if (sn_tT (sn_op sr_gt sn_aN (sn_aV sn_int)))
      (sn_seq (sn_app (sn_op sr_mod (sn_aV (sn_cb sl_int (sn_lC sn_aN sn_lN))) (sn_aV sn_int)))
      (sn_dat (sn_op sr_fdiv sn_aN (sn_aV sn_int))))
      sn_nx))
      (sn_seq (sn_dat (sn_op sr_mod (sn_aV (sn_cb sl_int (sn_lC (sn_aV (sn_op sr_add (sn_aV (sn_op sr_add (sn_aV (sn_op sr_mul sn_aN (sn_aV sn_int))) (sn_aV (sn_op sr_mul sn_aN (sn_aV sn_int))))) (sn_aV sn_int))) sn_lN))) (sn_aV sn_int)))
      (sn_for (sn_iR1 (sn_lC (sn_aV sn_int) sn_lN)) sn_gN
      (sn_seq (sn_dat (sn_op sr_mod (sn_aV (sn_cb sl_int (sn_lC (sn_aV (sn_op sr_add (sn_aV (sn_op sr_add (sn_aV (sn_op sr_mul sn_aN (sn_aV sn_int))) (sn_aV (sn_op sr_mul (sn_aV sn_int) sn_aN)))) (sn_aV sn_int))) sn_lN))) (sn_aV sn_int)))
      (sn_app (sn_op sr_mod (sn_aV (sn_cb sl_int (sn_lC (sn_aV (sn_op sr_fdiv sn_aN (sn_aV sn_int))) sn_lN))) (sn_aV sn_int))))))))))
      sn_retN)) h⟩
theorem ok_l_draw (T : Txt P K mg) : FnOk P w K mg base CX0 1 T.l_draw.f T.l_draw.fd ["_law_box", "_law_many"] (spF K mg d_l_draw) :=
  T.l_draw.F.ok sc_l_draw (fun vs H Q E h => fn_len h) fun cdv A outer s H vs Q E hr h => ⟨_,
      (pss_cons (ps_set (i := 2) sc_l_draw.nd rfl (Or.inl rfl) (pe_ix ix_seq (pv 0) pe_int (fun _ _ => rfl)))
      (pss_cons (ps_asg (pe_op op_addU (pv 2) pe_int) (pg_sub (pv 0) pe_int set_list))
      (pss_cons (ps_if (pt_cmpR op_ltU (pv 2) (pe_callB call_lenU (by rfl) T.z_len (by decide +kernel) (pa_cons (pe_ix ix_seq (pv 0) pe_int (fun _ _ => rfl)) pa_nil)) (nomark _))
      (pss_one (ps_ret (pe_op op_mod (pe_callTy call_intU (by rfl) T.z_int (by decide +kernel) (pa_cons (pe_ix ix_seq (pe_ix ix_seq (pv 0) pe_int (fun _ _ => rfl)) (pv 2) (fun _ _ => rfl)) pa_nil)) (pv 1))))
      pss_nil)
      (pss_one (ps_ret pe_int))))),
      fn_body rfl (by decide) (sn_seq (sn_dat (sn_op sr_idx sn_aN (sn_aV sn_int)))
      (sn_seq (sn_setI (sn_op sr_add sn_aN (sn_aV sn_int)) (sn_aV sn_int))
      (sn_seq (sn_if (sn_tT (sn_op sr_lt sn_aN (sn_aV (sn_cb sl_len (sn_lC (sn_aV (sn_op sr_idx sn_aN (sn_aV sn_int))) sn_lN)))))
      (sn_ret (sn_op sr_mod (sn_aV (sn_cb sl_int (sn_lC (sn_aV (sn_op sr_idx (sn_aV (sn_op sr_idx sn_aN (sn_aV sn_int))) sn_aN)) sn_lN))) sn_aN))
      sn_nx)
      (sn_ret sn_int)))) h⟩
theorem ok_l_same (T : Txt P K mg) : ∀ n, FnOk P w K mg base CX0 (n + 1) T.l_same.f T.l_same.fd ["_law_actual", "_law_due"] (spF K mg (d_l_same n))
  | 0 => fn_bad
  | n + 1 => by
    have IH := ok_l_same T n
    rw [show n + 1 + 1 = (n + 1) + 1 by omega]
    exact T.l_same.F.ok sc_l_same (fun vs H Q E h => fn_len h) fun cdv A outer s H vs Q E hr h => ⟨_,
      (pss_cons (ps_if (PW.pt (pw_or (pt_val (pe_callB call_isi (by rfl) T.z_isinstance (by decide +kernel) (pa_cons (pv 1) (pa_cons (pe_bltn (v := .ty "list") (by rfl) T.z_list (by decide +kernel) rfl) pa_nil)))) (pw_or1 (pt_val (pe_callB call_isi (by rfl) T.z_isinstance (by decide +kernel) (pa_cons (pv 1) (pa_cons (pe_bltn (v := .ty "tuple") (by rfl) T.z_tuple (by decide +kernel) rfl) pa_nil)))))))
      (pss_cons (ps_if (PW.pt (pw_or (pt_cmpR (op_neU hr.units) (pe_callB call_isi (by rfl) T.z_isinstance (by decide +kernel) (pa_cons (pv 1) (pa_cons (pe_bltn (v := .ty "list") (by rfl) T.z_list (by decide +kernel) rfl) pa_nil))) (pe_callB call_isi (by rfl) T.z_isinstance (by decide +kernel) (pa_cons (pv 0) (pa_cons (pe_bltn (v := .ty "list") (by rfl) T.z_list (by decide +kernel) rfl) pa_nil))) (nomark _)) (pw_or1 (pt_cmpR (op_neU hr.units) (pe_callB call_isi (by rfl) T.z_isinstance (by decide +kernel) (pa_cons (pv 1) (pa_cons (pe_bltn (v := .ty "tuple") (by rfl) T.z_tuple (by decide +kernel) rfl) pa_nil))) (pe_callB call_isi (by rfl) T.z_isinstance (by decide +kernel) (pa_cons (pv 0) (pa_cons (pe_bltn (v := .ty "tuple") (by rfl) T.z_tuple (by decide +kernel) rfl) pa_nil))) (nomark _)))))
      (pss_one (ps_ret pe_bl))
      pss_nil)
      (pss_cons (ps_if (pt_cmpR (op_neU hr.units) (pe_callB call_lenU (by rfl) T.z_len (by decide +kernel) (pa_cons (pv 0) pa_nil)) (pe_callB call_lenU (by rfl) T.z_len (by decide +kernel) (pa_cons (pv 1) pa_nil)) (nomark _))
      (pss_one (ps_ret pe_bl))
      pss_nil)
      (pss_cons (ps_for PassesOwn.never rfl (pi_range1 rfl T.z_range (pa_cons (pe_callB call_lenU (by rfl) T.z_len (by decide +kernel) (pa_cons (pv 1) pa_nil)) pa_nil)) (pg_name (i := 2) sc_l_same.nd rfl (Or.inl rfl))
      (pss_one (ps_if (pt_not (pt_val (pe_call IH (hr.mono (by omega)) (by rfl) T.l_same.g T.l_same.F.kp T.l_same.b .nil pass0 (pa_cons (pe_ix ix_seq (pv 0) (pv 2) (fun _ _ => rfl)) (pa_cons (pe_ix ix_seq (pv 1) (pv 2) (fun _ _ => rfl)) pa_nil)))))
      (pss_one (ps_ret pe_bl))
      pss_nil)))
      (pss_one (ps_ret pe_bl)))))
      pss_nil)
      (pss_cons (ps_if (pt_cmpR op_isNU (pv 1) pe_non (nomark _))
      (pss_one (ps_ret (pe_cmpR op_isNU (pv 0) pe_non (nomark _))))
      pss_nil)
      (pss_cons (ps_if (pt_val (pe_callB call_isi (by rfl) T.z_isinstance (by decide +kernel) (pa_cons (pv 1) (pa_cons (pe_bltn (v := .ty "bool") (by rfl) T.z_bool (by decide +kernel) rfl) pa_nil))))
      (pss_one (ps_ret (pe_and (pe_callB call_isi (by rfl) T.z_isinstance (by decide +kernel) (pa_cons (pv 0) (pa_cons (pe_bltn (v := .ty "bool") (by rfl) T.z_bool (by decide +kernel) rfl) pa_nil))) (pe_one (pe_cmpR (op_eqU hr.units) (pv 0) (pv 1) (nomark _))))))
      pss_nil)
      (pss_cons (ps_if (pt_val (pe_callB call_isi (by rfl) T.z_isinstance (by decide +kernel) (pa_cons (pv 1) (pa_cons (pe_bltn (v := .ty "str") (by rfl) T.z_str (by decide +kernel) rfl) pa_nil))))
      (pss_one (ps_ret (pe_and (pe_callB call_isi (by rfl) T.z_isinstance (by decide +kernel) (pa_cons (pv 0) (pa_cons (pe_bltn (v := .ty "str") (by rfl) T.z_str (by decide +kernel) rfl) pa_nil))) (pe_one (pe_cmpR (op_eqU hr.units) (pv 0) (pv 1) (nomark _))))))
      pss_nil)
      (pss_one (ps_ret (pe_and (pe_callB call_isi (by rfl) T.z_isinstance (by decide +kernel) (pa_cons (pv 0) (pa_cons (pe_bltn (v := .ty "int") (by rfl) T.z_int (by decide +kernel) rfl) pa_nil))) (pe_and (pe_not (pe_callB call_isi (by rfl) T.z_isinstance (by decide +kernel) (pa_cons (pv 0) (pa_cons (pe_bltn (v := .ty "bool") (by rfl) T.z_bool (by decide +kernel) rfl) pa_nil)))) (pe_one (pe_cmpR (op_eqU hr.units) (pv 0) (pv 1) (nomark _))))))))))),
      fn_body rfl (by decide) (sn_seq (sn_if (sn_or (sn_tB (sn_isi sn_aN)) (sn_tB (sn_isi sn_aN)))
      (sn_seq (sn_if (sn_or (sn_tT (sn_op sr_ne (sn_aV (sn_isi sn_aN)) (sn_aV (sn_isi sn_aN)))) (sn_tT (sn_op sr_ne (sn_aV (sn_isi sn_aN)) (sn_aV (sn_isi sn_aN)))))
      (sn_ret sn_bl)
      sn_nx)
      (sn_seq (sn_if (sn_tT (sn_op sr_ne (sn_aV (sn_cb sl_len (sn_lC sn_aN sn_lN))) (sn_aV (sn_cb sl_len (sn_lC sn_aN sn_lN)))))
      (sn_ret sn_bl)
      sn_nx)
      (sn_seq (sn_for (sn_iR1 (sn_lC (sn_aV (sn_cb sl_len (sn_lC sn_aN sn_lN))) sn_lN)) sn_gN
      (sn_if (sn_not (sn_tB (sn_call0 (sn_lC (sn_aV (sn_op sr_idx sn_aN sn_aN)) (sn_lC (sn_aV (sn_op sr_idx sn_aN sn_aN)) sn_lN)))))
      (sn_ret sn_bl)
      sn_nx))
      (sn_ret sn_bl))))
      sn_nx)
      (sn_seq (sn_if (sn_tT (sn_op sr_isN sn_aN (sn_aV sn_non)))
      (sn_ret (sn_op sr_isN sn_aN (sn_aV sn_non)))
      sn_nx)
      (sn_seq (sn_if (sn_tB (sn_isi sn_aN))
      (sn_ret (sn_andV (sn_isi sn_aN) (sn_op sr_eq sn_aN sn_aN)))
      sn_nx)
      (sn_seq (sn_if (sn_tB (sn_isi sn_aN))
      (sn_ret (sn_andV (sn_isi sn_aN) (sn_op sr_eq sn_aN sn_aN)))
      sn_nx)
      (sn_ret (sn_andV (sn_isi sn_aN) (sn_andV (sn_notV (sn_isi sn_aN)) (sn_op sr_eq sn_aN sn_aN)))))))) h⟩
theorem ok_l_word (T : Txt P K mg) : FnOk P w K mg base CX0 2 T.l_word.f T.l_word.fd ["_law_box"] (spF K mg d_l_word) :=
  T.l_word.F.ok sc_l_word (fun vs H Q E h => fn_len h) fun cdv A outer s H vs Q E hr h => ⟨_,
      (pss_cons (ps_set (i := 1) sc_l_word.nd rfl (Or.inl rfl) (pe_call (ok_l_draw T) (hr.mono (by decide)) (by rfl) T.l_draw.g T.l_draw.F.kp T.l_draw.b .nil pass0 (pa_cons (pv 0) (pa_cons pe_int pa_nil))))
      (pss_cons (ps_if (pt_cmpR op_gtU (pv 1) pe_int (nomark _))
      (pss_one (ps_ret (pe_ix ix_seq (pe_lst (pa_cons pe_str (pa_cons pe_str (pa_cons pe_str (pa_cons pe_str (pa_cons pe_str (pa_cons pe_str (pa_cons pe_str (pa_cons pe_str (pa_cons pe_str (pa_cons pe_str (pa_cons pe_str (pa_cons pe_str pa_nil))))))))))))) (pe_call (ok_l_draw T) (hr.mono (by decide)) (by rfl) T.l_draw.g T.l_draw.F.kp T.l_draw.b .nil pass0 (pa_cons (pv 0) (pa_cons pe_int pa_nil))) (fun _ _ => rfl))))
      pss_nil)
      (pss_cons (ps_set (i := 2) sc_l_word.nd rfl (Or.inl rfl) pe_str)
      (pss_cons (ps_for PassesOwn.never rfl (pi_range1 rfl T.z_range (pa_cons (pe_op op_addU pe_int (pe_call (ok_l_draw T) (hr.mono (by decide)) (by rfl) T.l_draw.g T.l_draw.F.kp T.l_draw.b .nil pass0 (pa_cons (pv 0) (pa_cons (pe_ix ix_seq (pe_lst (pa_cons pe_int (pa_cons pe_int pa_nil))) (pe_call (ok_l_draw T) (hr.mono (by decide)) (by rfl) T.l_draw.g T.l_draw.F.kp T.l_draw.b .nil pass0 (pa_cons (pv 0) (pa_cons pe_int pa_nil))) (fun _ _ => rfl)) pa_nil)))) pa_nil)) (pg_name (i := 3) sc_l_word.nd rfl (Or.inl rfl))
      (pss_one (ps_set (i := 2) sc_l_word.nd rfl (Or.inl rfl) (pe_op op_addU (pv 2) (pe_ix ix_seq pe_str (pe_call (ok_l_draw T) (hr.mono (by decide)) (by rfl) T.l_draw.g T.l_draw.F.kp T.l_draw.b .nil pass0 (pa_cons (pv 0) (pa_cons pe_int pa_nil))) (fun _ _ => rfl))))))
      (pss_one (ps_ret (pv 2))))))),
      fn_body rfl (by decide) (sn_seq (sn_dat (sn_call0 (sn_lC sn_aN (sn_lC (sn_aV sn_int) sn_lN))))
      (sn_seq (sn_if (sn_tT (sn_op sr_gt sn_aN (sn_aV sn_int)))
      (sn_ret (sn_op sr_idx (sn_aV (sn_lst (sn_lC (sn_aV sn_str) (sn_lC (sn_aV sn_str) (sn_lC (sn_aV sn_str) (sn_lC (sn_aV sn_str) (sn_lC (sn_aV sn_str) (sn_lC (sn_aV sn_str) (sn_lC (sn_aV sn_str) (sn_lC (sn_aV sn_str) (sn_lC (sn_aV sn_str) (sn_lC (sn_aV sn_str) (sn_lC (sn_aV sn_str) (sn_lC (sn_aV sn_str) sn_lN)))))))))))))) (sn_aV (sn_call0 (sn_lC sn_aN (sn_lC (sn_aV sn_int) sn_lN))))))
      sn_nx)
      (sn_seq (sn_dat sn_str)
      (sn_seq (sn_for (sn_iR1 (sn_lC (sn_aV (sn_op sr_add (sn_aV sn_int) (sn_aV (sn_call0 (sn_lC sn_aN (sn_lC (sn_aV (sn_op sr_idx (sn_aV (sn_lst (sn_lC (sn_aV sn_int) (sn_lC (sn_aV sn_int) sn_lN)))) (sn_aV (sn_call0 (sn_lC sn_aN (sn_lC (sn_aV sn_int) sn_lN)))))) sn_lN)))))) sn_lN)) sn_gN
      (sn_dat (sn_op sr_add sn_aN (sn_aV (sn_op sr_idx (sn_aV sn_str) (sn_aV (sn_call0 (sn_lC sn_aN (sn_lC (sn_aV sn_int) sn_lN)))))))))
      (sn_ret sn_dN))))) h⟩
theorem ok_l_pattern (T : Txt P K mg) : FnOk P w K mg base CX0 3 T.l_pattern.f T.l_pattern.fd ["_law_box"] (spF K mg d_l_pattern) :=
  T.l_pattern.F.ok sc_l_pattern (fun vs H Q E h => fn_len h) fun cdv A outer s H vs Q E hr h => ⟨_,
      (pss_one (ps_ret (pe_tup (pa_cons (pe_ix ix_seq (pe_lst (pa_cons pe_str (pa_cons pe_str (pa_cons pe_str pa_nil)))) (pe_call (ok_l_draw T) (hr.mono (by decide)) (by rfl) T.l_draw.g T.l_draw.F.kp T.l_draw.b .nil pass0 (pa_cons (pv 0) (pa_cons pe_int pa_nil))) (fun _ _ => rfl)) (pa_cons (pe_call (ok_l_word T) (hr.mono (by decide)) (by rfl) T.l_word.g T.l_word.F.kp T.l_word.b .nil pass0 (pa_cons (pv 0) pa_nil)) pa_nil))))),
      fn_body rfl (by decide) (sn_ret (sn_tup (sn_lC (sn_aV (sn_op sr_idx (sn_aV (sn_lst (sn_lC (sn_aV sn_str) (sn_lC (sn_aV sn_str) (sn_lC (sn_aV sn_str) sn_lN))))) (sn_aV (sn_call0 (sn_lC sn_aN (sn_lC (sn_aV sn_int) sn_lN)))))) (sn_lC (sn_aV (sn_call0 (sn_lC sn_aN sn_lN))) sn_lN)))) h⟩
theorem ok_l_document (T : Txt P K mg) : FnOk P w K mg base CX0 2 T.l_document.f T.l_document.fd ["_law_box", "_law_most"] (spF K mg d_l_document) :=
  T.l_document.F.ok sc_l_document (fun vs H Q E h => fn_len h) fun cdv A outer s H vs Q E hr h => ⟨_,
      (pss_cons (ps_set (i := 2) sc_l_document.nd rfl (Or.inl rfl) (pe_lst pa_nil))
      (pss_cons (ps_for PassesOwn.never rfl (pi_range1 rfl T.z_range (pa_cons (pe_call (ok_l_draw T) (hr.mono (by decide)) (by rfl) T.l_draw.g T.l_draw.F.kp T.l_draw.b .nil pass0 (pa_cons (pv 0) (pa_cons (pe_op op_addU (pv 1) pe_int) pa_nil))) pa_nil)) (pg_name (i := 3) sc_l_document.nd rfl (Or.inl rfl))
      (pss_one (ps_expr (pe_bm PySem.F.plainAttrs_list PySem.F.slot_list_append PySem.F.type_list_append mt_append (pv 2) (pa_cons (pe_ix ix_seq (pe_lst (pa_cons pe_str (pa_cons pe_str (pa_cons pe_str (pa_cons pe_str (pa_cons pe_str (pa_cons pe_str (pa_cons pe_str (pa_cons pe_str (pa_cons pe_str (pa_cons pe_str (pa_cons pe_str (pa_cons pe_str (pa_cons pe_str (pa_cons pe_str pa_nil))))))))))))))) (pe_call (ok_l_draw T) (hr.mono (by decide)) (by rfl) T.l_draw.g T.l_draw.F.kp T.l_draw.b .nil pass0 (pa_cons (pv 0) (pa_cons pe_int pa_nil))) (fun _ _ => rfl)) pa_nil)))))
      (pss_one (ps_ret (pe_callTy call_tupU (by rfl) T.z_tuple (by decide +kernel) (pa_cons (pv 2) pa_nil)))))),
      fn_body rfl (by decide) (sn_seq (sn_set (sn_lst sn_lN))
      (sn_seq (sn_for (sn_iR1 (sn_lC (sn_aV (sn_call0 (sn_lC sn_aN (sn_lC (sn_aV (sn_op sr_add sn_aN (sn_aV sn_int))) sn_lN)))) sn_lN)) sn_gN
      (sn_app (sn_op sr_idx (sn_aV (sn_lst (sn_lC (sn_aV sn_str) (sn_lC (sn_aV sn_str) (sn_lC (sn_aV sn_str) (sn_lC (sn_aV sn_str) (sn_lC (sn_aV sn_str) (sn_lC (sn_aV sn_str) (sn_lC (sn_aV sn_str) (sn_lC (sn_aV sn_str) (sn_lC (sn_aV sn_str) (sn_lC (sn_aV sn_str) (sn_lC (sn_aV sn_str) (sn_lC (sn_aV sn_str) (sn_lC (sn_aV sn_str) (sn_lC (sn_aV sn_str) sn_lN)))))))))))))))) (sn_aV (sn_call0 (sn_lC sn_aN (sn_lC (sn_aV sn_int) sn_lN)))))))
      (sn_ret (sn_cb sl_tupC (sn_lC sn_aN sn_lN))))) h⟩
theorem ok_l_fits (T : Txt P K mg) : FnOk P w K mg base CX0 1 T.l_fits.f T.l_fits.fd ["_law_word_here", "_law_pattern_here"] (spF K mg d_l_fits) :=
  T.l_fits.F.ok sc_l_fits (fun vs H Q E h => fn_len h) fun cdv A outer s H vs Q E hr h => ⟨_,
      (pss_cons (ps_if (pt_cmpR (op_eqU hr.units) (pe_ix ix_seq (pv 1) pe_int (fun _ _ => rfl)) pe_str (nomark _))
      (pss_one (ps_ret (pe_cmpR (op_eqU hr.units) (pe_slice sl_U (pv 0) po_none (po_some (pe_callB call_lenU (by rfl) T.z_len (by decide +kernel) (pa_cons (pe_ix ix_seq (pv 1) pe_int (fun _ _ => rfl)) pa_nil)))) (pe_ix ix_seq (pv 1) pe_int (fun _ _ => rfl)) (nomark _))))
      pss_nil)
      (pss_one (ps_ret (pe_cmpR (op_eqU hr.units) (pv 0) (pe_ix ix_seq (pv 1) pe_int (fun _ _ => rfl)) (nomark _))))),
      fn_body rfl (by decide) (sn_seq (sn_if (sn_tT (sn_op sr_eq (sn_aV (sn_op sr_idx sn_aN (sn_aV sn_int))) (sn_aV sn_str)))
      (sn_ret (sn_op sr_eq (sn_aV (sn_sl sn_aN sn_oNo (sn_oSo (sn_cb sl_len (sn_lC (sn_aV (sn_op sr_idx sn_aN (sn_aV sn_int))) sn_lN))))) (sn_aV (sn_op sr_idx sn_aN (sn_aV sn_int)))))
      sn_nx)
      (sn_ret (sn_op sr_eq sn_aN (sn_aV (sn_op sr_idx sn_aN (sn_aV sn_int)))))) h⟩
theorem ok_l_standings (T : Txt P K mg) : FnOk P w K mg base CX0 2 T.l_standings.f T.l_standings.fd ["_law_document_here", "_law_row"] (spF K mg d_l_standings) :=
  T.l_standings.F.ok sc_l_standings (fun vs H Q E h => fn_len h) fun cdv A outer s H vs Q E hr h => ⟨_,
      (pss_cons (ps_set (i := 2) sc_l_standings.nd rfl (Or.inl rfl) (pe_lst (pa_cons (pe_tup pa_nil) pa_nil)))
      (pss_cons (ps_for PassesOwn.never rfl (pi_any (pe_ix ix_seq (pv 1) pe_int (fun _ _ => rfl))) (pg_name (i := 3) sc_l_standings.nd rfl (Or.inl rfl))
      (pss_cons (ps_set (i := 4) sc_l_standings.nd rfl (Or.inl rfl) (pe_lst pa_nil))
      (pss_cons (ps_for PassesOwn.never rfl (pi_any (pv 2)) (pg_name (i := 5) sc_l_standings.nd rfl (Or.inl rfl))
      (pss_one (ps_for PassesOwn.never rfl (pi_range1 rfl T.z_range (pa_cons (pe_callB call_lenU (by rfl) T.z_len (by decide +kernel) (pa_cons (pv 0) pa_nil)) pa_nil)) (pg_name (i := 6) sc_l_standings.nd rfl (Or.inl rfl))
      (pss_one (ps_if (PW.pt (pw_or (pt_cmpR (op_eqU hr.units) (pe_callB call_lenU (by rfl) T.z_len (by decide +kernel) (pa_cons (pv 5) pa_nil)) pe_int (nomark _)) (pw_or1 (pt_cmpR op_gtU (pv 6) (pe_ix ix_seq (pv 5) (pe_un un_neg pe_int) (fun _ _ => rfl)) (nomark _)))))
      (pss_one (ps_if (pt_val (pe_call (ok_l_fits T) (hr.mono (by decide)) (by rfl) T.l_fits.g T.l_fits.F.kp T.l_fits.b .nil pass0 (pa_cons (pe_ix ix_seq (pv 0) (pv 6) (fun _ _ => rfl)) (pa_cons (pv 3) pa_nil))))
      (pss_one (ps_if (PW.pt (pw_or (pt_cmpR (op_eqU hr.units) (pe_callB call_lenU (by rfl) T.z_len (by decide +kernel) (pa_cons (pv 5) pa_nil)) pe_int (nomark _)) (pw_or1 (pt_cmpR op_ltU (pe_op op_sub (pv 6) (pe_ix ix_seq (pv 5) pe_int (fun _ _ => rfl))) (pe_op op_addU (pe_callB call_lenU (by rfl) T.z_len (by decide +kernel) (pa_cons (pe_ix ix_seq (pv 1) pe_int (fun _ _ => rfl)) pa_nil)) (pe_ix ix_seq (pv 1) pe_int (fun _ _ => rfl))) (nomark _)))))
      (pss_one (ps_expr (pe_bm PySem.F.plainAttrs_list PySem.F.slot_list_append PySem.F.type_list_append mt_append (pv 4) (pa_cons (pe_op op_addU (pv 5) (pe_tup (pa_cons (pv 6) pa_nil))) pa_nil))))
      pss_nil))
      pss_nil))
      pss_nil)))))
      (pss_one (ps_set (i := 2) sc_l_standings.nd rfl (Or.inl rfl) (pv 4))))))
      (pss_one (ps_ret (pe_callB (call_sortedDD (hu80 hr)) (by rfl) T.z_sorted (by decide +kernel) (pa_cons (pv 2) pa_nil)))))),
      fn_body rfl (by decide) (sn_seq (sn_dat (sn_lst (sn_lC (sn_aV (sn_tup sn_lN)) sn_lN)))
      (sn_seq (sn_for (sn_iA (sn_op sr_idx sn_aN (sn_aV sn_int))) sn_gN
      (sn_seq (sn_set (sn_lst sn_lN))
      (sn_seq (sn_for (sn_iA sn_dN) sn_gN
      (sn_for (sn_iR1 (sn_lC (sn_aV (sn_cb sl_len (sn_lC sn_aN sn_lN))) sn_lN)) sn_gN
      (sn_if (sn_or (sn_tT (sn_op sr_eq (sn_aV (sn_cb sl_len (sn_lC sn_aN sn_lN))) (sn_aV sn_int))) (sn_tT (sn_op sr_gt sn_aN (sn_aV (sn_op sr_idx sn_aN (sn_aV (sn_un sr_neg (sn_aV sn_int))))))))
      (sn_if (sn_tB (sn_call0 (sn_lC (sn_aV (sn_op sr_idx sn_aN sn_aN)) (sn_lC sn_aN sn_lN))))
      (sn_if (sn_or (sn_tT (sn_op sr_eq (sn_aV (sn_cb sl_len (sn_lC sn_aN sn_lN))) (sn_aV sn_int))) (sn_tT (sn_op sr_lt (sn_aV (sn_op sr_sub sn_aN (sn_aV (sn_op sr_idx sn_aN (sn_aV sn_int))))) (sn_aV (sn_op sr_add (sn_aV (sn_cb sl_len (sn_lC (sn_aV (sn_op sr_idx sn_aN (sn_aV sn_int))) sn_lN))) (sn_aV (sn_op sr_idx sn_aN (sn_aV sn_int))))))))
      (sn_app (sn_op sr_add sn_aN (sn_aV (sn_tup (sn_lC sn_aN sn_lN)))))
      sn_nx)
      sn_nx)
      sn_nx)))
      (sn_dat sn_dN))))
      (sn_ret (sn_cb sl_sorted (sn_lC sn_aN sn_lN))))) h⟩
theorem ok_l_told (T : Txt P K mg) : FnOk P w K mg base CX0 4 T.l_told.f T.l_told.fd ["_law_document_here", "_law_row"] (spF K mg d_l_told) :=
  T.l_told.F.ok sc_l_told (fun vs H Q E h => fn_len h) fun cdv A outer s H vs Q E hr h => ⟨_,
      (pss_one (ps_tryA (i := 2) rfl rfl sc_l_told.nd rfl rfl ⟨rfl, by decide, .inl T.x_TooMany.g⟩ takes0 (fun W pn xe tk po => (pss_one (ps_ret (pe_callS (ok_standings T) (hr.mono (by decide)) (by rfl) T.standings.g T.standings.F.kp T.standings.b (fun σ => passAt tk σ) (pa_cons (pv 0) (pa_cons (pv 1) pa_nil))))))
      (fun a oe cls d pn hz hf => (pss_one (ps_ret (pe_xf T.x_TooMany.r T.f_TooMany_limit hz hf (pv 2))))))),
      fn_body rfl (by decide) (sn_noX (Wo := fun _ _ _ _ => False) (sn_tryAs (ps := [false, false]) (i := 2) (tab := [("TooMany", true)]) (fun W => (sn_ret (sn_callS (sn_lC sn_aN (sn_lC sn_aN sn_lN)))))
      (su_ret (sx_xf T.x_TooMany.g)) (by intro p hp; simp only [List.mem_cons, List.not_mem_nil, or_false] at hp; subst hp; exact ⟨_, T.x_TooMany.g, T.m_TooMany_TooMany⟩))) h⟩
theorem ok_law (T : Txt P K mg) : FnOk P w K mg base CX0 42 T.law.f T.law.fd ["_law_script"] (spF K mg d_law) :=
  T.law.F.ok sc_law (fun vs H Q E h => fn_len h) fun cdv A outer s H vs Q E hr h => ⟨_,
      (pss_cons (ps_set (i := 1) sc_law.nd rfl (Or.inr rfl) (pe_lst (pa_cons (pe_call (ok_l_digits T) (hr.mono (by decide)) (by rfl) T.l_digits.g T.l_digits.F.kp T.l_digits.b .nil pass0 (pa_cons (pv 0) (pa_cons pe_int (pa_cons pe_int pa_nil)))) (pa_cons pe_int pa_nil))))
      (pss_cons (ps_set (i := 2) sc_law.nd rfl (Or.inl rfl) (pe_call (ok_l_document T) (hr.mono (by decide)) (by rfl) T.l_document.g T.l_document.F.kp T.l_document.b .nil pass0 (pa_cons (pv 1) (pa_cons pe_int pa_nil))))
      (pss_cons (ps_set (i := 3) sc_law.nd rfl (Or.inl rfl) (pe_callTy call_tupU (by rfl) T.z_tuple (by decide +kernel) (pa_cons (pe_lc (own := [("_law_k", 8)]) (by rfl) sc_law.nd (pi_range1 rfl T.z_range (pa_cons (pe_op op_addU pe_int (pe_call (ok_l_draw T) (hr.mono (by decide)) (by rfl) T.l_draw.g T.l_draw.F.kp T.l_draw.b .nil pass0 (pa_cons (pv 1) (pa_cons pe_int pa_nil)))) pa_nil)) (blkOk_by (own := [("_law_k", 8)]) (N := ["_law_script", "_law_box", "_law_document_here", "_law_patterns", "_law_row", "_law_word_here", "_law_pattern_here", "_law_due", "_law_k"]) (sc := defScope s_law) (by decide +kernel)) (fun _ _ _ _ _ => (pg_name (i := 8) sc_law.nd rfl (by first | exact Or.inl rfl | exact Or.inr rfl))) (fun _ _ _ _ _ => pts_nil) (fun _ _ _ _ _ => (pe_call (ok_l_pattern T) (hr.mono (by decide)) (by rfl) T.l_pattern.g T.l_pattern.F.kp T.l_pattern.b .nil pass0 (pa_cons (pv 1) pa_nil)))) pa_nil)))
      (pss_cons (ps_if (pt_cmpR (op_eqU hr.units) (pe_call (ok_l_draw T) (hr.mono (by decide)) (by rfl) T.l_draw.g T.l_draw.F.kp T.l_draw.b .nil pass0 (pa_cons (pv 1) (pa_cons pe_int pa_nil))) pe_int (nomark _))
      (pss_cons (ps_set (i := 3) sc_law.nd rfl (Or.inl rfl) (pe_op op_mulU (pe_tup (pa_cons (pe_tup (pa_cons pe_str (pa_cons pe_str pa_nil))) pa_nil)) (pe_op op_addU pe_int (pe_call (ok_l_draw T) (hr.mono (by decide)) (by rfl) T.l_draw.g T.l_draw.F.kp T.l_draw.b .nil pass0 (pa_cons (pv 1) (pa_cons pe_int pa_nil))))))
      (pss_one (ps_set (i := 2) sc_law.nd rfl (Or.inl rfl) (pe_op op_mulU (pe_tup (pa_cons pe_str (pa_cons pe_str pa_nil))) pe_int))))
      pss_nil)
      (pss_cons (ps_set (i := 4) sc_law.nd rfl (Or.inl rfl) (pe_tup (pa_cons pe_str (pa_cons (pv 3) (pa_cons (pe_call (ok_l_draw T) (hr.mono (by decide)) (by rfl) T.l_draw.g T.l_draw.F.kp T.l_draw.b .nil pass0 (pa_cons (pv 1) (pa_cons pe_int pa_nil))) pa_nil)))))
      (pss_cons (ps_for PassesOwn.never rfl (pi_any (pv 2)) (pg_name (i := 5) sc_law.nd rfl (Or.inl rfl))
      (pss_one (ps_for PassesOwn.never rfl (pi_any (pv 3)) (pg_name (i := 6) sc_law.nd rfl (Or.inl rfl))
      (pss_one (ps_if (pt_not (pt_val (pe_call (ok_l_same T 40) (hr.mono (by decide)) (by rfl) T.l_same.g T.l_same.F.kp T.l_same.b .nil pass0 (pa_cons (pe_call (ok_fits T) (hr.mono (by decide)) (by rfl) T.fits.g T.fits.F.kp T.fits.b .nil pass0 (pa_cons (pv 5) (pa_cons (pv 6) pa_nil))) (pa_cons (pe_call (ok_l_fits T) (hr.mono (by decide)) (by rfl) T.l_fits.g T.l_fits.F.kp T.l_fits.b .nil pass0 (pa_cons (pv 5) (pa_cons (pv 6) pa_nil))) pa_nil)))))
      (pss_one (ps_ret pe_bl))
      pss_nil)))))
      (pss_cons (ps_set (i := 7) sc_law.nd rfl (Or.inl rfl) (pe_call (ok_l_standings T) (hr.mono (by decide)) (by rfl) T.l_standings.g T.l_standings.F.kp T.l_standings.b .nil pass0 (pa_cons (pv 2) (pa_cons (pv 4) pa_nil))))
      (pss_cons (ps_if (pt_cmpR op_gtU (pe_callB call_lenU (by rfl) T.z_len (by decide +kernel) (pa_cons (pv 7) pa_nil)) pe_int (nomark _))
      (pss_one (ps_set (i := 7) sc_law.nd rfl (Or.inl rfl) pe_int))
      pss_nil)
      (pss_one (ps_ret (pe_call (ok_l_same T 40) (hr.mono (by decide)) (by rfl) T.l_same.g T.l_same.F.kp T.l_same.b .nil pass0 (pa_cons (pe_call (ok_l_told T) (hr.mono (by decide)) (by rfl) T.l_told.g T.l_told.F.kp T.l_told.b .nil pass0 (pa_cons (pv 2) (pa_cons (pv 4) pa_nil))) (pa_cons (pv 7) pa_nil))))))))))))),
      fn_body rfl (by decide) (sn_seq (sn_set (sn_lst (sn_lC (sn_aV (sn_call0 (sn_lC sn_aN (sn_lC (sn_aV sn_int) (sn_lC (sn_aV sn_int) sn_lN))))) (sn_lC (sn_aV sn_int) sn_lN))))
      (sn_seq (sn_dat (sn_call0 (sn_lC sn_aN (sn_lC (sn_aV sn_int) sn_lN))))
      (sn_seq (sn_dat (sn_cb sl_tupC (sn_lC (sn_aV (lcL_ok (E2 := fun _ _ _ _ => False) (sn_iR1 (sn_lC (sn_aV (sn_op sr_add (sn_aV sn_int) (sn_aV (sn_call0 (sn_lC sn_aN (sn_lC (sn_aV sn_int) sn_lN)))))) sn_lN)) sn_gN sn_yes (sn_call0 (sn_lC sn_aN sn_lN)))) sn_lN)))
      (sn_seq (sn_if (sn_tT (sn_op sr_eq (sn_aV (sn_call0 (sn_lC sn_aN (sn_lC (sn_aV sn_int) sn_lN)))) (sn_aV sn_int)))
      (sn_seq (sn_dat (sn_op sr_mul (sn_aV (sn_tup (sn_lC (sn_aV (sn_tup (sn_lC (sn_aV sn_str) (sn_lC (sn_aV sn_str) sn_lN)))) sn_lN))) (sn_aV (sn_op sr_add (sn_aV sn_int) (sn_aV (sn_call0 (sn_lC sn_aN (sn_lC (sn_aV sn_int) sn_lN))))))))
      (sn_dat (sn_op sr_mul (sn_aV (sn_tup (sn_lC (sn_aV sn_str) (sn_lC (sn_aV sn_str) sn_lN)))) (sn_aV sn_int))))
      sn_nx)
      (sn_seq (sn_dat (sn_tup (sn_lC (sn_aV sn_str) (sn_lC sn_aN (sn_lC (sn_aV (sn_call0 (sn_lC sn_aN (sn_lC (sn_aV sn_int) sn_lN)))) sn_lN)))))
      (sn_seq (sn_for (sn_iA sn_dN) sn_gN
      (sn_for (sn_iA sn_dN) sn_gN
      (sn_if (sn_not (sn_tB (sn_call0 (sn_lC (sn_aV (sn_call0 (sn_lC sn_aN (sn_lC sn_aN sn_lN)))) (sn_lC (sn_aV (sn_call0 (sn_lC sn_aN (sn_lC sn_aN sn_lN)))) sn_lN)))))
      (sn_ret sn_bl)
      sn_nx)))
      (sn_seq (sn_dat (sn_call0 (sn_lC sn_aN (sn_lC sn_aN sn_lN))))
      (sn_seq (sn_if (sn_tT (sn_op sr_gt (sn_aV (sn_cb sl_len (sn_lC sn_aN sn_lN))) (sn_aV sn_int)))
      (sn_dat sn_int)
      sn_nx)
      (sn_ret (sn_call0 (sn_lC (sn_aV (sn_call0 (sn_lC sn_aN (sn_lC sn_aN sn_lN)))) (sn_lC sn_aN sn_lN)))))))))))) h⟩
end
theorem all_mk {l : PySem.W.OpenLaw} {w : World} {K : PySem.W.Frag} {h : Heap} {mg : Str → Option Value} {fa f0 f1 f2 f3 f4 f5 f6 f7 f8 f9 f10 f11 f12 : Addr} (X : K.In h) (G : h.Ns mainGlobals mg) (hfa : mg "law" = some (.ref fa))
    {od0 an0 od1 an1 od2 an2 od3 an3 od4 an4 od5 an5 od6 an6 od7 an7 od8 an8 od9 an9 od10 an10 od11 an11 od12 an12 : Option Addr} {sl0 sl1 sl2 sl3 sl4 sl5 sl6 sl7 sl8 sl9 sl10 sl11 sl12 : Array (Option Value)} {oc0 kV0 dc0 pm0 cd0 ct0 oc1 kV1 dc1 pm1 cd1 ct1 oc2 kV2 dc2 pm2 cd2 ct2 oc3 kV3 dc3 pm3 cd3 ct3 oc4 kV4 dc4 pm4 cd4 ct4 oc5 kV5 dc5 pm5 cd5 ct5 oc6 kV6 dc6 pm6 cd6 ct6 oc7 kV7 dc7 pm7 cd7 ct7 oc8 kV8 dc8 pm8 cd8 ct8 oc9 kV9 dc9 pm9 cd9 ct9 oc10 kV10 dc10 pm10 cd10 ct10 oc11 kV11 dc11 pm11 cd11 ct11 oc12 kV12 dc12 pm12 cd12 ct12 : Value} {tk0 : Tok}
    (a0 : PySem.W.nsIn K mainGlobals "fits" = some (some (.ref f0))) (l0 : K.lookup f0 = some ⟨oc0, od0, .func (PySem.W.fnOf "fits" "fits" (defArgs s_fits) (defBody s_fits) (defScope s_fits) .none kV0 dc0 pm0 an0 cd0 ct0), sl0⟩) (c0 : PySem.W.codeIn K cd0 "fits" = true) (k0 : PySem.W.keepIn K (.ref f0) = true)
    (a1 : PySem.W.nsIn K mainGlobals "standings" = some (some (.ref f1))) (l1 : K.lookup f1 = some ⟨oc1, od1, .func (PySem.W.fnOf "standings" "standings" (defArgs s_standings) (defBody s_standings) (defScope s_standings) .none kV1 dc1 pm1 an1 cd1 ct1), sl1⟩) (c1 : PySem.W.codeIn K cd1 "standings" = true) (k1 : PySem.W.keepIn K (.ref f1) = true)
    (a2 : PySem.W.nsIn K mainGlobals "_law_cell" = some (some (.ref f2))) (l2 : K.lookup f2 = some ⟨oc2, od2, .func (PySem.W.fnOf "_law_cell" "_law_cell" (defArgs s_l_cell) (defBody s_l_cell) (defScope s_l_cell) .none kV2 dc2 pm2 an2 cd2 ct2), sl2⟩) (c2 : PySem.W.codeIn K cd2 "_law_cell" = true) (k2 : PySem.W.keepIn K (.ref f2) = true)
    (a3 : PySem.W.nsIn K mainGlobals "_law_digits" = some (some (.ref f3))) (l3 : K.lookup f3 = some ⟨oc3, od3, .func (PySem.W.fnOf "_law_digits" "_law_digits" (defArgs s_l_digits) (defBody s_l_digits) (defScope s_l_digits) .none kV3 dc3 pm3 an3 cd3 ct3), sl3⟩) (c3 : PySem.W.codeIn K cd3 "_law_digits" = true) (k3 : PySem.W.keepIn K (.ref f3) = true)
    (a4 : PySem.W.nsIn K mainGlobals "_law_draw" = some (some (.ref f4))) (l4 : K.lookup f4 = some ⟨oc4, od4, .func (PySem.W.fnOf "_law_draw" "_law_draw" (defArgs s_l_draw) (defBody s_l_draw) (defScope s_l_draw) .none kV4 dc4 pm4 an4 cd4 ct4), sl4⟩) (c4 : PySem.W.codeIn K cd4 "_law_draw" = true) (k4 : PySem.W.keepIn K (.ref f4) = true)
    (a5 : PySem.W.nsIn K mainGlobals "_law_same" = some (some (.ref f5))) (l5 : K.lookup f5 = some ⟨oc5, od5, .func (PySem.W.fnOf "_law_same" "_law_same" (defArgs s_l_same) (defBody s_l_same) (defScope s_l_same) .none kV5 dc5 pm5 an5 cd5 ct5), sl5⟩) (c5 : PySem.W.codeIn K cd5 "_law_same" = true) (k5 : PySem.W.keepIn K (.ref f5) = true)
    (a6 : PySem.W.nsIn K mainGlobals "_law_word" = some (some (.ref f6))) (l6 : K.lookup f6 = some ⟨oc6, od6, .func (PySem.W.fnOf "_law_word" "_law_word" (defArgs s_l_word) (defBody s_l_word) (defScope s_l_word) .none kV6 dc6 pm6 an6 cd6 ct6), sl6⟩) (c6 : PySem.W.codeIn K cd6 "_law_word" = true) (k6 : PySem.W.keepIn K (.ref f6) = true)
    (a7 : PySem.W.nsIn K mainGlobals "_law_pattern" = some (some (.ref f7))) (l7 : K.lookup f7 = some ⟨oc7, od7, .func (PySem.W.fnOf "_law_pattern" "_law_pattern" (defArgs s_l_pattern) (defBody s_l_pattern) (defScope s_l_pattern) .none kV7 dc7 pm7 an7 cd7 ct7), sl7⟩) (c7 : PySem.W.codeIn K cd7 "_law_pattern" = true) (k7 : PySem.W.keepIn K (.ref f7) = true)
    (a8 : PySem.W.nsIn K mainGlobals "_law_document" = some (some (.ref f8))) (l8 : K.lookup f8 = some ⟨oc8, od8, .func (PySem.W.fnOf "_law_document" "_law_document" (defArgs s_l_document) (defBody s_l_document) (defScope s_l_document) .none kV8 dc8 pm8 an8 cd8 ct8), sl8⟩) (c8 : PySem.W.codeIn K cd8 "_law_document" = true) (k8 : PySem.W.keepIn K (.ref f8) = true)
    (a9 : PySem.W.nsIn K mainGlobals "_law_fits" = some (some (.ref f9))) (l9 : K.lookup f9 = some ⟨oc9, od9, .func (PySem.W.fnOf "_law_fits" "_law_fits" (defArgs s_l_fits) (defBody s_l_fits) (defScope s_l_fits) .none kV9 dc9 pm9 an9 cd9 ct9), sl9⟩) (c9 : PySem.W.codeIn K cd9 "_law_fits" = true) (k9 : PySem.W.keepIn K (.ref f9) = true)
    (a10 : PySem.W.nsIn K mainGlobals "_law_standings" = some (some (.ref f10))) (l10 : K.lookup f10 = some ⟨oc10, od10, .func (PySem.W.fnOf "_law_standings" "_law_standings" (defArgs s_l_standings) (defBody s_l_standings) (defScope s_l_standings) .none kV10 dc10 pm10 an10 cd10 ct10), sl10⟩) (c10 : PySem.W.codeIn K cd10 "_law_standings" = true) (k10 : PySem.W.keepIn K (.ref f10) = true)
    (a11 : PySem.W.nsIn K mainGlobals "_law_told" = some (some (.ref f11))) (l11 : K.lookup f11 = some ⟨oc11, od11, .func (PySem.W.fnOf "_law_told" "_law_told" (defArgs s_l_told) (defBody s_l_told) (defScope s_l_told) .none kV11 dc11 pm11 an11 cd11 ct11), sl11⟩) (c11 : PySem.W.codeIn K cd11 "_law_told" = true) (k11 : PySem.W.keepIn K (.ref f11) = true)
    (a12 : PySem.W.nsIn K mainGlobals "law" = some (some (.ref f12))) (l12 : K.lookup f12 = some ⟨oc12, od12, .func (PySem.W.fnOf "law" "law" (defArgs s_law) (defBody s_law) (defScope s_law) .none kV12 dc12 pm12 an12 cd12 ct12), sl12⟩) (c12 : PySem.W.codeIn K cd12 "law" = true) (k12 : PySem.W.keepIn K (.ref f12) = true)
    (z0 : PySem.W.nsIn K mainGlobals "bool" = some none)
    (z1 : PySem.W.nsIn K mainGlobals "int" = some none)
    (z2 : PySem.W.nsIn K mainGlobals "isinstance" = some none)
    (z3 : PySem.W.nsIn K mainGlobals "len" = some none)
    (z4 : PySem.W.nsIn K mainGlobals "list" = some none)
    (z5 : PySem.W.nsIn K mainGlobals "min" = some none)
    (z6 : PySem.W.nsIn K mainGlobals "range" = some none)
    (z7 : PySem.W.nsIn K mainGlobals "sorted" = some none)
    (z8 : PySem.W.nsIn K mainGlobals "str" = some none)
    (z9 : PySem.W.nsIn K mainGlobals "tuple" = some none)
    (v0 : PySem.W.nsIn K mainGlobals "MOST_STANDINGS" = some (some (.int 500 tk0)))
    (xtop : (l.prog.main.scope.names.lookup ("super" : Str)).isSome = false)
    (xsup : PySem.W.nsIn K mainGlobals "super" = some none) (xopq : PySem.W.nsIn K cStatics "thirdparty.any" = some none)
    {C_TooMany : Addr} (xa_TooMany : PySem.W.nsIn K mainGlobals "TooMany" = some (some (.ref C_TooMany)))
    {nm_TooMany q_TooMany : Str} {N_TooMany : Addr} {bs_TooMany bm_TooMany : List Value} {sn_TooMany : List Str} {sub_TooMany : List Value} {ab_TooMany : Bool} {col_TooMany : Option Bool} {dd_TooMany : Option Addr} {k0_TooMany k1_TooMany k2_TooMany k3_TooMany k5_TooMany : Option Value} {fI_TooMany cc_TooMany co_TooMany : Addr} {oc_TooMany doc_TooMany pm_TooMany ctv_TooMany cl_TooMany ccl_TooMany : Value} {od_TooMany cld_TooMany cdd_TooMany : Option Addr} {osl_TooMany csl_TooMany ccs_TooMany : Array (Option Value)} {cvs_TooMany : Array Value} {file_TooMany : Str} {tf_TooMany : Tok}
    (xcls_TooMany : K.lookup C_TooMany = some (excClassObj nm_TooMany q_TooMany C_TooMany N_TooMany bs_TooMany bm_TooMany true sn_TooMany sub_TooMany ab_TooMany col_TooMany dd_TooMany k0_TooMany k1_TooMany k2_TooMany k3_TooMany k5_TooMany "ValueError.__new__"))
    (xrve_TooMany : PySem.HandSPX.refsVE bm_TooMany = true)
    (xsa_TooMany : PySem.W.findIn K (.ref C_TooMany) "__setattr__" = some (some (.builtin "object.__setattr__")))
    (xexc_TooMany : PySem.W.subIn K (.ref C_TooMany) (.type "BaseException") = some true)
    (xtyc_TooMany : PySem.W.typeIn K (.ref C_TooMany) = some (.type "type"))
    (xkc_TooMany : PySem.W.keepIn K (.ref C_TooMany) = true)
    (xsup_TooMany : PySem.W.ks_superIn K C_TooMany C_TooMany "__init__" = some (some (.builtin "ValueError.__init__")))
    (xsub_TooMany : PySem.W.subIn K (.ref C_TooMany) (.type "ValueError") = some true)
    (xslf_TooMany : PySem.W.mroIn K C_TooMany (.ref C_TooMany) = some true)
    (xii_TooMany : PySem.W.findIn K (.ref C_TooMany) "__init__" = some (some (.ref fI_TooMany)))
    (xti_TooMany : PySem.W.typeIn K (.ref fI_TooMany) = some (.type "function"))
    (xlf_TooMany : K.lookup fI_TooMany = some ⟨oc_TooMany, od_TooMany, .func (NdefX.NF.fd ⟨"__init__", "TooMany.__init__", defArgs sI_TooMany, defBody sI_TooMany, defScope sI_TooMany, [(("__class__" : Str), cc_TooMany)], co_TooMany⟩ doc_TooMany pm_TooMany ctv_TooMany), osl_TooMany⟩)
    (xcdi_TooMany : PySem.W.codeIn K (.ref co_TooMany) "TooMany.__init__" = true)
    (xlcc_TooMany : K.lookup cc_TooMany = some ⟨cl_TooMany, cld_TooMany, .cell (some (.ref C_TooMany)), csl_TooMany⟩)
    (xlco_TooMany : K.lookup co_TooMany = some ⟨ccl_TooMany, cdd_TooMany, .fields cvs_TooMany, ccs_TooMany⟩)
    (xv2_TooMany : cvs_TooMany[2]? = some (.str file_TooMany tf_TooMany))
    (xfe_TooMany : ((l.prog.main.file : Str) == file_TooMany) = true)
    (xga_TooMany : PySem.W.findIn K (.ref C_TooMany) "__getattribute__" = some (some (.builtin "BaseException.__getattribute__")))
    (xgg_TooMany : PySem.W.findIn K (.ref C_TooMany) "__getattr__" = some none)
    (xhdc_TooMany : PySem.W.hasDictIn K C_TooMany = true)
    (xf_TooMany_limit : PySem.W.findIn K (.ref C_TooMany) "limit" = some none)
    (xm_TooMany_TooMany : PySem.W.subIn K (.ref C_TooMany) (.ref C_TooMany) = some true)
    (hlaw : ∀ ns : List Int, ns.length ≤ 63 → (∀ z ∈ ns, Builtin.Int.intBits z ≤ 1048576) → ∃ ρ, d_law [some (.dat (scrD ns))] = .ok (.dat (.bool true), ρ)) :
    ∃ fd : FuncData, (∀ (s : Shared) (v : Value), BindsTo s fd ⟨[v], []⟩ [("_law_script", v)]) ∧ ∀ base : Heap, K.In base → base.Ns mainGlobals mg → FnOk l.prog w K mg base CX0 42 fa fd ["_law_script"] (spLaw K) := by
  have e := hfa.symm.trans (PySem.W.mg_of X G a12)
  cases e
  have F0 := fun_mk (st := s_fits) l0 c0 k0
  have b0 := F0.binds (ps := ["word", "pattern"]) fun _ _ _ _ _ _ us hl => match us, hl with | [_, _], _ => rfl
  have F1 := fun_mk (st := s_standings) l1 c1 k1
  have b1 := F1.binds (ps := ["document", "row"]) fun _ _ _ _ _ _ us hl => match us, hl with | [_, _], _ => rfl
  have F2 := fun_mk (st := s_l_cell) l2 c2 k2
  have b2 := F2.binds (ps := ["_law_script", "_law_k"]) fun _ _ _ _ _ _ us hl => match us, hl with | [_, _], _ => rfl
  have F3 := fun_mk (st := s_l_digits) l3 c3 k3
  have b3 := F3.binds (ps := ["_law_script", "_law_first", "_law_last"]) fun _ _ _ _ _ _ us hl => match us, hl with | [_, _, _], _ => rfl
  have F4 := fun_mk (st := s_l_draw) l4 c4 k4
  have b4 := F4.binds (ps := ["_law_box", "_law_many"]) fun _ _ _ _ _ _ us hl => match us, hl with | [_, _], _ => rfl
  have F5 := fun_mk (st := s_l_same) l5 c5 k5
  have b5 := F5.binds (ps := ["_law_actual", "_law_due"]) fun _ _ _ _ _ _ us hl => match us, hl with | [_, _], _ => rfl
  have F6 := fun_mk (st := s_l_word) l6 c6 k6
  have b6 := F6.binds (ps := ["_law_box"]) fun _ _ _ _ _ _ us hl => match us, hl with | [_], _ => rfl
  have F7 := fun_mk (st := s_l_pattern) l7 c7 k7
  have b7 := F7.binds (ps := ["_law_box"]) fun _ _ _ _ _ _ us hl => match us, hl with | [_], _ => rfl
  have F8 := fun_mk (st := s_l_document) l8 c8 k8
  have b8 := F8.binds (ps := ["_law_box", "_law_most"]) fun _ _ _ _ _ _ us hl => match us, hl with | [_, _], _ => rfl
  have F9 := fun_mk (st := s_l_fits) l9 c9 k9
  have b9 := F9.binds (ps := ["_law_word_here", "_law_pattern_here"]) fun _ _ _ _ _ _ us hl => match us, hl with | [_, _], _ => rfl
  have F10 := fun_mk (st := s_l_standings) l10 c10 k10
  have b10 := F10.binds (ps := ["_law_document_here", "_law_row"]) fun _ _ _ _ _ _ us hl => match us, hl with | [_, _], _ => rfl
  have F11 := fun_mk (st := s_l_told) l11 c11 k11
  have b11 := F11.binds (ps := ["_law_document_here", "_law_row"]) fun _ _ _ _ _ _ us hl => match us, hl with | [_, _], _ => rfl
  have F12 := fun_mk (st := s_law) l12 c12 k12
  have b12 := F12.binds (ps := ["_law_script"]) fun _ _ _ _ _ _ us hl => match us, hl with | [_], _ => rfl
  have xt_TooMany : XcT l.prog K mg C_TooMany fI_TooMany cc_TooMany := ⟨⟨⟨_, _, _, _, _, _, _, _, _, _, _, _, _, _, _, xcls_TooMany, xrve_TooMany⟩, xsa_TooMany, xexc_TooMany, xtyc_TooMany, xkc_TooMany⟩, xsup_TooMany, xsub_TooMany, xslf_TooMany, xopq, ⟨_, _, _, xlcc_TooMany⟩, PySem.W.mg_none_of X G xsup, xtop, xii_TooMany, xti_TooMany⟩
  have xF_TooMany : FnS l.prog K "TooMany.__init__" sI_TooMany fI_TooMany cc_TooMany _ := ⟨⟨_, _, _, _, _, _, _, rfl, xlf_TooMany, xcdi_TooMany, _, _, _, _, xlco_TooMany, rfl, xv2_TooMany, xfe_TooMany⟩⟩
  let T : Txt l.prog K mg := ⟨⟨_, _, _, _, xt_TooMany, PySem.W.mg_of X G xa_TooMany, xF_TooMany, .all (fun us hl => match us, hl with | [_, _], _ => rfl), ⟨xga_TooMany, xgg_TooMany, xexc_TooMany, xhdc_TooMany⟩⟩, xf_TooMany_limit, PySem.W.exm_ref xexc_TooMany xhdc_TooMany xtyc_TooMany xm_TooMany_TooMany, ⟨_, _, F0, b0, PySem.W.mg_of X G a0⟩, ⟨_, _, F1, b1, PySem.W.mg_of X G a1⟩, ⟨_, _, F2, b2, PySem.W.mg_of X G a2⟩, ⟨_, _, F3, b3, PySem.W.mg_of X G a3⟩, ⟨_, _, F4, b4, PySem.W.mg_of X G a4⟩, ⟨_, _, F5, b5, PySem.W.mg_of X G a5⟩, ⟨_, _, F6, b6, PySem.W.mg_of X G a6⟩, ⟨_, _, F7, b7, PySem.W.mg_of X G a7⟩, ⟨_, _, F8, b8, PySem.W.mg_of X G a8⟩, ⟨_, _, F9, b9, PySem.W.mg_of X G a9⟩, ⟨_, _, F10, b10, PySem.W.mg_of X G a10⟩, ⟨_, _, F11, b11, PySem.W.mg_of X G a11⟩, ⟨_, _, F12, b12, PySem.W.mg_of X G a12⟩, PySem.W.mg_none_of X G z0, PySem.W.mg_none_of X G z1, PySem.W.mg_none_of X G z2, PySem.W.mg_none_of X G z3, PySem.W.mg_none_of X G z4, PySem.W.mg_none_of X G z5, PySem.W.mg_none_of X G z6, PySem.W.mg_none_of X G z7, PySem.W.mg_none_of X G z8, PySem.W.mg_none_of X G z9, _, PySem.W.mg_of X G v0⟩
  exact ⟨_, fun s v => .of_eq rfl, fun base _ _ => fn_weak (ok_law T) (sp_law hlaw)⟩
end W
namespace W
open PySem L2 DL
/-! the laws' common functions: cell, digits, draw -/
abbrev nI (n : Int) : Option Sl := some (.dat (.int n))
abbrev nB (n : Bool) : Option Sl := some (.dat (.bool n))
abbrev nS (n : Str) : Option Sl := some (.dat (.str n))
abbrev nD (n : PyData) : Option Sl := some (.dat n)
abbrev nT (n : List PyData) : Option Sl := some (.dat (.tuple n))
abbrev nL (n : List PyData) : Option Sl := some (.lst n)
def cellV (ns : List Int) (k : Int) : Int := ns.getD k.toNat 0
theorem cell_ok {ns : List Int} {k : Int} {Q} {t : Tg Q} (h : 0 ≤ k) : satH (d_l_cell [some (.dat (scrD ns)), some (.dat (.int k))]) Q t = Q (.dat (.int (cellV ns k)), [none, none]) := by
  unfold cellV
  rw [satH_eq, e_l_cell, b_l_cell, scrD]
  obtain ⟨k, rfl⟩ := Int.eq_ofNat_of_zero_le h
  simp
  split
  · rename_i h
    have := atI_map (f := PyData.int) h
    simp [this, h]
  · rename_i h
    rw [List.getElem?_eq_none (by omega)]
    rfl
def J1 (ns : List Int) (i : Nat) (ρ : DL.Env) : Prop := ∃ (ds : List Int) (a b c d : Option Sl), ρ = [some (.dat (scrD ns)), nI 0, nI 63, some (.lst (ds.map .int)), a, b, c, d] ∧ ds.length ≤ i * 60
def J2 (ns : List Int) (k : Int) (n : Nat) (i : Nat) (ρ : DL.Env) : Prop := ∃ (ds : List Int) (b : Int) (c d : Option Sl), ρ = [some (.dat (scrD ns)), nI 0, nI 63, some (.lst (ds.map .int)), nI k, nI b, c, d] ∧ ds.length ≤ n + i
def J3 (ns : List Int) (k : Int) (n : Nat) (i : Nat) (ρ : DL.Env) : Prop := ∃ (ds : List Int) (b d : Int) (c : Option Sl), ρ = [some (.dat (scrD ns)), nI 0, nI 63, some (.lst (ds.map .int)), nI k, nI b, c, nI d] ∧ ds.length ≤ n + i
theorem digits_ok (ns : List Int) : sat (d_l_digits [some (.dat (scrD ns)), nI 0, nI 63]) fun p => ∃ ds : List Int, p = (.lst (ds.map .int), [none, none, none]) ∧ ds.length ≤ 4000 := by
  rw [e_l_digits, b_l_digits]
  simp
  refine sat_for0 (J1 ns) ⟨[], none, none, none, none, rfl, by simp⟩ ?_ ?_
  · rintro i d ρ hd ⟨ds, a, b, c, d', rfl, hl⟩
    obtain ⟨rfl, hi⟩ := rangeD_get hd
    simp
    rw [cell_ok (by omega)]
    simp
    have key : ∀ B : Int, (10 ^ 18 ≤ B → satH (forL (gN 6)
        (sIf (dB (dOp gtD (aN 5) (aV (dC (.int 0)))))
        (sSeq (sApp 3 (dOp modD (aV (dCB intD (lC (aN 5) lN))) (aV (dC (.int 1000)))))
        (sDat 5 (dOp fdivD (aN 5) (aV (dC (.int 1000))))))
        sNx) (rangeD 0 60) [some (.dat (scrD ns)), nI 0, nI 63, some (.lst (ds.map .int)), nI i, nI B, c, d'])
        (fun o => ∃ ρ2, o = .nx ρ2 ∧ J1 ns (i + 1) ρ2) ⟨⟩) ∧ (∀ D : Int, satH (forL (gN 6)
        (sSeq (sDat 7 (dOp modD (aV (dCB intD (lC (aV (dOp addD (aV (dOp addD (aV (dOp mulD (aN 7) (aV (dC (.int 16807))))) (aV (dOp mulD (aV (dC (.int 7))) (aN 6))))) (aV (dC (.int 1))))) lN))) (aV (dC (.int 2147483647)))))
        (sApp 3 (dOp modD (aV (dCB intD (lC (aV (dOp fdivD (aN 7) (aV (dC (.int 997))))) lN))) (aV (dC (.int 1000)))))) (rangeD 0 12) [some (.dat (scrD ns)), nI 0, nI 63, some (.lst (ds.map .int)), nI i, nI B, c, nI D])
        (fun o => ∃ ρ2, o = .nx ρ2 ∧ J1 ns (i + 1) ρ2) ⟨⟩) := by
      intro B
      refine ⟨fun _ => ?_, fun D => ?_⟩
      · refine sat_for0 (J2 ns i ds.length) ⟨ds, B, c, d', rfl, by omega⟩ ?_ ?_
        · rintro j d ρ hd ⟨ds', b', c', d'', rfl, hl'⟩
          obtain ⟨rfl, hj⟩ := rangeD_get hd
          by_cases h0 : 0 < b'
          · simp [h0]
            refine ⟨by omega, ds' ++ [b' % 1000], b' / 1000, _, _, by simp; exact ⟨rfl, rfl⟩, by simp; omega⟩
          · simp [h0]
            exact ⟨ds', b', _, _, rfl, by omega⟩
        · rintro ρ ⟨ds', b', c', d'', rfl, hl'⟩
          simp at hl'
          exact ⟨_, rfl, ds', _, _, _, _, rfl, by omega⟩
      · refine sat_for0 (J3 ns i ds.length) ⟨ds, B, D, c, rfl, by omega⟩ ?_ ?_
        · rintro j d ρ hd ⟨ds', b', c', d'', rfl, hl'⟩
          obtain ⟨rfl, hj⟩ := rangeD_get hd
          simp
          refine ⟨by omega, ds' ++ [_], b', _, _, by simp; exact ⟨rfl, rfl, rfl⟩, by simp; omega⟩
        · rintro ρ ⟨ds', b', c', d'', rfl, hl'⟩
          simp at hl'
          exact ⟨_, rfl, ds', _, _, _, _, rfl, by omega⟩
    split <;> split
    · rename_i h
      exact (key _).1 (by simpa using h)
    · exact (key _).2 _
    · rename_i h
      exact (key _).1 (by simpa using h)
    · exact (key _).2 _
  · rintro ρ ⟨ds, a, b, c, d, rfl, hl⟩
    simp at hl ⊢
    exact ⟨ds, rfl, by omega⟩
/-- what the laws draw from -/
def Box (b : List PyData) : Prop := ∃ (ds : List Int) (a : Int), 0 ≤ a ∧ ds.length ≤ 4000 ∧ b = [.list (ds.map .int), .int a]
theorem draw_k {b : List PyData} {m : Int} {Q} {t : Tg Q} (hb : Box b) (hm : 0 < m) (k : ∀ v b', Box b' → 0 ≤ v → v < m → Q (.dat (.int v), [some (.lst b'), none])) : satH (d_l_draw [some (.lst b), nI m]) Q t := by
  obtain ⟨ds, a, ha, hl, rfl⟩ := hb
  rw [satH_eq, e_l_draw, b_l_draw]
  simp
  have hb' : Box [.list (ds.map .int), .int (a + 1)] := ⟨ds, a + 1, by omega, hl, rfl⟩
  split
  · rename_i h
    have h1 : a.toNat < ds.length := by omega
    have := atI_map (f := PyData.int) h1
    rw [Int.toNat_of_nonneg ha] at this
    simp [this]
    exact ⟨hm, k _ _ hb' (Int.emod_nonneg _ (by omega)) (Int.emod_lt_of_pos _ hm)⟩
  · exact k _ _ hb' (by omega) hm
end W
namespace W
open PySem L2 DL
/-! the laws' common function: same -/
def Sm : Nat → PyData → Prop
  | _, .none => True
  | _, .int _ => True
  | _, .bool _ => True
  | _, .str _ => True
  | n + 1, .list ds => ds.length ≤ 16777216 ∧ ∀ d ∈ ds, Sm n d
  | n + 1, .tuple ds => ds.length ≤ 16777216 ∧ ∀ d ∈ ds, Sm n d
  | _, _ => False
theorem same_loop {n : Nat} {ds : List PyData} {C1 : PyData} (h1 : ds.length ≤ 16777216) (hC1 : ∀ {i : Int} {Q : Sl → Prop}, osat (idxD C1 (.int i)) Q = osatH (atI ds i) (fun d => Q (.dat d)) ⟨⟩) (ih : ∀ d ∈ ds, ∀ {Q} {t : Tg Q}, satH (d_l_same (n + 1) [some (.dat d), some (.dat d)]) Q t = Q (.dat (.bool true), [none, none])) {Q : Out → Prop} {t : Tg Q} (hq : ∀ x, Q (.nx [some (.dat C1), some (.dat C1), x])) :
    satH (forL (gN 2) (sIf (dNot (dB (dCall (noX (d_l_same (n + 1))) [false, false] (lC (aV (dOp idxD (aN 0) (aN 2))) (lC (aV (dOp idxD (aN 1) (aN 2))) lN)))))
    (sRet (dC (.bool false)))
    sNx) (rangeD 0 ds.length) [some (.dat C1), some (.dat C1), none]) Q t := by
  refine sat_for0 (fun i ρ => ∃ x, ρ = [some (.dat C1), some (.dat C1), x]) ⟨_, rfl⟩ ?_ ?_
  · rintro i d ρ hd ⟨x, rfl⟩
    obtain ⟨rfl, hi⟩ := rangeD_get hd
    simp [hC1, atI_lt hi, ih ds[i] (List.getElem_mem hi)]
  · rintro ρ ⟨x, rfl⟩
    exact hq x
theorem same_ok : ∀ {n : Nat} {d : PyData}, Sm n d → ∀ {Q} {t : Tg Q}, satH (d_l_same (n + 1) [some (.dat d), some (.dat d)]) Q t = Q (.dat (.bool true), [none, none])
  | n, .none, _, Q, t => by
    refine satH_det ?_
    rw [e_l_same, b_l_same]
    simp
  | n, .int _, _, Q, t => by
    refine satH_det ?_
    rw [e_l_same, b_l_same]
    simp
  | n, .bool _, _, Q, t => by
    refine satH_det ?_
    rw [e_l_same, b_l_same]
    simp
  | n, .str _, _, Q, t => by
    refine satH_det ?_
    rw [e_l_same, b_l_same]
    simp
  | n + 1, .list ds, h, Q, t => by
    refine satH_det ?_
    rw [e_l_same, b_l_same]
    have h1 := h.1
    simp
    refine ⟨by omega, same_loop h1 (idxD_list) (fun d hd => same_ok (h.2 d hd)) fun x => ?_⟩
    simp
  | n + 1, .tuple ds, h, Q, t => by
    refine satH_det ?_
    rw [e_l_same, b_l_same]
    have h1 := h.1
    simp
    refine ⟨by omega, same_loop h1 (idxD_tuple) (fun d hd => same_ok (h.2 d hd)) fun x => ?_⟩
    simp
  | 0, .list _, h, _, _ => h.elim
  | 0, .tuple _, h, _, _ => h.elim
  | 0, .dict _, h, _, _ => h.elim
  | _ + 1, .dict _, h, _, _ => h.elim
end W
namespace W
open PySem L2 DL
/-! drawn words, patterns and questions -/
abbrev sD (w : List Nat) : PyData := .str (stL w)
def chW (c : Nat) : Prop := (97 ≤ c ∧ c ≤ 122) ∨ (48 ≤ c ∧ c ≤ 57)
structure Wd (w : List Nat) : Prop where
  ch : ∀ c ∈ w, chW c
  l1 : 1 ≤ w.length
  l2 : w.length ≤ 12
theorem atI_mapV {α β : Type} {f : α → β} {l : List α} {v : Int} (h0 : 0 ≤ v) (h1 : v < l.length) : ∃ a ∈ l, atI (l.map f) v = some (f a) := by
  obtain ⟨a, a1, a2⟩ := atI_mod (l := l) h0 h1
  refine ⟨a, List.mem_of_getElem? a2, ?_⟩
  have := atI_map (f := f) (ns := l) (k := v.toNat) (List.getElem?_eq_some_iff.mp a2).1
  rw [Int.toNat_of_nonneg h0] at this
  rw [this, (List.getElem?_eq_some_iff.mp a2).2]
def words0 : List (List Nat) := [[97], [97, 98], [97, 98, 99], [98], [98, 97], [109, 105, 108, 108], [109, 105, 108, 108, 115], [119, 101, 105, 114], [48], [97, 48], [122, 57], [98, 97, 98]]
theorem words0_ok : ∀ w ∈ words0, (∀ c ∈ w, (97 ≤ c ∧ c ≤ 122) ∨ (48 ≤ c ∧ c ≤ 57)) ∧ 1 ≤ w.length ∧ w.length ≤ 12 := by decide +kernel
theorem abc9_ok : ∀ c ∈ K_14, (97 ≤ c ∧ c ≤ 122) ∨ (48 ≤ c ∧ c ≤ 57) := by decide +kernel
theorem word_k {b : List PyData} (hb : Box b) {Q} {t : Tg Q} (k : ∀ w b', Box b' → Wd w → Q (.dat (sD w), [some (.lst b')])) : satH (d_l_word [some (.lst b)]) Q t := by
  rw [satH_eq, e_l_word, b_l_word]
  simp
  refine draw_k hb (by decide) fun v b hb v0 v1 => ?_
  by_cases hv : 0 < v
  · simp [hv]
    refine draw_k hb (by decide) fun u b hb u0 u1 => ?_
    obtain ⟨w, hw, a1⟩ := atI_mapV (f := sD) (l := words0) u0 u1
    obtain ⟨h1, h2, h3⟩ := words0_ok w hw
    simp only [words0, List.map_cons, List.map_nil, sD] at a1
    simp [a1]
    exact k w b hb ⟨h1, h2, h3⟩
  · simp [hv]
    refine draw_k hb (by decide) fun u b hb u0 u1 => ?_
    obtain ⟨m, hm, hm1⟩ : ∃ m : Int, atI [PyData.int 3, PyData.int 12] u = some (.int m) ∧ 0 < m ∧ m ≤ 12 := by
      have : u = 0 ∨ u = 1 := by omega
      rcases this with rfl | rfl
      · exact ⟨3, by simp, by omega⟩
      · exact ⟨12, by simp, by omega⟩
    simp [hm]
    refine draw_k hb hm1.1 fun n b hb n0 n1 => ?_
    simp
    refine ⟨by omega, sat_for0 (fun i ρ => ∃ (b : List PyData) (x1 : Option Sl) (w : List Nat) (x3 : Option Sl), ρ = [some (.lst b), x1, nS (stL w), x3] ∧ Box b ∧ (∀ c ∈ w, chW c) ∧ w.length = i) ⟨b, _, [], none, rfl, hb, by simp, rfl⟩ ?_ ?_⟩
    · rintro i d ρ hd ⟨b, x1, w, x3, rfl, hb, hw, hl⟩
      obtain ⟨rfl, hi⟩ := rangeD_get hd
      simp
      refine draw_k hb (by decide) fun u b hb u0 u1 => ?_
      obtain ⟨c, a1, a2⟩ := atI_mod (l := K_14) u0 u1
      simp [a1]
      refine ⟨by omega, b, x1, w ++ [c], ⟨rfl, rfl, rfl⟩, hb, fun x hx => ?_, by simp [hl]⟩
      simp at hx
      rcases hx with hx | rfl
      · exact hw x hx
      · exact abc9_ok x (List.mem_of_getElem? a2)
    · rintro ρ ⟨b, x1, w, x3, rfl, hb, hw, hl⟩
      rw [rangeD_len] at hl
      simp
      exact k w b hb ⟨hw, by omega, by omega⟩
def START : List Nat := [115, 116, 97, 114, 116]
def WORD : List Nat := [119, 111, 114, 100]
structure Pat where
  st : Bool
  w : List Nat
def Pat.D (p : Pat) : PyData := .tuple [sD (if p.st = true then [115, 116, 97, 114, 116] else [119, 111, 114, 100]), sD p.w]
theorem pattern_k {b : List PyData} (hb : Box b) {Q} {t : Tg Q} (k : ∀ (p : Pat) b', Box b' → Wd p.w → Q (.dat p.D, [some (.lst b')])) : satH (d_l_pattern [some (.lst b)]) Q t := by
  rw [satH_eq, e_l_pattern, b_l_pattern]
  simp
  refine draw_k hb (by decide) fun v b hb v0 v1 => ?_
  obtain ⟨st, hst⟩ : ∃ st : Bool, atI [PyData.str (stL [119, 111, 114, 100]), .str (stL [115, 116, 97, 114, 116]), .str (stL [119, 111, 114, 100])] v = some (.str (stL (if st = true then [115, 116, 97, 114, 116] else [119, 111, 114, 100]))) := by
    have : v = 0 ∨ v = 1 ∨ v = 2 := by omega
    rcases this with rfl | rfl | rfl
    · exact ⟨false, by simp⟩
    · exact ⟨true, by simp⟩
    · exact ⟨false, by simp⟩
  simp [hst]
  refine word_k hb fun w b hb hw => ?_
  simp
  exact k ⟨st, w⟩ b hb hw
def rowQ (ps : List Pat) (g : Int) : PyData := .tuple [sD [114, 111, 119], .tuple (ps.map Pat.D), .int g]
/-! which words fit; standings, found greedily -/
def fitB (p : Pat) (w : List Nat) : Bool := if p.st = true then decide (w.take p.w.length = p.w) else decide (w = p.w)
def docD (ws : List (List Nat)) : PyData := .tuple (ws.map sD)
def natsD (l : List Nat) : List PyData := l.map fun i : Nat => .int i
theorem fits_ok {p : Pat} {w : List Nat} {Q} {t : Tg Q} : satH (d_fits [nD (sD w), nD p.D]) Q t = Q (.dat (.bool (fitB p w)), [none, none]) := by
  refine satH_det ?_
  rw [e_fits, b_fits]
  obtain ⟨st, pw⟩ := p
  cases st <;> simp [Pat.D, sD, fitB]
/-! standings: what the laws find by going through all ways -/
def loW (way : List Nat) : Nat := match way.getLast? with
  | none => 0
  | some t => t + 1
def okW (doc : List (List Nat)) (p : Pat) (M : Nat) (way : List Nat) (x : Nat) : Bool := decide (loW way ≤ x) && (match doc[x]? with | some w => fitB p w | none => false) && (match way.head? with | none => true | some s => decide (x < s + M))
def extW (doc : List (List Nat)) (M : Nat) (p : Pat) (way : List Nat) : List (List Nat) := ((List.range doc.length).filter (okW doc p M way)).map fun x => way ++ [x]
def waysF (doc : List (List Nat)) (M : Nat) : List Pat → List (List Nat) → List (List Nat)
  | [], W => W
  | p :: r, W => waysF doc M r (W.flatMap (extW doc M p))
theorem waysF_app {doc : List (List Nat)} {M : Nat} : ∀ (r : List Pat) (A B : List (List Nat)), waysF doc M r (A ++ B) = waysF doc M r A ++ waysF doc M r B
  | [], _, _ => rfl
  | p :: r, A, B => by
    rw [waysF, List.flatMap_append, waysF_app r]
    rfl
theorem loW_snoc {way : List Nat} {x : Nat} : loW (way ++ [x]) = x + 1 := by simp [loW]
/-! how many ways there are -/
theorem filt_sum {N lo : Nat} {f : Nat → Bool} (hf : ∀ x, f x = true → lo ≤ x) : ∀ m, lo + m ≤ N → (((List.range (lo + m)).filter f).map fun x => 2 ^ (N - (x + 1))).sum + 2 ^ (N - (lo + m)) ≤ 2 ^ (N - lo)
  | 0, _ => by
    have : (List.range lo).filter f = [] := List.filter_eq_nil_iff.mpr fun x hx h => by
      have := List.mem_range.mp hx
      have := hf x h
      omega
    rw [Nat.add_zero, this]
    simp
  | m + 1, h => by
    have ih := filt_sum (N := N) hf m (by omega)
    have e : 2 ^ (N - (lo + m)) = 2 ^ (N - (lo + m + 1)) + 2 ^ (N - (lo + m + 1)) := by
      have : N - (lo + m) = (N - (lo + m + 1)) + 1 := by omega
      rw [this, Nat.pow_succ]
      omega
    have hp : 0 < 2 ^ (N - (lo + m + 1)) := Nat.two_pow_pos _
    rw [← Nat.add_assoc, List.range_succ, List.filter_append, List.map_append, List.sum_append]
    by_cases hx : f (lo + m) = true
    · rw [List.filter_cons_of_pos hx]
      simp
      omega
    · rw [List.filter_cons_of_neg hx]
      simp
      omega
def wtW (N : Nat) (W : List (List Nat)) : Nat := (W.map fun w => 2 ^ (N - loW w)).sum
theorem ext_wt {doc : List (List Nat)} {M : Nat} {p : Pat} {way : List Nat} : wtW doc.length (extW doc M p way) ≤ 2 ^ (doc.length - loW way) := by
  unfold wtW extW
  rw [List.map_map]
  have e : ((fun w => 2 ^ (doc.length - loW w)) ∘ fun x => way ++ [x]) = fun x => 2 ^ (doc.length - (x + 1)) := by
    funext x
    simp [loW_snoc]
  rw [e]
  have hf : ∀ x, okW doc p M way x = true → loW way ≤ x := by
    intro x h
    simp only [okW, Bool.and_eq_true, decide_eq_true_eq] at h
    exact h.1.1
  by_cases h : loW way ≤ doc.length
  · have := filt_sum hf (N := doc.length) (doc.length - loW way) (by omega)
    have e2 : loW way + (doc.length - loW way) = doc.length := by omega
    rw [e2] at this
    exact Nat.le_trans (Nat.le_add_right _ _) this
  · have : (List.range doc.length).filter (okW doc p M way) = [] := List.filter_eq_nil_iff.mpr fun x hx h2 => by
      have := List.mem_range.mp hx
      have := hf x h2
      omega
    rw [this]
    simp
theorem flat_wt {doc : List (List Nat)} {M : Nat} {p : Pat} : ∀ W, wtW doc.length (W.flatMap (extW doc M p)) ≤ wtW doc.length W
  | [] => Nat.le_refl _
  | w :: W => by
    have ih := flat_wt (doc := doc) (M := M) (p := p) W
    have := ext_wt (doc := doc) (M := M) (p := p) (way := w)
    unfold wtW at *
    rw [List.flatMap_cons, List.map_append, List.sum_append, List.map_cons, List.sum_cons]
    omega
theorem len_wt {N : Nat} : ∀ W, W.length ≤ wtW N W
  | [] => Nat.zero_le _
  | w :: W => by
    have ih := len_wt (N := N) W
    have : 1 ≤ 2 ^ (N - loW w) := Nat.one_le_two_pow
    unfold wtW at *
    rw [List.map_cons, List.sum_cons, List.length_cons]
    omega
abbrev wD (w : List Nat) : PyData := .tuple (natsD w)
theorem waysF_snoc {doc : List (List Nat)} {M : Nat} {p : Pat} : ∀ (r : List Pat) (W : List (List Nat)), waysF doc M (r ++ [p]) W = (waysF doc M r W).flatMap (extW doc M p)
  | [], W => rfl
  | q :: r, W => by rw [List.cons_append, waysF, waysF, waysF_snoc r]
theorem waysF_wt {doc : List (List Nat)} {M : Nat} : ∀ (r : List Pat) (W : List (List Nat)), wtW doc.length (waysF doc M r W) ≤ wtW doc.length W
  | [], W => Nat.le_refl _
  | q :: r, W => by
    rw [waysF]
    exact Nat.le_trans (waysF_wt r _) (flat_wt W)
theorem ways_len {doc : List (List Nat)} {M : Nat} : ∀ (r : List Pat) (W : List (List Nat)) (n : Nat), (∀ w ∈ W, w.length = n) → ∀ w ∈ waysF doc M r W, w.length = n + r.length
  | [], W, n, h, w, hw => h w hw
  | q :: r, W, n, h, w, hw => by
    rw [waysF] at hw
    have := ways_len r _ (n + 1) (fun v hv => by
      obtain ⟨u, hu, hv⟩ := List.mem_flatMap.mp hv
      obtain ⟨x, _, rfl⟩ := List.mem_map.mp hv
      simp [h u hu]) w hw
    rw [this, List.length_cons]
    omega
theorem alikeA_ints : ∀ (a b : List Nat), PySem.W.alikeAll (natsD a) (natsD b) = true
  | [], _ => rfl
  | _ :: _, [] => rfl
  | x :: a, y :: b => by
    show (PySem.W.alike (.int x) (.int y) && PySem.W.alikeAll (natsD a) (natsD b)) = true
    rw [alikeA_ints a b]
    rfl
theorem shaped_ints (a : List Nat) : SeqAt.shaped (wD a) = true := by
  have h : GoodN 1 (wD a) := good_tuple fun d hd => by
    obtain ⟨x, _, rfl⟩ := List.mem_map.mp hd
    exact good_int _
  unfold SeqAt.shaped
  rw [h.c]
  have := h.d
  simp
  omega
theorem sortOk_ways {ws : List (List Nat)} (h : ∀ w ∈ ws, w ≠ []) : sortOk (ws.map wD) = true := by
  unfold sortOk
  rw [Bool.and_eq_true, Bool.and_eq_true, Bool.or_eq_true]
  refine ⟨⟨?_, Or.inl ?_⟩, ?_⟩
  · rw [List.all_eq_true]
    intro d hd
    rw [List.all_eq_true]
    intro e he
    obtain ⟨a, _, rfl⟩ := List.mem_map.mp hd
    obtain ⟨b, _, rfl⟩ := List.mem_map.mp he
    exact alikeA_ints a b
  · rw [List.all_eq_true]
    intro d hd
    obtain ⟨a, ha, rfl⟩ := List.mem_map.mp hd
    cases a with
    | nil => exact absurd rfl (h _ ha)
    | cons x r => rfl
  · rw [List.all_eq_true]
    intro d hd
    obtain ⟨a, ha, rfl⟩ := List.mem_map.mp hd
    exact shaped_ints a
/-! the walk of the laws' standings -/
theorem l_fits_ok {p : Pat} {w : List Nat} (h1 : p.w.length ≤ 1000) (h2 : w.length ≤ 1000) {Q} {t : Tg Q} : satH (d_l_fits [nD (sD w), nD p.D]) Q t = Q (.dat (.bool (fitB p w)), [none, none]) := by
  refine satH_det ?_
  rw [e_l_fits, b_l_fits]
  obtain ⟨st, pw⟩ := p
  have h1 : pw.length ≤ 1000 := h1
  have e : cutG w none (some (pw.length : Int)) = w.take pw.length := by rw [cutG_to _ (by omega)]; rfl
  cases st
  · simp [Pat.D, sD, fitB]
  · simp [Pat.D, sD, fitB]
    rw [e]
    exact ⟨by omega, by omega, Iff.rfl⟩
def SO (doc : List (List Nat)) (M : Nat) (ps : List Pat) (g : Int) (i : Nat) (ρ : DL.Env) : Prop := ∃ x3 x4 x5 x6, ρ = [nD (docD doc), nD (rowQ ps g), nD (.list ((waysF doc M (ps.take i) [[]]).map wD)), x3, x4, x5, x6]
def SM (doc : List (List Nat)) (M : Nat) (ps : List Pat) (g : Int) (p : Pat) (W : List (List Nat)) (j : Nat) (ρ : DL.Env) : Prop := ∃ x5 x6, ρ = [nD (docD doc), nD (rowQ ps g), nD (.list (W.map wD)), nD p.D, nL (((W.take j).flatMap (extW doc M p)).map wD), x5, x6]
def SI (doc : List (List Nat)) (M : Nat) (ps : List Pat) (g : Int) (p : Pat) (W A : List (List Nat)) (way : List Nat) (x : Nat) (ρ : DL.Env) : Prop := ∃ x6, ρ = [nD (docD doc), nD (rowQ ps g), nD (.list (W.map wD)), nD p.D, nL ((A ++ ((List.range x).filter (okW doc p M way)).map fun x => way ++ [x]).map wD), nD (wD way), x6]
theorem turn_ok {doc : List (List Nat)} {ps : List Pat} {g : Nat} {p : Pat} {W A : List (List Nat)} {way : List Nat} {x : Nat} {x6 : Option Sl} (hx : x < doc.length) (hw : ∀ w ∈ doc, w.length ≤ 1000) (hp : p.w.length ≤ 1000) (hpl : ps.length ≤ 100) (hwl : way.length ≤ 100) (hlen : A.length + (extW doc (ps.length + g) p way).length ≤ 4096) : osat (gN 6 (.int x) [nD (docD doc), nD (rowQ ps g), nD (.list (W.map wD)), nD p.D, nL ((A ++ ((List.range x).filter (okW doc p (ps.length + g) way)).map fun x => way ++ [x]).map wD), nD (wD way), x6]) fun ρ1 => sat ((sIf (dOr (dB (dOp eqD (aV (dCB lenD (lC (aN 5) lN))) (aV (dC (.int 0))))) (dB (dOp gtD (aN 6) (aV (dOp idxD (aN 5) (aV (dUn negD (aV (dC (.int 1))))))))))
    (sIf (dB (dCall (noX d_l_fits) [false, false] (lC (aV (dOp idxD (aN 0) (aN 6))) (lC (aN 3) lN))))
    (sIf (dOr (dB (dOp eqD (aV (dCB lenD (lC (aN 5) lN))) (aV (dC (.int 0))))) (dB (dOp ltD (aV (dOp subD (aN 6) (aV (dOp idxD (aN 5) (aV (dC (.int 0))))))) (aV (dOp addD (aV (dCB lenD (lC (aV (dOp idxD (aN 1) (aV (dC (.int 1))))) lN))) (aV (dOp idxD (aN 1) (aV (dC (.int 2))))))))))
    (sApp 4 (dOp addD (aN 5) (aV (dTup (lC (aN 6) lN)))))
    sNx)
    sNx)
    sNx) ρ1) fun o => ∃ ρ2, o = .nx ρ2 ∧ SI doc (ps.length + g) ps g p W A way (x + 1) ρ2 := by
  have a0 : atI (doc.map sD) (x : Int) = some (sD doc[x]) := atI_map hx
  have hdw := hw _ (List.getElem_mem hx)
  obtain ⟨w, hww⟩ : ∃ w, w = doc[x] := ⟨_, rfl⟩
  rw [← hww] at a0 hdw
  have hgx : doc[x]? = some w := by rw [List.getElem?_eq_getElem hx, hww]
  have hfit : ∀ {Q} {t : Tg Q}, satH (d_l_fits [nD (sD w), nD p.D]) Q t = Q (.dat (.bool (fitB p w)), [none, none]) := l_fits_ok hp hdw
  have hpart : ((List.range x).filter (okW doc p (ps.length + g) way)).length ≤ (extW doc (ps.length + g) p way).length := by
    unfold extW
    rw [List.length_map]
    exact ((List.range_sublist.mpr (Nat.le_of_lt hx)).filter _).length_le
  have hrs : ∀ b : Bool, okW doc p (ps.length + g) way x = b → ((List.range (x + 1)).filter (okW doc p (ps.length + g) way)).map (fun x => way ++ [x]) = ((List.range x).filter (okW doc p (ps.length + g) way)).map (fun x => way ++ [x]) ++ (if b = true then [way ++ [x]] else []) := by
    intro b hb
    rw [List.range_succ, List.filter_append, List.map_append]
    congr 1
    cases b
    · rw [List.filter_cons_of_neg (by rw [hb]; exact Bool.false_ne_true)]
      rfl
    · rw [List.filter_cons_of_pos hb]
      rfl
  obtain ⟨B, hB⟩ : ∃ B, B = A ++ ((List.range x).filter (okW doc p (ps.length + g) way)).map fun x => way ++ [x] := ⟨_, rfl⟩
  have hBl : B.length < 1000000 := by
    rw [hB, List.length_append, List.length_map]
    omega
  have yes : okW doc p (ps.length + g) way x = true → SI doc (ps.length + g) ps g p W A way (x + 1) [nD (docD doc), nD (rowQ ps g), nD (.list (W.map wD)), nD p.D, nL (B.map wD ++ [.tuple (natsD way ++ [.int x])]), nD (wD way), nI x] := by
    intro h
    refine ⟨nI x, ?_⟩
    rw [hrs true h, ← List.append_assoc, ← hB]
    simp [natsD]
  have no : okW doc p (ps.length + g) way x = false → SI doc (ps.length + g) ps g p W A way (x + 1) [nD (docD doc), nD (rowQ ps g), nD (.list (W.map wD)), nD p.D, nL (B.map wD), nD (wD way), nI x] := by
    intro h
    refine ⟨nI x, ?_⟩
    rw [hrs false h, ← List.append_assoc, ← hB]
    simp
  rw [← hB]
  by_cases hway : way = []
  · subst hway
    have ok : okW doc p (ps.length + g) [] x = fitB p w := by simp [okW, loW, hgx]
    rw [ok] at yes no
    simp only [docD, rowQ, natsD, List.map_nil, List.nil_append] at yes no
    cases hf : fitB p w with
    | true =>
      simp [docD, rowQ, natsD, a0, hfit, hf]
      exact ⟨by omega, yes hf⟩
    | false =>
      simp [docD, rowQ, natsD, a0, hfit, hf]
      exact no hf
  · obtain ⟨t, ht⟩ : ∃ t, way.getLast? = some t := ⟨_, List.getLast?_eq_some_getLast hway⟩
    obtain ⟨s, r, rfl⟩ : ∃ s r, way = s :: r := by
      cases way with
      | nil => exact absurd rfl hway
      | cons s r => exact ⟨s, r, rfl⟩
    have ok : okW doc p (ps.length + g) (s :: r) x = (decide (t + 1 ≤ x) && fitB p w && decide (x < s + (ps.length + g))) := by
      simp only [okW, loW, ht, hgx, List.head?_cons]
    rw [ok] at yes no
    have b1 : atI (natsD (s :: r)) (-1) = some (.int t) := atI_last (by rw [natsD, List.getLast?_map, ht]; rfl)
    have b0 : atI (natsD (s :: r)) 0 = some (.int s) := by simp [natsD]
    have hne : ¬ natsD (s :: r) = [] := by simp [natsD]
    have hTl : (natsD (s :: r)).length = (s :: r).length := by simp [natsD]
    obtain ⟨T, hT⟩ : ∃ T, T = natsD (s :: r) := ⟨_, rfl⟩
    simp only [wD] at yes no ⊢
    rw [← hT] at yes no b1 b0 hne hTl ⊢
    simp only [docD, rowQ] at yes no
    by_cases h1 : t < x
    · cases hf : fitB p w with
      | true =>
        by_cases h2 : x < s + (ps.length + g)
        · have h2' : (x : Int) - s < (ps.length : Int) + g := by omega
          simp [docD, rowQ, hne, b1, b0, a0, hfit, hf, h2', h1]
          simp at hTl hwl
          exact ⟨by omega, by omega, yes (by simp [hf, h2]; omega)⟩
        · have h2' : ¬ (x : Int) - s < (ps.length : Int) + g := by omega
          simp [docD, rowQ, hne, b1, b0, a0, hfit, hf, h2', h1]
          exact no (by simp [hf, h2])
      | false =>
        simp [docD, rowQ, hne, b1, b0, a0, hfit, hf, h1]
        exact no (by simp [hf])
    · simp [docD, rowQ, hne, b1, h1]
      exact no (by simp; omega)
theorem mid_ok {A : List (List Nat)} {doc : List (List Nat)} {ps : List Pat} {g : Nat} {p : Pat} {W : List (List Nat)} {way : List Nat} {j : Nat} {x5 x6 : Option Sl} (hway : W[j]? = some way) (hw : ∀ w ∈ doc, w.length ≤ 1000) (hp : p.w.length ≤ 1000) (hpl : ps.length ≤ 100) (hwl : way.length ≤ 100) (hN : doc.length ≤ 12) (hWs : wtW doc.length W ≤ 4096) (hA : A = (W.take j).flatMap (extW doc (ps.length + g) p)) : Go (osat (gN 5 (wD way) [nD (docD doc), nD (rowQ ps g), nD (.list (W.map wD)), nD p.D, nL (((W.take j).flatMap (extW doc (ps.length + g) p)).map wD), x5, x6]) fun ρ1 => sat (sFor (iR1 (lC (aV (dCB lenD (lC (aN 0) lN))) lN)) (gN 6)
    (sIf (dOr (dB (dOp eqD (aV (dCB lenD (lC (aN 5) lN))) (aV (dC (.int 0))))) (dB (dOp gtD (aN 6) (aV (dOp idxD (aN 5) (aV (dUn negD (aV (dC (.int 1))))))))))
    (sIf (dB (dCall (noX d_l_fits) [false, false] (lC (aV (dOp idxD (aN 0) (aN 6))) (lC (aN 3) lN))))
    (sIf (dOr (dB (dOp eqD (aV (dCB lenD (lC (aN 5) lN))) (aV (dC (.int 0))))) (dB (dOp ltD (aV (dOp subD (aN 6) (aV (dOp idxD (aN 5) (aV (dC (.int 0))))))) (aV (dOp addD (aV (dCB lenD (lC (aV (dOp idxD (aN 1) (aV (dC (.int 1))))) lN))) (aV (dOp idxD (aN 1) (aV (dC (.int 2))))))))))
    (sApp 4 (dOp addD (aN 5) (aV (dTup (lC (aN 6) lN)))))
    sNx)
    sNx)
    sNx) ρ1) fun o => ∃ ρ2, o = .nx ρ2 ∧ SM doc (ps.length + g) ps g p W (j + 1) ρ2) := by
  constructor
  have hfl : (W.take (j + 1)).flatMap (extW doc (ps.length + g) p) = (W.take j).flatMap (extW doc (ps.length + g) p) ++ extW doc (ps.length + g) p way := by
    rw [take_succ hway, List.flatMap_append]
    simp
  unfold SM
  rw [hfl]
  have hlen : ((W.take j).flatMap (extW doc (ps.length + g) p)).length + (extW doc (ps.length + g) p way).length ≤ 4096 := by
    have h1 := len_wt (N := doc.length) ((W.take (j + 1)).flatMap (extW doc (ps.length + g) p))
    have h2 := flat_wt (doc := doc) (M := ps.length + g) (p := p) (W.take (j + 1))
    have h3 : wtW doc.length (W.take (j + 1)) ≤ wtW doc.length W := by
      unfold wtW
      rw [List.map_take]
      conv => rhs; rw [← List.take_append_drop (j + 1) (W.map fun w => 2 ^ (doc.length - loW w)), List.sum_append]
      exact Nat.le_add_right _ _
    rw [hfl] at h1 h2
    rw [List.length_append] at h1
    omega
  rw [← hA] at hlen ⊢
  simp [docD, rowQ]
  refine ⟨by omega, sat_for_rngG (SI doc (ps.length + g) ps g p W A way) ⟨x6, by simp [docD, rowQ]⟩ ?_ ?_⟩
  · rintro x ρ hx ⟨x6, rfl⟩
    exact ⟨turn_ok hx hw hp hpl hwl hlen⟩
  · rintro ρ ⟨x6, rfl⟩
    exact ⟨⟨_, rfl, _, _, rfl⟩⟩
theorem l_standings_ok {doc : List (List Nat)} {ps : List Pat} {g : Nat} (hN : doc.length ≤ 12) (hw : ∀ w ∈ doc, w.length ≤ 1000) (hp : ∀ p ∈ ps, p.w.length ≤ 1000) (hpl : 1 ≤ ps.length ∧ ps.length ≤ 100) {Q} {t : Tg Q} : satH (d_l_standings [nD (docD doc), nD (rowQ ps g)]) Q t = Q (.lst (((waysF doc (ps.length + g) ps [[]]).map wD).mergeSort (PySem.W.dataLe false id)), [none, none]) := by
  refine satH_det ?_
  rw [e_l_standings, b_l_standings]
  simp [rowQ]
  refine sat_for_map Pat.D (SO doc (ps.length + g) ps g) ⟨none, none, none, none, rfl⟩ ?_ ?_
  · rintro i p ρ hp' ⟨x3, x4, x5, x6, rfl⟩
    have hpm := List.mem_of_getElem? hp'
    have hwt := waysF_wt (doc := doc) (M := ps.length + g) (ps.take i) [[]]
    have hN2 : (2 : Nat) ^ doc.length ≤ 2 ^ 12 := Nat.pow_le_pow_right (by decide) hN
    have hW0 : wtW doc.length [[]] = 2 ^ doc.length := by simp [wtW, loW]
    obtain ⟨W, hW⟩ : ∃ W, W = waysF doc (ps.length + g) (ps.take i) [[]] := ⟨_, rfl⟩
    have hsn : waysF doc (ps.length + g) (ps.take (i + 1)) [[]] = W.flatMap (extW doc (ps.length + g) p) := by rw [take_succ hp', waysF_snoc, hW]
    unfold SO
    rw [hsn]
    rw [← hW] at hwt ⊢
    have hWs : wtW doc.length W ≤ 4096 := by omega
    simp [rowQ]
    refine sat_for_mapG wD (SM doc (ps.length + g) ps g p W) ⟨x5, x6, rfl⟩ ?_ ?_
    · rintro j way ρ hway ⟨x5, x6, rfl⟩
      have hl := ways_len (doc := doc) (M := ps.length + g) (ps.take i) [[]] 0 (by simp) way (by rw [← hW]; exact List.mem_of_getElem? hway)
      rw [List.length_take] at hl
      have hl100 : way.length ≤ 100 := by omega
      exact mid_ok hway hw (hp p hpm) hpl.2 hl100 hN hWs rfl
    · rintro ρ ⟨x5, x6, rfl⟩
      constructor
      rw [List.take_length]
      simp [rowQ]
  · rintro ρ ⟨x3, x4, x5, x6, rfl⟩
    rw [List.take_length]
    have hne : ∀ w ∈ waysF doc (ps.length + g) ps [[]], w ≠ [] := by
      intro w hw h
      have := ways_len ps [[]] 0 (by simp) w hw
      rw [h] at this
      simp at this
      omega
    have hso := sortOk_ways hne
    obtain ⟨Z, hZ⟩ : ∃ Z, Z = (waysF doc (ps.length + g) ps [[]]).map wD := ⟨_, rfl⟩
    rw [← hZ] at hso ⊢
    simp [hso]
/-! the ways are sorted; the first one is found greedily -/
def LtW (a b : List Nat) : Prop := ∃ p x y ra rb, a = p ++ x :: ra ∧ b = p ++ y :: rb ∧ x < y
theorem lt_ints : ∀ {p ra rb : List Nat} {x y : Nat}, x < y → ¬ ((p ++ y :: rb).map (fun i : Nat => (i : Int)) < (p ++ x :: ra).map (fun i : Nat => (i : Int)))
  | [], ra, rb, x, y, h => by
    simp only [List.nil_append, List.map_cons, List.cons_lt_cons_iff]
    rintro (h1 | ⟨h1, _⟩) <;> omega
  | a :: p, ra, rb, x, y, h => by
    simp only [List.cons_append, List.map_cons, List.cons_lt_cons_iff]
    rintro (h1 | ⟨_, h1⟩)
    · omega
    · exact lt_ints h h1
theorem LtW.le {a b : List Nat} (h : LtW a b) : PySem.W.dataLe false id (wD a) (wD b) = true := by
  obtain ⟨p, x, y, ra, rb, rfl, rfl, hxy⟩ := h
  rw [PySem.W.dataLe_eq]
  show (!PySem.W.dataLt (wD (p ++ y :: rb)) (wD (p ++ x :: ra))) = true
  have e : PySem.W.dataLt (wD (p ++ y :: rb)) (wD (p ++ x :: ra)) = decide ((p ++ y :: rb).map (fun i : Nat => (i : Int)) < (p ++ x :: ra).map (fun i : Nat => (i : Int))) := by
    rw [← PySem.W.dataLt_ints, List.map_map, List.map_map]
    rfl
  rw [e, decide_eq_false (lt_ints hxy)]
  rfl
theorem range_pw : ∀ n : Nat, (List.range n).Pairwise (· < ·) := fun n => List.pairwise_lt_range
theorem ext_pw {doc : List (List Nat)} {M : Nat} {p : Pat} {way : List Nat} : (extW doc M p way).Pairwise LtW := by
  unfold extW
  refine List.Pairwise.map _ (fun a b h => ?_) ((range_pw _).filter _)
  exact ⟨way, a, b, [], [], rfl, rfl, h⟩
theorem flat_pw {doc : List (List Nat)} {M : Nat} {p : Pat} {W : List (List Nat)} (h : W.Pairwise LtW) : (W.flatMap (extW doc M p)).Pairwise LtW := by
  refine List.pairwise_flatMap.mpr ⟨fun a _ => ext_pw, h.imp fun {a b} hab x hx y hy => ?_⟩
  obtain ⟨q, u, v, ra, rb, rfl, rfl, huv⟩ := hab
  obtain ⟨i, _, rfl⟩ := List.mem_map.mp hx
  obtain ⟨j, _, rfl⟩ := List.mem_map.mp hy
  exact ⟨q, u, v, ra ++ [i], rb ++ [j], by simp, by simp, huv⟩
theorem ways_pw {doc : List (List Nat)} {M : Nat} : ∀ (r : List Pat) {W : List (List Nat)}, W.Pairwise LtW → (waysF doc M r W).Pairwise LtW
  | [], _, h => h
  | p :: r, _, h => by
    rw [waysF]
    exact ways_pw r (flat_pw h)
theorem ways_sorted {doc : List (List Nat)} {M : Nat} {ps : List Pat} : ((waysF doc M ps [[]]).map wD).mergeSort (PySem.W.dataLe false id) = (waysF doc M ps [[]]).map wD := by
  refine List.mergeSort_of_pairwise (List.Pairwise.map _ (fun a b h => ?_) (ways_pw ps (List.pairwise_singleton _ _)))
  exact h.le
structure Doc (doc : List (List Nat)) : Prop where
  l : doc.length ≤ 12
  w : ∀ w ∈ doc, w.length ≤ 12
def docs0 : List (List Nat) := [[97], [97, 98], [97, 98, 99], [98], [98, 97], [109, 105, 108, 108], [109, 105, 108, 108, 115], [119, 101, 105, 114], [48], [97, 48], [122, 57], [98, 97, 98], [99], [98]]
theorem docs0_ok : ∀ w ∈ docs0, w.length ≤ 12 := by decide +kernel
theorem document_k {b : List PyData} {m : Int} (hb : Box b) (hm : 0 ≤ m ∧ m ≤ 12) {Q} {t : Tg Q} (k : ∀ doc b', Box b' → Doc doc → Q (.dat (docD doc), [some (.lst b'), none])) : satH (d_l_document [some (.lst b), nI m]) Q t := by
  rw [satH_eq, e_l_document, b_l_document]
  simp
  refine draw_k hb (by omega) fun n b hb n0 n1 => ?_
  simp
  refine ⟨by omega, sat_for_rngG (fun i ρ => ∃ (b : List PyData) (doc : List (List Nat)) (x3 : Option Sl), ρ = [some (.lst b), nI m, nL (doc.map sD), x3] ∧ Box b ∧ (∀ w ∈ doc, w.length ≤ 12) ∧ doc.length = i) ⟨b, [], none, rfl, hb, by simp, rfl⟩ ?_ ?_⟩
  · rintro i ρ hi ⟨b, doc, x3, rfl, hb, hw, hl⟩
    constructor
    simp
    refine draw_k hb (by decide) fun u b hb u0 u1 => ?_
    obtain ⟨w, hw', a1⟩ := atI_mapV (f := sD) (l := docs0) u0 u1
    have hwl := docs0_ok w hw'
    simp only [docs0, List.map_cons, List.map_nil, sD] at a1
    simp [a1]
    refine ⟨by omega, b, doc ++ [w], ⟨rfl, by simp [sD]⟩, hb, fun x hx => ?_, by simp [hl]⟩
    simp at hx
    rcases hx with hx | rfl
    · exact hw x hx
    · exact hwl
  · rintro ρ ⟨b, doc, x3, rfl, hb, hw, hl⟩
    constructor
    simp
    exact k doc b hb ⟨by omega, hw⟩
end W
namespace W
open PySem L2 DL
theorem filt_lo {lo : Nat} {g : Nat → Bool} : ∀ n, (List.range n).filter (fun x => decide (lo ≤ x) && g x) = (List.range' lo (n - lo)).filter g
  | 0 => by simp
  | n + 1 => by
    rw [List.range_succ, List.filter_append, filt_lo n]
    by_cases h : lo ≤ n
    · have e : n + 1 - lo = (n - lo) + 1 := by omega
      have e2 : lo + 1 * (n - lo) = n := by omega
      rw [e, List.range'_concat, List.filter_append, e2]
      congr 1
      simp [List.filter_cons, h]
    · have e : n + 1 - lo = 0 := by omega
      have e1 : n - lo = 0 := by omega
      rw [e, e1]
      simp [List.filter_cons, h]
theorem filt_hi {hi : Nat} {f : Nat → Bool} (h : ∀ x, f x = true → x < hi) : ∀ k, (List.range (hi + k)).filter f = (List.range hi).filter f
  | 0 => rfl
  | k + 1 => by
    rw [← Nat.add_assoc, List.range_succ, List.filter_append, filt_hi h k]
    have : f (hi + k) = false := by
      cases e : f (hi + k) with
      | false => rfl
      | true => have := h _ e; omega
    simp [List.filter_cons, this]
def fitAt (doc : List (List Nat)) (p : Pat) (x : Nat) : Bool := match doc[x]? with
  | some w => fitB p w
  | none => false
def hiW (n M : Nat) (way : List Nat) : Nat := match way.head? with
  | none => n
  | some s => min n (s + M)
theorem ext_range {doc : List (List Nat)} {M : Nat} {p : Pat} {way : List Nat} : extW doc M p way = ((List.range' (loW way) (hiW doc.length M way - loW way)).filter (fitAt doc p)).map fun x => way ++ [x] := by
  unfold extW
  congr 1
  have hle : hiW doc.length M way ≤ doc.length := by
    unfold hiW
    split <;> omega
  obtain ⟨k, hk⟩ : ∃ k, doc.length = hiW doc.length M way + k := ⟨doc.length - hiW doc.length M way, by omega⟩
  have e1 : (List.range doc.length).filter (okW doc p M way) = (List.range doc.length).filter (fun x => decide (x < hiW doc.length M way) && (decide (loW way ≤ x) && fitAt doc p x)) := by
    apply List.filter_congr
    intro x hx
    have hx := List.mem_range.mp hx
    unfold okW hiW fitAt
    cases way.head? with
    | none => simp [hx]
    | some s =>
      have : (x < min doc.length (s + M)) ↔ x < s + M := by omega
      simp only [this]
      cases decide (loW way ≤ x) <;> cases decide (x < s + M) <;> first | (simp; done) | (simp; rfl)
  rw [e1]
  generalize hiW doc.length M way = hi at hk hle
  rw [hk, filt_hi (fun x hx => by simp only [Bool.and_eq_true, decide_eq_true_eq] at hx; exact hx.1), ← filt_lo]
  apply List.filter_congr
  intro x hx
  have hx := List.mem_range.mp hx
  simp [hx]
def PO (doc : List (List Nat)) (ps : List Pat) (g : Nat) (i : Nat) (ρ : DL.Env) : Prop := ∃ x5 x6 x7 x8 x9 x10, ρ = [nD (docD doc), nD (rowQ ps g), nD (.tuple (ps.map Pat.D)), nI ((ps.length : Int) - 1 + g), nD (.list ((waysF doc (ps.length + g) (ps.take i) [[]]).map wD)), x5, x6, x7, x8, x9, x10]
def PM (doc : List (List Nat)) (ps : List Pat) (g : Nat) (p : Pat) (W : List (List Nat)) (j : Nat) (ρ : DL.Env) : Prop := ∃ x7 x8 x9 x10, ρ = [nD (docD doc), nD (rowQ ps g), nD (.tuple (ps.map Pat.D)), nI ((ps.length : Int) - 1 + g), nD (.list (W.map wD)), nD p.D, nL (((W.take j).flatMap (extW doc (ps.length + g) p)).map wD), x7, x8, x9, x10]
def PI (doc : List (List Nat)) (ps : List Pat) (g : Nat) (p : Pat) (W A : List (List Nat)) (way : List Nat) (lo hi : Int) (k : Nat) (ρ : DL.Env) : Prop := ∃ x10, ρ = [nD (docD doc), nD (rowQ ps g), nD (.tuple (ps.map Pat.D)), nI ((ps.length : Int) - 1 + g), nD (.list (W.map wD)), nD p.D, nL ((A ++ ((List.range' (loW way) k).filter (fitAt doc p)).map fun x => way ++ [x]).map wD), nD (wD way), nI lo, nI hi, x10]
theorem inner_ok {X : XW} {A : List (List Nat)} {doc : List (List Nat)} {ps : List Pat} {g : Nat} {p : Pat} {W : List (List Nat)} {way : List Nat} {x10 : Option Sl} {lo hi : Int} (hlo : lo = (loW way : Int)) (hhi : hi = (hiW doc.length (ps.length + g) way : Int)) (hN : doc.length ≤ 12) (hlen : A.length + (extW doc (ps.length + g) p way).length ≤ 4096) (hwl : way.length ≤ 100)
    {Q : Out → Prop} {t : Tg Q} (q : ∀ x10, Q (.nx [nD (docD doc), nD (rowQ ps g), nD (.tuple (ps.map Pat.D)), nI ((ps.length : Int) - 1 + g), nD (.list (W.map wD)), nD p.D, nL ((A ++ extW doc (ps.length + g) p way).map wD), nD (wD way), nI lo, nI hi, x10])) :
    satH (forL (gN 10)
    (sIf (dB (dCall (noX d_fits) [false, false] (lC (aV (dOp idxD (aN 0) (aN 10))) (lC (aN 5) lN))))
    (sApp 6 (dOp addD (aN 7) (aV (dTup (lC (aN 10) lN)))))
    sNx) (rangeD lo (hi - lo).toNat) [nD (docD doc), nD (rowQ ps g), nD (.tuple (ps.map Pat.D)), nI ((ps.length : Int) - 1 + g), nD (.list (W.map wD)), nD p.D, nL (A.map wD), nD (wD way), nI lo, nI hi, x10]) Q t := by
  have hle : hiW doc.length (ps.length + g) way ≤ doc.length := by
    unfold hiW
    split <;> omega
  have hn : (hi - lo).toNat = hiW doc.length (ps.length + g) way - loW way := by omega
  have hext := ext_range (doc := doc) (M := ps.length + g) (p := p) (way := way)
  refine sat_for_rng (PI doc ps g p W A way lo hi) ⟨x10, by simp⟩ ?_ ?_
  · rintro k ρ hk ⟨x10, rfl⟩
    have hx : loW way + k < doc.length := by omega
    have a0 : atI (doc.map sD) (lo + (k : Int)) = some (sD doc[loW way + k]) := by
      have := atI_map (f := sD) hx
      rw [← this]
      congr 1
      omega
    have hf : fitAt doc p (loW way + k) = fitB p doc[loW way + k] := by
      unfold fitAt
      rw [List.getElem?_eq_getElem hx]
    obtain ⟨w, hw⟩ : ∃ w, w = doc[loW way + k] := ⟨_, rfl⟩
    rw [← hw] at a0 hf
    have hs : ∀ b : Bool, fitB p w = b → ((List.range' (loW way) (k + 1)).filter (fitAt doc p)).map (fun x => way ++ [x]) = ((List.range' (loW way) k).filter (fitAt doc p)).map (fun x => way ++ [x]) ++ (if b = true then [way ++ [loW way + k]] else []) := by
      intro b hb
      rw [List.range'_concat, List.filter_append, List.map_append]
      congr 1
      have e : loW way + 1 * k = loW way + k := by omega
      rw [e]
      cases b
      · rw [List.filter_cons_of_neg (by rw [hf, hb]; exact Bool.false_ne_true)]
        rfl
      · rw [List.filter_cons_of_pos (by rw [hf, hb])]
        rfl
    have hpart : ((List.range' (loW way) k).filter (fitAt doc p)).length ≤ (extW doc (ps.length + g) p way).length := by
      rw [hext, List.length_map]
      have : List.Sublist (List.range' (loW way) k) (List.range' (loW way) (hiW doc.length (ps.length + g) way - loW way)) := List.range'_sublist_right.mpr (by omega)
      exact (this.filter _).length_le
    obtain ⟨B, hB⟩ : ∃ B, B = A ++ ((List.range' (loW way) k).filter (fitAt doc p)).map fun x => way ++ [x] := ⟨_, rfl⟩
    have hBl : B.length < 1000000 := by
      rw [hB, List.length_append, List.length_map]
      omega
    unfold PI
    rw [← hB]
    have eL : lo + (k : Int) = ((loW way + k : Nat) : Int) := by omega
    cases hb : fitB p w with
    | true =>
      have := hs true hb
      rw [this, ← List.append_assoc, ← hB]
      simp [docD, rowQ, a0, fits_ok, hb, natsD]
      exact ⟨by omega, hBl, hlo⟩
    | false =>
      have := hs false hb
      rw [this, ← List.append_assoc, ← hB]
      simp [docD, rowQ, a0, fits_ok, hb, natsD]
  · rintro ρ ⟨x10, rfl⟩
    rw [hn]
    have := q x10
    rw [hext] at this
    exact this
theorem smid_ok {X : XW} {A : List (List Nat)} {doc : List (List Nat)} {ps : List Pat} {g : Nat} {p : Pat} {W : List (List Nat)} {way : List Nat} {j : Nat} {x7 x8 x9 x10 : Option Sl} (hway : W[j]? = some way) (hpl : 1 ≤ ps.length ∧ ps.length ≤ 100) (hwl : way.length ≤ 100) (hlo : loW way ≤ 1000) (hN : doc.length ≤ 12) (hWs : wtW doc.length W ≤ 4096) (hA : A = (W.take j).flatMap (extW doc (ps.length + g) p)) :
    Go (osat (gN 7 (wD way) [nD (docD doc), nD (rowQ ps g), nD (.tuple (ps.map Pat.D)), nI ((ps.length : Int) - 1 + g), nD (.list (W.map wD)), nD p.D, nL (A.map wD), x7, x8, x9, x10]) fun ρ1 => sat ((sSeq (sDat 8 (dC (.int 0)))
    (sSeq (sDat 9 (dCB lenD (lC (aN 0) lN)))
    (sSeq (sIf (dB (dOp gtD (aV (dCB lenD (lC (aN 7) lN))) (aV (dC (.int 0)))))
    (sSeq (sDat 8 (dOp addD (aV (dOp idxD (aN 7) (aV (dUn negD (aV (dC (.int 1))))))) (aV (dC (.int 1)))))
    (sDat 9 (dCB minD (lC (aN 9) (lC (aV (dOp addD (aV (dOp addD (aV (dOp idxD (aN 7) (aV (dC (.int 0))))) (aN 3))) (aV (dC (.int 1))))) lN)))))
    sNx)
    (sFor (iR2 (lC (aN 8) (lC (aN 9) lN))) (gN 10)
    (sIf (dB (dCall (noX d_fits) [false, false] (lC (aV (dOp idxD (aN 0) (aN 10))) (lC (aN 5) lN))))
    (sApp 6 (dOp addD (aN 7) (aV (dTup (lC (aN 10) lN)))))
    sNx))))) ρ1) fun o => ∃ ρ2, o = .nx ρ2 ∧ PM doc ps g p W (j + 1) ρ2) := by
  constructor
  have hfl : (W.take (j + 1)).flatMap (extW doc (ps.length + g) p) = (W.take j).flatMap (extW doc (ps.length + g) p) ++ extW doc (ps.length + g) p way := by
    rw [take_succ hway, List.flatMap_append]
    simp
  have hlen : ((W.take j).flatMap (extW doc (ps.length + g) p)).length + (extW doc (ps.length + g) p way).length ≤ 4096 := by
    have h1 := len_wt (N := doc.length) ((W.take (j + 1)).flatMap (extW doc (ps.length + g) p))
    have h2 := flat_wt (doc := doc) (M := ps.length + g) (p := p) (W.take (j + 1))
    have h3 : wtW doc.length (W.take (j + 1)) ≤ wtW doc.length W := by
      unfold wtW
      rw [List.map_take]
      conv => rhs; rw [← List.take_append_drop (j + 1) (W.map fun w => 2 ^ (doc.length - loW w)), List.sum_append]
      exact Nat.le_add_right _ _
    rw [hfl] at h1 h2
    rw [List.length_append] at h1
    omega
  rw [← hA] at hlen
  by_cases hway0 : way = []
  · subst hway0
    have := inner_ok (X := X) (W := W) (way := []) (x10 := x10) (lo := 0) (hi := doc.length) rfl rfl hN hlen (by simp) (g := g) (ps := ps) (Q := fun o => ∃ ρ2, o = .nx ρ2 ∧ PM doc ps g p W (j + 1) ρ2) (t := ⟨⟩) (fun x10 => ⟨_, rfl, _, _, _, _, by rw [hfl, ← hA]⟩)
    simp [docD, rowQ, natsD] at this ⊢
    exact ⟨by omega, this⟩
  · obtain ⟨t, ht⟩ : ∃ t, way.getLast? = some t := ⟨_, List.getLast?_eq_some_getLast hway0⟩
    obtain ⟨s, r, rfl⟩ : ∃ s r, way = s :: r := by
      cases way with
      | nil => exact absurd rfl hway0
      | cons s r => exact ⟨s, r, rfl⟩
    have b1 : atI (natsD (s :: r)) (-1) = some (.int t) := atI_last (by rw [natsD, List.getLast?_map, ht]; rfl)
    have b0 : atI (natsD (s :: r)) 0 = some (.int s) := by simp [natsD]
    have hTl : (natsD (s :: r)).length = r.length + 1 := by simp [natsD]
    have e1 : loW (s :: r) = t + 1 := by simp only [loW, ht]
    rw [e1] at hlo
    have e2 : hiW doc.length (ps.length + g) (s :: r) = min doc.length (s + (ps.length + g)) := rfl
    obtain ⟨hi, hhi⟩ : ∃ hi : Int, hi = if (s : Int) + ((ps.length : Int) - 1 + g) + 1 < (doc.length : Int) then (s : Int) + ((ps.length : Int) - 1 + g) + 1 else (doc.length : Int) := ⟨_, rfl⟩
    have hhi2 : hi = (hiW doc.length (ps.length + g) (s :: r) : Int) := by
      rw [hhi, e2]
      split <;> omega
    have := inner_ok (X := X) (W := W) (way := s :: r) (x10 := x10) (lo := (t : Int) + 1) (hi := hi) (by rw [e1]; omega) hhi2 hN hlen hwl (g := g) (ps := ps) (Q := fun o => ∃ ρ2, o = .nx ρ2 ∧ PM doc ps g p W (j + 1) ρ2) (t := ⟨⟩) (fun x10 => ⟨_, rfl, _, _, _, _, by rw [hfl, ← hA]⟩)
    simp only [wD] at this ⊢
    obtain ⟨T, hT⟩ : ∃ T, T = natsD (s :: r) := ⟨_, rfl⟩
    rw [← hT] at this b1 b0 hTl ⊢
    simp [docD, rowQ, hTl, b1, b0, ← hhi] at this ⊢
    exact ⟨⟨⟨by omega, by omega⟩, by omega, by omega⟩, this⟩
theorem ways_lo {doc : List (List Nat)} {M : Nat} : ∀ (r : List Pat) (W : List (List Nat)), (∀ w ∈ W, loW w ≤ doc.length) → ∀ w ∈ waysF doc M r W, loW w ≤ doc.length
  | [], W, h, w, hw => h w hw
  | q :: r, W, h, w, hw => by
    rw [waysF] at hw
    refine ways_lo r _ (fun v hv => ?_) w hw
    obtain ⟨u, hu, hv⟩ := List.mem_flatMap.mp hv
    obtain ⟨x, hx, rfl⟩ := List.mem_map.mp hv
    rw [loW_snoc]
    exact List.mem_range.mp (List.mem_filter.mp hx).1
theorem standings_x {X : XW} {doc : List (List Nat)} {ps : List Pat} {g : Nat} (hN : doc.length ≤ 12) (hpl : 1 ≤ ps.length ∧ ps.length ≤ 100) {Q} {t : Tg Q} (q : (waysF doc (ps.length + g) ps [[]]).length ≤ 500 → Q (.dat (.list ((waysF doc (ps.length + g) ps [[]]).map wD)), [none, none]))
    (e : 500 < (waysF doc (ps.length + g) ps [[]]).length → X.E ⟨Str.ofString "TooMany", some [(Str.ofString "limit", .int 500)]⟩ [none, none]) : satH (d_standings [nD (docD doc), nD (rowQ ps g)]) Q t := by
  rw [satH_eq, ex_standings, b_standings]
  simp [rowQ]
  refine sat_for_map Pat.D (PO doc ps g) ⟨none, none, none, none, none, none, by simp [rowQ, waysF, natsD]⟩ ?_ ?_
  · rintro i p ρ hp' ⟨x5, x6, x7, x8, x9, x10, rfl⟩
    have hpm := List.mem_of_getElem? hp'
    have hwt := waysF_wt (doc := doc) (M := ps.length + g) (ps.take i) [[]]
    have hN2 : (2 : Nat) ^ doc.length ≤ 2 ^ 12 := Nat.pow_le_pow_right (by decide) hN
    have hW0 : wtW doc.length [[]] = 2 ^ doc.length := by simp [wtW, loW]
    have hlos := ways_lo (doc := doc) (M := ps.length + g) (ps.take i) [[]] (by simp [loW])
    have hlens := ways_len (doc := doc) (M := ps.length + g) (ps.take i) [[]] 0 (by simp)
    obtain ⟨W, hW⟩ : ∃ W, W = waysF doc (ps.length + g) (ps.take i) [[]] := ⟨_, rfl⟩
    have hsn : waysF doc (ps.length + g) (ps.take (i + 1)) [[]] = W.flatMap (extW doc (ps.length + g) p) := by rw [take_succ hp', waysF_snoc, hW]
    unfold PO
    rw [hsn]
    rw [← hW] at hwt hlos hlens ⊢
    have hWs : wtW doc.length W ≤ 4096 := by omega
    simp [rowQ]
    refine sat_for_mapG wD (PM doc ps g p W) ⟨x7, x8, x9, x10, by simp [rowQ]⟩ ?_ ?_
    · rintro j way ρ hway ⟨x7, x8, x9, x10, rfl⟩
      have hl := hlens way (List.mem_of_getElem? hway)
      rw [List.length_take] at hl
      have hl100 : way.length ≤ 100 := by omega
      have hlo := hlos way (List.mem_of_getElem? hway)
      exact smid_ok hway hpl hl100 (by omega) hN hWs rfl
    · rintro ρ ⟨x7, x8, x9, x10, rfl⟩
      constructor
      rw [List.take_length]
      simp [rowQ]
  · rintro ρ ⟨x5, x6, x7, x8, x9, x10, rfl⟩
    rw [List.take_length]
    obtain ⟨W, hW⟩ : ∃ W, W = waysF doc (ps.length + g) ps [[]] := ⟨_, rfl⟩
    rw [← hW] at q e ⊢
    by_cases h : W.length ≤ 500
    · have h2 : ¬ (500 : Int) < W.length := by omega
      simp [h2]
      simpa using q h
    · have h2 : (500 : Int) < W.length := by omega
      simp [h2, excA]
      simpa using e (by omega)
theorem told_ok {doc : List (List Nat)} {ps : List Pat} {g : Nat} (hN : doc.length ≤ 12) (hpl : 1 ≤ ps.length ∧ ps.length ≤ 100) {Q} {t : Tg Q} : satH (d_l_told [nD (docD doc), nD (rowQ ps g)]) Q t = Q (.dat (if 500 < (waysF doc (ps.length + g) ps [[]]).length then .int 500 else .list ((waysF doc (ps.length + g) ps [[]]).map wD)), [none, none]) := by
  refine satH_det ?_
  rw [e_l_told, b_l_told]
  have hd : docD doc = .tuple (doc.map sD) := rfl
  obtain ⟨D, hD⟩ : ∃ D, D = docD doc := ⟨_, rfl⟩
  obtain ⟨R, hR⟩ : ∃ R, R = rowQ ps g := ⟨_, rfl⟩
  have st := fun {X : XW} {Q} {t : Tg Q} => standings_x (X := X) (g := g) hN hpl (Q := Q) (t := t)
  rw [← hD, ← hR] at st ⊢
  simp
  refine st (fun h => ?_) fun h => ?_
  · rw [if_neg (by omega)]
    simp
  · rw [if_pos h]
    simp [tryK, isCaught, xfE, clrO]
theorem sm_ways {n : Nat} (W : List (List Nat)) (h : W.length ≤ 1000000) (hw : ∀ w ∈ W, w.length ≤ 1000) : Sm (n + 2) (.list (W.map wD)) := by
  refine ⟨by rw [List.length_map]; omega, fun d hd => ?_⟩
  obtain ⟨w, hw', rfl⟩ := List.mem_map.mp hd
  have := hw w hw'
  refine ⟨by unfold natsD; rw [List.length_map]; omega, fun d hd => ?_⟩
  obtain ⟨i, _, rfl⟩ := List.mem_map.mp hd
  cases n <;> exact True.intro
theorem tail_ok {ns : List Int} {doc : List (List Nat)} {ps : List Pat} {b : List PyData} (hd : Doc doc) (hp : ∀ p ∈ ps, Wd p.w) (hl : 1 ≤ ps.length ∧ ps.length ≤ 6) (hb : Box b) {x4 x5 x6 x7 x8 : Option Sl} :
    sat (t_law_4 [some (.dat (scrD ns)), some (.lst b), nD (docD doc), nD (.tuple (ps.map Pat.D)), x4, x5, x6, x7, x8]) (endS [false] fun p => p.1 = .dat (.bool true)) := by
  rw [t_law_4]
  simp
  refine draw_k hb (by decide) fun g b hb g0 g1 => ?_
  obtain ⟨c, rfl⟩ := Int.eq_ofNat_of_zero_le g0
  have hdl := hd.l
  have hlen := len_wt (N := doc.length) (waysF doc (ps.length + c) ps [[]])
  have hwt := waysF_wt (doc := doc) (M := ps.length + c) ps [[]]
  have hN2 : (2 : Nat) ^ doc.length ≤ 2 ^ 12 := Nat.pow_le_pow_right (by decide) hdl
  have hW0 : wtW doc.length [[]] = 2 ^ doc.length := by simp [wtW, loW]
  have hlens := ways_len (doc := doc) (M := ps.length + c) ps [[]] 0 (by simp)
  have l1 := fun {Q} {t : Tg Q} => l_standings_ok (doc := doc) (ps := ps) (g := c) hdl (fun w hw => by have := hd.w w hw; omega) (fun x hx => by have := (hp x hx).l2; omega) (by omega) (Q := Q) (t := t)
  have l2 := fun {Q} {t : Tg Q} => told_ok (doc := doc) (ps := ps) (g := c) hdl (by omega) (Q := Q) (t := t)
  have l3 : ∀ w ∈ doc, ∀ p ∈ ps, (∀ {Q} {t : Tg Q}, satH (d_l_fits [nD (sD w), nD p.D]) Q t = Q (.dat (.bool (fitB p w)), [none, none])) := fun w hw p hpp => l_fits_ok (by have := (hp p hpp).l2; omega) (by have := hd.w w hw; omega)
  have l4 : ∀ v : Bool, (∀ {Q} {t : Tg Q}, satH (d_l_same 40 [nB v, nB v]) Q t = Q (.dat (.bool true), [none, none])) := fun v {Q t} => same_ok (n := 39) (d := .bool v) (by unfold Sm; trivial)
  rw [ways_sorted] at l1
  obtain ⟨W, hW⟩ : ∃ W, W = waysF doc (ps.length + c) ps [[]] := ⟨_, rfl⟩
  rw [← hW] at l1 l2 hlen hwt hlens
  have l5 : ∀ {Q} {t : Tg Q}, satH (d_l_same 40 [nD (.list (W.map wD)), nD (.list (W.map wD))]) Q t = Q (.dat (.bool true), [none, none]) := same_ok (n := 39) (sm_ways (n := 37) W (by omega) fun w hw => by rw [hlens w hw]; omega)
  have l6 : ∀ {Q} {t : Tg Q}, satH (d_l_same 40 [nI 500, nI 500]) Q t = Q (.dat (.bool true), [none, none]) := same_ok (n := 39) (d := .int 500) (by unfold Sm; trivial)
  simp [t_law_5, docD]
  refine sat_for_map sD (fun i ρ => ∃ x5 x6, ρ = [some (.dat (scrD ns)), some (.lst b), nD (docD doc), nD (.tuple (ps.map Pat.D)), nD (rowQ ps c), x5, x6, x7, x8]) ⟨x5, x6, by simp [docD, rowQ, sD]⟩ ?_ ?_
  · rintro i w ρ hw ⟨x5, x6, rfl⟩
    have hwm := List.mem_of_getElem? hw
    simp
    refine sat_for_map Pat.D (fun i ρ => ∃ x6, ρ = [some (.dat (scrD ns)), some (.lst b), nD (docD doc), nD (.tuple (ps.map Pat.D)), nD (rowQ ps c), nD (sD w), x6, x7, x8]) ⟨x6, rfl⟩ ?_ ?_
    · rintro j p ρ hp' ⟨x6, rfl⟩
      have hpm := List.mem_of_getElem? hp'
      simp [fits_ok, l3 w hwm p hpm, l4]
    · rintro ρ ⟨x6, rfl⟩
      simp
  · rintro ρ ⟨x5, x6, rfl⟩
    simp [t_law_6]
    rw [l1]
    simp [t_law_7]
    by_cases h5 : 500 < W.length
    · have h6 : (500 : Int) < W.length := by omega
      simp [h6, t_law_8]
      rw [l2]
      simp [h5]
      rw [l6]
      simp
    · have h6 : ¬ (500 : Int) < W.length := by omega
      simp [h6, t_law_8]
      rw [l2]
      simp [h5]
      rw [l5]
      simp
theorem rep_pat (n : Nat) (p : Pat) : (List.replicate n [p.D]).flatten = (List.replicate n p).map Pat.D := by
  induction n with
  | zero => rfl
  | succ n ih => rw [List.replicate_succ, List.flatten_cons, ih, List.replicate_succ]; rfl
theorem law_true (ns : List Int) (h63 : ns.length ≤ 63) (hb : ∀ z ∈ ns, Builtin.Int.intBits z ≤ 1048576) : ∃ ρ, d_law [some (.dat (scrD ns))] = .ok (.dat (.bool true), ρ) := by
  have main : sat (d_law [some (.dat (scrD ns))]) fun p => p.1 = .dat (.bool true) := by
    rw [e_law, b_law]
    simp
    refine satH_mono (digits_ok ns) ?_
    rintro p ⟨ds, rfl, hds⟩
    have hb : Box [.list (ds.map .int), .int 0] := ⟨ds, 0, by omega, hds, rfl⟩
    simp [t_law_1]
    refine document_k hb (by decide) fun doc b hb hd => ?_
    simp [t_law_2]
    refine draw_k hb (by decide) fun m b hb m0 m1 => ?_
    simp
    refine ⟨by omega, by omega, sat_lc (fun i acc ρ => ∃ (b' : List PyData) (ps : List Pat), acc = ps.map Pat.D ∧ ps.length = i ∧ (∀ p ∈ ps, Wd p.w) ∧ Box b' ∧ wipeE ρ [8] = [some (.dat (scrD ns)), some (.lst b'), nD (docD doc), none, none, none, none, none, none]) ⟨b, [], rfl, rfl, by simp, hb, rfl⟩ ?_ ?_⟩
    · rintro i d acc ρ hd ⟨b, ps, rfl, hl, hp, hb, hW⟩
      rw [hW]
      simp
      refine pattern_k hb fun p b hb hp' => ?_
      simp
      refine ⟨b, ps ++ [p], by simp, by simp [hl], fun x hx => ?_, hb, rfl⟩
      simp at hx
      rcases hx with hx | rfl
      · exact hp x hx
      · exact hp'
    · rintro acc ρ ⟨b, ps, rfl, hl, hp, hb, hW⟩
      rw [rangeD_len] at hl
      rw [hW]
      simp [t_law_3]
      refine draw_k hb (by decide) fun v b hb v0 v1 => ?_
      by_cases hv : v = 0
      · simp [hv]
        refine draw_k hb (by decide) fun k b hb k0 k1 => ?_
        simp
        have hp2 : ∀ p ∈ List.replicate (1 + k).toNat (⟨true, [97]⟩ : Pat), Wd p.w := by
          intro p hp
          rw [List.eq_of_mem_replicate hp]
          exact ⟨by simp [chW], by simp, by simp⟩
        have hd2 : Doc [[97], [97, 98], [97], [97, 98], [97], [97, 98], [97], [97, 98], [97], [97, 98], [97], [97, 98]] := ⟨by decide, by simp⟩
        have := tail_ok (ns := ns) hd2 hp2 (by rw [List.length_replicate]; omega) hb (x4 := none) (x5 := none) (x6 := none) (x7 := none) (x8 := none)
        rw [List.map_replicate] at this
        first | exact this | exact ⟨by omega, this⟩ | exact ⟨by omega, by omega, this⟩
      · simp [hv]
        exact tail_ok hd hp (by omega) hb
  obtain ⟨⟨s, ρ⟩, e, h⟩ := sat_iff.mp main
  simp at h
  exact ⟨ρ, by rw [e, h]⟩
end W
open PySem PySem.W PyProof.Rows
set_option maxRecDepth 100000 in
set_option maxHeartbeats 0 in
theorem PySem.Challenge.cw_timeshelf_k09_standings_of_rows_holds : PySem.Challenge.rw_timeshelf_k09_standings_of_rows.Holds := by
  w_on; o_law; k_head; (case hw => w_witness2)
  k_fill
  refine L2.walk_ofB (l := PySem.Challenge.rw_timeshelf_k09_standings_of_rows) (n := 63) (k := 42) (x := "_law_script") (CX := fun _ => L2.CX0) (sp := fun w => DL.spLaw _) rfl (by decide) rfl ⟨rfl, by decide, by decide⟩ (fun w h Y => PySem.W.kIn_of Y) ?F (fun _ _ a ns hl hb _ hS => ⟨a, ns, rfl, hS, hl, hb, fun _ => rfl⟩) (fun _ _ _ _ _ h => h)
  case F =>
    intro w mg fa h KX G hmg
    refine' W.all_mk KX G hmg ?a0 ?l0 ?c0 ?k0 ?a1 ?l1 ?c1 ?k1 ?a2 ?l2 ?c2 ?k2 ?a3 ?l3 ?c3 ?k3 ?a4 ?l4 ?c4 ?k4 ?a5 ?l5 ?c5 ?k5 ?a6 ?l6 ?c6 ?k6 ?a7 ?l7 ?c7 ?k7 ?a8 ?l8 ?c8 ?k8 ?a9 ?l9 ?c9 ?k9 ?a10 ?l10 ?c10 ?k10 ?a11 ?l11 ?c11 ?k11 ?a12 ?l12 ?c12 ?k12 ?z0 ?z1 ?z2 ?z3 ?z4 ?z5 ?z6 ?z7 ?z8 ?z9 ?v0 ?xtop ?xsup ?xopq ?xa_TooMany ?xcls_TooMany ?xrve_TooMany ?xsa_TooMany ?xexc_TooMany ?xtyc_TooMany ?xkc_TooMany ?xsup_TooMany ?xsub_TooMany ?xslf_TooMany ?xii_TooMany ?xti_TooMany ?xlf_TooMany ?xcdi_TooMany ?xlcc_TooMany ?xlco_TooMany ?xv2_TooMany ?xfe_TooMany ?xga_TooMany ?xgg_TooMany ?xhdc_TooMany ?xf_TooMany_limit ?xm_TooMany_TooMany W.law_true
    (case a0 => k_is); (case l0 => k_is); (case c0 => k_is); (case k0 => k_is); (case a1 => k_is); (case l1 => k_is); (case c1 => k_is); (case k1 => k_is)
    (case a2 => k_is); (case l2 => k_is); (case c2 => k_is); (case k2 => k_is); (case a3 => k_is); (case l3 => k_is); (case c3 => k_is); (case k3 => k_is)
    (case a4 => k_is); (case l4 => k_is); (case c4 => k_is); (case k4 => k_is); (case a5 => k_is); (case l5 => k_is); (case c5 => k_is); (case k5 => k_is)
    (case a6 => k_is); (case l6 => k_is); (case c6 => k_is); (case k6 => k_is); (case a7 => k_is); (case l7 => k_is); (case c7 => k_is); (case k7 => k_is)
    (case a8 => k_is); (case l8 => k_is); (case c8 => k_is); (case k8 => k_is); (case a9 => k_is); (case l9 => k_is); (case c9 => k_is); (case k9 => k_is)
    (case a10 => k_is); (case l10 => k_is); (case c10 => k_is); (case k10 => k_is); (case a11 => k_is); (case l11 => k_is); (case c11 => k_is); (case k11 => k_is)
    (case a12 => k_is); (case l12 => k_is); (case c12 => k_is); (case k12 => k_is); (case z0 => k_is); (case z1 => k_is); (case z2 => k_is); (case z3 => k_is)
    (case z4 => k_is); (case z5 => k_is); (case z6 => k_is); (case z7 => k_is); (case z8 => k_is); (case z9 => k_is); (case v0 => k_is); (case xtop => first | rfl | decide +kernel)
    (case xsup => k_is); (case xopq => k_is); (case xa_TooMany => k_is); (case xcls_TooMany => k_is); (case xrve_TooMany => first | rfl | decide +kernel); (case xsa_TooMany => k_is); (case xexc_TooMany => k_is); (case xtyc_TooMany => k_is)
    (case xkc_TooMany => k_is); (case xsup_TooMany => ks_is); (case xsub_TooMany => k_is); (case xslf_TooMany => k_is); (case xii_TooMany => k_is); (case xti_TooMany => k_is); (case xlf_TooMany => k_is); (case xcdi_TooMany => k_is)
    (case xlcc_TooMany => k_is); (case xlco_TooMany => k_is); (case xv2_TooMany => first | rfl | decide +kernel); (case xfe_TooMany => first | rfl | decide +kernel); (case xga_TooMany => k_is); (case xgg_TooMany => k_is); (case xhdc_TooMany => k_is); (case xf_TooMany_limit => k_is)
    (case xm_TooMany_TooMany => k_is)
