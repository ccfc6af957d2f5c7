import PyProof.Rows.All
import Wide.All
import OpenK.AllK
import Wide.FinOn
import KE.KStateDown
import Lean
import HandS.Head0
import HandS.Head1
import HandS.Head2
import HandS.ForMost
import HandS.Property
import HandS.ClsMeth
import HandS.HeadNt
import KE.KNest
import HandS.Walk
import HandS.Style
import HandS.Wide
import HandS.More
import KE.KOpsOwn
import PyProof.InstNe
import HandS.Star
import HandS.HeadEnd
import HandS.HeadHook1
import HandS.HeadHook2
import HandS.Lambda
import HandS.IsInst
import PyProof.StrBlock2
import PyProof.NeKinds
import HandS.Words
import HandS.ExcOwn
import HandS.Defaults
import HandS.ListItems
import KE.KDictZip
import KE.KTurns
import HandS.FStr
import PyProof.FitsInt
import PyProof.Rows.RegStrFacts
import PyProof.ReprNest
import PyProof.ReprRoads
import HandS.TryOnly
import PyProof.ReprLen
import PySem.Challenge.RW_onecrest_k38_whole_level_directions
set_option Elab.async false
set_option linter.all false
set_option maxRecDepth 100000
set_option maxHeartbeats 4000000
/-! OcA: data, what stands for them in the heap, what a reading evaluates to. -/
namespace OC
open PySem PySem.Spec PyProof.Rows L2

/-- plain data of the program -/
inductive D where
  | non | bl (b : Bool) | int (i : Int) | str (x : Str) | rat (q : Rat) | lst (xs : List D) | tup (xs : List D) | dic | ptr (a : Addr) | scr (K : PySem.W.Frag) (ns : List Int) | ty (n : String)

/-- the attributes of a Ratio -/
def ratF (q : Rat) : List (Str × V) := [(("own_top" : Str), .int q.num), (("own_bottom" : Str), .int (q.den : Int))]
mutual
def Rep (C : Addr) (B : Hp) : D → V → Prop
  | .non, v => v = .non
  | .bl b, v => v = .bl b
  | .int i, v => v = .int i
  | .str x, v => v = .str x
  | .rat q, v => ∃ a dx, v = .ref a ∧ B a = some (.ins C dx (ratF q))
  | .lst xs, v => ∃ a vs, v = .ref a ∧ B a = some (.lst vs) ∧ RepL C B xs vs
  | .tup xs, v => ∃ a vs, v = .ref a ∧ B a = some (.tup vs) ∧ RepL C B xs vs
  | .dic, v => ∃ a, v = .ref a ∧ B a = some (.dK [])
  | .ptr a, v => v = .ref a
  | .scr K ns, v => ∃ a, v = .ref a ∧ SqL K B a (ns.map V.int)
  | .ty n, v => v = .ty n
def RepL (C : Addr) (B : Hp) : List D → List V → Prop
  | [], vs => vs = []
  | d :: ds, vs => ∃ v r, vs = v :: r ∧ Rep C B d v ∧ RepL C B ds r
end
theorem _root_.L2.SqL.same {K : PySem.W.Frag} {B B' : Hp} {a : Addr} {xs : List V} (e : Same B B') (h : SqL K B a xs) : SqL K B' a xs := by
  rcases h with h | h
  · exact .inl (h.elim (fun h => .inl (e _ _ h)) fun ⟨o, h⟩ => .inr ⟨o, e _ _ h⟩)
  · exact .inr h
mutual
theorem Rep.mono {C : Addr} {B B' : Hp} (e : Same B B') : ∀ {d : D} {v : V}, Rep C B d v → Rep C B' d v
  | .non, v, h => h
  | .bl b, v, h => h
  | .int i, v, h => h
  | .str x, v, h => h
  | .rat q, v, h => by
    obtain ⟨a, dx, rfl, h⟩ := h
    exact ⟨a, dx, rfl, e _ _ h⟩
  | .lst xs, v, h => by
    obtain ⟨a, vs, rfl, h, r⟩ := h
    exact ⟨a, vs, rfl, e _ _ h, RepL.mono e r⟩
  | .tup xs, v, h => by
    obtain ⟨a, vs, rfl, h, r⟩ := h
    exact ⟨a, vs, rfl, e _ _ h, RepL.mono e r⟩
  | .dic, v, h => by
    obtain ⟨a, rfl, h⟩ := h
    exact ⟨a, rfl, e _ _ h⟩
  | .ptr a, v, h => h
  | .scr K ns, v, h => by
    obtain ⟨a, rfl, h⟩ := h
    exact ⟨a, rfl, h.same e⟩
  | .ty n, v, h => h
theorem RepL.mono {C : Addr} {B B' : Hp} (e : Same B B') : ∀ {ds : List D} {vs : List V}, RepL C B ds vs → RepL C B' ds vs
  | [], _, h => h
  | d :: ds, vs, h => by
    obtain ⟨v, r, rfl, h1, h2⟩ := h
    exact ⟨v, r, rfl, Rep.mono e h1, RepL.mono e h2⟩
end
theorem RepL.length {C : Addr} {B : Hp} : ∀ {ds : List D} {vs : List V}, RepL C B ds vs → vs.length = ds.length
  | [], _, h => by rw [show _ = ([] : List V) from h]; rfl
  | d :: ds, vs, h => by
    obtain ⟨v, r, rfl, h1, h2⟩ := h
    rw [List.length_cons, List.length_cons, h2.length]
theorem RepL.get {C : Addr} {B : Hp} : ∀ {ds : List D} {vs : List V} {i : Nat} {d : D}, RepL C B ds vs → ds[i]? = some d → ∃ v, vs[i]? = some v ∧ Rep C B d v
  | [], _, i, d, h, e => by cases e
  | d :: ds, vs, 0, d', h, e => by
    obtain ⟨v, r, rfl, h1, h2⟩ := h
    cases e
    exact ⟨v, rfl, h1⟩
  | d :: ds, vs, i + 1, d', h, e => by
    obtain ⟨v, r, rfl, h1, h2⟩ := h
    exact RepL.get (i := i) h2 e
theorem RepL.app {C : Addr} {B : Hp} : ∀ {ds es : List D} {vs ws : List V}, RepL C B ds vs → RepL C B es ws → RepL C B (ds ++ es) (vs ++ ws)
  | [], es, vs, ws, h, g => by
    rw [show vs = [] from h]
    exact g
  | d :: ds, es, vs, ws, h, g => by
    obtain ⟨v, r, rfl, h1, h2⟩ := h
    exact ⟨v, r ++ ws, rfl, h1, h2.app g⟩
theorem RepL.one {C : Addr} {B : Hp} {d : D} {v : V} (h : Rep C B d v) : RepL C B [d] [v] := ⟨v, [], rfl, h, rfl⟩
theorem RepL.snoc {C : Addr} {B : Hp} {ds : List D} {vs : List V} {d : D} {v : V} (h : RepL C B ds vs) (g : Rep C B d v) : RepL C B (ds ++ [d]) (vs ++ [v]) := h.app (.one g)
theorem RepL.take {C : Addr} {B : Hp} : ∀ {ds : List D} {vs : List V} (n : Nat), RepL C B ds vs → RepL C B (ds.take n) (vs.take n)
  | [], vs, n, h => by rw [show vs = [] from h]; cases n <;> exact rfl
  | d :: ds, vs, 0, h => by obtain ⟨v, r, rfl, h1, h2⟩ := h; exact rfl
  | d :: ds, vs, n + 1, h => by
    obtain ⟨v, r, rfl, h1, h2⟩ := h
    exact ⟨v, r.take n, rfl, h1, h2.take n⟩
theorem RepL.drop {C : Addr} {B : Hp} : ∀ {ds : List D} {vs : List V} (n : Nat), RepL C B ds vs → RepL C B (ds.drop n) (vs.drop n)
  | [], vs, n, h => by rw [show vs = [] from h]; cases n <;> exact rfl
  | d :: ds, vs, 0, h => h
  | d :: ds, vs, n + 1, h => by
    obtain ⟨v, r, rfl, h1, h2⟩ := h
    exact h2.drop n
theorem RepL.set {C : Addr} {B : Hp} {d : D} {v : V} (g : Rep C B d v) : ∀ {ds : List D} {vs : List V} (n : Nat), RepL C B ds vs → RepL C B (ds.set n d) (vs.set n v)
  | [], vs, n, h => by rw [show vs = [] from h]; cases n <;> exact rfl
  | d' :: ds, vs, 0, h => by obtain ⟨v', r, rfl, h1, h2⟩ := h; exact ⟨v, r, rfl, g, h2⟩
  | d' :: ds, vs, n + 1, h => by
    obtain ⟨v', r, rfl, h1, h2⟩ := h
    exact ⟨v', r.set n v, rfl, h1, h2.set g n⟩
theorem RepL.rev {C : Addr} {B : Hp} : ∀ {ds : List D} {vs : List V}, RepL C B ds vs → RepL C B ds.reverse vs.reverse
  | [], vs, h => by rw [show vs = [] from h]; exact rfl
  | d :: ds, vs, h => by
    obtain ⟨v, r, rfl, h1, h2⟩ := h
    rw [List.reverse_cons, List.reverse_cons]
    exact h2.rev.snoc h1
theorem RepL.rep {C : Addr} {B : Hp} {ds : List D} {vs : List V} (h : RepL C B ds vs) : ∀ k : Nat, RepL C B (List.replicate k ds).flatten (List.replicate k vs).flatten
  | 0 => rfl
  | k + 1 => by
    rw [List.replicate_succ, List.replicate_succ, List.flatten_cons, List.flatten_cons]
    exact h.app (h.rep k)
theorem RepL.map_of {α : Type} {C : Addr} {B : Hp} {f : α → D} {g : α → V} (h : ∀ a, Rep C B (f a) (g a)) : ∀ l : List α, RepL C B (l.map f) (l.map g)
  | [] => rfl
  | a :: l => ⟨g a, l.map g, rfl, h a, RepL.map_of h l⟩
theorem RepL.ints_eq {C : Addr} {B : Hp} : ∀ {l : List Int} {vs : List V}, RepL C B (l.map D.int) vs → vs = l.map V.int
  | [], vs, h => h
  | a :: l, vs, h => by
    obtain ⟨v, r, rfl, h1, h2⟩ := h
    rw [show v = V.int a from h1, h2.ints_eq]
    rfl
theorem RepL.bls_eq {C : Addr} {B : Hp} : ∀ {l : List Bool} {vs : List V}, RepL C B (l.map D.bl) vs → vs = l.map V.bl
  | [], vs, h => h
  | a :: l, vs, h => by
    obtain ⟨v, r, rfl, h1, h2⟩ := h
    rw [show v = V.bl a from h1, h2.bls_eq]
    rfl

/-! ### what is known, what is owned -/
abbrev Mu := List (Addr × List D)
abbrev Sto := List (Option D)
def dom (μ : Mu) : List Addr := μ.map (·.1)
/-- lists that may change: unknown to B, each told by its items -/
def Own (C : Addr) (B H : Hp) : Mu → Prop
  | [] => True
  | (p, ds) :: μ => (B p = none ∧ p ∉ dom μ ∧ ∃ vs, H p = some (.lst vs) ∧ RepL C B ds vs) ∧ Own C B H μ
structure Ok (C : Addr) (μ : Mu) (B H : Hp) : Prop where
  bh : Same B H
  own : Own C B H μ
/-- from a state to a later one: what is known grows by new things, all but the owned lists stands -/
structure Gr (μ : List Addr) (B H B' H' : Hp) : Prop where
  bb : Same B B'
  hh : ∀ a o, H a = some o → a ∉ μ → H' a = some o
  fr : ∀ a o, B' a = some o → B a = some o ∨ H a = none
  ds : ∀ a o, H a = some o → ∃ o', H' a = some o'
theorem Gr.refl (μ : List Addr) (B H : Hp) : Gr μ B H B H := ⟨Same.refl _, fun _ _ h _ => h, fun _ _ h => .inl h, fun _ o h => ⟨o, h⟩⟩
theorem Gr.trans {μ : List Addr} {B H B1 H1 B2 H2 : Hp} (a : Gr μ B H B1 H1) (b : Gr μ B1 H1 B2 H2) : Gr μ B H B2 H2 where
  bb := a.bb.trans b.bb
  hh := fun x o h hx => b.hh x o (a.hh x o h hx) hx
  fr := fun x o h => by
    rcases b.fr x o h with h | h
    · exact a.fr x o h
    · cases q : H x with
      | none => exact .inr rfl
      | some u =>
        obtain ⟨o', z⟩ := a.ds x u q
        rw [h] at z
        cases z
  ds := fun x o h => by
    obtain ⟨o', z⟩ := a.ds x o h
    exact b.ds x o' z
/-- a new thing, known -/
theorem Gr.new {μ : List Addr} {B H : Hp} {p : Addr} {o : HO} (h : H p = none) (bh : Same B H) : Gr μ B H (upd B p o) (upd H p o) where
  bb := fun a u e => by rw [upd_ne (ne_of_none e (bh.free h))]; exact e
  hh := fun a u e _ => by rw [upd_ne (ne_of_none e h)]; exact e
  fr := fun a u e => by
    by_cases z : a = p
    · subst z; exact .inr h
    · rw [upd_ne z] at e; exact .inl e
  ds := fun a u e => ⟨u, by rw [upd_ne (ne_of_none e h)]; exact e⟩
/-- a new thing, not known -/
theorem Gr.newH {μ : List Addr} {B H : Hp} {p : Addr} {o : HO} (h : H p = none) : Gr μ B H B (upd H p o) where
  bb := Same.refl _
  hh := fun a u e _ => by rw [upd_ne (ne_of_none e h)]; exact e
  fr := fun a u e => .inl e
  ds := fun a u e => ⟨u, by rw [upd_ne (ne_of_none e h)]; exact e⟩
theorem Same.upd_new {B H : Hp} {p : Addr} {o : HO} (bh : Same B H) (h : H p = none) : Same (upd B p o) (upd H p o) := fun a u e => by
  by_cases z : a = p
  · subst z; rw [upd_same] at e ⊢; exact e
  · rw [upd_ne z] at e ⊢; exact bh a u e
theorem Same.upd_right {B H : Hp} {p : Addr} {o : HO} (bh : Same B H) (h : B p = none) : Same B (upd H p o) := fun a u e => by
  rw [upd_ne (ne_of_none e h)]
  exact bh a u e
theorem Own.mem {C : Addr} {B H : Hp} : ∀ {μ : Mu} {p : Addr} {ds : List D}, Own C B H μ → (p, ds) ∈ μ → B p = none ∧ ∃ vs, H p = some (.lst vs) ∧ RepL C B ds vs
  | [], p, ds, _, h => by cases h
  | (q, es) :: μ, p, ds, ⟨⟨h1, _, h2⟩, h3⟩, h => by
    rcases List.mem_cons.mp h with e | h
    · cases e; exact ⟨h1, h2⟩
    · exact Own.mem h3 h
theorem mem_dom {μ : Mu} {p : Addr} (h : p ∈ dom μ) : ∃ ds, (p, ds) ∈ μ := by
  obtain ⟨⟨q, ds⟩, h1, rfl⟩ := List.mem_map.mp h
  exact ⟨ds, h1⟩
theorem dom_mem {μ : Mu} {p : Addr} {ds : List D} (h : (p, ds) ∈ μ) : p ∈ dom μ := List.mem_map.mpr ⟨(p, ds), h, rfl⟩
/-- the owned lists stand when only others change -/
theorem Own.to {C : Addr} {B H B' H' : Hp} (bb : Same B B') : ∀ {μ : Mu}, (∀ p ∈ dom μ, B' p = none) → (∀ p vs, p ∈ dom μ → H p = some (.lst vs) → H' p = some (.lst vs)) → Own C B H μ → Own C B' H' μ
  | [], _, _, _ => trivial
  | (p, ds) :: μ, hB, hH, ⟨⟨h1, hn, vs, h2, h3⟩, h4⟩ => ⟨⟨hB p (List.mem_cons_self ..), hn, vs, hH p vs (List.mem_cons_self ..) h2, h3.mono bb⟩,
    Own.to bb (fun q hq => hB q (List.mem_cons_of_mem _ hq)) (fun q ws hq => hH q ws (List.mem_cons_of_mem _ hq)) h4⟩
/-- a growth that leaves all owned lists, too -/
theorem Ok.grow {C : Addr} {μ : Mu} {B H B' H' : Hp} (o : Ok C μ B H) (g : Gr [] B H B' H') (bh : Same B' H') : Ok C μ B' H' := by
  refine ⟨bh, o.own.to g.bb (fun p hp => ?_) fun p vs hp h => g.hh p _ h (by simp)⟩
  obtain ⟨ds, hm⟩ := mem_dom hp
  obtain ⟨h1, vs, h2, _⟩ := o.own.mem hm
  cases q : B' p with
  | none => rfl
  | some u =>
    rcases g.fr p u q with z | z
    · rw [h1] at z; cases z
    · rw [h2] at z; cases z
theorem Gr.weak {B H B' H' : Hp} (g : Gr [] B H B' H') (μ : List Addr) : Gr μ B H B' H' := ⟨g.bb, fun a o h _ => g.hh a o h (by simp), g.fr, g.ds⟩
/-- a new known thing beside the owned ones -/
theorem Ok.new {C : Addr} {μ : Mu} {B H : Hp} {p : Addr} {u : HO} (o : Ok C μ B H) (h : H p = none) : Ok C μ (upd B p u) (upd H p u) := o.grow (Gr.new h o.bh) (Same.upd_new o.bh h)
theorem Ok.newH {C : Addr} {μ : Mu} {B H : Hp} {p : Addr} {u : HO} (o : Ok C μ B H) (h : H p = none) : Ok C μ B (upd H p u) := o.grow (Gr.newH h) (Same.upd_right o.bh (o.bh.free h))

/-! ### the names' values -/
structure RS (C : Addr) (B : Hp) (ρ : Sto) (σ : L2.St) : Prop where
  len : ρ.length = σ.length
  at_ : ∀ (i : Nat) (d : D), ρ[i]? = some (some d) → ∃ v, σ[i]? = some (some v) ∧ Rep C B d v
theorem RS.mono {C : Addr} {B B' : Hp} {ρ : Sto} {σ : L2.St} (e : Same B B') (r : RS C B ρ σ) : RS C B' ρ σ := ⟨r.len, fun i d h => by
  obtain ⟨v, h1, h2⟩ := r.at_ i d h
  exact ⟨v, h1, h2.mono e⟩⟩
theorem RS.set {C : Addr} {B : Hp} {ρ : Sto} {σ : L2.St} {d : D} {v : V} (r : RS C B ρ σ) (j : Nat) (h : Rep C B d v) : RS C B (ρ.set j (some d)) (σ.set j (some v)) := by
  refine ⟨by rw [List.length_set, List.length_set, r.len], fun i d' e => ?_⟩
  by_cases z : j = i
  · subst z
    have hl : j < ρ.length := by
      have := List.getElem?_eq_some_iff.mp e
      obtain ⟨h1, _⟩ := this
      simpa using h1
    rw [List.getElem?_set_self hl] at e
    cases e
    exact ⟨v, List.getElem?_set_self (by rw [← r.len]; exact hl), h⟩
  · rw [List.getElem?_set_ne z] at e
    obtain ⟨w, h1, h2⟩ := r.at_ i d' e
    exact ⟨w, by rw [List.getElem?_set_ne z]; exact h1, h2⟩
theorem RS.setN {C : Addr} {B : Hp} {ρ : Sto} {σ : L2.St} (r : RS C B ρ σ) (j : Nat) (x : Option V) : RS C B (ρ.set j none) (σ.set j x) := by
  refine ⟨by rw [List.length_set, List.length_set, r.len], fun i d' e => ?_⟩
  by_cases z : j = i
  · subst z
    have hl : j < ρ.length := by
      have := List.getElem?_eq_some_iff.mp e
      obtain ⟨h1, _⟩ := this
      simpa using h1
    rw [List.getElem?_set_self hl] at e
    cases e
  · rw [List.getElem?_set_ne z] at e
    obtain ⟨w, h1, h2⟩ := r.at_ i d' e
    exact ⟨w, by rw [List.getElem?_set_ne z]; exact h1, h2⟩
/-- a name forgotten -/
theorem RS.forget {C : Addr} {B : Hp} {ρ ρ' : Sto} {σ : L2.St} (r : RS C B ρ σ) (hl : ρ'.length = ρ.length) (h : ∀ (i : Nat) (d : D), ρ'[i]? = some (some d) → ρ[i]? = some (some d)) : RS C B ρ' σ := ⟨hl.trans r.len, fun i d e => r.at_ i d (h i d e)⟩
def wipeA (ρ : Sto) : List Nat → Sto
  | [] => ρ
  | v :: vs => (wipeA ρ vs).set v none
theorem RS.wipe {C : Addr} {B : Hp} {ρ : Sto} {σ : L2.St} (r : RS C B ρ σ) : ∀ vs : List Nat, RS C B (wipeA ρ vs) (L2.wipe σ vs)
  | [] => r
  | v :: vs => (RS.wipe r vs).setN v none

/-! ### what a reading evaluates to -/
def AE (C : Addr) (te : TE) (ρ : Sto) (μ : Mu) (d : D) (μ' : Mu) : Prop := dom μ' = dom μ ∧
  ∀ σ B H, RS C B ρ σ → Ok C μ B H → ∀ Q : VK, (∀ v B' H', Gr (dom μ) B H B' H' → Ok C μ' B' H' → Rep C B' d v → Q v H') → te σ H Q
/-- a new list -/
def AF (C : Addr) (te : TE) (ρ : Sto) (μ : Mu) (ds : List D) (μ' : Mu) : Prop := dom μ' = dom μ ∧
  ∀ σ B H, RS C B ρ σ → Ok C μ B H → ∀ Q : VK, (∀ p vs B' H', Gr (dom μ) B H B' H' → Ok C μ' B' H' → H p = none → B' p = none → H' p = some (.lst vs) → RepL C B' ds vs → Q (.ref p) H') → te σ H Q
def AT (C : Addr) (tt : TT) (ρ : Sto) (μ : Mu) (b : Bool) (μ' : Mu) : Prop := dom μ' = dom μ ∧
  ∀ σ B H, RS C B ρ σ → Ok C μ B H → ∀ Q : Bool → Hp → Prop, (∀ B' H', Gr (dom μ) B H B' H' → Ok C μ' B' H' → Q b H') → tt σ H Q
def AA (C : Addr) (ta : TA) (ρ : Sto) (μ : Mu) (ds : List D) (μ' : Mu) : Prop := dom μ' = dom μ ∧
  ∀ σ B H, RS C B ρ σ → Ok C μ B H → ∀ Q : List V → Hp → Prop, (∀ vs B' H', Gr (dom μ) B H B' H' → Ok C μ' B' H' → RepL C B' ds vs → Q vs H') → ta σ H Q
def AO (C : Addr) (to : TO) (ρ : Sto) (μ : Mu) (o : Option Int) : Prop :=
  ∀ σ B H, RS C B ρ σ → Ok C μ B H → ∀ Q : Option Int → Hp → Prop, (∀ B' H', Gr (dom μ) B H B' H' → Ok C μ B' H' → Q o H') → to σ H Q
/-- an operation on two values, on one, on a list of values -/
def A2 (C : Addr) (r : R2) (μ : Mu) (x y : D) (d : D) (μ' : Mu) : Prop := dom μ' = dom μ ∧
  ∀ B H v u, Ok C μ B H → Rep C B x v → Rep C B y u → ∀ Q : VK, (∀ v B' H', Gr (dom μ) B H B' H' → Ok C μ' B' H' → Rep C B' d v → Q v H') → r v u H Q
def A1 (C : Addr) (r : V → Hp → VK → Prop) (μ : Mu) (x : D) (d : D) : Prop :=
  ∀ B H v, Ok C μ B H → Rep C B x v → ∀ Q : VK, (∀ v B' H', Gr (dom μ) B H B' H' → Ok C μ B' H' → Rep C B' d v → Q v H') → r v H Q
def AC (C : Addr) (r : List V → Hp → VK → Prop) (μ : Mu) (xs : List D) (d : D) (μ' : Mu) : Prop := dom μ' = dom μ ∧
  ∀ B H vs, Ok C μ B H → RepL C B xs vs → ∀ Q : VK, (∀ v B' H', Gr (dom μ) B H B' H' → Ok C μ' B' H' → Rep C B' d v → Q v H') → r vs H Q
def ACF (C : Addr) (r : List V → Hp → VK → Prop) (μ : Mu) (xs : List D) (ds : List D) (μ' : Mu) : Prop := dom μ' = dom μ ∧
  ∀ B H vs, Ok C μ B H → RepL C B xs vs → ∀ Q : VK, (∀ p vs B' H', Gr (dom μ) B H B' H' → Ok C μ' B' H' → H p = none → B' p = none → H' p = some (.lst vs) → RepL C B' ds vs → Q (.ref p) H') → r vs H Q

section
variable {C : Addr} {K : PySem.W.Frag} {ρ : Sto} {μ μ1 μ2 μ3 : Mu} {te ta tb : TE} {tt tu : TT} {tr : TA} {x y d d' : D} {ds es : List D} {r : R2} {b c : Bool}
theorem Gr.dm {μ μ' : Mu} {B H B' H' : Hp} (e : dom μ' = dom μ) (g : Gr (dom μ') B H B' H') : Gr (dom μ) B H B' H' := by rw [← e]; exact g
theorem AF.e (h : AF C te ρ μ ds μ1) : AE C te ρ μ (.lst ds) μ1 := ⟨h.1, fun σ B H rs ok Q q => h.2 σ B H rs ok Q fun p vs B' H' g ok' hp hB hp' hr => by
  have fB : ∀ q ∈ dom μ1, q ≠ p := fun q hq z => by
    obtain ⟨ds', hm⟩ := mem_dom (h.1 ▸ hq)
    obtain ⟨_, vs', h2, _⟩ := ok.own.mem hm
    rw [z, hp] at h2; cases h2
  refine q (.ref p) (upd B' p (.lst vs)) H' ⟨g.bb.trans fun a u e => by rw [upd_ne (ne_of_none e hB)]; exact e, g.hh, fun a u e => ?_, g.ds⟩ ⟨fun a u e => ?_, ?_⟩ ⟨p, vs, rfl, upd_same, hr.mono fun a u e => by rw [upd_ne (ne_of_none e hB)]; exact e⟩
  · by_cases z : a = p
    · subst z; exact .inr hp
    · rw [upd_ne z] at e; exact g.fr a u e
  · by_cases z : a = p
    · subst z; rw [upd_same] at e; rw [← e]; exact hp'
    · rw [upd_ne z] at e; exact ok'.bh a u e
  · refine ok'.own.to (fun a u e => by rw [upd_ne (ne_of_none e hB)]; exact e) (fun q hq => ?_) fun q vs hq h => h
    rw [upd_ne (fB q hq)]
    obtain ⟨ds', hm⟩ := mem_dom hq
    exact (ok'.own.mem hm).1⟩
theorem AE.is (h : AE C te ρ μ d μ1) (e : d = d') : AE C te ρ μ d' μ1 := e ▸ h
theorem AF.is (h : AF C te ρ μ ds μ1) (e : ds = es) : AF C te ρ μ es μ1 := e ▸ h
theorem AT.is (h : AT C tt ρ μ b μ1) (e : b = c) : AT C tt ρ μ c μ1 := e ▸ h
theorem ae_var {i : Nat} (h : ρ[i]? = some (some d)) : AE C (tVar i) ρ μ d μ := ⟨rfl, fun σ B H rs ok Q q => by
  obtain ⟨v, h1, h2⟩ := rs.at_ i d h
  exact ⟨v, h1, q v B H (Gr.refl _ _ _) ok h2⟩⟩
theorem ae_int {i : Int} : AE C (tC (.int i)) ρ μ (.int i) μ := ⟨rfl, fun σ B H rs ok Q q => q _ B H (Gr.refl _ _ _) ok rfl⟩
theorem ae_bl {i : Bool} : AE C (tC (.bl i)) ρ μ (.bl i) μ := ⟨rfl, fun σ B H rs ok Q q => q _ B H (Gr.refl _ _ _) ok rfl⟩
theorem ae_non : AE C (tC .non) ρ μ .non μ := ⟨rfl, fun σ B H rs ok Q q => q _ B H (Gr.refl _ _ _) ok rfl⟩
theorem ae_str {i : Str} : AE C (tC (.str i)) ρ μ (.str i) μ := ⟨rfl, fun σ B H rs ok Q q => q _ B H (Gr.refl _ _ _) ok rfl⟩
theorem ae_ty {n : String} : AE C (tC (.ty n)) ρ μ (.ty n) μ := ⟨rfl, fun σ B H rs ok Q q => q _ B H (Gr.refl _ _ _) ok rfl⟩
theorem ae_ptr {a : Addr} : AE C (tC (.ref a)) ρ μ (.ptr a) μ := ⟨rfl, fun σ B H rs ok Q q => q _ B H (Gr.refl _ _ _) ok rfl⟩
theorem ae_op (ha : AE C ta ρ μ x μ1) (hb : AE C tb ρ μ1 y μ2) (hr : A2 C r μ2 x y d μ3) : AE C (tOp r ta tb) ρ μ d μ3 :=
  ⟨hr.1.trans (hb.1.trans ha.1), fun σ B H rs ok Q q => ha.2 σ B H rs ok _ fun v B1 H1 g1 ok1 r1 => hb.2 σ B1 H1 (rs.mono g1.bb) ok1 _ fun u B2 H2 g2 ok2 r2 =>
    hr.2 B2 H2 v u ok2 (r1.mono g2.bb) r2 Q fun z B3 H3 g3 ok3 r3 => q z B3 H3 ((g1.trans (g2.dm ha.1)).trans (g3.dm (hb.1.trans ha.1))) ok3 r3⟩
theorem ae_un {r : V → Hp → VK → Prop} (ha : AE C ta ρ μ x μ1) (hr : A1 C r μ1 x d) : AE C (tUn r ta) ρ μ d μ1 :=
  ⟨ha.1, fun σ B H rs ok Q q => ha.2 σ B H rs ok _ fun v B1 H1 g1 ok1 r1 => hr B1 H1 v ok1 r1 Q fun z B3 H3 g3 ok3 r3 => q z B3 H3 (g1.trans (g3.dm ha.1)) ok3 r3⟩
theorem aa_nil : AA C tNil ρ μ [] μ := ⟨rfl, fun σ B H rs ok Q q => q [] B H (Gr.refl _ _ _) ok rfl⟩
theorem aa_cons (ha : AE C ta ρ μ x μ1) (hr : AA C tr ρ μ1 ds μ2) : AA C (tCons ta tr) ρ μ (x :: ds) μ2 :=
  ⟨hr.1.trans ha.1, fun σ B H rs ok Q q => ha.2 σ B H rs ok _ fun v B1 H1 g1 ok1 r1 => hr.2 σ B1 H1 (rs.mono g1.bb) ok1 _ fun vs B2 H2 g2 ok2 r2 =>
    q (v :: vs) B2 H2 (g1.trans (g2.dm ha.1)) ok2 ⟨v, vs, rfl, r1.mono g2.bb, r2⟩⟩
theorem ae_cb {rc : List V → Hp → VK → Prop} (ha : AA C tr ρ μ ds μ1) (hr : AC C rc μ1 ds d μ2) : AE C (tCB rc tr) ρ μ d μ2 :=
  ⟨hr.1.trans ha.1, fun σ B H rs ok Q q => ha.2 σ B H rs ok _ fun vs B1 H1 g1 ok1 r1 => hr.2 B1 H1 vs ok1 r1 Q fun z B3 H3 g3 ok3 r3 => q z B3 H3 (g1.trans (g3.dm ha.1)) ok3 r3⟩
theorem af_cb {rc : List V → Hp → VK → Prop} (ha : AA C tr ρ μ ds μ1) (hr : ACF C rc μ1 ds es μ2) : AF C (tCB rc tr) ρ μ es μ2 :=
  ⟨hr.1.trans ha.1, fun σ B H rs ok Q q => ha.2 σ B H rs ok _ fun vs B1 H1 g1 ok1 r1 => hr.2 B1 H1 vs ok1 r1 Q fun p ws B3 H3 g3 ok3 hp hB h3 r3 => q p ws B3 H3 (g1.trans (g3.dm ha.1)) ok3 (by
    cases z : H p with
    | none => rfl
    | some o =>
      obtain ⟨o', z'⟩ := g1.ds p o z
      rw [hp] at z'; cases z') hB h3 r3⟩
/-- a display -/
theorem af_lst (ha : AA C tr ρ μ ds μ1) (hl : ds.length ≤ 100000) : AF C (tLst tr) ρ μ ds μ1 :=
  ⟨ha.1, fun σ B H rs ok Q q => ha.2 σ B H rs ok _ fun vs B1 H1 g1 ok1 r1 => ⟨Nat.le_trans (by rw [r1.length]; exact hl) (by decide), fun p hp => q p vs B1 _ (g1.trans ((Gr.newH hp).dm rfl)) (ok1.newH hp) (by
    cases z : H p with
    | none => rfl
    | some o =>
      obtain ⟨o', z'⟩ := g1.ds p o z
      rw [hp] at z'; cases z') (ok1.bh.free hp) upd_same r1⟩⟩
theorem ae_tup (ha : AA C tr ρ μ ds μ1) (hl : ds.length ≤ 100000) : AE C (tTup tr) ρ μ (.tup ds) μ1 :=
  ⟨ha.1, fun σ B H rs ok Q q => ha.2 σ B H rs ok _ fun vs B1 H1 g1 ok1 r1 => ⟨Nat.le_trans (by rw [r1.length]; exact hl) (by decide), fun p hp => q (.ref p) _ _ (g1.trans ((Gr.new hp ok1.bh).dm rfl)) (ok1.new hp)
    ⟨p, vs, rfl, upd_same, r1.mono fun a u e => by rw [upd_ne (ne_of_none e (ok1.bh.free hp))]; exact e⟩⟩⟩

/-! ### tests -/
theorem at_test (h : AE C te ρ μ (.bl b) μ1) : AT C (tTest te) ρ μ b μ1 := ⟨h.1, fun σ B H rs ok Q q => h.2 σ B H rs ok _ fun v B1 H1 g1 ok1 r1 => ⟨b, r1, q B1 H1 g1 ok1⟩⟩
theorem at_B (h : AE C te ρ μ (.bl b) μ1) : AT C (tB te) ρ μ b μ1 := ⟨h.1, fun σ B H rs ok Q q => h.2 σ B H rs ok _ fun v B1 H1 g1 ok1 r1 => ⟨b, r1, q B1 H1 g1 ok1⟩⟩
theorem at_not (h : AT C tt ρ μ b μ1) : AT C (tNot tt) ρ μ (!b) μ1 := ⟨h.1, fun σ B H rs ok Q q => h.2 σ B H rs ok _ fun B1 H1 g1 ok1 => q B1 H1 g1 ok1⟩
theorem at_and1 (h : AT C tt ρ μ true μ1) (h2 : AT C tu ρ μ1 b μ2) : AT C (tAnd tt tu) ρ μ b μ2 := ⟨h2.1.trans h.1, fun σ B H rs ok Q q => h.2 σ B H rs ok _ fun B1 H1 g1 ok1 => by
  rw [if_pos rfl]
  exact h2.2 σ B1 H1 (rs.mono g1.bb) ok1 _ fun B2 H2 g2 ok2 => q B2 H2 (g1.trans (g2.dm h.1)) ok2⟩
theorem at_and0 (h : AT C tt ρ μ false μ1) : AT C (tAnd tt tu) ρ μ false μ1 := ⟨h.1, fun σ B H rs ok Q q => h.2 σ B H rs ok _ fun B1 H1 g1 ok1 => by
  rw [if_neg Bool.false_ne_true]
  exact q B1 H1 g1 ok1⟩
theorem at_or1 (h : AT C tt ρ μ true μ1) : AT C (tOr tt tu) ρ μ true μ1 := ⟨h.1, fun σ B H rs ok Q q => h.2 σ B H rs ok _ fun B1 H1 g1 ok1 => by
  rw [if_pos rfl]
  exact q B1 H1 g1 ok1⟩
theorem at_or0 (h : AT C tt ρ μ false μ1) (h2 : AT C tu ρ μ1 b μ2) : AT C (tOr tt tu) ρ μ b μ2 := ⟨h2.1.trans h.1, fun σ B H rs ok Q q => h.2 σ B H rs ok _ fun B1 H1 g1 ok1 => by
  rw [if_neg Bool.false_ne_true]
  exact h2.2 σ B1 H1 (rs.mono g1.bb) ok1 _ fun B2 H2 g2 ok2 => q B2 H2 (g1.trans (g2.dm h.1)) ok2⟩
theorem at_and (h : AT C tt ρ μ b μ) (h2 : b = true → AT C tu ρ μ c μ) : AT C (tAnd tt tu) ρ μ (b && c) μ := by
  cases b with
  | true => exact at_and1 h (h2 rfl)
  | false => exact at_and0 h
theorem at_or (h : AT C tt ρ μ b μ) (h2 : b = false → AT C tu ρ μ c μ) : AT C (tOr tt tu) ρ μ (b || c) μ := by
  cases b with
  | true => exact at_or1 h
  | false => exact at_or0 h (h2 rfl)
theorem ae_and1 (h : AE C ta ρ μ (.bl true) μ1) (h2 : AE C tb ρ μ1 d μ2) : AE C (tAndV ta tb) ρ μ d μ2 := ⟨h2.1.trans h.1, fun σ B H rs ok Q q => h.2 σ B H rs ok _ fun v B1 H1 g1 ok1 r1 => ⟨true, r1, by
  rw [if_pos rfl]
  exact h2.2 σ B1 H1 (rs.mono g1.bb) ok1 _ fun u B2 H2 g2 ok2 r2 => q u B2 H2 (g1.trans (g2.dm h.1)) ok2 r2⟩⟩
theorem ae_and0 (h : AE C ta ρ μ (.bl false) μ1) : AE C (tAndV ta tb) ρ μ (.bl false) μ1 := ⟨h.1, fun σ B H rs ok Q q => h.2 σ B H rs ok _ fun v B1 H1 g1 ok1 r1 => ⟨false, r1, by
  rw [if_neg Bool.false_ne_true]
  exact q _ B1 H1 g1 ok1 rfl⟩⟩
theorem ae_and (h : AE C ta ρ μ (.bl b) μ) (h2 : b = true → AE C tb ρ μ (.bl c) μ) : AE C (tAndV ta tb) ρ μ (.bl (b && c)) μ := by
  cases b with
  | true => exact ae_and1 h (h2 rfl)
  | false => exact ae_and0 h
theorem ae_or1 (h : AE C ta ρ μ (.bl true) μ1) : AE C (tOrV ta tb) ρ μ (.bl true) μ1 := ⟨h.1, fun σ B H rs ok Q q => h.2 σ B H rs ok _ fun v B1 H1 g1 ok1 r1 => ⟨true, r1, by
  rw [if_pos rfl]
  exact q _ B1 H1 g1 ok1 rfl⟩⟩
theorem ae_or0 (h : AE C ta ρ μ (.bl false) μ1) (h2 : AE C tb ρ μ1 d μ2) : AE C (tOrV ta tb) ρ μ d μ2 := ⟨h2.1.trans h.1, fun σ B H rs ok Q q => h.2 σ B H rs ok _ fun v B1 H1 g1 ok1 r1 => ⟨false, r1, by
  rw [if_neg Bool.false_ne_true]
  exact h2.2 σ B1 H1 (rs.mono g1.bb) ok1 _ fun u B2 H2 g2 ok2 r2 => q u B2 H2 (g1.trans (g2.dm h.1)) ok2 r2⟩⟩
theorem ae_or (h : AE C ta ρ μ (.bl b) μ) (h2 : b = false → AE C tb ρ μ (.bl c) μ) : AE C (tOrV ta tb) ρ μ (.bl (b || c)) μ := by
  cases b with
  | true => exact ae_or1 h
  | false => exact ae_or0 h (h2 rfl)
theorem ae_not (h : AE C ta ρ μ (.bl b) μ1) : AE C (tNotV ta) ρ μ (.bl (!b)) μ1 := ⟨h.1, fun σ B H rs ok Q q => h.2 σ B H rs ok _ fun v B1 H1 g1 ok1 r1 => ⟨b, r1, q _ B1 H1 g1 ok1 rfl⟩⟩
theorem ae_ifT (h : AT C tt ρ μ true μ1) (h2 : AE C ta ρ μ1 d μ2) : AE C (tIf tt ta tb) ρ μ d μ2 := ⟨h2.1.trans h.1, fun σ B H rs ok Q q => h.2 σ B H rs ok _ fun B1 H1 g1 ok1 => by
  rw [if_pos rfl]
  exact h2.2 σ B1 H1 (rs.mono g1.bb) ok1 _ fun u B2 H2 g2 ok2 r2 => q u B2 H2 (g1.trans (g2.dm h.1)) ok2 r2⟩
theorem ae_ifF (h : AT C tt ρ μ false μ1) (h2 : AE C tb ρ μ1 d μ2) : AE C (tIf tt ta tb) ρ μ d μ2 := ⟨h2.1.trans h.1, fun σ B H rs ok Q q => h.2 σ B H rs ok _ fun B1 H1 g1 ok1 => by
  rw [if_neg Bool.false_ne_true]
  exact h2.2 σ B1 H1 (rs.mono g1.bb) ok1 _ fun u B2 H2 g2 ok2 r2 => q u B2 H2 (g1.trans (g2.dm h.1)) ok2 r2⟩
theorem ae_if (h : AT C tt ρ μ b μ1) (h1 : b = true → AE C ta ρ μ1 d μ2) (h2 : b = false → AE C tb ρ μ1 d μ2) : AE C (tIf tt ta tb) ρ μ d μ2 := by
  cases b with
  | true => exact ae_ifT h (h1 rfl)
  | false => exact ae_ifF h (h2 rfl)
end
end OC
set_option maxHeartbeats 4000000
/-! OcB: targets, walks, comprehensions, statements. -/
namespace OC
open PySem PySem.Spec PyProof.Rows L2

section
variable {C : Addr} {K : PySem.W.Frag} {ρ ρ1 ρ2 : Sto} {μ μ1 μ2 μ3 : Mu} {te ta tb : TE} {tt tu : TT} {tr : TA} {x y d d' : D} {ds es : List D} {r : R2} {b c : Bool}
/-! ### the frame -/
theorem Own.grow {B H B' H' : Hp} (o : Own C B H μ) (g : Gr (dom μ1) B H B' H') (hd : ∀ p ∈ dom μ, p ∉ dom μ1) : Own C B' H' μ := by
  refine o.to g.bb (fun p hp => ?_) fun p vs hp h => g.hh p _ h (hd p hp)
  obtain ⟨ds, hm⟩ := mem_dom hp
  obtain ⟨h1, vs, h2, _⟩ := o.mem hm
  cases q : B' p with
  | none => rfl
  | some u =>
    rcases g.fr p u q with z | z
    · rw [h1] at z; cases z
    · rw [h2] at z; cases z
theorem Ok.tail {p : Addr} {B H : Hp} (o : Ok C ((p, ds) :: μ) B H) : Ok C μ B H := ⟨o.bh, o.own.2⟩
theorem Ok.keep {p : Addr} {B H B' H' : Hp} (o : Ok C ((p, ds) :: μ) B H) (hd : dom μ' = dom μ) (g : Gr (dom μ) B H B' H') (o' : Ok C μ' B' H') : Ok C ((p, ds) :: μ') B' H' := by
  obtain ⟨⟨h1, hn, vs, h2, h3⟩, h4⟩ := o.own
  refine ⟨o'.bh, ⟨?_, by rw [hd]; exact hn, vs, g.hh p _ h2 hn, h3.mono g.bb⟩, o'.own⟩
  cases q : B' p with
  | none => rfl
  | some u =>
    rcases g.fr p u q with z | z
    · rw [h1] at z; cases z
    · rw [h2] at z; cases z
theorem Gr.more {B H B' H' : Hp} {l l' : List Addr} (g : Gr l B H B' H') (h : ∀ a ∈ l, a ∈ l') : Gr l' B H B' H' := ⟨g.bb, fun a o e n => g.hh a o e fun z => n (h a z), g.fr, g.ds⟩
theorem AE.frame {p : Addr} (h : AE C te ρ μ d μ1) : AE C te ρ ((p, ds) :: μ) d ((p, ds) :: μ1) := ⟨by show p :: dom μ1 = p :: dom μ; rw [h.1], fun σ B H rs ok Q q => h.2 σ B H rs ok.tail Q fun v B' H' g ok' r =>
  q v B' H' (g.more fun a z => List.mem_cons_of_mem _ z) (ok.keep h.1 g ok') r⟩

/-! ### targets: names alone -/
theorem wipe_set {σ : L2.St} {i : Nat} {x : Option V} : ∀ {vs : List Nat}, i ∈ vs → L2.wipe (σ.set i x) vs = L2.wipe σ vs
  | [], h => by cases h
  | v :: vs, h => by
    show (L2.wipe (σ.set i x) vs).set v none = (L2.wipe σ vs).set v none
    by_cases e : v = i
    · subst e
      have : ∀ vs : List Nat, ∀ y : Option V, (L2.wipe (σ.set v y) vs).set v none = (L2.wipe σ vs).set v none := by
        intro vs
        induction vs with
        | nil => intro y; show (σ.set v y).set v none = σ.set v none; rw [List.set_set]
        | cons w ws ih =>
          intro y
          show ((L2.wipe (σ.set v y) ws).set w none).set v none = ((L2.wipe σ ws).set w none).set v none
          by_cases z : w = v
          · subst z
            rw [List.set_set, List.set_set, ih y]
          · rw [List.set_comm _ _ z, List.set_comm (l := L2.wipe σ ws) _ _ z, ih y]
      exact this vs x
    · rcases List.mem_cons.mp h with z | z
      · exact absurd z.symm e
      · rw [wipe_set z]
theorem wipe_idem (σ : L2.St) : ∀ vs ws : List Nat, (∀ v ∈ ws, v ∈ vs) → L2.wipe (L2.wipe σ ws) vs = L2.wipe σ vs
  | vs, [], _ => rfl
  | vs, w :: ws, h => by
    show L2.wipe ((L2.wipe σ ws).set w none) vs = _
    rw [wipe_set (h w (List.mem_cons_self ..)), wipe_idem σ vs ws fun v hv => h v (List.mem_cons_of_mem _ hv)]
def AG (C : Addr) (g : TG) (d : D) (ρ : Sto) (js : List Nat) (ρ2 : Sto) : Prop :=
  ∀ σ B H v, RS C B ρ σ → Same B H → Rep C B d v → ∀ Q : L2.St → Hp → Prop, (∀ σ2, RS C B ρ2 σ2 → (∀ vs : List Nat, (∀ j ∈ js, j ∈ vs) → L2.wipe σ2 vs = L2.wipe σ vs) → Q σ2 H) → g v σ H Q
def AGs (C : Addr) (g : TGs) (ds : List D) (ρ : Sto) (js : List Nat) (ρ2 : Sto) : Prop :=
  ∀ σ B H vs, RS C B ρ σ → Same B H → RepL C B ds vs → ∀ Q : L2.St → Hp → Prop, (∀ σ2, RS C B ρ2 σ2 → (∀ vs : List Nat, (∀ j ∈ js, j ∈ vs) → L2.wipe σ2 vs = L2.wipe σ vs) → Q σ2 H) → g vs σ H Q
theorem ag_name {j : Nat} : AG C (gName j) d ρ [j] (ρ.set j (some d)) := fun σ B H v rs bh r Q q => q _ (rs.set j r) fun vs h => wipe_set (h j (List.mem_cons_self ..))
theorem ags_nil : AGs C gNil [] ρ [] ρ := fun σ B H vs rs bh r Q q => ⟨r, q σ rs fun _ _ => rfl⟩
theorem ags_cons {g : TG} {gs : TGs} {js ks : List Nat} (h : AG C g d ρ js ρ1) (h2 : AGs C gs ds ρ1 ks ρ2) : AGs C (gCons g gs) (d :: ds) ρ (js ++ ks) ρ2 := fun σ B H vs rs bh r Q q => by
  obtain ⟨v, r', rfl, h1, h2'⟩ := r
  exact ⟨v, r', rfl, h σ B H v rs bh h1 _ fun σ1 rs1 w1 => h2 σ1 B H r' rs1 bh h2' Q fun σ2 rs2 w2 => q σ2 rs2 fun vs hv => (w2 vs fun j hj => hv j (List.mem_append_right _ hj)).trans (w1 vs fun j hj => hv j (List.mem_append_left _ hj))⟩
theorem ag_tup {gs : TGs} {js : List Nat} {n : Nat} (hn : ds.length = n) (h : AGs C gs ds ρ js ρ2) : AG C (gTup K n gs) (.tup ds) ρ js ρ2 := fun σ B H v rs bh r Q q => by
  obtain ⟨a, vs, rfl, h1, h2⟩ := r
  exact ⟨a, vs, rfl, SqT.of (bh _ _ h1), h2.length.trans hn, h σ B H vs rs bh h2 Q q⟩

/-! ### walks -/
/-- n turns that give what stands for xs, as long as B is known -/
def Wk (C : Addr) (J : It) (xs : List D) (B : Hp) : Prop := ∃ G Y, Walk J xs.length G Y ∧ (∀ H, Same B H → G H) ∧
  ∀ i x H H', i < xs.length → Y i H x H' → ∀ B2, Same B B2 → Same B2 H → ∃ B3 d, Gr [] B2 H B3 H' ∧ Same B3 H' ∧ xs[i]? = some d ∧ Rep C B3 d x
def AI (C : Addr) (wi : TI) (ρ : Sto) (μ : Mu) (xs : List D) (μ' : Mu) : Prop := dom μ' = dom μ ∧
  ∀ σ B H, RS C B ρ σ → Ok C μ B H → ∀ R : It → Hp → Prop, (∀ J B' H', Gr (dom μ) B H B' H' → Ok C μ' B' H' → Wk C J xs B' → R J H') → wi σ H R
theorem wk_list {a : Addr} {B : Hp} {vs : List V} (h : B a = some (.lst vs)) (r : RepL C B ds vs) : Wk C (Itl K a) ds B := by
  refine ⟨fun H => SqL K H a vs, YAt vs, by rw [← r.length]; exact walk_list, fun H s => SqL.of (s _ _ h), fun i x H H' hi hy B2 s1 s2 => ?_⟩
  obtain ⟨rfl, hx⟩ := hy
  have hd : ds[i]? = some ds[i] := List.getElem?_eq_getElem hi
  obtain ⟨v, h1, h2⟩ := r.get hd
  rw [h1] at hx
  cases hx
  exact ⟨B2, ds[i], Gr.refl _ _ _, s2, hd, h2.mono s1⟩
theorem wk_tup {a : Addr} {B : Hp} {vs : List V} (h : B a = some (.tup vs)) (r : RepL C B ds vs) : Wk C (Itt K a) ds B := by
  refine ⟨fun H => SqT K H a vs, YAt vs, by rw [← r.length]; exact walk_tup, fun H s => SqT.of (s _ _ h), fun i x H H' hi hy B2 s1 s2 => ?_⟩
  obtain ⟨rfl, hx⟩ := hy
  have hd : ds[i]? = some ds[i] := List.getElem?_eq_getElem hi
  obtain ⟨v, h1, h2⟩ := r.get hd
  rw [h1] at hx
  cases hx
  exact ⟨B2, ds[i], Gr.refl _ _ _, s2, hd, h2.mono s1⟩
/-- lo, lo + 1, .. -/
def rngD (lo : Int) (n : Nat) : List D := (List.range n).map fun i => .int (lo + (i : Nat))
theorem rngD_length (lo : Int) (n : Nat) : (rngD lo n).length = n := by unfold rngD; rw [List.length_map, List.length_range]
theorem rngD_get {lo : Int} {n i : Nat} (h : i < n) : (rngD lo n)[i]? = some (.int (lo + (i : Nat))) := by
  unfold rngD
  rw [List.getElem?_map, List.getElem?_range h]
  rfl
theorem wk_range {lo : Int} {n : Nat} {B : Hp} : Wk C (Itr lo n) (rngD lo n) B := by
  refine ⟨fun _ => True, YFn fun i => .int (lo + (i : Nat)), by rw [rngD_length]; exact walk_range, fun H s => trivial, fun i x H H' hi hy B2 s1 s2 => ?_⟩
  obtain ⟨rfl, hx⟩ := hy
  exact ⟨B2, _, Gr.refl _ _ _, s2, rngD_get (by rwa [rngD_length] at hi), hx⟩
def prsD (xs ys : List D) : List D := (xs.zip ys).map fun p => .tup [p.1, p.2]
theorem pair_new {H B2 : Hp} {T : Addr} {x y : V} {d e : D} (s2 : Same B2 H) (hT : H T = none) (rx : Rep C B2 d x) (ry : Rep C B2 e y) :
    Gr [] B2 H (upd B2 T (.tup [x, y])) (upd H T (.tup [x, y])) ∧ Same (upd B2 T (.tup [x, y])) (upd H T (.tup [x, y])) ∧ Rep C (upd B2 T (.tup [x, y])) (.tup [d, e]) (.ref T) := by
  have bm : Same B2 (upd B2 T (.tup [x, y])) := fun a u q => by rw [upd_ne (ne_of_none q (s2.free hT))]; exact q
  exact ⟨Gr.new hT s2, Same.upd_new s2 hT, T, [x, y], rfl, upd_same, x, [y], rfl, rx.mono bm, y, [], rfl, ry.mono bm, rfl⟩
theorem wk_zip {a b : Addr} {B : Hp} {vs ws : List V} (ha : B a = some (.lst vs)) (r : RepL C B ds vs) (hb : B b = some (.lst ws)) (r2 : RepL C B es ws) : Wk C (Itz K a b) (prsD ds es) B := by
  have hl : (prsD ds es).length = min vs.length ws.length := by unfold prsD; rw [List.length_map, List.length_zip, r.length, r2.length]
  refine ⟨fun H => SqL K H a vs ∧ SqL K H b ws, YPair (fun i => vs[i]?) (fun i => ws[i]?), by rw [hl]; exact walk_zip rfl, fun H s => ⟨SqL.of (s _ _ ha), SqL.of (s _ _ hb)⟩, fun i x H H' hi hy B2 s1 s2 => ?_⟩
  obtain ⟨T, v, w, rfl, hT, rfl, hv, hw⟩ := hy
  rw [hl] at hi
  have h1 : i < ds.length := by rw [← r.length]; omega
  have h2 : i < es.length := by rw [← r2.length]; omega
  obtain ⟨v', e1, q1⟩ := r.get (List.getElem?_eq_getElem h1)
  obtain ⟨w', e2, q2⟩ := r2.get (List.getElem?_eq_getElem h2)
  rw [show vs[i]? = some v from hv] at e1
  rw [show ws[i]? = some w from hw] at e2
  cases e1
  cases e2
  obtain ⟨g, s, p⟩ := pair_new s2 hT (q1.mono s1) (q2.mono s1)
  refine ⟨_, _, g, s, ?_, p⟩
  unfold prsD
  rw [List.getElem?_map, (List.getElem?_zip_eq_some (z := (ds[i], es[i]))).mpr ⟨List.getElem?_eq_getElem h1, List.getElem?_eq_getElem h2⟩]
  rfl
theorem prsD_zip_get {xs ys : List D} {i : Nat} {p : D} (h : (prsD xs ys)[i]? = some p) : ∃ x y, xs[i]? = some x ∧ ys[i]? = some y ∧ p = .tup [x, y] := by
  unfold prsD at h
  rw [List.getElem?_map] at h
  cases q : (xs.zip ys)[i]? with
  | none => rw [q] at h; cases h
  | some z =>
    rw [q] at h
    obtain ⟨x, y⟩ := z
    obtain ⟨h1, h2⟩ := List.getElem?_zip_eq_some.mp q
    exact ⟨x, y, h1, h2, (Option.some.inj h).symm⟩
theorem prsD_length (xs ys : List D) : (prsD xs ys).length = min xs.length ys.length := by unfold prsD; rw [List.length_map, List.length_zip]
def enuD (xs : List D) : List D := prsD (rngD 0 xs.length) xs
theorem enuD_length (xs : List D) : (enuD xs).length = xs.length := by unfold enuD; rw [prsD_length, rngD_length, Nat.min_self]
theorem enuD_get {xs : List D} {i : Nat} {p : D} (h : (enuD xs)[i]? = some p) : ∃ x, xs[i]? = some x ∧ p = .tup [.int (i : Nat), x] := by
  obtain ⟨x, y, h1, h2, rfl⟩ := prsD_zip_get h
  have hi : i < xs.length := (List.getElem?_eq_some_iff.mp h2).1
  rw [rngD_get hi] at h1
  refine ⟨y, h2, ?_⟩
  rw [← Option.some.inj h1, Int.zero_add]
theorem wk_enum {a : Addr} {B : Hp} {vs : List V} (ha : B a = some (.lst vs)) (r : RepL C B ds vs) : Wk C (Ite K a) (enuD ds) B := by
  refine ⟨fun H => SqL K H a vs, YPair (fun i => some (.int (i : Nat))) (fun i => vs[i]?), by rw [enuD_length, ← r.length]; exact walk_enum, fun H s => SqL.of (s _ _ ha), fun i x H H' hi hy B2 s1 s2 => ?_⟩
  obtain ⟨T, v, w, rfl, hT, rfl, hv, hw⟩ := hy
  rw [enuD_length] at hi
  obtain ⟨w', e2, q2⟩ := r.get (List.getElem?_eq_getElem hi)
  rw [show vs[i]? = some w from hw] at e2
  cases e2
  have hv' : v = .int (i : Nat) := (Option.some.inj hv).symm
  subst hv'
  obtain ⟨g, s, p⟩ := pair_new (d := .int (i : Nat)) s2 hT rfl (q2.mono s1)
  refine ⟨_, _, g, s, ?_, p⟩
  unfold enuD prsD
  rw [List.getElem?_map, (List.getElem?_zip_eq_some (z := (D.int (0 + (i : Nat)), ds[i]))).mpr ⟨rngD_get hi, List.getElem?_eq_getElem hi⟩, Int.zero_add]
  rfl
theorem ai_list {tl : TE} (h : AE C tl ρ μ (.lst ds) μ1) : AI C (iList K tl) ρ μ ds μ1 := ⟨h.1, fun σ B H rs ok R q => h.2 σ B H rs ok _ fun v B1 H1 g1 ok1 r1 => by
  obtain ⟨a, vs, rfl, h1, h2⟩ := r1
  exact ⟨a, rfl, ⟨vs, SqL.of (ok1.bh _ _ h1)⟩, q _ B1 H1 g1 ok1 (wk_list h1 h2)⟩⟩
theorem ai_tup {tl : TE} (h : AE C tl ρ μ (.tup ds) μ1) : AI C (iTup K tl) ρ μ ds μ1 := ⟨h.1, fun σ B H rs ok R q => h.2 σ B H rs ok _ fun v B1 H1 g1 ok1 r1 => by
  obtain ⟨a, vs, rfl, h1, h2⟩ := r1
  exact ⟨a, rfl, ⟨vs, SqT.of (ok1.bh _ _ h1)⟩, q _ B1 H1 g1 ok1 (wk_tup h1 h2)⟩⟩
theorem ai_range1 {n : Nat} (h : AA C tr ρ μ [.int (n : Nat)] μ1) (hn : n ≤ 1000000) : AI C (iRng1 tr) ρ μ (rngD 0 n) μ1 := ⟨h.1, fun σ B H rs ok R q => h.2 σ B H rs ok _ fun vs B1 H1 g1 ok1 r1 => by
  obtain ⟨v, r, rfl, h1, h2⟩ := r1
  refine ⟨(n : Nat), by rw [show v = V.int (n : Nat) from h1, show r = [] from h2], by omega, by omega, ?_⟩
  rw [Int.toNat_natCast]
  exact q _ B1 H1 g1 ok1 wk_range⟩
theorem ai_range2 {i j : Int} (h : AA C tr ρ μ [.int i, .int j] μ1) (hn : -1000000 ≤ i ∧ i ≤ 1000000 ∧ -1000000 ≤ j ∧ j ≤ 1000000) : AI C (iRng2 tr) ρ μ (rngD i (j - i).toNat) μ1 := ⟨h.1, fun σ B H rs ok R q => h.2 σ B H rs ok _ fun vs B1 H1 g1 ok1 r1 => by
  obtain ⟨v, r, rfl, h1, v2, r2, rfl, h2, h3⟩ := r1
  exact ⟨i, j, by rw [show v = V.int i from h1, show v2 = V.int j from h2, show r2 = [] from h3], by omega, q _ B1 H1 g1 ok1 wk_range⟩⟩
theorem ai_zip (h : AA C tr ρ μ [.lst ds, .lst es] μ1) : AI C (iZip K tr) ρ μ (prsD ds es) μ1 := ⟨h.1, fun σ B H rs ok R q => h.2 σ B H rs ok _ fun vs B1 H1 g1 ok1 r1 => by
  obtain ⟨v, r, rfl, ⟨a, xs, rfl, ha, ra⟩, v2, r2, rfl, ⟨b, ys, rfl, hb, rb⟩, h3⟩ := r1
  exact ⟨a, b, xs, ys, by rw [show r2 = [] from h3], SqL.of (ok1.bh _ _ ha), SqL.of (ok1.bh _ _ hb), q _ B1 H1 g1 ok1 (wk_zip ha ra hb rb)⟩⟩
theorem ai_enum (h : AA C tr ρ μ [.lst ds] μ1) : AI C (iEnum K tr) ρ μ (enuD ds) μ1 := ⟨h.1, fun σ B H rs ok R q => h.2 σ B H rs ok _ fun vs B1 H1 g1 ok1 r1 => by
  obtain ⟨v, r, rfl, ⟨a, xs, rfl, ha, ra⟩, h3⟩ := r1
  exact ⟨a, xs, by rw [show r = [] from h3], SqL.of (ok1.bh _ _ ha), q _ B1 H1 g1 ok1 (wk_enum ha ra)⟩⟩

/-! ### comprehensions -/
theorem at_yes : AT C tYes ρ μ true μ := ⟨rfl, fun σ B H rs ok Q q => q B H (Gr.refl _ _ _) ok⟩
theorem af_lc {wi : TI} {g : TG} {vs : List Nat} {xs : List D} (ms : Nat → Mu) (ys : Nat → List D) (hi : AI C wi ρ μ xs (ms 0)) (hy0 : ys 0 = []) (hlen : xs.length ≤ 100000)
    (hs : ∀ (i : Nat) (d : D), xs[i]? = some d → ∃ ρ2 js, AG C g d (wipeA ρ vs) js ρ2 ∧ (∀ j ∈ js, j ∈ vs) ∧ ∃ b μ2, AT C tt ρ2 (ms i) b μ2 ∧ (b = true → ∃ e, AE C te ρ2 μ2 e (ms (i + 1)) ∧ ys (i + 1) = ys i ++ [e]) ∧ (b = false → ms (i + 1) = μ2 ∧ ys (i + 1) = ys i)) :
    AF C (tLc wi g tt te vs) ρ μ (ys xs.length) (ms xs.length) := by
  have hdm : ∀ i, i ≤ xs.length → dom (ms i) = dom μ := by
    intro i
    induction i with
    | zero => intro _; exact hi.1
    | succ i ih =>
      intro hl
      obtain ⟨ρ2, js, _, _, b, μ2, ht, h1, h2⟩ := hs i _ (List.getElem?_eq_getElem (Nat.lt_of_succ_le hl))
      cases b with
      | true =>
        obtain ⟨e, he, _⟩ := h1 rfl
        exact he.1.trans (ht.1.trans (ih (Nat.le_of_succ_le hl)))
      | false => rw [(h2 rfl).1]; exact ht.1.trans (ih (Nat.le_of_succ_le hl))
  have hyl : ∀ i, i ≤ xs.length → (ys i).length ≤ i := by
    intro i
    induction i with
    | zero => intro _; rw [hy0]; exact Nat.le_refl _
    | succ i ih =>
      intro hl
      have ih' := ih (Nat.le_of_succ_le hl)
      obtain ⟨ρ2, js, _, _, b, μ2, ht, h1, h2⟩ := hs i _ (List.getElem?_eq_getElem (Nat.lt_of_succ_le hl))
      cases b with
      | true =>
        obtain ⟨e, _, he⟩ := h1 rfl
        rw [he, List.length_append]
        exact Nat.add_le_add_right ih' 1
      | false => rw [(h2 rfl).2]; exact Nat.le_succ_of_le ih'
  refine ⟨hdm _ (Nat.le_refl _), fun σ B H rs ok Q q => hi.2 σ B H rs ok _ fun J B1 H1 g1 ok1 wk L hL => ?_⟩
  obtain ⟨G, Y, w, hG, hY⟩ := wk
  have hLB : B1 L = none := ok1.bh.free hL
  have hLH : H L = none := by
    cases z : H L with
    | none => rfl
    | some o =>
      obtain ⟨o', z'⟩ := g1.ds L o z
      rw [hL] at z'; cases z'
  have hLm : L ∉ dom μ := fun z => by
    obtain ⟨ds', hm⟩ := mem_dom (hi.1 ▸ z)
    obtain ⟨_, vs', h2, _⟩ := ok1.own.mem hm
    rw [hL] at h2; cases h2
  refine lc_it w (fun i H' => ∃ B', Gr (L :: dom μ) B1 (upd H1 L (.lst [])) B' H' ∧ Ok C ((L, ys i) :: ms i) B' H') ⟨B1, Gr.refl _ _ _, (ok1.newH hL).bh, ⟨hLB, by rw [hi.1]; exact hLm, [], upd_same, by rw [hy0]; exact rfl⟩, (ok1.newH hL).own⟩
    (fun i H' _ ⟨B', g', ok'⟩ => hG H' (g'.bb.trans ok'.bh)) (fun i x H' H2 hlt ⟨B', g', ok'⟩ hy => ?_) fun H' ⟨B', g', ok'⟩ => ?_
  · obtain ⟨B3, d, g3, s3, hd, hr⟩ := hY i x H' H2 hlt hy B' g'.bb ok'.bh
    obtain ⟨ρ2, js, hag, hjs, b, μ2, ht, h1, h2⟩ := hs i d hd
    have ok3 : Ok C ((L, ys i) :: ms i) B3 H2 := ok'.grow g3 s3
    refine hag (L2.wipe σ vs) B3 H2 x ((rs.mono (g1.bb.trans (g'.bb.trans g3.bb))).wipe vs) s3 hr _ fun σ2 rs2 w2 => ⟨(w2 vs hjs).trans (wipe_idem σ vs vs fun v hv => hv), ?_⟩
    refine ht.2 σ2 B3 H2 rs2 ok3.tail _ fun B4 H4 g4 ok4 => ?_
    have ok4' : Ok C ((L, ys i) :: μ2) B4 H4 := ok3.keep ht.1 g4 ok4
    have dmi := hdm i (Nat.le_of_lt hlt)
    have gg : Gr (L :: dom μ) B1 (upd H1 L (.lst [])) B4 H4 := (g'.trans (g3.weak _)).trans (g4.more fun a z => List.mem_cons_of_mem _ (by rw [← dmi]; exact z))
    cases b with
    | true =>
      rw [if_pos rfl]
      obtain ⟨e, he, hye⟩ := h1 rfl
      refine he.2 σ2 B4 H4 (rs2.mono g4.bb) ok4 _ fun v B5 H5 g5 ok5 r5 => ?_
      have ok5' : Ok C ((L, ys i) :: ms (i + 1)) B5 H5 := ok4'.keep he.1 g5 ok5
      obtain ⟨⟨n1, n2, acc, n3, n4⟩, n5⟩ := ok5'.own
      refine ⟨acc, n3, ?_, B5, ?_, ?_⟩
      · rw [n4.length]
        have := hyl i (Nat.le_of_lt hlt)
        exact Nat.lt_of_lt_of_le (show _ < 1000000 by omega) (by decide)
      · have gg5 := gg.trans (g5.more fun a z => List.mem_cons_of_mem _ (by rw [← dmi, ← ht.1]; exact z))
        refine ⟨gg5.bb, fun a o h n => ?_, gg5.fr, fun a o h => ?_⟩
        · rw [upd_ne (show a ≠ L from fun z => n (by rw [z]; exact List.mem_cons_self ..))]
          exact gg5.hh a o h n
        · by_cases z : a = L
          · exact ⟨_, by rw [z]; exact upd_same⟩
          · obtain ⟨o', z'⟩ := gg5.ds a o h
            exact ⟨o', by rw [upd_ne z]; exact z'⟩
      · refine ⟨Same.upd_right ok5'.bh n1, ⟨n1, n2, acc ++ [v], upd_same, by rw [hye]; exact n4.snoc r5⟩, n5.to (Same.refl _) (fun p hp => ?_) fun p ws hp h => ?_⟩
        · obtain ⟨ds', hm⟩ := mem_dom hp
          exact (n5.mem hm).1
        · rw [upd_ne (show p ≠ L from fun z => n2 (z ▸ hp))]
          exact h
    | false =>
      rw [if_neg Bool.false_ne_true]
      obtain ⟨e1, e2⟩ := h2 rfl
      rw [e1, e2]
      exact ⟨B4, gg, ok4'⟩
  · obtain ⟨⟨n1, n2, acc, n3, n4⟩, n5⟩ := ok'.own
    refine q L acc B' H' (g1.trans ⟨g'.bb, fun a o h n => ?_, fun a o h => ?_, fun a o h => ?_⟩) ⟨ok'.bh, n5⟩ hLH n1 n3 n4
    · exact g'.hh a o (by rw [upd_ne (ne_of_none h hL)]; exact h) (fun z => by
        rcases List.mem_cons.mp z with z | z
        · rw [z, hL] at h; cases h
        · exact n z)
    · rcases g'.fr a o h with z | z
      · exact .inl z
      · by_cases e : a = L
        · rw [e] at h; rw [n1] at h; cases h
        · rw [upd_ne e] at z; exact .inr z
    · exact g'.ds a o (by rw [upd_ne (ne_of_none h hL)]; exact h)
/-- every item, nothing owned changes -/
theorem af_map {wi : TI} {g : TG} {vs : List Nat} {xs : List D} (f : Nat → D) (hi : AI C wi ρ μ xs μ1) (hlen : xs.length ≤ 100000)
    (hs : ∀ (i : Nat) (d : D), xs[i]? = some d → ∃ ρ2 js, AG C g d (wipeA ρ vs) js ρ2 ∧ (∀ j ∈ js, j ∈ vs) ∧ AT C tt ρ2 μ1 true μ1 ∧ AE C te ρ2 μ1 (f i) μ1) :
    AF C (tLc wi g tt te vs) ρ μ ((List.range xs.length).map f) μ1 :=
  af_lc (fun _ => μ1) (fun i => (List.range i).map f) hi rfl hlen fun i d hd => by
    obtain ⟨ρ2, js, h1, h2, h3, h4⟩ := hs i d hd
    exact ⟨ρ2, js, h1, h2, true, μ1, h3, fun _ => ⟨f i, h4, by rw [List.range_succ, List.map_append]; rfl⟩, fun z => by cases z⟩
/-- the items for which b holds -/
theorem af_filter {wi : TI} {g : TG} {vs : List Nat} {xs : List D} (f : Nat → D) (b : Nat → Bool) (hi : AI C wi ρ μ xs μ1) (hlen : xs.length ≤ 100000)
    (hs : ∀ (i : Nat) (d : D), xs[i]? = some d → ∃ ρ2 js, AG C g d (wipeA ρ vs) js ρ2 ∧ (∀ j ∈ js, j ∈ vs) ∧ AT C tt ρ2 μ1 (b i) μ1 ∧ (b i = true → AE C te ρ2 μ1 (f i) μ1)) :
    AF C (tLc wi g tt te vs) ρ μ (((List.range xs.length).filter b).map f) μ1 :=
  af_lc (fun _ => μ1) (fun i => ((List.range i).filter b).map f) hi rfl hlen fun i d hd => by
    obtain ⟨ρ2, js, h1, h2, h3, h4⟩ := hs i d hd
    refine ⟨ρ2, js, h1, h2, b i, μ1, h3, fun z => ⟨f i, h4 z, ?_⟩, fun z => ⟨rfl, ?_⟩⟩
    · show ((List.range (i + 1)).filter b).map f = ((List.range i).filter b).map f ++ [f i]
      rw [List.range_succ, List.filter_append, List.map_append, List.filter_cons, if_pos z]; rfl
    · show ((List.range (i + 1)).filter b).map f = ((List.range i).filter b).map f
      rw [List.range_succ, List.filter_append, List.map_append, List.filter_cons, if_neg (by rw [z]; exact Bool.false_ne_true)]
      exact List.append_nil _
end
end OC
set_option maxHeartbeats 4000000
/-! OcS: statements, owned lists, promises. -/
namespace OC
open PySem PySem.Spec PyProof.Rows L2

/-- what is handed back: data, a new list, or an error of the class -/
inductive Ret where
  | val (d : D) | fresh (ds : List D) | err

structure Gam where
  B0 : Hp
  H0 : Hp
  dm : List Addr
  er : Hp → Prop
structure Gx (Γ : Gam) (μ : Mu) (B H : Hp) : Prop where
  bb : Same Γ.B0 B
  hh : ∀ a o, Γ.H0 a = some o → a ∉ Γ.dm → H a = some o
  fr : ∀ a o, B a = some o → Γ.B0 a = some o ∨ Γ.H0 a = none
  ds : ∀ a o, Γ.H0 a = some o → ∃ o', H a = some o'
  lo : ∀ p ∈ dom μ, p ∈ Γ.dm ∨ Γ.H0 p = none
structure AEn where
  nx : Sto → Mu → Prop
  rt : Ret → Mu → Prop
  bk : Sto → Mu → Prop := fun _ _ => False
  ct : Sto → Mu → Prop := fun _ _ => False
  er : Mu → Prop := fun _ => False
/-- what v is, told by r -/
def RetV (C : Addr) (Γ : Gam) (B H : Hp) : Ret → V → Prop
  | .val d, v => Rep C B d v
  | .fresh ds, v => ∃ p vs, v = .ref p ∧ Γ.H0 p = none ∧ B p = none ∧ H p = some (.lst vs) ∧ RepL C B ds vs
  | .err, _ => False
structure Fol (C : Addr) (Γ : Gam) (E : AEn) (Dn : Ends) : Prop where
  nx : ∀ ρ μ σ B H, E.nx ρ μ → RS C B ρ σ → Ok C μ B H → Gx Γ μ B H → Dn.nx σ H
  rt : ∀ r μ v B H, E.rt r μ → Ok C μ B H → Gx Γ μ B H → RetV C Γ B H r v → Dn.rt v H
  bk : ∀ ρ μ σ B H, E.bk ρ μ → RS C B ρ σ → Ok C μ B H → Gx Γ μ B H → Dn.bk σ H
  ct : ∀ ρ μ σ B H, E.ct ρ μ → RS C B ρ σ → Ok C μ B H → Gx Γ μ B H → Dn.ct σ H
  er : ∀ μ B H, E.er μ → Ok C μ B H → Gx Γ μ B H → Γ.er H
def AS (C : Addr) (ts : TS) (ρ : Sto) (μ : Mu) (E : AEn) : Prop :=
  ∀ Γ σ B H Dn, RS C B ρ σ → Ok C μ B H → Gx Γ μ B H → Fol C Γ E Dn → ts Dn σ H

section
variable {C : Addr} {K : PySem.W.Frag} {ρ ρ1 ρ2 : Sto} {μ μ1 μ2 μ3 : Mu} {te ta tb : TE} {tt tu : TT} {tr : TA} {x y d d' : D} {ds es : List D} {r : R2} {b c : Bool} {Γ : Gam} {B H B' H' : Hp} {ts t1 t2 : TS} {E : AEn} {g : TG}
theorem Gx.step (x : Gx Γ μ B H) (hd : dom μ1 = dom μ) (g : Gr (dom μ) B H B' H') : Gx Γ μ1 B' H' where
  bb := x.bb.trans g.bb
  hh := fun a o h n => g.hh a o (x.hh a o h n) fun z => by
    rcases x.lo a z with w | w
    · exact n w
    · rw [h] at w; cases w
  fr := fun a o h => by
    rcases g.fr a o h with z | z
    · exact x.fr a o z
    · cases q : Γ.H0 a with
      | none => exact .inr rfl
      | some u =>
        obtain ⟨o', z'⟩ := x.ds a u q
        rw [z] at z'; cases z'
  ds := fun a o h => by
    obtain ⟨o', z⟩ := x.ds a o h
    exact g.ds a o' z
  lo := fun p hp => x.lo p (hd ▸ hp)
theorem Gx.free (x : Gx Γ μ B H) {p : Addr} (h : H p = none) : Γ.H0 p = none := by
  cases q : Γ.H0 p with
  | none => rfl
  | some u =>
    obtain ⟨o', z'⟩ := x.ds p u q
    rw [h] at z'; cases z'
/-- a stretch told from a later state, told from the entry -/
theorem Gx.back {μ' μ4 : Mu} {B3 H2 B4 H4 : Hp} (gx3 : Gx Γ μ' B3 H2) (z : Gx ⟨B3, H2, dom μ', Γ.er⟩ μ4 B4 H4) : Gx Γ μ4 B4 H4 where
  bb := gx3.bb.trans z.bb
  hh := fun a o h n => z.hh a o (gx3.hh a o h n) fun w => by
    rcases gx3.lo a w with w | w
    · exact n w
    · rw [h] at w; cases w
  fr := fun a o h => by
    rcases z.fr a o h with w | w
    · exact gx3.fr a o w
    · exact .inr (gx3.free w)
  ds := fun a o h => by
    obtain ⟨o', w⟩ := gx3.ds a o h
    exact z.ds a o' w
  lo := fun p hp => by
    rcases z.lo p hp with w | w
    · exact gx3.lo p w
    · exact .inr (gx3.free w)
theorem AS.imp {E' : AEn} (h : AS C ts ρ μ E') (hn : ∀ ρ μ, E'.nx ρ μ → E.nx ρ μ) (hr : ∀ r μ, E'.rt r μ → E.rt r μ) (hb : ∀ ρ μ, E'.bk ρ μ → E.bk ρ μ) (hc : ∀ ρ μ, E'.ct ρ μ → E.ct ρ μ) (he : ∀ μ, E'.er μ → E.er μ) : AS C ts ρ μ E :=
  fun Γ σ B H Dn rs ok gx f => h Γ σ B H Dn rs ok gx ⟨fun a b c d e z => f.nx a b c d e (hn _ _ z), fun a b c d e z => f.rt a b c d e (hr _ _ z), fun a b c d e z => f.bk a b c d e (hb _ _ z), fun a b c d e z => f.ct a b c d e (hc _ _ z), fun a b c z => f.er a b c (he _ z)⟩
theorem as_next (h : E.nx ρ μ) : AS C tNext ρ μ E := fun Γ σ B H Dn rs ok gx f => f.nx ρ μ σ B H h rs ok gx
theorem as_break (h : E.bk ρ μ) : AS C tBreak ρ μ E := fun Γ σ B H Dn rs ok gx f => f.bk ρ μ σ B H h rs ok gx
theorem as_cont (h : E.ct ρ μ) : AS C tCont ρ μ E := fun Γ σ B H Dn rs ok gx f => f.ct ρ μ σ B H h rs ok gx
theorem as_seq (h : AS C t1 ρ μ { E with nx := fun ρ' μ' => AS C t2 ρ' μ' E }) : AS C (tSeq t1 t2) ρ μ E := fun Γ σ B H Dn rs ok gx f =>
  h Γ σ B H { Dn with nx := t2 Dn } rs ok gx ⟨fun ρ' μ' σ' B' H' z rs' ok' gx' => z Γ σ' B' H' Dn rs' ok' gx' f, f.rt, f.bk, f.ct, f.er⟩
theorem as_asg {js : List Nat} (he : AE C te ρ μ d μ1) (hg : AG C g d ρ js ρ2) (h : E.nx ρ2 μ1) : AS C (tAsg te g) ρ μ E := fun Γ σ B H Dn rs ok gx f =>
  he.2 σ B H rs ok _ fun v B1 H1 g1 ok1 r1 => hg σ B1 H1 v (rs.mono g1.bb) ok1.bh r1 _ fun σ2 rs2 _ => f.nx ρ2 μ1 σ2 B1 H1 h rs2 ok1 (gx.step he.1 g1)
theorem as_set {i : Nat} (he : AE C te ρ μ d μ1) (h : E.nx (ρ.set i (some d)) μ1) : AS C (tAsg te (gName i)) ρ μ E := as_asg he ag_name h
theorem as_drop (he : AE C te ρ μ d μ1) (h : E.nx ρ μ1) : AS C (tDrop te) ρ μ E := fun Γ σ B H Dn rs ok gx f =>
  he.2 σ B H rs ok _ fun v B1 H1 g1 ok1 r1 => f.nx ρ μ1 σ B1 H1 h (rs.mono g1.bb) ok1 (gx.step he.1 g1)
theorem as_ret (he : AE C te ρ μ d μ1) (h : E.rt (.val d) μ1) : AS C (tRet te) ρ μ E := fun Γ σ B H Dn rs ok gx f =>
  he.2 σ B H rs ok _ fun v B1 H1 g1 ok1 r1 => f.rt (.val d) μ1 v B1 H1 h ok1 (gx.step he.1 g1) r1
theorem as_retN (h : E.rt (.val .non) μ) : AS C tRetN ρ μ E := fun Γ σ B H Dn rs ok gx f => f.rt _ _ _ B H h ok gx rfl
theorem as_retF (he : AF C te ρ μ ds μ1) (h : E.rt (.fresh ds) μ1) : AS C (tRet te) ρ μ E := fun Γ σ B H Dn rs ok gx f =>
  he.2 σ B H rs ok _ fun p vs B1 H1 g1 ok1 hp hB h1 r1 => f.rt (.fresh ds) μ1 (.ref p) B1 H1 h ok1 (gx.step he.1 g1) ⟨p, vs, rfl, gx.free hp, hB, h1, r1⟩
theorem as_if (hc : AT C tt ρ μ b μ1) (h1 : b = true → AS C t1 ρ μ1 E) (h2 : b = false → AS C t2 ρ μ1 E) : AS C (tIfS tt t1 t2) ρ μ E := fun Γ σ B H Dn rs ok gx f =>
  hc.2 σ B H rs ok _ fun B1 H1 g1 ok1 => by
    cases b with
    | true => rw [if_pos rfl]; exact h1 rfl Γ σ B1 H1 Dn (rs.mono g1.bb) ok1 (gx.step hc.1 g1) f
    | false => rw [if_neg Bool.false_ne_true]; exact h2 rfl Γ σ B1 H1 Dn (rs.mono g1.bb) ok1 (gx.step hc.1 g1) f
theorem as_ifT (hc : AT C tt ρ μ true μ1) (h1 : AS C t1 ρ μ1 E) : AS C (tIfS tt t1 t2) ρ μ E := as_if hc (fun _ => h1) fun z => by cases z
theorem as_ifF (hc : AT C tt ρ μ false μ1) (h2 : AS C t2 ρ μ1 E) : AS C (tIfS tt t1 t2) ρ μ E := as_if hc (fun z => by cases z) fun _ => h2
theorem as_par {i j : Nat} (ha : AA C tr ρ μ [x, y] μ1) (h : E.nx ((ρ.set i (some x)).set j (some y)) μ1) : AS C (tPar i j tr) ρ μ E := fun Γ σ B H Dn rs ok gx f =>
  ha.2 σ B H rs ok _ fun vs B1 H1 g1 ok1 r1 => by
    obtain ⟨v, r, rfl, h1, w, r', rfl, h2, h3⟩ := r1
    exact ⟨v, w, by rw [show r' = [] from h3], f.nx _ _ _ B1 H1 h (((rs.mono g1.bb).set i h1).set j h2) ok1 (gx.step ha.1 g1)⟩
theorem as_par3 {i j l : Nat} (ha : AA C tr ρ μ [x, y, d] μ1) (h : E.nx (((ρ.set i (some x)).set j (some y)).set l (some d)) μ1) : AS C (tPar3 i j l tr) ρ μ E := fun Γ σ B H Dn rs ok gx f =>
  ha.2 σ B H rs ok _ fun vs B1 H1 g1 ok1 r1 => by
    obtain ⟨v, r, rfl, h1, w, r', rfl, h2, u, r'', rfl, h3, h4⟩ := r1
    exact ⟨v, w, u, by rw [show r'' = [] from h4], f.nx _ _ _ B1 H1 h ((((rs.mono g1.bb).set i h1).set j h2).set l h3) ok1 (gx.step ha.1 g1)⟩
/-- a for over it: P by the turn -/
theorem as_for {wi : TI} {xs : List D} {tb : TS} (P : Nat → Sto → Mu → Prop) (hi : AI C wi ρ μ xs μ1) (h0 : P 0 ρ μ1)
    (hs : ∀ (i : Nat) (d : D) ρ' μ', xs[i]? = some d → P i ρ' μ' → ∃ ρ2 js, AG C g d ρ' js ρ2 ∧ AS C tb ρ2 μ' { nx := P (i + 1), ct := P (i + 1), bk := E.nx, rt := E.rt, er := E.er }) (hd : ∀ ρ' μ', P xs.length ρ' μ' → E.nx ρ' μ') : AS C (tFor wi g tb) ρ μ E := fun Γ σ B H Dn rs ok gx f =>
  hi.2 σ B H rs ok _ fun J B1 H1 g1 ok1 wk => by
    obtain ⟨G, Y, w, hG, hY⟩ := wk
    refine for_it w (fun i σ' H' => ∃ ρ' μ' B', P i ρ' μ' ∧ RS C B' ρ' σ' ∧ Ok C μ' B' H' ∧ Gx Γ μ' B' H' ∧ Same B1 B') ⟨ρ, μ1, B1, h0, rs.mono g1.bb, ok1, gx.step hi.1 g1, Same.refl _⟩ (fun i σ' H' _ ⟨ρ', μ', B', _, _, ok', _, s'⟩ => hG H' (s'.trans ok'.bh))
      (fun i x σ' H' H2 hlt ⟨ρ', μ', B', hp, rs', ok', gx', s'⟩ hy => ?_) fun σ' H' ⟨ρ', μ', B', hp, rs', ok', gx', s'⟩ => f.nx ρ' μ' σ' B' H' (hd _ _ hp) rs' ok' gx'
    obtain ⟨B3, d, g3, s3, hdd, hr⟩ := hY i x H' H2 hlt hy B' s' ok'.bh
    obtain ⟨ρ2, js, hag, hb⟩ := hs i d ρ' μ' hdd hp
    have ok3 := ok'.grow g3 s3
    have gx3 : Gx Γ μ' B3 H2 := gx'.step rfl (g3.weak _)
    refine hag σ' B3 H2 x (rs'.mono g3.bb) s3 hr _ fun σ2 rs2 _ => ?_
    have s1 : Same B1 B3 := s'.trans g3.bb
    -- B1 stays known through the body: told by a second Gam
    refine hb ⟨B3, H2, dom μ', Γ.er⟩ σ2 B3 H2 _ rs2 ok3 ⟨Same.refl _, fun _ _ h _ => h, fun _ _ h => .inl h, fun _ o h => ⟨o, h⟩, fun p hp => .inl hp⟩ ?_
    have back : ∀ {μ4 : Mu} {B4 H4 : Hp}, Gx ⟨B3, H2, dom μ', Γ.er⟩ μ4 B4 H4 → Gx Γ μ4 B4 H4 := fun z => gx3.back z
    have again : ∀ ρ4 μ4 σ4 B4 H4, P (i + 1) ρ4 μ4 → RS C B4 ρ4 σ4 → Ok C μ4 B4 H4 → Gx ⟨B3, H2, dom μ', Γ.er⟩ μ4 B4 H4 → ∃ ρ' μ' B', P (i + 1) ρ' μ' ∧ RS C B' ρ' σ4 ∧ Ok C μ' B' H4 ∧ Gx Γ μ' B' H4 ∧ Same B1 B' :=
      fun ρ4 μ4 σ4 B4 H4 q rs4 ok4 gx4 => ⟨ρ4, μ4, B4, q, rs4, ok4, back gx4, s1.trans gx4.bb⟩
    refine ⟨again, fun r μ4 v B4 H4 q ok4 gx4 rv => f.rt r μ4 v B4 H4 q ok4 (back gx4) ?_, fun ρ4 μ4 σ4 B4 H4 q rs4 ok4 gx4 => f.nx ρ4 μ4 σ4 B4 H4 q rs4 ok4 (back gx4), again, fun μ4 B4 H4 q ok4 gx4 => f.er μ4 B4 H4 q ok4 (back gx4)⟩
    cases r with
    | val d => exact rv
    | fresh ds =>
      obtain ⟨p, vs, e, h1, h2⟩ := rv
      exact ⟨p, vs, e, gx3.free h1, h2⟩
    | err => exact rv
/-- a while: P with a measure -/
theorem as_while {tb : TS} (P : Nat → Sto → Mu → Prop) (m0 : Nat) (h0 : P m0 ρ μ)
    (hs : ∀ m ρ' μ', P m ρ' μ' → ∃ b μ2, AT C tt ρ' μ' b μ2 ∧ (b = true → AS C tb ρ' μ2 { nx := fun ρ3 μ3 => ∃ m', m' < m ∧ P m' ρ3 μ3, ct := fun ρ3 μ3 => ∃ m', m' < m ∧ P m' ρ3 μ3, bk := E.nx, rt := E.rt, er := E.er }) ∧ (b = false → E.nx ρ' μ2)) : AS C (tWhile tt tb) ρ μ E := fun Γ σ B H Dn rs ok gx f => by
  refine ⟨fun m σ' H' => ∃ ρ' μ' B', P m ρ' μ' ∧ RS C B' ρ' σ' ∧ Ok C μ' B' H' ∧ Gx Γ μ' B' H', ⟨m0, ρ, μ, B, h0, rs, ok, gx⟩, fun m σ' H' ⟨ρ', μ', B', hp, rs', ok', gx'⟩ => ?_⟩
  obtain ⟨b, μ2, ht, h1, h2⟩ := hs m ρ' μ' hp
  refine ht.2 σ' B' H' rs' ok' _ fun B2 H2 g2 ok2 => ?_
  have gx2 := gx'.step ht.1 g2
  cases b with
  | true =>
    rw [if_pos rfl]
    refine ⟨fun σ3 H3 => ∃ m', m' < m ∧ ∃ ρ' μ' B', P m' ρ' μ' ∧ RS C B' ρ' σ3 ∧ Ok C μ' B' H3 ∧ Gx Γ μ' B' H3, fun σ3 H3 z => z, ?_⟩
    exact h1 rfl Γ σ' B2 H2 _ (rs'.mono g2.bb) ok2 gx2 ⟨fun ρ3 μ3 σ3 B3 H3 ⟨m', hm, q⟩ rs3 ok3 gx3 => ⟨m', hm, ρ3, μ3, B3, q, rs3, ok3, gx3⟩, f.rt, f.nx, fun ρ3 μ3 σ3 B3 H3 ⟨m', hm, q⟩ rs3 ok3 gx3 => ⟨m', hm, ρ3, μ3, B3, q, rs3, ok3, gx3⟩, f.er⟩
  | false =>
    rw [if_neg Bool.false_ne_true]
    exact f.nx ρ' μ2 σ' B2 H2 (h2 rfl) (rs'.mono g2.bb) ok2 gx2

/-! ### owned lists -/
/-- a new list, owned from here on -/
theorem as_own {i : Nat} (he : AF C te ρ μ ds μ1) (h : ∀ p, p ∉ dom μ1 → E.nx (ρ.set i (some (.ptr p))) ((p, ds) :: μ1)) : AS C (tAsg te (gName i)) ρ μ E := fun Γ σ B H Dn rs ok gx f =>
  he.2 σ B H rs ok _ fun p vs B1 H1 g1 ok1 hp hB h1 r1 => by
    have hn : p ∉ dom μ1 := fun z => by
      obtain ⟨ds', hm⟩ := mem_dom (he.1 ▸ z)
      obtain ⟨_, vs', h2, _⟩ := ok.own.mem hm
      rw [hp] at h2; cases h2
    have gx1 := gx.step he.1 g1
    exact f.nx _ _ _ B1 H1 (h p hn) ((rs.mono g1.bb).set i rfl) ⟨ok1.bh, ⟨hB, hn, vs, h1, r1⟩, ok1.own⟩ ⟨gx1.bb, gx1.hh, gx1.fr, gx1.ds, fun q hq => by
      rcases List.mem_cons.mp hq with z | z
      · rw [z]; exact .inr (gx.free hp)
      · exact gx1.lo q z⟩
/-- the items at p are others from here on -/
def setM (μ : Mu) (p : Addr) (ds : List D) : Mu := μ.map fun e => if e.1 = p then (p, ds) else e
theorem dom_setM (μ : Mu) (p : Addr) (ds : List D) : dom (setM μ p ds) = dom μ := by
  unfold dom setM
  rw [List.map_map]
  refine List.map_congr_left fun e _ => ?_
  show (if e.1 = p then (p, ds) else e).1 = e.1
  by_cases h : e.1 = p
  · rw [if_pos h, h]
  · rw [if_neg h]
theorem setM_head {p : Addr} (hn : p ∉ dom μ) : setM ((p, ds) :: μ) p es = (p, es) :: μ := by
  unfold setM
  rw [List.map_cons, if_pos rfl]
  congr 1
  have : ∀ e ∈ μ, (if e.1 = p then (p, es) else e) = e := fun e he => if_neg (fun z : e.1 = p => hn (by rw [← z]; exact dom_mem (ds := e.2) he))
  rw [List.map_congr_left this]
  simp
theorem Own.upd {p : Addr} {vs : List V} : ∀ {μ : Mu}, Own C B H μ → (p, ds) ∈ μ → RepL C B es vs → Own C B (upd H p (.lst vs)) (setM μ p es)
  | [], _, h, _ => by cases h
  | (q, fs) :: μ, ⟨⟨h1, hn, ws, h2, h3⟩, h4⟩, hm, r => by
    have hd : q ∉ dom (setM μ p es) := by rw [dom_setM]; exact hn
    by_cases e : q = p
    · subst e
      rw [setM_head hn]
      refine ⟨⟨h1, hn, vs, upd_same, r⟩, h4.to (Same.refl _) (fun p' hp => ?_) fun p' vs' hp h => ?_⟩
      · obtain ⟨ds', hm'⟩ := mem_dom hp
        exact (h4.mem hm').1
      · rw [upd_ne (fun z => hn (by rw [← z]; exact hp))]; exact h
    · have hm' : (p, ds) ∈ μ := by
        rcases List.mem_cons.mp hm with z | z
        · cases z; exact absurd rfl e
        · exact z
      show Own C B _ ((if (q, fs).1 = p then (p, es) else (q, fs)) :: setM μ p es)
      rw [if_neg e]
      exact ⟨⟨h1, hd, ws, by rw [upd_ne e]; exact h2, h3⟩, Own.upd h4 hm' r⟩
theorem Ok.upd {p : Addr} {vs : List V} (o : Ok C μ B H) (hm : (p, ds) ∈ μ) (r : RepL C B es vs) : Ok C (setM μ p es) B (upd H p (.lst vs)) := ⟨Same.upd_right o.bh (o.own.mem hm).1, o.own.upd hm r⟩
theorem Gr.upd {p : Addr} {o : HO} (hp : p ∈ dom μ) : Gr (dom μ) B H B (upd H p o) := ⟨Same.refl _, fun a u h n => by rw [upd_ne (show a ≠ p from fun z => n (z ▸ hp))]; exact h, fun a u h => .inl h, fun a u h => by
  by_cases z : a = p
  · exact ⟨_, by rw [z]; exact upd_same⟩
  · exact ⟨u, by rw [upd_ne z]; exact h⟩⟩
/-- x.append(e) -/
theorem as_append {p : Addr} (ha : AE C ta ρ μ (.ptr p) μ1) (he : AE C te ρ μ1 d μ2) (hm : (p, ds) ∈ μ2) (hl : ds.length ≤ 100000) (h : E.nx ρ (setM μ2 p (ds ++ [d]))) : AS C (tDrop (tBM K "list" rAppend ta (tCons te tNil))) ρ μ E := fun Γ σ B H Dn rs ok gx f =>
  ha.2 σ B H rs ok _ fun v B1 H1 g1 ok1 r1 => by
    have hp1 : p ∈ dom μ1 := he.1 ▸ dom_mem hm
    obtain ⟨ds1, hm1⟩ := mem_dom hp1
    obtain ⟨_, ws, hw, _⟩ := ok1.own.mem hm1
    rw [show v = V.ref p from r1]
    refine ⟨.inl ⟨rfl, _, SqL.of hw⟩, ?_⟩
    refine he.2 σ B1 H1 (rs.mono g1.bb) ok1 _ fun u B2 H2 g2 ok2 r2 => ?_
    obtain ⟨hB, vs, hv, rv⟩ := ok2.own.mem hm
    have gx2 := (gx.step ha.1 g1).step he.1 g2
    refine ⟨p, vs, u, rfl, rfl, hv, by rw [rv.length]; exact Nat.lt_of_le_of_lt hl (by decide), f.nx _ _ _ B2 _ h (rs.mono (g1.bb.trans g2.bb)) (ok2.upd hm (rv.snoc r2)) (gx2.step (dom_setM _ _ _) (Gr.upd (dom_mem hm)))⟩
/-- x.extend(e), e another list -/
theorem as_extend {p : Addr} (ha : AE C ta ρ μ (.ptr p) μ1) (he : AE C te ρ μ1 (.lst es) μ2) (hm : (p, ds) ∈ μ2) (hl : ds.length + es.length ≤ 100000) (h : E.nx ρ (setM μ2 p (ds ++ es))) : AS C (tDrop (tBM K "list" rExtend ta (tCons te tNil))) ρ μ E := fun Γ σ B H Dn rs ok gx f =>
  ha.2 σ B H rs ok _ fun v B1 H1 g1 ok1 r1 => by
    have hp1 : p ∈ dom μ1 := he.1 ▸ dom_mem hm
    obtain ⟨ds1, hm1⟩ := mem_dom hp1
    obtain ⟨_, ws, hw, _⟩ := ok1.own.mem hm1
    rw [show v = V.ref p from r1]
    refine ⟨.inl ⟨rfl, _, SqL.of hw⟩, ?_⟩
    refine he.2 σ B1 H1 (rs.mono g1.bb) ok1 _ fun u B2 H2 g2 ok2 r2 => ?_
    obtain ⟨q, zs, rfl, hq, rq⟩ := r2
    obtain ⟨hB, vs, hv, rv⟩ := ok2.own.mem hm
    have gx2 := (gx.step ha.1 g1).step he.1 g2
    refine ⟨p, q, vs, zs, rfl, rfl, hv, ok2.bh _ _ hq, by rw [rv.length, rq.length]; exact Nat.le_trans hl (by decide), f.nx _ _ _ B2 _ h (rs.mono (g1.bb.trans g2.bb)) (ok2.upd hm (rv.app rq)) (gx2.step (dom_setM _ _ _) (Gr.upd (dom_mem hm)))⟩
/-- x[i] = e -/
theorem as_item {p : Addr} {i : Int} {j : Nat} (he : AE C te ρ μ d μ1) (ha : AE C ta ρ μ1 (.ptr p) μ2) (hb : AE C tb ρ μ2 (.int i) μ3) (hm : (p, ds) ∈ μ3) (hj : ixN ds.length i = some j) (h : E.nx ρ (setM μ3 p (ds.set j d))) : AS C (tAsg te (gSub ta tb rSetL)) ρ μ E := fun Γ σ B H Dn rs ok gx f =>
  he.2 σ B H rs ok _ fun v B1 H1 g1 ok1 r1 => ha.2 σ B1 H1 (rs.mono g1.bb) ok1 _ fun u B2 H2 g2 ok2 r2 => hb.2 σ B2 H2 (rs.mono (g1.bb.trans g2.bb)) ok2 _ fun w B3 H3 g3 ok3 r3 => by
    obtain ⟨hB, vs, hv, rv⟩ := ok3.own.mem hm
    have gx3 := ((gx.step he.1 g1).step ha.1 g2).step hb.1 g3
    rw [show u = V.ref p from r2, show w = V.int i from r3]
    exact ⟨p, vs, i, j, rfl, rfl, hv, by rw [rv.length]; exact hj, f.nx _ _ _ B3 _ h (rs.mono ((g1.bb.trans g2.bb).trans g3.bb)) (ok3.upd hm (rv.set (r1.mono (g2.bb.trans g3.bb)) j)) (gx3.step (dom_setM _ _ _) (Gr.upd (dom_mem hm)))⟩
/-- an owned list changes no more: all names of it stand for its items -/
def frzS (ρ : Sto) (p : Addr) (ds : List D) : Sto := ρ.map fun o => match o with
  | some (.ptr q) => if q = p then some (.lst ds) else some (.ptr q)
  | o => o
theorem RS.frz {p : Addr} {vs : List V} {σ : L2.St} (rs : RS C B ρ σ) (hB : B p = none) (r : RepL C B ds vs) : RS C (L2.upd B p (.lst vs)) (frzS ρ p ds) σ := by
  have bm : Same B (L2.upd B p (.lst vs)) := fun a u q => by rw [upd_ne (ne_of_none q hB)]; exact q
  refine ⟨by unfold frzS; rw [List.length_map]; exact rs.len, fun i d h => ?_⟩
  unfold frzS at h
  rw [List.getElem?_map] at h
  cases e : ρ[i]? with
  | none => rw [e] at h; cases h
  | some o =>
    rw [e] at h
    cases o with
    | none => cases h
    | some d0 =>
      obtain ⟨v, h1, h2⟩ := rs.at_ i d0 e
      refine ⟨v, h1, ?_⟩
      cases d0 with
      | ptr q =>
        by_cases z : q = p
        · have h' : some (if q = p then some (D.lst ds) else some (D.ptr q)) = some (some d) := h
          rw [if_pos z] at h'
          cases h'
          rw [show v = V.ref q from h2, z]
          exact ⟨p, vs, rfl, upd_same, r.mono bm⟩
        · have h' : some (if q = p then some (D.lst ds) else some (D.ptr q)) = some (some d) := h
          rw [if_neg z] at h'
          cases h'
          exact h2
      | _ => cases h; exact h2.mono bm
theorem Ok.frz {p : Addr} (o : Ok C ((p, ds) :: μ) B H) : ∃ vs, H p = some (.lst vs) ∧ RepL C B ds vs ∧ B p = none ∧ Ok C μ (L2.upd B p (.lst vs)) H := by
  obtain ⟨⟨h1, hn, vs, h2, h3⟩, h4⟩ := o.own
  have bm : Same B (L2.upd B p (.lst vs)) := fun a u q => by rw [upd_ne (ne_of_none q h1)]; exact q
  refine ⟨vs, h2, h3, h1, fun a u q => ?_, h4.to bm (fun q hq => ?_) fun _ _ _ h => h⟩
  · by_cases z : a = p
    · rw [z, upd_same] at q; rw [z, h2]; exact q
    · rw [upd_ne z] at q; exact o.bh a u q
  · rw [upd_ne (show q ≠ p from fun z => hn (z ▸ hq))]
    obtain ⟨ds', hm⟩ := mem_dom hq
    exact (h4.mem hm).1
/-- from a known entry -/
def ASg (C : Addr) (Γ : Gam) (ts : TS) (ρ : Sto) (μ : Mu) (E : AEn) : Prop := ∀ σ B H Dn, RS C B ρ σ → Ok C μ B H → Gx Γ μ B H → Fol C Γ E Dn → ts Dn σ H
theorem AS.toG (h : AS C ts ρ μ E) : ASg C Γ ts ρ μ E := fun σ B H Dn rs ok gx f => h Γ σ B H Dn rs ok gx f
theorem ag_seq (h : AS C t1 ρ μ { E with nx := fun ρ' μ' => ASg C Γ t2 ρ' μ' E }) : ASg C Γ (tSeq t1 t2) ρ μ E := fun σ B H Dn rs ok gx f =>
  h Γ σ B H { Dn with nx := t2 Dn } rs ok gx ⟨fun ρ' μ' σ' B' H' z rs' ok' gx' => z σ' B' H' Dn rs' ok' gx' f, f.rt, f.bk, f.ct, f.er⟩
theorem ag_if (hc : AT C tt ρ μ b μ1) (h1 : b = true → ASg C Γ t1 ρ μ1 E) (h2 : b = false → ASg C Γ t2 ρ μ1 E) : ASg C Γ (tIfS tt t1 t2) ρ μ E := fun σ B H Dn rs ok gx f =>
  hc.2 σ B H rs ok _ fun B1 H1 g1 ok1 => by
    cases b with
    | true => rw [if_pos rfl]; exact h1 rfl σ B1 H1 Dn (rs.mono g1.bb) ok1 (gx.step hc.1 g1) f
    | false => rw [if_neg Bool.false_ne_true]; exact h2 rfl σ B1 H1 Dn (rs.mono g1.bb) ok1 (gx.step hc.1 g1) f
/-- the owned list changes no more -/
theorem ag_frz {p : Addr} (hl : p ∉ Γ.dm) (h : ASg C Γ ts (frzS ρ p ds) μ E) : ASg C Γ ts ρ ((p, ds) :: μ) E := fun σ B H Dn rs ok gx f => by
  obtain ⟨vs, h2, h3, h1, ok'⟩ := ok.frz
  have hz : Γ.H0 p = none := by
    rcases gx.lo p (List.mem_cons_self ..) with z | z
    · exact absurd z hl
    · exact z
  refine h σ _ H Dn (rs.frz h1 h3) ok' ⟨gx.bb.trans fun a u q => by rw [upd_ne (ne_of_none q h1)]; exact q, gx.hh, fun a o q => ?_, gx.ds, fun q hq => gx.lo q (List.mem_cons_of_mem _ hq)⟩ f
  by_cases z : a = p
  · rw [z]; exact .inr hz
  · rw [upd_ne z] at q; exact gx.fr a o q
end
end OC
set_option maxHeartbeats 4000000
/-! OcO: operators of an own class, further built-ins, as rules. -/
namespace OC
open PySem PySem.Spec PyProof.Rows L2

theorem cmpBack_of {v : V} {u : Value} {s : Shared} {Q : Value → Shared → Prop} (r : RelV v u) (q : Q u s) : PySem.W.CmpBack Q u s := by
  cases v with
  | non => cases (show u = Value.none from r); exact q
  | bl b => cases (show u = Value.bool b from r); exact q
  | int i => obtain ⟨t, e⟩ := (show ∃ t, u = Value.int i t from r); cases e; exact q
  | str x => obtain ⟨t, e⟩ := (show ∃ t, u = Value.str x t from r); cases e; exact q
  | byt b => obtain ⟨t, e⟩ := (show ∃ t, u = Value.bytes b t from r); cases e; exact q
  | flt b => obtain ⟨t, e⟩ := (show ∃ t, u = Value.float b t from r); cases e; exact q
  | ref a => cases (show u = Value.ref a from r); exact q
  | ty n => cases (show u = Value.type n from r); exact q

section
variable {X : Cx} {pins : List (Addr × Obj)} {σ : L2.St} {H : Hp} {s : Shared}
theorem run_fnR2 {CX : CXT} {k : Nat} {f : Addr} {sp : Sp} {E : XK} {Q : VK} {us : List Value} {vs : List V} (F : FnR X.prog X.w X.K X.mg X.base CX k f sp) (hr : Room k X.A) (hx : Passes CX X E) (I : Inv X pins σ H s) (r : Vals vs us) (h : sp vs H Q E) :
    wpAny (model X.prog X.w) X.A (call (.ref f) us) (EP X pins σ Q) X.xe s := wpAny_call (run_fnR F hr hx I r h)
end
section
variable {X : Cx} {CX : CXT} {k n : Nat} {C f : Addr} {sp : Sp} {dvs : List V} {ds : List Value} {E : XK}

/-- x op y, both of the class at C, by its own def at f -/
def rOwnI (C : Addr) (sp : Sp) (E : XK) : R2 := fun x y H Q => ∃ a b dx dy fs gs, x = .ref a ∧ y = .ref b ∧ H a = some (.ins C dx fs) ∧ H b = some (.ins C dy gs) ∧ sp [x, y] H Q E
theorem op_ownI {op : Operator} (hc : PySem.W.selfFirst X.K C = true) (hs : PySem.W.findIn X.K (.ref C) (PySem.dunder op.info.2) = some (some (.ref f))) (hf : PySem.W.isFn X.K (.ref f) = true)
    (F : FnR X.prog X.w X.K X.mg X.base CX k f sp) (hr : Room k X.A) (hx : Passes CX X E) : OpR X (binaryOp op) (rOwnI C sp E) := by
  intro pins s σ H x y v u Q I rx ry h
  obtain ⟨a, b, dx, dy, fs, gs, rfl, rfl, ha, hb', hq⟩ := h
  cases rx
  cases ry
  obtain ⟨mA, J, _⟩ := ins_get I.hok ha
  obtain ⟨mB, J', _⟩ := ins_get I.hok hb'
  obtain ⟨od, J, _⟩ := J.look
  obtain ⟨od', J', _⟩ := J'.look
  obtain ⟨m, hF⟩ := I.fr
  refine PySem.W.binop_K hF I.ok.mod.kin J J'.type hc hs hf ?_
  exact thn (run_fnR2 (us := [.ref a, .ref b]) (vs := [.ref a, .ref b]) F hr hx I (.cons rfl (.cons rfl .nil)) hq) fun w s' h' => let ⟨v, H', I', r, q⟩ := h'; cmpBack_of r ⟨v, H', I', r, q⟩
/-- x op i, x of the class, i an int -/
def rOwnT (C : Addr) (sp : Sp) (E : XK) : R2 := fun x y H Q => ∃ a dx fs i, x = .ref a ∧ y = .int i ∧ H a = some (.ins C dx fs) ∧ sp [x, y] H Q E
theorem op_ownT {op : Operator} {fo ro rc : Option Value} (hc : PySem.W.selfFirst X.K C = true) (hs : PySem.W.findIn X.K (.ref C) (PySem.dunder op.info.2) = some (some (.ref f))) (hf : PySem.W.isFn X.K (.ref f) = true)
    (hrf : PySem.W.findIn X.K (.ref C) (dunderR op.info.2) = some rc) (hp : rc = none ∨ ∃ g : Addr, rc = some (.ref g)) (h1 : PySem.W.findIn X.K (.type "int") (PySem.dunder op.info.2) = some fo) (h2 : PySem.W.findIn X.K (.type "int") (dunderR op.info.2) = some ro)
    (hsub : PySem.W.subIn X.K (.type "int") (.ref C) = some false) (F : FnR X.prog X.w X.K X.mg X.base CX k f sp) (hr : Room k X.A) (hx : Passes CX X E) : OpR X (binaryOp op) (rOwnT C sp E) := by
  intro pins s σ H x y v u Q I rx ry h
  obtain ⟨a, dx, fs, i, rfl, rfl, ha, hq⟩ := h
  cases rx
  obtain ⟨t, rfl⟩ := ry
  obtain ⟨mA, J, _⟩ := ins_get I.hok ha
  obtain ⟨od, J, _⟩ := J.look
  obtain ⟨m, hF⟩ := I.fr
  refine PySem.W.ksp_binT (T := "int") hF I.ok.mod.kin J rfl hc hs hf hrf hp h1 h2 hsub ?_
  exact thn (run_fnR2 (us := [.ref a, .int i t]) (vs := [.ref a, .int i]) F hr hx I (.cons rfl (.cons ⟨t, rfl⟩ .nil)) hq) fun w s' h' => let ⟨v, H', I', r, q⟩ := h'; cmpBack_of r ⟨v, H', I', r, q⟩
/-- -x -/
def rOwnU (C : Addr) (sp : Sp) (E : XK) : V → Hp → VK → Prop := fun x H Q => ∃ a dx fs, x = .ref a ∧ H a = some (.ins C dx fs) ∧ sp [x] H Q E
theorem un_ownN (hs : PySem.W.findIn X.K (.ref C) "__neg__" = some (some (.ref f))) (hf : PySem.W.isFn X.K (.ref f) = true)
    (F : FnR X.prog X.w X.K X.mg X.base CX k f sp) (hr : Room k X.A) (hx : Passes CX X E) : UnR X (unaryOp .USub) (rOwnU C sp E) := by
  intro pins s σ H x v Q I rx h
  obtain ⟨a, dx, fs, rfl, ha, hq⟩ := h
  cases rx
  obtain ⟨mA, J, _⟩ := ins_get I.hok ha
  obtain ⟨od, J, _⟩ := J.look
  obtain ⟨m, hF⟩ := I.fr
  refine PySem.W.ksp_neg hF I.ok.mod.kin J hs hf ?_
  exact run_fnR2 (us := [.ref a]) (vs := [.ref a]) F hr hx I (.cons rfl .nil) hq
theorem UnR.or {g : Value → Sem Value} {r r' : V → Hp → VK → Prop} (h : UnR X g r) (h' : UnR X g r') : UnR X g (fun x H Q => r x H Q ∨ r' x H Q) := by
  intro pins s σ H x v Q I rx q
  rcases q with q | q
  · exact h pins s σ H x v Q I rx q
  · exact h' pins s σ H x v Q I rx q
end
/-- int.__mul__ declines an instance -/
theorem int_mul_inst (a : Int) (t : Tok) (x C dx : Addr) :
    Meets (Builtin.«int.__mul__» ⟨[.int a t, .ref x], []⟩) (fun _ R s => s.heap.get? x = some (PySem.W.instObj C dx) ∧ R (.ok (.ret Value.notImplemented)) s) :=
  .of_wp fun prog w A R s h => by
    obtain ⟨hp, g, d, tk, os⟩ := s
    obtain ⟨hl, h⟩ := h
    wp_walk
    exact ⟨_, rfl, h⟩
theorem try_int_mul {prog : Program} {w : World} {A : Around} {s : Shared} {E : Value → Shared → Prop} {i : Int} {t : Tok} {x C dx : Addr} {Q : Option Value → Shared → Prop} (hx : s.heap.get? x = some (PySem.W.instObj C dx)) (q : Q none s) :
    wpAny (model prog w) A (tryMethod (.int i t) (PySem.dunder "mul") (.ref x)) Q E s := by
  refine wpAny_tryMethod_declines (T := "int") (name := PySem.dunder "mul") (id := "int.__mul__") ?_ ?_ ?_
  · exact typeIs_int s i t
  · exact F.slot_int_mul
  · exact call_meets F.slot_int_mul (typeIs_int _ i t) F.entry_int_mul (F.args_int_mul_2 _ _) (int_mul_inst i t x C dx) ⟨hx, rfl, q⟩
section
variable {prog : Program} {w : World} {A : Around} {E : Value → Shared → Prop} {s : Shared} {K : PySem.W.Frag} {x C L f dx : Addr} {h₀ : Heap} {m : Str → Option Value} {od : Option Obj}
/-- i * x, x of a class with its own __rmul__ -/
theorem rmul_K {i : Int} {t : Tok} {ro : Option Value} {Q : Value → Shared → Prop} (hFr : Fr h₀ L s.heap m) (X₀ : K.In h₀) (I : PySem.W.InstAt s.heap x (PySem.W.instObj C dx) C od) (hc : PySem.W.selfFirst K C = true)
    (hm : PySem.W.findIn K (.ref C) (PySem.dunder "mul") = some ro) (hro : ro.isSome = true) (hq : ∃ g : Addr, ro = some (.ref g))
    (hs : PySem.W.findIn K (.ref C) (dunderR "mul") = some (some (.ref f))) (hf : PySem.W.isFn K (.ref f) = true) (hsub : PySem.W.subIn K (.ref C) (.type "int") = some false)
    (h : wpAny (model prog w) A (call (.ref f) [.ref x, .int i t]) (PySem.W.CmpBack Q) E s) : wpAny (model prog w) A (binaryOp .Mult (.int i t) (.ref x)) Q E s := by
  have X := X₀.keeps hFr.keep
  obtain ⟨cd, rest, hcd, hmr⟩ := PySem.W.ksp_first hc
  obtain ⟨g, rfl⟩ := hq
  have one := PySem.W.ksp_try X I hs hf h
  have hx := I.at_
  obtain ⟨hh, gs, d, tt, os⟩ := s
  have L1 : PySem.W.Looks (model prog w) hh (typeOf (.ref x)) (.ref C) := I.type
  have L3 : PySem.W.Looks (model prog w) hh (fillsNumberSlot (.ref C) "mul") true := PySem.W.fills_K X hcd hmr hm
  have L5 : PySem.W.Looks (model prog w) hh (isSubtype (.ref C) (.type "int")) false := PySem.W.looks_subIn X hsub
  have e2 : fillsNumberSlot (.type "int") "mul" = pure true := F.fills_int_mul
  unfold binaryOp
  refine wpAny_holding ?_
  show wpAny _ _ (binaryOp1 "mul" (.int i t) (.ref x) >>= _) _ _ _
  refine wpAny_bind ?_
  unfold binaryOp1
  refine wpAny_bind (wpAny_typeOf (typeIs_int _ i t) (wpAny_bind (L1.at (wpAny_bind (wpAny_of_eq e2 ?_)))))
  have hne : (Value.type "int" == Value.ref C) = false := Bool.eq_false_iff.mpr fun q => by cases beq_iff_eq.mp q
  simp only [hne, Bool.false_eq_true, if_false]
  refine wpAny_bind (L3.at ?_)
  simp only [Bool.and_self, if_true]
  refine wpAny_bind (L5.at ?_)
  have hpy : numberSlotInPython (.type "int") "mul" = pure false := rfl
  simp only [Bool.false_eq_true, if_false, pure_bind, Bool.not_false, Bool.and_self, if_true, hpy]
  refine wpAny_bind (try_int_mul hx ?_)
  refine wpAny_bind (wpAny_mono one (fun r s' hr' => ?_) fun _ _ e => e)
  obtain ⟨v, rfl, hq⟩ := hr'
  exact wpAny_bind (wpAny_rule (wpAny_pure (wpAny_pure hq)))
end
section
variable {X : Cx} {CX : CXT} {k n : Nat} {C f : Addr} {sp : Sp} {E : XK}
def rOwnR (C : Addr) (sp : Sp) (E : XK) : R2 := fun x y H Q => ∃ a dx fs i, x = .int i ∧ y = .ref a ∧ H a = some (.ins C dx fs) ∧ sp [y, x] H Q E
theorem op_ownR {ro : Option Value} (hc : PySem.W.selfFirst X.K C = true) (hm : PySem.W.findIn X.K (.ref C) (PySem.dunder "mul") = some ro) (hro : ro.isSome = true) (hq : ∃ g : Addr, ro = some (.ref g))
    (hs : PySem.W.findIn X.K (.ref C) (dunderR "mul") = some (some (.ref f))) (hf : PySem.W.isFn X.K (.ref f) = true) (hsub : PySem.W.subIn X.K (.ref C) (.type "int") = some false)
    (F : FnR X.prog X.w X.K X.mg X.base CX k f sp) (hr : Room k X.A) (hx : Passes CX X E) : OpR X (binaryOp .Mult) (rOwnR C sp E) := by
  intro pins s σ H x y v u Q I rx ry h
  obtain ⟨a, dx, fs, i, rfl, rfl, ha, hq'⟩ := h
  cases ry
  obtain ⟨t, rfl⟩ := rx
  obtain ⟨mA, J, _⟩ := ins_get I.hok ha
  obtain ⟨od, J, _⟩ := J.look
  obtain ⟨m, hF⟩ := I.fr
  refine rmul_K hF I.ok.mod.kin J hc hm hro hq hs hf hsub ?_
  exact thn (run_fnR2 (us := [.ref a, .int i t]) (vs := [.ref a, .int i]) F hr hx I (.cons rfl (.cons ⟨t, rfl⟩ .nil)) hq') fun w s' h' => let ⟨v, H', I', r, q⟩ := h'; cmpBack_of r ⟨v, H', I', r, q⟩
/-- x == y, both of the class, by its own __eq__ -/
theorem op_eqOwn (hs : PySem.W.findIn X.K (.ref C) "__eq__" = some (some (.ref f))) (hf : PySem.W.isFn X.K (.ref f) = true)
    (F : FnR X.prog X.w X.K X.mg X.base CX k f sp) (hr : Room k X.A) (hx : Passes CX X E) : OpR X (compareOp .Eq) (rOwnI C sp E) := by
  intro pins s σ H x y v u Q I rx ry h
  obtain ⟨a, b, dx, dy, fs, gs, rfl, rfl, ha, hb', hq⟩ := h
  cases rx
  cases ry
  obtain ⟨mA, J, _⟩ := ins_get I.hok ha
  obtain ⟨mB, J', _⟩ := ins_get I.hok hb'
  obtain ⟨od, J, _⟩ := J.look
  obtain ⟨od', J', _⟩ := J'.look
  obtain ⟨m, hF⟩ := I.fr
  refine PySem.W.cmp_K (op := .Eq) (tb := .ref C) hr.units0 hF I.ok.mod.kin J J'.type (by simp [PySem.W.notFirst]) hs hf ?_
  exact thn (run_fnR2 (us := [.ref a, .ref b]) (vs := [.ref a, .ref b]) F hr hx I (.cons rfl (.cons rfl .nil)) hq) fun w s' h' => let ⟨v, H', I', r, q⟩ := h'; cmpBack_of r ⟨v, H', I', r, q⟩
/-- what of the class's object the machine looks at for != -/
def rawB (K : PySem.W.Frag) (C f : Addr) : Bool := match K.lookup C with
  | some ⟨.type ty, _, .cls cd, sl⟩ => (match cd.mro, sl.toList with
    | [.ref C', .type ob], [_, _, _, _, some (.builtin _), _] => ((ty == "type" && ob == "object") && C' == C) && ((!cd.hasDel && PySem.W.nsOkIn K cd.ns) && (decide (PySem.W.nsIn K cd.ns "__eq__" = some (some (.ref f))) && decide (PySem.W.nsIn K cd.ns "__ne__" = some none)))
    | _, _ => false)
  | _ => false
theorem ns_some_of {K : PySem.W.Frag} {h : Heap} {N : Addr} {mg : Str → Option Value} {n : Str} {v : Value} (X : K.In h) (G : h.Ns N mg) (e : PySem.W.nsIn K N n = some (some v)) : mg n = some v := by
  obtain ⟨o, es, ep, ho, hd, hk, hf⟩ := G
  unfold PySem.W.nsIn at e
  split at e
  · rename_i c d es' n' sl q
    have := X _ _ q
    rw [ho] at this
    cases this
    cases hd
    have hf' := hf n
    unfold nsFind findBy at hf'
    rw [← Array.find?_toList] at hf'
    split at e
    · rename_i y qy
      rw [qy] at hf'
      cases e
      exact hf'.symm
    · split at e <;> cases e
  · cases e
theorem rawB_ok {K : PySem.W.Frag} {h : Heap} {C f x dx : Addr} {ot : Obj} (X : K.In h) (r : rawB K C f = true) (hx : h.get? x = some (PySem.W.instObj C dx)) (hf : h.get? f = some ot) (hft : ot.cls = .type "function") :
    h.OwnEqNoNe x C f "object" [.type "object"] := by
  unfold rawB at r
  split at r
  · rename_i ty dd cd sl ho
    split at r
    · rename_i C' ob k0 k1 k2 k3 nid k5 hm hs
      simp only [Bool.and_eq_true, decide_eq_true_eq, beq_iff_eq, Bool.not_eq_true'] at r
      obtain ⟨⟨⟨rfl, rfl⟩, rfl⟩, ⟨h1, h2⟩, h3, h4⟩ := r
      have hC := X _ _ ho
      have hN : h.Ns cd.ns (h.nsMap cd.ns) := .of_isNs (PySem.W.isNs_of_in X h2)
      obtain ⟨nm, bs, mro, N, q, hdct, sn, sub, ab, col, hdel⟩ := cd
      simp only at hm h1 h2 h3 h4 hN
      subst hm h1
      obtain ⟨sll⟩ := sl
      simp only at hs
      subst hs
      exact ⟨_, ot, nm, q, N, bs, hdct, sn, sub, ab, col, dd, k0, k1, k2, k3, k5, nid, h.nsMap N, some (.builtin "object.__eq__"), hx, rfl, hC, hN, ns_some_of X hN h3, hf, hft, PySem.F.cmp_object.mro, PySem.F.cmp_object.eq.lookup, PySem.W.ns_none_of X hN h4⟩
    · cases r
  · cases r
/-- x != y, both of the class -/
def rOwnNe (C : Addr) (sp : Sp) (E : XK) : R2 := fun x y H Q => ∃ a b dx dy fs gs, x = .ref a ∧ y = .ref b ∧ H a = some (.ins C dx fs) ∧ H b = some (.ins C dy gs) ∧ sp [x, y] H (fun v H' => ∃ b, v = .bl b ∧ Q (.bl (!b)) H') E
theorem op_neOwn {oc : Obj} (hraw : rawB X.K C f = true) (hlk : X.K.lookup f = some oc) (hoc : oc.cls = .type "function")
    (F : FnR X.prog X.w X.K X.mg X.base CX k f sp) (hr : Room (k + 1) X.A) (hx : Passes CX X E) : OpR X (compareOp .NotEq) (rOwnNe C sp E) := by
  intro pins s σ H x y v u Q I rx ry h
  obtain ⟨a, b, dx, dy, fs, gs, rfl, rfl, ha, hb', hq⟩ := h
  cases rx
  cases ry
  obtain ⟨mA, J, _⟩ := ins_get I.hok ha
  obtain ⟨mB, J', _⟩ := ins_get I.hok hb'
  have XK := I.kIn
  have own := rawB_ok XK hraw J.obj (XK _ _ hlk) hoc
  have hJ' := J'.obj
  have e0 := I.env0.in1
  have hrun := F X.A.in1 X.stack s H [.ref a, .ref b] [.ref a, .ref b] _ E hr.in1 e0 (.cons rfl (.cons rfl .nil)) hq
  have hun : X.A.units + 1 < cLine := by have := hr.units; omega
  obtain ⟨hh, g, d, tk, os⟩ := s
  refine PySem.compareOp_ne_ownEq PySem.F.cmp_object own hJ' rfl hun (wpAny_call (codeAny_mono hrun fun r s' hq' => ?_))
  cases r with
  | error e => exact hx pins σ H _ e s' I hq'
  | ok fl =>
    cases fl with
    | ret w =>
      obtain ⟨z, H', I', rz, b', ez, q⟩ := I.after hq'
      subst ez
      cases rz
      exact ⟨b', rfl, .bl (!b'), H', I', rfl, q⟩
    | next => exact False.elim hq'
    | brk => exact False.elim hq'
    | cont => exact False.elim hq'
end
end OC
set_option maxHeartbeats 4000000
/-! OcP: promises, calls. -/
namespace OC
open PySem PySem.Spec PyProof.Rows L2

/-- what a def does: arguments, owned lists ahead, what it hands back, owned lists behind -/
abbrev Sc := List D → Mu → Ret → Mu → Prop
def RetK (C CN : Addr) (μ : Mu) (B H : Hp) (Q : VK) (E : XK) (μ' : Mu) : Ret → Prop
  | .val d => ∀ v B' H', Gr (dom μ) B H B' H' → Ok C μ' B' H' → Rep C B' d v → Q v H'
  | .fresh ds => ∀ p vs B' H', Gr (dom μ) B H B' H' → Ok C μ' B' H' → H p = none → B' p = none → H' p = some (.lst vs) → RepL C B' ds vs → Q (.ref p) H'
  | .err => ∀ B' H', Gr (dom μ) B H B' H' → Ok C μ' B' H' → E (.ref CN) none H'
/-- its promise; CN: the class of its error -/
def SpO (C CN : Addr) (S : Sc) : Sp := fun vs H Q E => ∃ ds μ B r μ', RepL C B ds vs ∧ Ok C μ B H ∧ S ds μ r μ' ∧ dom μ' = dom μ ∧ RetK C CN μ B H Q E μ' r
theorem Own.sub {C : Addr} {B H : Hp} : ∀ {μ μ' : Mu}, μ'.Sublist μ → Own C B H μ → Own C B H μ'
  | _, _, .slnil, h => h
  | _, _, .cons _ s, h => Own.sub s h.2
  | _, _, .cons_cons (a := (p, ds)) s, h => ⟨⟨h.1.1, fun z => h.1.2.1 ((s.map _).subset z), h.1.2.2⟩, Own.sub s h.2⟩
theorem Ok.sub {C : Addr} {B H : Hp} {μ μ' : Mu} (s : μ'.Sublist μ) (o : Ok C μ B H) : Ok C μ' B H := ⟨o.bh, o.own.sub s⟩
theorem Ok.nil {C : Addr} {B H : Hp} (h : Same B H) : Ok C [] B H := ⟨h, trivial⟩

section
variable {C CN : Addr} {K : PySem.W.Frag} {ρ ρ1 ρ2 : Sto} {μ μ1 μ2 μ3 : Mu} {te ta tb : TE} {tt tu : TT} {tr : TA} {x y d d' : D} {ds es : List D} {r : R2} {b c : Bool} {S : Sc} {E : XK}
theorem SpO.len {n : Nat} (hS : ∀ ds μ r μ', S ds μ r μ' → ds.length = n) : ∀ vs H Q E, SpO C CN S vs H Q E → vs.length = n := fun vs H Q E ⟨ds, μ, B, r, μ', h1, _, h2, _⟩ => h1.length.trans (hS _ _ _ _ h2)
/-- the names' values at the entry -/
def startA (n : Nat) (ds : List D) : Sto := ds.map some ++ List.replicate (n - ds.length) none
theorem rs_start {N : List Str} {B : Hp} : ∀ {ds : List D} {vs : List V}, RepL C B ds vs → RS C B (startA N.length ds) (L2.start N vs) := fun {ds vs} r => by
  unfold startA L2.start
  refine ⟨by rw [List.length_append, List.length_append, List.length_map, List.length_map, List.length_replicate, List.length_replicate, r.length], fun i d e => ?_⟩
  by_cases hi : i < ds.length
  · rw [List.getElem?_append_left (by simpa using hi), List.getElem?_map] at e
    cases q : ds[i]? with
    | none => rw [q] at e; cases e
    | some d' =>
      rw [q] at e
      cases e
      obtain ⟨v, h1, h2⟩ := r.get q
      exact ⟨v, by rw [List.getElem?_append_left (by rw [List.length_map, r.length]; exact hi), List.getElem?_map, h1]; rfl, h2⟩
  · rw [List.getElem?_append_right (by simpa using hi), List.getElem?_replicate] at e
    split at e <;> cases e
/-- how a body keeps its promise -/
def Bod (C : Addr) (ts : TS) (n : Nat) (S : Sc) : Prop := ∀ ds μ r μ', S ds μ r μ' → dom μ' = dom μ → ∀ Γ : Gam, Γ.dm = dom μ →
  ASg C Γ ts (startA n ds) μ { nx := fun _ μ2 => r = .val .non ∧ μ'.Sublist μ2, rt := fun r2 μ2 => (r2 = r ∨ ∃ ds, r2 = .fresh ds ∧ r = .val (.lst ds)) ∧ μ'.Sublist μ2, er := fun μ2 => r = .err ∧ μ'.Sublist μ2 }
theorem retK_of {Γ : Gam} {B H B' H' : Hp} {Q : VK} {μ' μ'' : Mu} {r : Ret} {v : V} (hΓ : Γ = ⟨B, H, dom μ, Γ.er⟩) (k : RetK C CN μ B H Q E μ' r) (ok : Ok C μ' B' H') (g : Gx Γ μ'' B' H') (rv : RetV C Γ B' H' r v) : Q v H' := by
  have gr : Gr (dom μ) B H B' H' := by
    rw [hΓ] at g
    exact ⟨g.bb, g.hh, g.fr, g.ds⟩
  cases r with
  | val d => exact k v B' H' gr ok rv
  | fresh ds =>
    obtain ⟨p, vs, rfl, h1, h2, h3, h4⟩ := rv
    rw [hΓ] at h1
    exact k p vs B' H' gr ok h1 h2 h3 h4
  | err => exact rv.elim
theorem Bod.to {N : List Str} {ts : TS} {vs : List V} {H : Hp} {Q : VK} (hb : ∀ ds μ r μ' , S ds μ r μ' → dom μ' = dom μ → ∀ Γ : Gam, Γ.dm = dom μ → Γ.er = (fun H' => E (.ref CN) none H') → ∀ σ B H Dn, RS C B (startA N.length ds) σ → Ok C μ B H → Gx Γ μ B H →
      Fol C Γ { nx := fun _ μ2 => r = .val .non ∧ μ'.Sublist μ2, rt := fun r2 μ2 => (r2 = r ∨ ∃ ds, r2 = .fresh ds ∧ r = .val (.lst ds)) ∧ μ'.Sublist μ2, er := fun μ2 => r = .err ∧ μ'.Sublist μ2 } Dn → ts Dn σ H)
    (h : SpO C CN S vs H Q E) : ts { nx := fun _ H' => Q .non H', rt := Q } (L2.start N vs) H := by
  obtain ⟨ds, μ, B, r, μ', h1, h2, h3, h4, h5⟩ := h
  let Γ : Gam := ⟨B, H, dom μ, fun H' => E (.ref CN) none H'⟩
  refine hb ds μ r μ' h3 h4 Γ rfl rfl _ B H _ (rs_start h1) h2 ⟨Same.refl _, fun _ _ h _ => h, fun _ _ h => .inl h, fun _ o h => ⟨o, h⟩, fun p hp => .inl hp⟩ ⟨?_, ?_, ?_, ?_, ?_⟩
  · rintro ρ μ2 σ B' H' ⟨rfl, sl⟩ _ ok g
    exact retK_of (Γ := Γ) (v := .non) rfl h5 (ok.sub sl) g rfl
  · rintro r2 μ2 v B' H' ⟨hr, sl⟩ ok g rv
    rcases hr with rfl | ⟨es, rfl, rfl⟩
    · exact retK_of (Γ := Γ) rfl h5 (ok.sub sl) g rv
    · obtain ⟨p, vs', rfl, q1, q2, q3, q4⟩ := rv
      have ok' := ok.sub sl
      have bm : Same B' (upd B' p (.lst vs')) := fun a u q => by rw [upd_ne (ne_of_none q q2)]; exact q
      refine h5 (.ref p) (upd B' p (.lst vs')) H' ⟨g.bb.trans bm, g.hh, fun a o q => ?_, g.ds⟩ ⟨fun a u q => ?_, ok'.own.to bm (fun q hq => ?_) fun _ _ _ h => h⟩ ⟨p, vs', rfl, upd_same, q4.mono bm⟩
      · by_cases z : a = p
        · rw [z]; exact .inr q1
        · rw [upd_ne z] at q; exact g.fr a o q
      · by_cases z : a = p
        · rw [z, upd_same] at q; rw [z, q3]; exact q
        · rw [upd_ne z] at q; exact ok.bh a u q
      · obtain ⟨ds', hm⟩ := mem_dom hq
        have hp : q ∈ dom μ := h4 ▸ hq
        obtain ⟨ds0, hm0⟩ := mem_dom hp
        obtain ⟨_, vs0, hv0, _⟩ := h2.own.mem hm0
        rw [upd_ne (show q ≠ p from fun z => by rw [z] at hv0; rw [show H p = none from q1] at hv0; cases hv0)]
        exact (ok'.own.mem hm).1
  · rintro ρ μ2 σ B' H' z
    exact z.elim
  · rintro ρ μ2 σ B' H' z
    exact z.elim
  · rintro μ2 B' H' ⟨rfl, sl⟩ ok g
    exact h5 B' H' ⟨g.bb, g.hh, g.fr, g.ds⟩ (ok.sub sl)
theorem Bod.go {N : List Str} {ts : TS} {vs : List V} {H : Hp} {Q : VK} (hb : Bod C ts N.length S) (h : SpO C CN S vs H Q E) : ts { nx := fun _ H' => Q .non H', rt := Q } (L2.start N vs) H :=
  Bod.to (N := N) (fun ds μ r μ' hS hd Γ hΓ _ σ B H Dn rs ok gx f => hb ds μ r μ' hS hd Γ hΓ σ B H Dn rs ok gx f) h

/-! ### calls -/
def tcR (sp : Sp) (E : XK) (t : TA) : TE := fun σ H Q => t σ H fun vs H1 => sp vs H1 Q E
def tPrR (C : Addr) (sp : Sp) (E : XK) (ta : TE) : TE := fun σ H Q => ta σ H fun x H1 => ∃ a dx fs, x = .ref a ∧ H1 a = some (.ins C dx fs) ∧ sp [.ref a] H1 Q E
theorem ae_call (ha : AA C tr ρ μ ds μ1) (hS : S ds μ1 (.val d) μ2) (hm : dom μ2 = dom μ1 := by rfl) : AE C (tcR (SpO C CN S) E tr) ρ μ d μ2 :=
  ⟨hm.trans ha.1, fun σ B H rs ok Q q => ha.2 σ B H rs ok _ fun vs B1 H1 g1 ok1 r1 => ⟨ds, μ1, B1, .val d, μ2, r1, ok1, hS, hm, fun v B' H' g ok' r => q v B' H' (g1.trans (g.dm ha.1)) ok' r⟩⟩
theorem af_call (ha : AA C tr ρ μ ds μ1) (hS : S ds μ1 (.fresh es) μ2) (hm : dom μ2 = dom μ1 := by rfl) : AF C (tcR (SpO C CN S) E tr) ρ μ es μ2 :=
  ⟨hm.trans ha.1, fun σ B H rs ok Q q => ha.2 σ B H rs ok _ fun vs B1 H1 g1 ok1 r1 => ⟨ds, μ1, B1, .fresh es, μ2, r1, ok1, hS, hm, fun p vs B' H' g ok' hp h1 h2 h3 => q p vs B' H' (g1.trans (g.dm ha.1)) ok' (by
    cases z : H p with
    | none => rfl
    | some o =>
      obtain ⟨o', z'⟩ := g1.ds p o z
      rw [hp] at z'; cases z') h1 h2 h3⟩⟩
theorem look_ratF {q : Rat} {m : Str} (h1 : m ≠ "own_top") (h2 : m ≠ "own_bottom") : (ratF q).lookup m = none := by
  unfold ratF
  rw [List.lookup_cons, List.lookup_cons, beq_eq_false_iff_ne.mpr h1, beq_eq_false_iff_ne.mpr h2]
  rfl
/-- q.m(..) -/
theorem ae_meth {m : Str} {q : Rat} (hq : AE C ta ρ μ (.rat q) μ1) (ha : AA C tr ρ μ1 ds μ2) (hS : S (.rat q :: ds) μ2 (.val d) μ3) (hm : dom μ3 = dom μ2 := by rfl) (h1 : m ≠ "own_top" := by decide) (h2 : m ≠ "own_bottom" := by decide) : AE C (tMethR C m (SpO C CN S) E ta tr) ρ μ d μ3 :=
  ⟨hm.trans (ha.1.trans hq.1), fun σ B H rs ok Q k => hq.2 σ B H rs ok _ fun v B1 H1 g1 ok1 r1 => by
    obtain ⟨a, dx, rfl, hh⟩ := r1
    refine ⟨a, dx, ratF q, rfl, ok1.bh _ _ hh, look_ratF h1 h2, ha.2 σ B1 H1 (rs.mono g1.bb) ok1 _ fun vs B2 H2 g2 ok2 r2 => ?_⟩
    have g12 : Gr (dom μ) B H B2 H2 := g1.trans (g2.dm hq.1)
    refine ⟨.rat q :: ds, μ2, B2, .val d, μ3, ⟨_, _, rfl, ⟨a, dx, rfl, g2.bb _ _ hh⟩, r2⟩, ok2, hS, hm, fun v B' H' g ok' r => k v B' H' (g12.trans (g.dm (ha.1.trans hq.1))) ok' r⟩⟩
/-- q.f, a property -/
theorem ae_prop {q : Rat} (hq : AE C ta ρ μ (.rat q) μ1) (hS : S [.rat q] μ1 (.val d) μ2) (hm : dom μ2 = dom μ1 := by rfl) : AE C (tPrR C (SpO C CN S) E ta) ρ μ d μ2 :=
  ⟨hm.trans hq.1, fun σ B H rs ok Q k => hq.2 σ B H rs ok _ fun v B1 H1 g1 ok1 r1 => by
    obtain ⟨a, dx, rfl, hh⟩ := id r1
    exact ⟨a, dx, ratF q, rfl, ok1.bh _ _ hh, [.rat q], μ1, B1, .val d, μ2, ⟨_, _, rfl, r1, rfl⟩, ok1, hS, hm, fun v B' H' g ok' r => k v B' H' (g1.trans (g.dm hq.1)) ok' r⟩⟩
/-- Ratio.m(..), a classmethod -/
theorem ae_cmeth (hq : AE C ta ρ μ (.ptr C) μ1) (ha : AA C tr ρ μ1 ds μ2) (hS : S (.ptr C :: ds) μ2 (.val d) μ3) (hm : dom μ3 = dom μ2 := by rfl) : AE C (ClX.tCMeth C (SpO C CN S) E ta tr) ρ μ d μ3 :=
  ⟨hm.trans (ha.1.trans hq.1), fun σ B H rs ok Q k => hq.2 σ B H rs ok _ fun v B1 H1 g1 ok1 r1 => ⟨r1, ha.2 σ B1 H1 (rs.mono g1.bb) ok1 _ fun vs B2 H2 g2 ok2 r2 =>
    ⟨.ptr C :: ds, μ2, B2, .val d, μ3, ⟨_, _, rfl, rfl, r2⟩, ok2, hS, hm, fun v B' H' g ok' r => k v B' H' ((g1.trans (g2.dm hq.1)).trans (g.dm (ha.1.trans hq.1))) ok' r⟩⟩⟩
/-- q.own_top, q.own_bottom -/
theorem ae_fldT {q : Rat} (hc : Cls K C) (hn : NoAttr K C "own_top") (hq : AE C ta ρ μ (.rat q) μ1) : AE C (tFld K ta "own_top") ρ μ (.int q.num) μ1 :=
  ⟨hq.1, fun σ B H rs ok Q k => hq.2 σ B H rs ok _ fun v B1 H1 g1 ok1 r1 => by
    obtain ⟨a, dx, rfl, hh⟩ := id r1
    exact ⟨a, C, dx, ratF q, .int q.num, rfl, ok1.bh _ _ hh, hc, hn, rfl, k _ B1 H1 g1 ok1 rfl⟩⟩
theorem ae_fldB {q : Rat} (hc : Cls K C) (hn : NoAttr K C "own_bottom") (hq : AE C ta ρ μ (.rat q) μ1) : AE C (tFld K ta "own_bottom") ρ μ (.int (q.den : Int)) μ1 :=
  ⟨hq.1, fun σ B H rs ok Q k => hq.2 σ B H rs ok _ fun v B1 H1 g1 ok1 r1 => by
    obtain ⟨a, dx, rfl, hh⟩ := id r1
    exact ⟨a, C, dx, ratF q, .int (q.den : Int), rfl, ok1.bh _ _ hh, hc, hn, rfl, k _ B1 H1 g1 ok1 rfl⟩⟩
/-- Ratio(t, b): what __init__ promises -/
def spInit (C : Addr) : Sp := fun vs H Q _ => ∃ x dx t b, vs = [.ref x, .int t, .int b] ∧ H x = some (.ins C dx []) ∧ b ≠ 0 ∧ t.natAbs.log2 < 100000 ∧ b.natAbs.log2 < 8999 ∧
  ∀ H', H' x = some (.ins C dx (ratF (Rat.divInt t b))) → (∀ a o, a ≠ x → H a = some o → H' a = some o) → Q .non H'
def spIni (C : Addr) (dvs : List V) : Sp := fun vs H Q E => spInit C (vs ++ dvs) H Q E
theorem ae_make {t b : Int} {dvs : List V} {dds : List D} (hd : ∀ B, RepL C B dds dvs) (ha : AA C tr ρ μ ds μ1) (hds : ds ++ dds = [.int t, .int b]) (hb : b ≠ 0) (h1 : t.natAbs.log2 < 100000) (h2 : b.natAbs.log2 < 8999) : AE C (StX.tMakeR C (spIni C dvs) E tr) ρ μ (.rat (Rat.divInt t b)) μ1 :=
  ⟨ha.1, fun σ B H rs ok Q q => ha.2 σ B H rs ok _ fun vs B1 H1 g1 ok1 r1 x dx hx hdx hne => by
    have e := r1.app (hd B1)
    rw [hds] at e
    obtain ⟨v1, r', e1, e2, v2, r'', e3, e4, e5⟩ := e
    have evs : vs ++ dvs = [.int t, .int b] := by rw [e1, e3, show v1 = V.int t from e2, show v2 = V.int b from e4, show r'' = [] from e5]
    refine ⟨x, dx, t, b, by show V.ref x :: (vs ++ dvs) = _; rw [evs], upd_same, hb, h1, h2, fun H' hx' hk => ⟨rfl, ?_⟩⟩
    have keep : ∀ a o, H1 a = some o → H' a = some o := fun a o h => hk a o (ne_of_none h hx) (by rw [upd_ne (ne_of_none h hx), upd_ne (ne_of_none h hdx)]; exact h)
    have hxB : B1 x = none := ok1.bh.free hx
    have gr : Gr (dom μ1) B1 H1 (upd B1 x (.ins C dx (ratF (Rat.divInt t b)))) H' := ⟨fun a u q => by rw [upd_ne (ne_of_none q hxB)]; exact q, fun a o h _ => keep a o h, fun a o h => by
      by_cases z : a = x
      · rw [z]; exact .inr hx
      · rw [upd_ne z] at h; exact .inl h, fun a o h => ⟨o, keep a o h⟩⟩
    have bh' : Same (upd B1 x (.ins C dx (ratF (Rat.divInt t b)))) H' := fun a u q => by
      by_cases z : a = x
      · rw [z, upd_same] at q; rw [z, hx']; exact q
      · rw [upd_ne z] at q; exact keep a u (ok1.bh a u q)
    exact q (.ref x) _ H' (g1.trans (gr.dm ha.1)) (ok1.grow ⟨gr.bb, fun a o h _ => keep a o h, gr.fr, gr.ds⟩ bh') ⟨x, dx, rfl, upd_same⟩⟩
theorem ae_make1 {t : Int} (ha : AA C tr ρ μ [.int t] μ1) (h1 : t.natAbs.log2 < 100000 := by decide) : AE C (StX.tMakeR C (spIni C [.int 1]) E tr) ρ μ (.rat (Rat.divInt t 1)) μ1 := ae_make (dds := [.int 1]) (fun _ => ⟨_, _, rfl, rfl, rfl⟩) ha rfl (by decide) h1 (by decide)
theorem ae_make2 {t b : Int} (ha : AA C tr ρ μ [.int t, .int b] μ1) (hb : b ≠ 0) (h1 : t.natAbs.log2 < 100000) (h2 : b.natAbs.log2 < 8999) : AE C (StX.tMakeR C (spIni C []) E tr) ρ μ (.rat (Rat.divInt t b)) μ1 := ae_make (dds := []) (fun _ => rfl) ha rfl hb h1 h2
end
end OC
set_option maxHeartbeats 4000000
/-! OcT: where things stand in the text; what the top has left. -/
namespace OC
open PySem PySem.Spec PyProof.Rows L2

def topS (i : Nat) : Stmt := PySem.Challenge.pw_onecrest_k38_whole_level_directions.main.body.getD i (.Pass ⟨0, 0, 0, 0⟩)
abbrev Frg := PySem.W.Frag
def gloN0 : List Str := ["is_integer", "is_list", "digits_of", "common_part", "told_pair", "is_number", "ratio_of", "want_number", "total_of", "weighed", "are_numbers", "are_alike"]
def gloN1 : List Str := ["is_table", "ratios_of", "told_rows", "made_by", "value_in", "lessened", "pivot_at", "steps_in", "single_at", "pair_at", "less_square", "next_squares"]
def gloN2 : List Str := ["squares_in", "list_with", "above_in", "level_in", "told_weights", "level", "is_level", "_law_pot", "_law_draw", "_law_pick", "_law_small", "_law_more"]
def gloN3 : List Str := ["_law_table", "_law_handed", "_law_given", "_law_determinant", "_law_choices", "_law_minor", "_law_sums", "_law_changes", "_law_signs", "_law_is_number", "_law_is_list", "_law_form"]
def gloN4 : List Str := ["_law_looks", "_law_without", "_law_values", "_law_bound_right", "_law_heard", "_law_right", "law", "CrestError", "StateError", "InvalidNumber", "InvalidTable", "InvalidWeights"]
def gloN5 : List Str := ["DividedByZero", "NotAbove", "Ratio"]
def gloN : List Str := gloN0 ++ (gloN1 ++ (gloN2 ++ (gloN3 ++ (gloN4 ++ (gloN5)))))
def freeN0 : List Str := ["isinstance", "int", "bool", "list", "tuple", "len", "all", "abs", "zip", "enumerate", "range", "str"]
def freeN1 : List Str := ["repr", "divmod", "max", "min"]
def freeN : List Str := freeN0 ++ (freeN1)
/-- a function of the top, a method, a getter, a classmethod -/
def aF (x : Str) (K : Frg) : Addr := He.ga K x
def cR (K : Frg) : Addr := He.ga K "Ratio"
def cN (K : Frg) : Addr := He.ga K "NotAbove"
def aM (m : Str) (K : Frg) : Addr := He.ma K (cR K) m
def aG (m : Str) (K : Frg) : Addr := match PySem.W.recIn K (aM m K) "property" with
  | some (.ref g :: _) => g
  | _ => 0
def aT (m : Str) (K : Frg) : Addr := He5.wf K (cR K) "classmethod" m
abbrev st_is_integer : Stmt := topS 10
def df_is_integer : He5.DefA := { at_ := aF "is_integer", name := "is_integer", qual := "is_integer", params := defArgs st_is_integer, body := defBody st_is_integer, scope := defScope st_is_integer, dfl := [] }
abbrev st_is_list : Stmt := topS 11
def df_is_list : He5.DefA := { at_ := aF "is_list", name := "is_list", qual := "is_list", params := defArgs st_is_list, body := defBody st_is_list, scope := defScope st_is_list, dfl := [] }
abbrev st_digits_of : Stmt := topS 14
def df_digits_of : He5.DefA := { at_ := aF "digits_of", name := "digits_of", qual := "digits_of", params := defArgs st_digits_of, body := defBody st_digits_of, scope := defScope st_digits_of, dfl := [] }
abbrev st_common_part : Stmt := topS 15
def df_common_part : He5.DefA := { at_ := aF "common_part", name := "common_part", qual := "common_part", params := defArgs st_common_part, body := defBody st_common_part, scope := defScope st_common_part, dfl := [] }
abbrev st_told_pair : Stmt := topS 17
def df_told_pair : He5.DefA := { at_ := aF "told_pair", name := "told_pair", qual := "told_pair", params := defArgs st_told_pair, body := defBody st_told_pair, scope := defScope st_told_pair, dfl := [] }
abbrev st_is_number : Stmt := topS 18
def df_is_number : He5.DefA := { at_ := aF "is_number", name := "is_number", qual := "is_number", params := defArgs st_is_number, body := defBody st_is_number, scope := defScope st_is_number, dfl := [] }
abbrev st_ratio_of : Stmt := topS 19
def df_ratio_of : He5.DefA := { at_ := aF "ratio_of", name := "ratio_of", qual := "ratio_of", params := defArgs st_ratio_of, body := defBody st_ratio_of, scope := defScope st_ratio_of, dfl := [] }
abbrev st_want_number : Stmt := topS 20
def df_want_number : He5.DefA := { at_ := aF "want_number", name := "want_number", qual := "want_number", params := defArgs st_want_number, body := defBody st_want_number, scope := defScope st_want_number, dfl := [] }
abbrev st_total_of : Stmt := topS 21
def df_total_of : He5.DefA := { at_ := aF "total_of", name := "total_of", qual := "total_of", params := defArgs st_total_of, body := defBody st_total_of, scope := defScope st_total_of, dfl := [] }
abbrev st_weighed : Stmt := topS 22
def df_weighed : He5.DefA := { at_ := aF "weighed", name := "weighed", qual := "weighed", params := defArgs st_weighed, body := defBody st_weighed, scope := defScope st_weighed, dfl := [] }
abbrev st_are_numbers : Stmt := topS 25
def df_are_numbers : He5.DefA := { at_ := aF "are_numbers", name := "are_numbers", qual := "are_numbers", params := defArgs st_are_numbers, body := defBody st_are_numbers, scope := defScope st_are_numbers, dfl := [] }
abbrev st_are_alike : Stmt := topS 26
def df_are_alike : He5.DefA := { at_ := aF "are_alike", name := "are_alike", qual := "are_alike", params := defArgs st_are_alike, body := defBody st_are_alike, scope := defScope st_are_alike, dfl := [] }
abbrev st_is_table : Stmt := topS 27
def df_is_table : He5.DefA := { at_ := aF "is_table", name := "is_table", qual := "is_table", params := defArgs st_is_table, body := defBody st_is_table, scope := defScope st_is_table, dfl := [] }
abbrev st_ratios_of : Stmt := topS 28
def df_ratios_of : He5.DefA := { at_ := aF "ratios_of", name := "ratios_of", qual := "ratios_of", params := defArgs st_ratios_of, body := defBody st_ratios_of, scope := defScope st_ratios_of, dfl := [] }
abbrev st_told_rows : Stmt := topS 29
def df_told_rows : He5.DefA := { at_ := aF "told_rows", name := "told_rows", qual := "told_rows", params := defArgs st_told_rows, body := defBody st_told_rows, scope := defScope st_told_rows, dfl := [] }
abbrev st_made_by : Stmt := topS 30
def df_made_by : He5.DefA := { at_ := aF "made_by", name := "made_by", qual := "made_by", params := defArgs st_made_by, body := defBody st_made_by, scope := defScope st_made_by, dfl := [] }
abbrev st_value_in : Stmt := topS 31
def df_value_in : He5.DefA := { at_ := aF "value_in", name := "value_in", qual := "value_in", params := defArgs st_value_in, body := defBody st_value_in, scope := defScope st_value_in, dfl := [] }
abbrev st_lessened : Stmt := topS 32
def df_lessened : He5.DefA := { at_ := aF "lessened", name := "lessened", qual := "lessened", params := defArgs st_lessened, body := defBody st_lessened, scope := defScope st_lessened, dfl := [] }
abbrev st_pivot_at : Stmt := topS 33
def df_pivot_at : He5.DefA := { at_ := aF "pivot_at", name := "pivot_at", qual := "pivot_at", params := defArgs st_pivot_at, body := defBody st_pivot_at, scope := defScope st_pivot_at, dfl := [] }
abbrev st_steps_in : Stmt := topS 34
def df_steps_in : He5.DefA := { at_ := aF "steps_in", name := "steps_in", qual := "steps_in", params := defArgs st_steps_in, body := defBody st_steps_in, scope := defScope st_steps_in, dfl := [] }
abbrev st_single_at : Stmt := topS 36
def df_single_at : He5.DefA := { at_ := aF "single_at", name := "single_at", qual := "single_at", params := defArgs st_single_at, body := defBody st_single_at, scope := defScope st_single_at, dfl := [] }
abbrev st_pair_at : Stmt := topS 37
def df_pair_at : He5.DefA := { at_ := aF "pair_at", name := "pair_at", qual := "pair_at", params := defArgs st_pair_at, body := defBody st_pair_at, scope := defScope st_pair_at, dfl := [] }
abbrev st_less_square : Stmt := topS 38
def df_less_square : He5.DefA := { at_ := aF "less_square", name := "less_square", qual := "less_square", params := defArgs st_less_square, body := defBody st_less_square, scope := defScope st_less_square, dfl := [] }
abbrev st_next_squares : Stmt := topS 39
def df_next_squares : He5.DefA := { at_ := aF "next_squares", name := "next_squares", qual := "next_squares", params := defArgs st_next_squares, body := defBody st_next_squares, scope := defScope st_next_squares, dfl := [] }
abbrev st_squares_in : Stmt := topS 40
def df_squares_in : He5.DefA := { at_ := aF "squares_in", name := "squares_in", qual := "squares_in", params := defArgs st_squares_in, body := defBody st_squares_in, scope := defScope st_squares_in, dfl := [] }
abbrev st_list_with : Stmt := topS 42
def df_list_with : He5.DefA := { at_ := aF "list_with", name := "list_with", qual := "list_with", params := defArgs st_list_with, body := defBody st_list_with, scope := defScope st_list_with, dfl := [] }
abbrev st_above_in : Stmt := topS 43
def df_above_in : He5.DefA := { at_ := aF "above_in", name := "above_in", qual := "above_in", params := defArgs st_above_in, body := defBody st_above_in, scope := defScope st_above_in, dfl := [] }
abbrev st_level_in : Stmt := topS 44
def df_level_in : He5.DefA := { at_ := aF "level_in", name := "level_in", qual := "level_in", params := defArgs st_level_in, body := defBody st_level_in, scope := defScope st_level_in, dfl := [] }
abbrev st_told_weights : Stmt := topS 45
def df_told_weights : He5.DefA := { at_ := aF "told_weights", name := "told_weights", qual := "told_weights", params := defArgs st_told_weights, body := defBody st_told_weights, scope := defScope st_told_weights, dfl := [] }
abbrev st_level : Stmt := topS 46
def df_level : He5.DefA := { at_ := aF "level", name := "level", qual := "level", params := defArgs st_level, body := defBody st_level, scope := defScope st_level, dfl := [] }
abbrev st_is_level : Stmt := topS 47
def df_is_level : He5.DefA := { at_ := aF "is_level", name := "is_level", qual := "is_level", params := defArgs st_is_level, body := defBody st_is_level, scope := defScope st_is_level, dfl := [] }
abbrev st__law_pot : Stmt := topS 49
def df__law_pot : He5.DefA := { at_ := aF "_law_pot", name := "_law_pot", qual := "_law_pot", params := defArgs st__law_pot, body := defBody st__law_pot, scope := defScope st__law_pot, dfl := [] }
abbrev st__law_draw : Stmt := topS 50
def df__law_draw : He5.DefA := { at_ := aF "_law_draw", name := "_law_draw", qual := "_law_draw", params := defArgs st__law_draw, body := defBody st__law_draw, scope := defScope st__law_draw, dfl := [] }
abbrev st__law_pick : Stmt := topS 51
def df__law_pick : He5.DefA := { at_ := aF "_law_pick", name := "_law_pick", qual := "_law_pick", params := defArgs st__law_pick, body := defBody st__law_pick, scope := defScope st__law_pick, dfl := [] }
abbrev st__law_small : Stmt := topS 52
def df__law_small : He5.DefA := { at_ := aF "_law_small", name := "_law_small", qual := "_law_small", params := defArgs st__law_small, body := defBody st__law_small, scope := defScope st__law_small, dfl := [] }
abbrev st__law_more : Stmt := topS 53
def df__law_more : He5.DefA := { at_ := aF "_law_more", name := "_law_more", qual := "_law_more", params := defArgs st__law_more, body := defBody st__law_more, scope := defScope st__law_more, dfl := [] }
abbrev st__law_table : Stmt := topS 54
def df__law_table : He5.DefA := { at_ := aF "_law_table", name := "_law_table", qual := "_law_table", params := defArgs st__law_table, body := defBody st__law_table, scope := defScope st__law_table, dfl := [] }
abbrev st__law_handed : Stmt := topS 55
def df__law_handed : He5.DefA := { at_ := aF "_law_handed", name := "_law_handed", qual := "_law_handed", params := defArgs st__law_handed, body := defBody st__law_handed, scope := defScope st__law_handed, dfl := [] }
abbrev st__law_given : Stmt := topS 56
def df__law_given : He5.DefA := { at_ := aF "_law_given", name := "_law_given", qual := "_law_given", params := defArgs st__law_given, body := defBody st__law_given, scope := defScope st__law_given, dfl := [] }
abbrev st__law_determinant : Stmt := topS 57
def df__law_determinant : He5.DefA := { at_ := aF "_law_determinant", name := "_law_determinant", qual := "_law_determinant", params := defArgs st__law_determinant, body := defBody st__law_determinant, scope := defScope st__law_determinant, dfl := [] }
abbrev st__law_choices : Stmt := topS 58
def df__law_choices : He5.DefA := { at_ := aF "_law_choices", name := "_law_choices", qual := "_law_choices", params := defArgs st__law_choices, body := defBody st__law_choices, scope := defScope st__law_choices, dfl := [] }
abbrev st__law_minor : Stmt := topS 59
def df__law_minor : He5.DefA := { at_ := aF "_law_minor", name := "_law_minor", qual := "_law_minor", params := defArgs st__law_minor, body := defBody st__law_minor, scope := defScope st__law_minor, dfl := [] }
abbrev st__law_sums : Stmt := topS 60
def df__law_sums : He5.DefA := { at_ := aF "_law_sums", name := "_law_sums", qual := "_law_sums", params := defArgs st__law_sums, body := defBody st__law_sums, scope := defScope st__law_sums, dfl := [] }
abbrev st__law_changes : Stmt := topS 61
def df__law_changes : He5.DefA := { at_ := aF "_law_changes", name := "_law_changes", qual := "_law_changes", params := defArgs st__law_changes, body := defBody st__law_changes, scope := defScope st__law_changes, dfl := [] }
abbrev st__law_signs : Stmt := topS 62
def df__law_signs : He5.DefA := { at_ := aF "_law_signs", name := "_law_signs", qual := "_law_signs", params := defArgs st__law_signs, body := defBody st__law_signs, scope := defScope st__law_signs, dfl := [] }
abbrev st__law_is_number : Stmt := topS 63
def df__law_is_number : He5.DefA := { at_ := aF "_law_is_number", name := "_law_is_number", qual := "_law_is_number", params := defArgs st__law_is_number, body := defBody st__law_is_number, scope := defScope st__law_is_number, dfl := [] }
abbrev st__law_is_list : Stmt := topS 64
def df__law_is_list : He5.DefA := { at_ := aF "_law_is_list", name := "_law_is_list", qual := "_law_is_list", params := defArgs st__law_is_list, body := defBody st__law_is_list, scope := defScope st__law_is_list, dfl := [] }
abbrev st__law_form : Stmt := topS 65
def df__law_form : He5.DefA := { at_ := aF "_law_form", name := "_law_form", qual := "_law_form", params := defArgs st__law_form, body := defBody st__law_form, scope := defScope st__law_form, dfl := [] }
abbrev st__law_looks : Stmt := topS 66
def df__law_looks : He5.DefA := { at_ := aF "_law_looks", name := "_law_looks", qual := "_law_looks", params := defArgs st__law_looks, body := defBody st__law_looks, scope := defScope st__law_looks, dfl := [] }
abbrev st__law_without : Stmt := topS 67
def df__law_without : He5.DefA := { at_ := aF "_law_without", name := "_law_without", qual := "_law_without", params := defArgs st__law_without, body := defBody st__law_without, scope := defScope st__law_without, dfl := [] }
abbrev st__law_values : Stmt := topS 68
def df__law_values : He5.DefA := { at_ := aF "_law_values", name := "_law_values", qual := "_law_values", params := defArgs st__law_values, body := defBody st__law_values, scope := defScope st__law_values, dfl := [] }
abbrev st__law_bound_right : Stmt := topS 69
def df__law_bound_right : He5.DefA := { at_ := aF "_law_bound_right", name := "_law_bound_right", qual := "_law_bound_right", params := defArgs st__law_bound_right, body := defBody st__law_bound_right, scope := defScope st__law_bound_right, dfl := [] }
abbrev st__law_heard : Stmt := topS 70
def df__law_heard : He5.DefA := { at_ := aF "_law_heard", name := "_law_heard", qual := "_law_heard", params := defArgs st__law_heard, body := defBody st__law_heard, scope := defScope st__law_heard, dfl := [] }
abbrev st__law_right : Stmt := topS 71
def df__law_right : He5.DefA := { at_ := aF "_law_right", name := "_law_right", qual := "_law_right", params := defArgs st__law_right, body := defBody st__law_right, scope := defScope st__law_right, dfl := [] }
abbrev st_law : Stmt := topS 72
def df_law : He5.DefA := { at_ := aF "law", name := "law", qual := "law", params := defArgs st_law, body := defBody st_law, scope := defScope st_law, dfl := [] }
abbrev st_R__init__ : Stmt := inClass (topS 16) 0
def df_R__init__ : He5.DefA := { at_ := aM "__init__", name := "__init__", qual := "Ratio.__init__", params := defArgs st_R__init__, body := defBody st_R__init__, scope := defScope st_R__init__, dfl := [.int 1] }
abbrev st_Rtop : Stmt := inClass (topS 16) 1
def df_Rtop : He5.DefA := { at_ := aG "top", name := "top", qual := "Ratio.top", params := defArgs st_Rtop, body := defBody st_Rtop, scope := defScope st_Rtop, dfl := [] }
abbrev st_Rbottom : Stmt := inClass (topS 16) 2
def df_Rbottom : He5.DefA := { at_ := aG "bottom", name := "bottom", qual := "Ratio.bottom", params := defArgs st_Rbottom, body := defBody st_Rbottom, scope := defScope st_Rbottom, dfl := [] }
abbrev st_Rsign : Stmt := inClass (topS 16) 3
def df_Rsign : He5.DefA := { at_ := aG "sign", name := "sign", qual := "Ratio.sign", params := defArgs st_Rsign, body := defBody st_Rsign, scope := defScope st_Rsign, dfl := [] }
abbrev st_Rtotal : Stmt := inClass (topS 16) 5
def df_Rtotal : He5.DefA := { at_ := aT "total", name := "total", qual := "Ratio.total", params := defArgs st_Rtotal, body := defBody st_Rtotal, scope := defScope st_Rtotal, dfl := [] }
abbrev st_R__add__ : Stmt := inClass (topS 16) 6
def df_R__add__ : He5.DefA := { at_ := aM "__add__", name := "__add__", qual := "Ratio.__add__", params := defArgs st_R__add__, body := defBody st_R__add__, scope := defScope st_R__add__, dfl := [] }
abbrev st_R__radd__ : Stmt := inClass (topS 16) 7
def df_R__radd__ : He5.DefA := { at_ := aM "__radd__", name := "__radd__", qual := "Ratio.__radd__", params := defArgs st_R__radd__, body := defBody st_R__radd__, scope := defScope st_R__radd__, dfl := [] }
abbrev st_R__sub__ : Stmt := inClass (topS 16) 8
def df_R__sub__ : He5.DefA := { at_ := aM "__sub__", name := "__sub__", qual := "Ratio.__sub__", params := defArgs st_R__sub__, body := defBody st_R__sub__, scope := defScope st_R__sub__, dfl := [] }
abbrev st_R__rsub__ : Stmt := inClass (topS 16) 9
def df_R__rsub__ : He5.DefA := { at_ := aM "__rsub__", name := "__rsub__", qual := "Ratio.__rsub__", params := defArgs st_R__rsub__, body := defBody st_R__rsub__, scope := defScope st_R__rsub__, dfl := [] }
abbrev st_R__mul__ : Stmt := inClass (topS 16) 10
def df_R__mul__ : He5.DefA := { at_ := aM "__mul__", name := "__mul__", qual := "Ratio.__mul__", params := defArgs st_R__mul__, body := defBody st_R__mul__, scope := defScope st_R__mul__, dfl := [] }
abbrev st_R__rmul__ : Stmt := inClass (topS 16) 11
def df_R__rmul__ : He5.DefA := { at_ := aM "__rmul__", name := "__rmul__", qual := "Ratio.__rmul__", params := defArgs st_R__rmul__, body := defBody st_R__rmul__, scope := defScope st_R__rmul__, dfl := [] }
abbrev st_R__neg__ : Stmt := inClass (topS 16) 12
def df_R__neg__ : He5.DefA := { at_ := aM "__neg__", name := "__neg__", qual := "Ratio.__neg__", params := defArgs st_R__neg__, body := defBody st_R__neg__, scope := defScope st_R__neg__, dfl := [] }
abbrev st_Rover : Stmt := inClass (topS 16) 13
def df_Rover : He5.DefA := { at_ := aM "over", name := "over", qual := "Ratio.over", params := defArgs st_Rover, body := defBody st_Rover, scope := defScope st_Rover, dfl := [] }
abbrev st_Ris_below : Stmt := inClass (topS 16) 15
def df_Ris_below : He5.DefA := { at_ := aM "is_below", name := "is_below", qual := "Ratio.is_below", params := defArgs st_Ris_below, body := defBody st_Ris_below, scope := defScope st_Ris_below, dfl := [] }
abbrev st_R__eq__ : Stmt := inClass (topS 16) 17
def df_R__eq__ : He5.DefA := { at_ := aM "__eq__", name := "__eq__", qual := "Ratio.__eq__", params := defArgs st_R__eq__, body := defBody st_R__eq__, scope := defScope st_R__eq__, dfl := [] }
abbrev st_R__repr__ : Stmt := inClass (topS 16) 19
def df_R__repr__ : He5.DefA := { at_ := aM "__repr__", name := "__repr__", qual := "Ratio.__repr__", params := defArgs st_R__repr__, body := defBody st_R__repr__, scope := defScope st_R__repr__, dfl := [] }
def dfs0 : List He5.DefA := [df_is_integer, df_is_list, df_digits_of, df_common_part, df_told_pair, df_is_number, df_ratio_of, df_want_number, df_total_of, df_weighed, df_are_numbers, df_are_alike]
def dfs1 : List He5.DefA := [df_is_table, df_ratios_of, df_told_rows, df_made_by, df_value_in, df_lessened, df_pivot_at, df_steps_in, df_single_at, df_pair_at, df_less_square, df_next_squares]
def dfs2 : List He5.DefA := [df_squares_in, df_list_with, df_above_in, df_level_in, df_told_weights, df_level, df_is_level, df__law_pot, df__law_draw, df__law_pick, df__law_small, df__law_more]
def dfs3 : List He5.DefA := [df__law_table, df__law_handed, df__law_given, df__law_determinant, df__law_choices, df__law_minor, df__law_sums, df__law_changes, df__law_signs, df__law_is_number, df__law_is_list, df__law_form]
def dfs4 : List He5.DefA := [df__law_looks, df__law_without, df__law_values, df__law_bound_right, df__law_heard, df__law_right, df_law, df_R__init__, df_Rtop, df_Rbottom, df_Rsign, df_Rtotal]
def dfs5 : List He5.DefA := [df_R__add__, df_R__radd__, df_R__sub__, df_R__rsub__, df_R__mul__, df_R__rmul__, df_R__neg__, df_Rover, df_Ris_below, df_R__eq__, df_R__repr__]
def dfs : List He5.DefA := dfs0 ++ (dfs1 ++ (dfs2 ++ (dfs3 ++ (dfs4 ++ (dfs5)))))
def opN : List Str := ["__add__", "__radd__", "__sub__", "__rsub__", "__mul__", "__rmul__", "__neg__", "over", "is_below", "__eq__", "__repr__"]
def propN : List Str := ["top", "bottom", "sign"]
/-! ### facts -/
def fa : List He.Fa := gloN.map He.Fa.glo ++ (freeN.map He.Fa.free ++ (opN.map (He.Fa.meth "Ratio") ++ [.int "PART" (10 ^ 60), .int "MOST_ROWS" 20, .cls "Ratio", .noat "Ratio" "own_top", .noat "Ratio" "own_bottom", .mkr "Ratio", .exm "NotAbove" "NotAbove" true, .keep "Ratio"]))
def propB (m : Str) (K : Frg) : Bool := He.eqO (PySem.W.findIn K (.ref (cR K)) m) (some (some (.ref (aM m K)))) && (He.eqO (PySem.W.specialIn K (.ref (aM m K)) "__get__") (some (some (.builtin "property.__get__"))) && (decide (PySem.W.takesIn K (.ref (aM m K)) = some true) &&
  (match PySem.W.recIn K (aM m K) "property" with
    | some (.ref _ :: _) => true
    | _ => false)))
theorem propB_ok {m : Str} {K : Frg} (h : propB m K = true) : PropOf K (cR K) m (aM m K) (aG m K) := by
  obtain ⟨h1, h⟩ := He.ba h
  obtain ⟨h2, h⟩ := He.ba h
  obtain ⟨h3, h4⟩ := He.ba h
  refine ⟨He.eqO_ok h1, He.eqO_ok h2, of_decide_eq_true h3, ?_⟩
  unfold aG
  split at h4
  · rename_i f r e
    exact ⟨r, by rw [e]⟩
  · cases h4
def someR (o : Option (Option Value)) : Bool := match o with
  | some none => true
  | some (some (.ref _)) => true
  | _ => false
theorem someR_ok {o : Option (Option Value)} (h : someR o = true) : ∃ rc, o = some rc ∧ (rc = none ∨ ∃ g : Addr, rc = some (.ref g)) := by
  unfold someR at h
  split at h
  · exact ⟨none, rfl, .inl rfl⟩
  · exact ⟨_, rfl, .inr ⟨_, rfl⟩⟩
  · cases h
/-- an operator of Ratio beside int -/
def opB (o : String) (K : Frg) : Bool := someR (PySem.W.findIn K (.ref (cR K)) (PySem.dunder o)) && (someR (PySem.W.findIn K (.ref (cR K)) (dunderR o)) && ((PySem.W.findIn K (.type "int") (PySem.dunder o)).isSome && (PySem.W.findIn K (.type "int") (dunderR o)).isSome))
def tyN : List String := ["int", "bool", "str", "NoneType", "list", "tuple", "dict"]
/-- the table of the code objects that _law_right makes is not among what is looked up -/
def tabB (K : Frg) : Bool := match PySem.W.tabIn K "_law_right" with
  | some (_, P) => (K.lookup P).isNone
  | none => false
def exB (K : Frg) : Bool := PySem.W.selfFirst K (cR K) && ((["add", "sub", "mul"].all fun o => opB o K) && (decide (PySem.W.subIn K (.type "int") (.ref (cR K)) = some false) && (decide (PySem.W.subIn K (.ref (cR K)) (.type "int") = some false) &&
  (rawB K (cR K) (aM "__eq__" K) && ((match K.lookup (aM "__eq__" K) with | some o => decide (o.cls = .type "function") | none => false) && (propN.all (fun m => propB m K) &&
  (He5.wrapB K (cR K) "classmethod" "classmethod.__get__" "total" && (PySem.W.fnIn K (aT "total" K) && (PySem.W.readsIn K (cR K) (.type "type") && (He.eqO (PySem.W.specialIn K (.ref (cR K)) "__getattribute__") (some (some (.builtin "type.__getattribute__"))) &&
  (tyN.all (fun T => decide (PySem.W.kitOne K (.type T) (.ref (cR K)) = some false)) && (["int", "bool", "list", "tuple"].all (fun T => decide (PySem.W.kitOne K (.ref (cR K)) (.type T) = some false)) && (decide (PySem.W.kitOne K (.ref (cR K)) (.ref (cR K)) = some true) &&
  (He.eqO (PySem.W.findIn K (.ref (cR K)) "__class__") (some (some (.builtin "object.__class__"))) && (He.eqO (PySem.W.specialIn K (.builtin "object.__class__") "__get__") (some (some (.builtin "getset_descriptor.__get__"))) && (decide (PySem.W.takesIn K (.builtin "object.__class__") = some true) &&
  (decide (PySem.W.mroIn K (cR K) (.type "object") = some true) && (PySem.W.keepIn K (.ref (cN K)) && (decide (PySem.W.subIn K (.ref (cN K)) (.type "BaseException") = some true) && (decide (PySem.W.typeIn K (.ref (cN K)) = some (.type "type")) &&
  (PySem.W.excIn K (cN K) [.type "RuntimeError", .type "Exception", .type "BaseException", .type "object"] "RuntimeError.__new__" && tabB K)))))))))))))))))))))
def obsO (K : Frg) : He.AlD := ((fa.all fun f => f.ok K) && ((dfs.all fun d => d.ok K) && exB K), dfs.map fun d => He5.fnA K (d.at_ K))
def valO : He.AlD := (true, dfs.map He5.DefA.val)
def SaysO (K : Frg) : Prop := obsO K = valO
/-- all but that table -/
def dropT (K : Frg) : Frg := match PySem.W.tabIn K "_law_right" with
  | some (_, P) => K.filter fun p => !(p.1 == P)
  | none => K
theorem look_drop {P a : Addr} {o : Obj} : ∀ {K : Frg}, (K.filter fun p => !(p.1 == P)).lookup a = some o → K.lookup a = some o
  | [], h => h
  | (b, u) :: K, h => by
    rw [List.filter_cons] at h
    rw [List.lookup_cons]
    by_cases e : (b == P) = true
    · have h' : (K.filter fun p => !(p.1 == P)).lookup a = some o := by simpa [e] using h
      have ih := look_drop h'
      by_cases e2 : (a == b) = true
      · exfalso
        have eb : b = P := beq_iff_eq.mp e
        have ea : a = b := beq_iff_eq.mp e2
        have : ∀ {K : Frg}, (K.filter fun p => !(p.1 == P)).lookup P = none := by
          intro K
          induction K with
          | nil => rfl
          | cons q K ih =>
            rw [List.filter_cons]
            by_cases z : (q.1 == P) = true
            · simp only [z]; exact ih
            · have z' : (q.1 == P) = false := by simpa using z
              simp only [z', Bool.not_false, if_true]
              rw [List.lookup_cons]
              have : (P == q.1) = false := by
                rw [beq_eq_false_iff_ne] at z' ⊢
                exact fun y => z' y.symm
              rw [this]
              exact ih
        rw [ea, eb, this] at h'
        cases h'
      · have e2' : (a == b) = false := by simpa using e2
        rw [e2']; exact ih
    · have e' : (b == P) = false := by simpa using e
      simp only [e', Bool.not_false, if_true] at h
      rw [List.lookup_cons] at h
      by_cases e2 : (a == b) = true
      · rw [e2] at h ⊢; exact h
      · have e2' : (a == b) = false := by simpa using e2
        rw [e2'] at h ⊢
        exact look_drop h
theorem drop_in {K : Frg} {h : Heap} (X : K.In h) : (dropT K).In h := by
  unfold dropT
  split
  · exact fun a o e => X a o (look_drop e)
  · exact X
def obsOG (n : Nat) (g : Addr → Option Obj) : He.AlD := obsO (dropT (He.frG g (He5.asA g n)))
def hkO (n : Nat) : PySem.W.Hook where
  α := He.AlD
  obs := fun s => obsOG n s.heap.get?
  val := fun _ => valO
  says := fun _ h => ∃ K : Frg, K.In h ∧ SaysO K
  of := fun _ _ e => ⟨_, drop_in He.frG_in, e⟩
  keeps := fun _ _ _ ⟨K, hK, c⟩ k => ⟨K, PySem.W.Frag.In.keeps hK k, c⟩
theorem obsOG_eq {n : Nat} {g : Addr → Option Obj} {s : Shared} (h : ∀ a, g a = s.heap.get? a) : obsOG n g = (hkO n).obs s := by
  have e : g = s.heap.get? := funext h
  rw [e] <;> rfl
/-- what a walk leans on -/
structure Tx (K : Frg) (mg : Str → Option Value) : Prop where
  glo : ∀ (i : Nat) (x : Str), gloN[i]? = some x → mg x = some (.ref (He.ga K x))
  free : ∀ (i : Nat) (x : Str), freeN[i]? = some x → mg x = none
  part : ∃ t, mg "PART" = some (.int (10 ^ 60) t)
  rows : ∃ t, mg "MOST_ROWS" = some (.int 20 t)
  cls : Cls K (cR K)
  nt : NoAttr K (cR K) "own_top"
  nb : NoAttr K (cR K) "own_bottom"
  mk_ : Mk K (cR K) (He.ma K (He.ga K "Ratio") "__init__")
  kR : PySem.W.keepIn K (.ref (cR K)) = true
  meth : ∀ (i : Nat) (m : Str), opN[i]? = some m → Meth K (cR K) m (aM m K)
  def_ : ∀ (i : Nat) (d : He5.DefA), dfs[i]? = some d → ∃ fd, FunD K d.name d.qual d.params d.body d.scope (d.dvs K) (d.kws K) (d.at_ K) fd
  exm : PySem.W.exmOne K (.ref (cN K)) (.ref (cN K)) = some true
  sf : PySem.W.selfFirst K (cR K) = true
  op : ∀ o ∈ (["add", "sub", "mul"] : List String), opB o K = true
  si : PySem.W.subIn K (.type "int") (.ref (cR K)) = some false
  is : PySem.W.subIn K (.ref (cR K)) (.type "int") = some false
  raw : rawB K (cR K) (aM "__eq__" K) = true
  eqf : ∃ o, K.lookup (aM "__eq__" K) = some o ∧ o.cls = .type "function"
  prop : ∀ (i : Nat) (m : Str), propN[i]? = some m → PropOf K (cR K) m (aM m K) (aG m K)
  tot : ClX.CMet K (cR K) (.type "type") "total" (aM "total" K) (aT "total" K)
  rd : ClX.CRead K (cR K) (.type "type")
  kT : ∀ (i : Nat) (T : String), tyN[i]? = some T → PySem.W.kitOne K (.type T) (.ref (cR K)) = some false
  kC : ∀ T ∈ (["int", "bool", "list", "tuple"] : List String), PySem.W.kitOne K (.ref (cR K)) (.type T) = some false
  kk : PySem.W.kitOne K (.ref (cR K)) (.ref (cR K)) = some true
  oc1 : PySem.W.findIn K (.ref (cR K)) "__class__" = some (some (.builtin "object.__class__"))
  oc2 : PySem.W.specialIn K (.builtin "object.__class__") "__get__" = some (some (.builtin "getset_descriptor.__get__"))
  oc3 : PySem.W.takesIn K (.builtin "object.__class__") = some true
  oc4 : PySem.W.mroIn K (cR K) (.type "object") = some true
  kN : PySem.W.keepIn K (.ref (cN K)) = true
  sN : PySem.W.subIn K (.ref (cN K)) (.type "BaseException") = some true
  tN : PySem.W.typeIn K (.ref (cN K)) = some (.type "type")
  eN : PySem.W.excIn K (cN K) [.type "RuntimeError", .type "Exception", .type "BaseException", .type "object"] "RuntimeError.__new__" = true
  tb : ∃ c P, PySem.W.tabIn K "_law_right" = some (c, P) ∧ K.lookup P = none
theorem tx_of {K : Frg} {h : Heap} {mg : Str → Option Value} (X : K.In h) (G : h.Ns mainGlobals mg) (c : SaysO K) : Tx K mg := by
  have c1 : ((fa.all fun f => f.ok K) && ((dfs.all fun d => d.ok K) && exB K)) = true := congrArg (fun z : He.AlD => z.1) c
  have c2 : dfs.map (fun d => He5.fnA K (d.at_ K)) = dfs.map He5.DefA.val := congrArg (fun z : He.AlD => z.2) c
  obtain ⟨ca, c3⟩ := He.ba c1
  obtain ⟨cd, ce⟩ := He.ba c3
  have fact : ∀ f ∈ fa, f.ok K = true := fun f hf => List.all_eq_true.mp ca f hf
  have inL : ∀ f, f ∈ gloN.map He.Fa.glo → f ∈ fa := fun f hf => List.mem_append_left _ hf
  have inF : ∀ f, f ∈ freeN.map He.Fa.free → f ∈ fa := fun f hf => List.mem_append_right _ (List.mem_append_left _ hf)
  have inM : ∀ f, f ∈ opN.map (He.Fa.meth "Ratio") → f ∈ fa := fun f hf => List.mem_append_right _ (List.mem_append_right _ (List.mem_append_left _ hf))
  have inE : ∀ (i : Nat) (f : He.Fa), ([.int "PART" (10 ^ 60), .int "MOST_ROWS" 20, .cls "Ratio", .noat "Ratio" "own_top", .noat "Ratio" "own_bottom", .mkr "Ratio", .exm "NotAbove" "NotAbove" true, .keep "Ratio"] : List He.Fa)[i]? = some f → f.ok K = true := fun i f hf => fact f (List.mem_append_right _ (List.mem_append_right _ (List.mem_append_right _ (List.mem_of_getElem? hf))))
  obtain ⟨e1, e⟩ := He.ba ce
  obtain ⟨e2, e⟩ := He.ba e
  obtain ⟨e3, e⟩ := He.ba e
  obtain ⟨e4, e⟩ := He.ba e
  obtain ⟨e5, e⟩ := He.ba e
  obtain ⟨e6, e⟩ := He.ba e
  obtain ⟨e7, e⟩ := He.ba e
  obtain ⟨e8, e⟩ := He.ba e
  obtain ⟨e9, e⟩ := He.ba e
  obtain ⟨e10, e⟩ := He.ba e
  obtain ⟨e11, e⟩ := He.ba e
  obtain ⟨e12, e⟩ := He.ba e
  obtain ⟨e13, e⟩ := He.ba e
  obtain ⟨e14, e⟩ := He.ba e
  obtain ⟨e15, e⟩ := He.ba e
  obtain ⟨e16, e⟩ := He.ba e
  obtain ⟨e17, e⟩ := He.ba e
  obtain ⟨e18, e⟩ := He.ba e
  obtain ⟨e19, e⟩ := He.ba e
  obtain ⟨e20, e⟩ := He.ba e
  obtain ⟨e21, e⟩ := He.ba e
  obtain ⟨e22, e23⟩ := He.ba e
  refine ⟨fun i x hx => He.glo_ok X G (fact _ (inL _ (List.mem_map.mpr ⟨x, List.mem_of_getElem? hx, rfl⟩))), fun i x hx => He.free_ok X G (fact _ (inF _ (List.mem_map.mpr ⟨x, List.mem_of_getElem? hx, rfl⟩))),
    He.int_ok X G (inE 0 _ rfl), He.int_ok X G (inE 1 _ rfl), He.cls_ok (inE 2 _ rfl), He.noat_ok (inE 3 _ rfl), He.noat_ok (inE 4 _ rfl), He.mkr_ok (inE 5 _ rfl), He.keep_ok (inE 7 _ rfl), fun i m hm => He.meth_ok (fact _ (inM _ (List.mem_map.mpr ⟨m, List.mem_of_getElem? hm, rfl⟩))),
    fun i d hd => ?_, He.exm_ok (inE 6 _ rfl), e1, fun o ho => List.all_eq_true.mp e2 o ho, of_decide_eq_true e3, of_decide_eq_true e4, e5, ?_, fun i m hm => propB_ok (List.all_eq_true.mp e7 m (List.mem_of_getElem? hm)), He5.cmet_of e8 e9, ⟨e10, He.eqO_ok e11⟩,
    fun i T hT => of_decide_eq_true (List.all_eq_true.mp e12 T (List.mem_of_getElem? hT)), fun T hT => of_decide_eq_true (List.all_eq_true.mp e13 T hT), of_decide_eq_true e14, He.eqO_ok e15, He.eqO_ok e16, of_decide_eq_true e17, of_decide_eq_true e18, e19, of_decide_eq_true e20, of_decide_eq_true e21, e22, ?_⟩
  · have e2 : (dfs.map fun d => He5.fnA K (d.at_ K))[i]? = (dfs.map He5.DefA.val)[i]? := by rw [c2]
    rw [List.getElem?_map, List.getElem?_map, hd] at e2
    exact He5.DefA.funD (Option.some.inj e2) (List.all_eq_true.mp cd d (List.mem_of_getElem? hd))
  · cases q : K.lookup (aM "__eq__" K) with
    | none => rw [q] at e6; cases e6
    | some o => rw [q] at e6; exact ⟨o, rfl, of_decide_eq_true e6⟩
  · unfold tabB at e23
    split at e23
    · rename_i c P h
      exact ⟨c, P, h, Option.isNone_iff_eq_none.mp e23⟩
    · cases e23
end OC
set_option maxHeartbeats 0
namespace OcHead
open PySem PySem.W PySem.Calls PyProof.Rows
abbrev R : OpenRow := OpenLaw.row PySem.Challenge.rw_onecrest_k38_whole_level_directions
abbrev qv : Program := view R.prog [71, 72]
def names0 : List PySem.Str := ["_wall", "CrestError", "StateError", "InvalidNumber", "InvalidTable", "InvalidWeights", "DividedByZero", "NotAbove", "is_integer", "is_list", "PART", "digits_of"]
def names1 : List PySem.Str := ["common_part", "Ratio", "told_pair", "is_number", "ratio_of", "want_number", "total_of", "weighed", "MOST_ROWS", "are_numbers", "are_alike", "is_table"]
def names2 : List PySem.Str := ["ratios_of", "told_rows", "made_by", "value_in", "lessened", "pivot_at", "steps_in", "single_at", "pair_at", "less_square", "next_squares", "squares_in"]
def names3 : List PySem.Str := ["list_with", "above_in", "level_in", "told_weights", "level", "is_level", "_law_pot", "_law_draw", "_law_pick", "_law_small", "_law_more", "_law_table"]
def names4 : List PySem.Str := ["_law_handed", "_law_given", "_law_determinant", "_law_choices", "_law_minor", "_law_sums", "_law_changes", "_law_signs", "_law_is_number", "_law_is_list", "_law_form", "_law_looks"]
def names5 : List PySem.Str := ["_law_without", "_law_values", "_law_bound_right", "_law_heard"]
def names : List PySem.Str := names0 ++ (names1 ++ (names2 ++ (names3 ++ (names4 ++ (names5)))))
abbrev hk : Hook := OC.hkO 5
def ob (s : SharedT) : He.AlD := OC.obsOG 5 (HandSHeadRun.getT s)
theorem ob_eq (s : SharedT) : ob s = hk.obs s.abs := OC.obsOG_eq (HandSHeadRun.getT_eq s)
theorem run (w : World) : HandSHeadRun.RunEq R qv hk ob 40000 names w := by
  intro os
  kernel_rfl
end OcHead
set_option maxHeartbeats 4000000
/-! OcR: further rules of the text. -/
namespace OC
open PySem PySem.Spec PyProof.Rows L2

section
variable {X : Cx} {CX : CXT} {k : Nat} {C f p g a dx : Addr} {fs : List (Str × V)} {sp : Sp} {E : XK} {x : Str} {e : Expr} {es : List Expr} {t : TA} {ta te : TE} {q pos : Pos}
theorem pe_cR (F : FnR X.prog X.w X.K X.mg X.base CX k f sp) (hr : Room k X.A) (hg : Gl X x) (hm : X.mg x = some (.ref f)) (hk : PySem.W.keepIn X.K (.ref f) = true) (hx : Passes CX X E)
    (ha : PA X (e :: es) t) (hdb : (x == ("__debug__" : Str)) = false := by decide) (he : starEach (e :: es) X.env = (false, eval e X.env) :: starEach es X.env := by rfl) (hpl : (backTo pos (starEach es X.env)).any (·.1) = false := by rfl) :
    PE X (.Call (.Name x q) (e :: es) [] pos) (tcR sp E t) := by
  refine ⟨fun pins s σ H Q I h => ?_⟩
  refine wpAny_Call_Name_kw (ld_glob I hg hm ?_ hdb)
  refine PySem.W.callWith_K (h₀ := X.base) I.ok.mod.kin hk (thn (ha.run pos pins s σ H _ I h) fun us s1 ⟨vs, H1, I1, r, q⟩ => ⟨I1.kIn, ?_⟩) he hpl
  exact run_fnR2 F hr hx I1 r q
theorem getpropR_ok {m : Str} {pins : List (Addr × Obj)} {σ : L2.St} {H : Hp} {s : Shared} {Q : VK} {b : Bool} {E' : Value → Shared → Prop} (I : Inv X pins σ H s) (ea : H a = some (.ins C dx fs)) (c : Cls X.K C) (hp : PropOf X.K C m p g)
    (F : FnR X.prog X.w X.K X.mg X.base CX k g sp) (hr : Room (k + 1) X.A) (hx : Passes CX X.nox E) (h : sp [.ref a] H Q E) : wpAny (model X.prog X.w) X.A (getAttr (.ref a) m b) (EP X pins σ Q) E' s := by
  obtain ⟨mA, O, _, _, _, _⟩ := ins_get I.hok ea
  obtain ⟨od, J, _⟩ := O.look
  obtain ⟨rest, hrec⟩ := hp.rec_
  have I1 := I.tok (s.toks + 1)
  have hc : (PySem.W.clsIn X.K C).isSome = true := by
    obtain ⟨cd, hc, _⟩ := PySem.W.any_some c.hd
    rw [hc]
    rfl
  refine PySem.W.get_bind I.kIn J (PySem.W.plainGet_of (c.get m)).1 (PySem.W.findObj_data hc hp.at_ hp.get hp.tak) (PySem.W.plainGet_of (c.get m)).2 (wpAny_call (PySem.W.prop_get (s := { s with toks := s.toks + 1 }) I.kIn hrec ?_))
  refine codeAny_mono (F X.A.in1 X.stack { s with toks := s.toks + 1 } H [.ref a] [.ref a] Q E hr.in1 I1.env0.in1 (.cons rfl .nil) h) fun r s' hq => ?_
  cases r with
  | error er => exact False.elim (hx pins σ H { s with toks := s.toks + 1 } er s' (I1.wish _) hq)
  | ok fl =>
    cases fl with
    | ret u =>
      obtain ⟨v, H', I3, rv, q3⟩ := I1.after hq
      show wpAny _ _ (handedOut u) _ _ _
      rw [PySem.W.handedOut_of (handed_of rv)]
      exact wpAny_pure ⟨v, H', I3, rv, q3⟩
    | next => exact False.elim hq
    | brk => exact False.elim hq
    | cont => exact False.elim hq
theorem pe_propR {m : Str} (he : PE X e ta) (c : Cls X.K C) (hp : PropOf X.K C m p g) (F : FnR X.prog X.w X.K X.mg X.base CX k g sp) (hr : Room (k + 1) X.A) (hx : Passes CX X.nox E)
    (hab : attributeBase e m X.env (eval e X.env) = eval e X.env := by rfl) : PE X (.Attribute e m pos) (tPrR C sp E ta) := by
  refine ⟨fun pins s σ H Q I h => ?_⟩
  refine attr_of hab (thn (he.run pins s σ H _ I h) fun u s1 ⟨v, H1, I1, rv, a, dx, fs, ev, ea, q⟩ => ?_)
  subst ev
  cases rv
  exact getpropR_ok I1 ea c hp F hr hx q
/-- a list or a tuple, walked -/
def iSeq (K : PySem.W.Frag) (tl : TE) : TI := fun σ H R => tl σ H fun x H1 => ∃ a, x = .ref a ∧ (((∃ xs, SqL K H1 a xs) ∧ R (Itl K a) H1) ∨ ((∃ xs, SqT K H1 a xs) ∧ R (Itt K a) H1))
theorem pi_seq {tg l : Expr} {tl : TE} (hl : PE X l tl) : PI X tg l (iSeq X.K tl) := by
  refine ⟨fun pins s σ H R I h => ?_⟩
  refine thn (hl.run pins s σ H _ I h) fun v s1 ⟨x, H1, I1, r1, q1⟩ => ?_
  obtain ⟨a, e, q⟩ := q1
  subst e
  cases r1
  rcases q with ⟨⟨xs, hq⟩, q⟩ | ⟨⟨xs, hq⟩, q⟩
  · obtain ⟨its, rv, p, hz⟩ := I1.list hq
    refine wpAny_pyIter_list p.isList ?_
    refine ⟨s1.heap.objs.size, [s1.heap.objs.size], _, _, H1, rfl, I1.kept (t' := s1.toks) fun b o e => Heap.get?_push_of_some _ e, turn_list a _, ⟨_, Heap.get?_push_size _ rfl, rfl, rfl⟩, fun b hb => ?_, q⟩
    have e : b = s1.heap.objs.size := by simpa using hb
    subst e
    exact I1.fpOk (Nat.le_refl _) (I1.hok.fresh (Nat.le_refl _))
  · obtain ⟨its, rv, p, hz⟩ := I1.tuple hq
    refine wpAny_pyIter_tuple (show s1.heap.IsTuple a its.toArray from p) ?_
    refine ⟨s1.heap.objs.size, [s1.heap.objs.size], _, _, H1, rfl, I1.kept (t' := s1.toks) fun b o e => Heap.get?_push_of_some _ e, turn_tuple a _, ⟨_, Heap.get?_push_size _ rfl, rfl, rfl⟩, fun b hb => ?_, q⟩
    have e : b = s1.heap.objs.size := by simpa using hb
    subst e
    exact I1.fpOk (Nat.le_refl _) (I1.hok.fresh (Nat.le_refl _))
/-- xs == [], xs != [] -/
def rEqE (K : PySem.W.Frag) : R2 := fun x y H Q => ∃ l k xs, x = .ref l ∧ y = .ref k ∧ SqL K H l xs ∧ SqL K H k [] ∧ Q (.bl xs.isEmpty) H
def rNeE (K : PySem.W.Frag) : R2 := fun x y H Q => ∃ l k xs, x = .ref l ∧ y = .ref k ∧ SqL K H l xs ∧ SqL K H k [] ∧ Q (.bl (!xs.isEmpty)) H
theorem op_eqE (hu : X.A.units < cLine) : OpR X (compareOp .Eq) (rEqE X.K) := by
  intro pins s σ H x y v u Q I rx ry h
  obtain ⟨l, k, xs, rfl, rfl, h1, h2, q⟩ := h
  cases rx
  cases ry
  obtain ⟨its, r1, p1, z1⟩ := I.list h1
  obtain ⟨jts, r2, p2, z2⟩ := I.list h2
  cases r2
  cases xs with
  | nil =>
    cases r1
    exact PySem.SeqAt.eq_listAt (e := fun _ => true) p1.isList p2.isList rfl hu (fun j h1 h2 => absurd h1 (by simp)) ⟨.bl true, H, I, rfl, q⟩
  | cons v vs =>
    cases r1
    exact PySem.SeqAt.eq_list_lengthsAt p1.isList p2.isList (by simp) hu ⟨.bl false, H, I, rfl, q⟩
theorem op_neE (hu : X.A.units < cLine) : OpR X (compareOp .NotEq) (rNeE X.K) := by
  intro pins s σ H x y v u Q I rx ry h
  obtain ⟨l, k, xs, rfl, rfl, h1, h2, q⟩ := h
  cases rx
  cases ry
  obtain ⟨its, r1, p1, z1⟩ := I.list h1
  obtain ⟨jts, r2, p2, z2⟩ := I.list h2
  cases r2
  cases xs with
  | nil =>
    cases r1
    exact PySem.SeqAt.RcNeAt.lists (e := fun _ => true) p1.isList p2.isList rfl hu (fun j h1 h2 => absurd h1 (by simp)) X.prog X.w _ _ ⟨.bl false, H, I, rfl, q⟩
  | cons v vs =>
    cases r1
    exact PySem.SeqAt.RcNeAt.lists_lengths p1.isList p2.isList (by simp) hu X.prog X.w _ _ ⟨.bl true, H, I, rfl, q⟩
/-- // by a divisor below 2 ^ 9000, either sign -/
def CDivQ (_ j : Int) : Prop := j ≠ 0 ∧ j.natAbs.log2 < 9000
theorem op_fdivQ : OpR X (binaryOp .FloorDiv) (rI CDivQ fun i j => .int (i.fdiv j)) := opI fun i j _ _ _ _ _ hc q => floordiv_int hc.1 q (.inl (PyProof.noPylong_of_log2 hc.2))
end
end OC
set_option maxHeartbeats 4000000
/-! OcM0: rational numbers, plain. -/
namespace OC
theorem fdiv_exact {a k : Int} (h : a ≠ 0) : (a * k).fdiv a = k := Int.mul_fdiv_cancel_left k h
theorem rq_parts {t b : Int} (hb : b ≠ 0) : (Int.gcd t b : Int) ≠ 0 ∧ t.fdiv (if b < 0 then 0 - (Int.gcd t b : Int) else Int.gcd t b) = (Rat.divInt t b).num ∧ b.fdiv (if b < 0 then 0 - (Int.gcd t b : Int) else Int.gcd t b) = ((Rat.divInt t b).den : Int) := by
  have hg : Int.gcd t b ≠ 0 := fun z => hb (Int.gcd_eq_zero_iff.mp z).2
  have hg' : (Int.gcd t b : Int) ≠ 0 := by omega
  obtain ⟨k, hk⟩ := Int.gcd_dvd_left (a := t) (b := b)
  obtain ⟨l, hl⟩ := Int.gcd_dvd_right (a := t) (b := b)
  have e1 : (Rat.divInt t b).num = b.sign * k := by
    rw [Rat.num_divInt, Int.gcd_comm]
    conv => lhs; lhs; rhs; rw [hk]
    rw [show b.sign * ((Int.gcd t b : Int) * k) = (Int.gcd t b : Int) * (b.sign * k) by rw [← Int.mul_assoc, Int.mul_comm b.sign, Int.mul_assoc]]
    exact Int.mul_ediv_cancel_left _ hg'
  have e2 : ((Rat.divInt t b).den : Int) = b.sign * l := by
    rw [Rat.den_divInt, if_neg hb, Int.gcd_comm]
    have : (b.natAbs : Int) = (Int.gcd t b : Int) * (b.sign * l) := by
      have h1 : b.sign * b = b.natAbs := Int.sign_mul_self b
      rw [← h1]
      conv => lhs; rhs; rw [hl]
      rw [← Int.mul_assoc, Int.mul_comm b.sign, Int.mul_assoc]
    rw [Int.natCast_ediv, this]
    exact Int.mul_ediv_cancel_left _ hg'
  refine ⟨hg', ?_, ?_⟩
  · rw [e1]
    by_cases h : b < 0
    · rw [if_pos h, Int.sign_eq_neg_one_of_neg h]
      conv => lhs; lhs; rw [hk]
      rw [show (Int.gcd t b : Int) * k = (0 - (Int.gcd t b : Int)) * (-1 * k) by grind]
      exact fdiv_exact (by omega)
    · rw [if_neg h, Int.sign_eq_one_of_pos (by omega), Int.one_mul]
      conv => lhs; lhs; rw [hk]
      exact fdiv_exact hg'
  · rw [e2]
    by_cases h : b < 0
    · rw [if_pos h, Int.sign_eq_neg_one_of_neg h]
      conv => lhs; lhs; rw [hl]
      rw [show (Int.gcd t b : Int) * l = (0 - (Int.gcd t b : Int)) * (-1 * l) by grind]
      exact fdiv_exact (by omega)
    · rw [if_neg h, Int.sign_eq_one_of_pos (by omega), Int.one_mul]
      conv => lhs; lhs; rw [hl]
      exact fdiv_exact hg'
theorem den_pos (q : Rat) : (0 : Int) < q.den := by have := q.den_nz; omega
theorem q_add (p q : Rat) : Rat.divInt (p.num * q.den + q.num * p.den) (p.den * q.den) = p + q := by
  conv => rhs; rw [← Rat.num_divInt_den p, ← Rat.num_divInt_den q]
  rw [Rat.divInt_add_divInt _ _ (by have := den_pos p; omega) (by have := den_pos q; omega)]
theorem q_mul (p q : Rat) : Rat.divInt (p.num * q.num) (p.den * q.den) = p * q := by
  conv => rhs; rw [← Rat.num_divInt_den p, ← Rat.num_divInt_den q]
  rw [Rat.divInt_mul_divInt]
theorem q_neg (p : Rat) : Rat.divInt (0 - p.num) p.den = -p := by
  conv => rhs; rw [← Rat.num_divInt_den p]
  rw [Rat.neg_divInt, Int.zero_sub]
theorem q_sub (p q : Rat) : Rat.divInt (p.num * q.den - q.num * p.den) (p.den * q.den) = p - q := by
  rw [Rat.sub_eq_add_neg, ← q_add, Rat.neg_num, Rat.neg_den]
  congr 1
  grind
theorem q_div (p q : Rat) (h : q ≠ 0) : Rat.divInt (p.num * q.den) (p.den * q.num) = p / q := by
  rw [Rat.div_def, Rat.inv_def]
  conv => rhs; lhs; rw [← Rat.num_divInt_den p]
  rw [Rat.divInt_mul_divInt]
theorem q_one (i : Int) : Rat.divInt i 1 = (i : Rat) := by
  have := Rat.num_divInt_den (i : Rat)
  rw [Rat.num_intCast, Rat.den_intCast] at this
  exact this
theorem q_lt (p q : Rat) : decide (p.num * (q.den : Int) < q.num * (p.den : Int)) = decide (p < q) := by
  rw [decide_eq_decide, Rat.lt_iff]
theorem q_eq (p q : Rat) : (decide (p.num = q.num) && decide ((p.den : Int) = q.den)) = decide (p = q) := by
  rw [Bool.eq_iff_iff]
  simp only [Bool.and_eq_true, decide_eq_true_eq]
  constructor
  · rintro ⟨h1, h2⟩
    exact Rat.ext h1 (by omega)
  · rintro rfl
    exact ⟨rfl, rfl⟩
theorem num_pos' {q : Rat} : 0 < q.num ↔ 0 < q := by
  have h1 := @Rat.num_nonneg q
  have h2 := @Rat.num_eq_zero q
  constructor
  · intro h
    have h3 : 0 ≤ q := h1.mp (by omega)
    have h4 : q ≠ 0 := fun z => by rw [h2.mpr z] at h; omega
    grind
  · intro h
    have h3 : 0 ≤ q.num := h1.mpr (by grind)
    have h4 : q.num ≠ 0 := fun z => by have := h2.mp z; grind
    omega
theorem num_neg' {q : Rat} : q.num < 0 ↔ q < 0 := by
  have h1 := @Rat.num_nonneg q
  constructor
  · intro h
    have : ¬ 0 ≤ q := fun z => by have := h1.mpr z; omega
    grind
  · intro h
    have : ¬ 0 ≤ q.num := fun z => by have := h1.mp z; grind
    omega
def sgn (q : Rat) : Int := if 0 < q then 1 else if q < 0 then -1 else 0
theorem q_sgn (q : Rat) : (if decide (0 < q.num) then (1 : Int) else 0) - (if decide (q.num < 0) then (1 : Int) else 0) = sgn q := by
  unfold sgn
  have h1 := @num_pos' q
  have h2 := @num_neg' q
  by_cases a : 0 < q.num
  · have c : ¬ q.num < 0 := by omega
    rw [if_pos (h1.mp a), decide_eq_true a, decide_eq_false c]; rfl
  · have b : ¬ 0 < q := fun z => a (h1.mpr z)
    rw [if_neg b, decide_eq_false a]
    by_cases c : q.num < 0
    · rw [if_pos (h2.mp c), decide_eq_true c]; rfl
    · rw [if_neg fun z => c (h2.mpr z), decide_eq_false c]; rfl
end OC
set_option maxHeartbeats 4000000
/-! OcM1: what the functions on tables compute, plain. -/
namespace OC
abbrev Row := List Rat
abbrev Mat := List (List Rat)
/-- a small number -/
def Sm (q : Rat) : Prop := q.num.natAbs < 2 ^ 4490 ∧ q.den < 2 ^ 4490
def sumR (qs : List Rat) : Rat := qs.foldl (· + ·) 0
/-- all partial sums small -/
def SmS (qs : List Rat) : Prop := (∀ q ∈ qs, Sm q) ∧ ∀ k, Sm (sumR (qs.take k))
def dotL (ws vs : List Rat) : List Rat := List.zipWith (· * ·) ws vs
def dot (ws vs : List Rat) : Rat := sumR (dotL ws vs)
def mv (A : Mat) (v : Row) : Row := A.map fun r => dot r v
def lessR (row other : Row) (c : Rat) : Row := List.zipWith (fun a b => a - b * c) row other
def ent (A : Mat) (i j : Nat) : Rat := (A.getD i []).getD j 0
def WOk (ws vs : Row) : Prop := (∀ q ∈ ws, Sm q) ∧ (∀ q ∈ vs, Sm q) ∧ SmS (dotL ws vs)
def LOk (row other : Row) (c : Rat) : Prop := Sm c ∧ (∀ q ∈ row, Sm q) ∧ (∀ q ∈ other, Sm q) ∧ ∀ q ∈ other, Sm (q * c)
/-- the first place from b on of a row that is not 0 in column c -/
def pivotAt (A : Mat) (b c : Nat) : Option Nat := (List.range A.length).find? fun p => decide (b ≤ p) && decide (ent A p c ≠ 0)
def singleAt (A : Mat) : Option Nat := (List.range A.length).find? fun p => decide (ent A p p ≠ 0)
def pairIn (A : Mat) (p : Nat) : Option Nat := (List.range A.length).find? fun o => decide (p + 1 ≤ o) && decide (ent A p o ≠ 0)
def pairAt (A : Mat) : Option (Nat × Nat) := (List.range A.length).findSome? fun p => (pairIn A p).map fun o => (p, o)
def lessSq (A : Mat) (c : Rat) (f : Row) : Mat := List.zipWith (fun row part => lessR row f (c * part)) A f
def addR (a b : Row) : Row := List.zipWith (· + ·) a b
def subR (a b : Row) : Row := List.zipWith (· - ·) a b
abbrev Sqs := List (Rat × Row)
def nextSq (A : Mat) : Sqs := match singleAt A with
  | some p => [(1 / ent A p p, A.getD p [])]
  | none => match pairAt A with
    | none => []
    | some (i, j) => [(1 / (ent A i j * 2), addR (A.getD i []) (A.getD j [])), (-(1 / (ent A i j * 2)), subR (A.getD i []) (A.getD j []))]
def lessAll (A : Mat) (s : Sqs) : Mat := s.foldl (fun A s => lessSq A s.1 s.2) A
def sqLoop : Nat → Mat → Sqs
  | 0, _ => []
  | k + 1, A => match nextSq A with
    | [] => []
    | more => more ++ sqLoop k (lessAll A more)
def swapR (A : Mat) (b p : Nat) : Mat := (A.set b (A.getD p [])).set p (A.getD b [])
def elim (b c : Nat) (top : Row) (n : Nat) (A : Mat) : Mat := A.mapIdx fun i r => if b < i ∧ i < n ∧ r.getD c 0 ≠ 0 then lessR r top (r.getD c 0 / top.getD c 0) else r
abbrev Stt := Mat × List Nat × Int
def stepCol (st : Stt) (c : Nat) : Stt := match pivotAt st.1 st.2.1.length c with
  | none => st
  | some p => let L := if p ≠ st.2.1.length then swapR st.1 st.2.1.length p else st.1
    (elim st.2.1.length c (L.getD st.2.1.length []) L.length L, st.2.1 ++ [c], if p ≠ st.2.1.length then 0 - st.2.2 else st.2.2)
def stepsN (A : Mat) (k : Nat) : Stt := (List.range k).foldl stepCol (A, [], 1)
/-- one turn of the back-substitution -/
def backStep (found : Row) (rc : Row × Nat) : Row := found.set rc.2 ((rc.1.getD (rc.1.length - 1) 0 - dot (rc.1.take (rc.1.length - 1)) found) / rc.1.getD rc.2 0)
def withVal (forms : Mat) (values : Row) : Mat := List.zipWith (fun f v => f ++ [v]) forms values
def listWith (forms : Mat) (values : Row) : Row :=
  let st := stepsN (withVal forms values) ((withVal forms values).getD 0 []).length
  ((st.1.zip st.2.1).reverse).foldl backStep (List.replicate (forms.getD 0 []).length 0)
end OC
namespace OC
/-! ### what the steps ask -/
structure StepOk (st : Stt) (c : Nat) : Prop where
  h : ∀ p, pivotAt st.1 st.2.1.length c = some p → ∀ i, st.2.1.length < i → i < st.1.length →
    let L := if p ≠ st.2.1.length then swapR st.1 st.2.1.length p else st.1
    (L.getD i []).getD c 0 ≠ 0 → Sm ((L.getD i []).getD c 0) ∧ Sm ((L.getD st.2.1.length []).getD c 0) ∧ LOk (L.getD i []) (L.getD st.2.1.length []) ((L.getD i []).getD c 0 / (L.getD st.2.1.length []).getD c 0)
def StOk (A : Mat) (wd : Nat) : Prop := ∀ k, k < wd → StepOk (stepsN A k) k
def LsOk (A : Mat) (c : Rat) (f : Row) : Prop := A.length ≤ 1000 ∧ Sm c ∧ (∀ q ∈ f, Sm q) ∧ ∀ r ∈ A, r.length ≤ 1000 ∧ ∀ q ∈ f, LOk r f (c * q)
def LessOk : Mat → Sqs → Prop
  | _, [] => True
  | A, s :: ss => LsOk A s.1 s.2 ∧ LessOk (lessSq A s.1 s.2) ss
def SqM (A : Mat) : Prop := ∀ r ∈ A, r.length = A.length
def SmM (A : Mat) : Prop := ∀ r ∈ A, ∀ q ∈ r, Sm q
/-- what next_squares asks of a table -/
def NxOk (A : Mat) : Prop := SqM A ∧ A.length ≤ 1000 ∧ SmM A ∧ (∀ i j, i < A.length → j < A.length → Sm (ent A i j * 2) ∧ (ent A i j ≠ 0 → Sm (1 / (ent A i j * 2))))
inductive SqOk : Nat → Mat → Prop where
  | done {k : Nat} {A : Mat} (h : NxOk A) (e : nextSq A = []) : SqOk k A
  | step {k : Nat} {A : Mat} (h : NxOk A) (e : nextSq A ≠ []) (l : LessOk A (nextSq A)) (g : SqOk k (lessAll A (nextSq A))) : SqOk (k + 1) A
def backNum (found : Row) (rc : Row × Nat) : Rat := rc.1.getD (rc.1.length - 1) 0 - dot (rc.1.take (rc.1.length - 1)) found
def BackOk : List (Row × Nat) → Row → Prop
  | [], _ => True
  | rc :: t, found => (Sm (rc.1.getD (rc.1.length - 1) 0) ∧ WOk (rc.1.take (rc.1.length - 1)) found ∧ Sm (dot (rc.1.take (rc.1.length - 1)) found) ∧ Sm (backNum found rc) ∧ rc.1.getD rc.2 0 ≠ 0 ∧ Sm (rc.1.getD rc.2 0) ∧ rc.2 < found.length ∧ rc.2 < rc.1.length ∧ 0 < rc.1.length) ∧ BackOk t (backStep found rc)
structure ListOk (forms : Mat) (values : Row) : Prop where
  n0 : 0 < forms.length
  n1 : forms.length ≤ 100
  vl : values.length = forms.length
  wd : ∀ r ∈ forms, r.length = (forms.getD 0 []).length
  w1 : (forms.getD 0 []).length ≤ 100
  st : StOk (withVal forms values) ((forms.getD 0 []).length + 1)
  back : BackOk (((stepsN (withVal forms values) ((forms.getD 0 []).length + 1)).1.zip (stepsN (withVal forms values) ((forms.getD 0 []).length + 1)).2.1).reverse) (List.replicate (forms.getD 0 []).length 0)
/-! ### plain facts on the steps -/
theorem stepsN_succ (A : Mat) (k : Nat) : stepsN A (k + 1) = stepCol (stepsN A k) k := by
  unfold stepsN
  rw [List.range_succ, List.foldl_append]
  rfl
theorem pivot_lt {A : Mat} {b c p : Nat} (h : pivotAt A b c = some p) : p < A.length ∧ b ≤ p ∧ ent A p c ≠ 0 := by
  have h1 := List.mem_of_find?_eq_some h
  have h2 := List.find?_some h
  rw [Bool.and_eq_true] at h2
  exact ⟨List.mem_range.mp h1, of_decide_eq_true h2.1, of_decide_eq_true h2.2⟩
theorem getDn {α : Type} {l : List α} {i : Nat} {a b : α} (h : l[i]? = some a) : l.getD i b = a := by rw [List.getD_eq_getElem?_getD, h]; rfl
theorem mem_getD {α : Type} {l : List α} {i : Nat} {b : α} (h : i < l.length) : l.getD i b ∈ l := by
  rw [getDn (List.getElem?_eq_getElem h)]
  exact List.getElem_mem h
/-- n rows of length wd -/
def Rect (A : Mat) (n wd : Nat) : Prop := A.length = n ∧ ∀ r ∈ A, r.length = wd
theorem Rect.row {A : Mat} {n wd i : Nat} (h : Rect A n wd) (hi : i < n) : (A.getD i []).length = wd := h.2 _ (mem_getD (by rw [h.1]; exact hi))
theorem Rect.set {A : Mat} {n wd i : Nat} {r : Row} (h : Rect A n wd) (hr : r.length = wd) : Rect (A.set i r) n wd := ⟨by rw [List.length_set]; exact h.1, fun q hq => by
  rcases List.mem_or_eq_of_mem_set hq with z | z
  · exact h.2 q z
  · rw [z]; exact hr⟩
theorem Rect.swap {A : Mat} {n wd b p : Nat} (h : Rect A n wd) (hb : b < n) (hp : p < n) : Rect (swapR A b p) n wd := (h.set (h.row hp)).set (h.row hb)
theorem lessR_length {r o : Row} {c : Rat} : (lessR r o c).length = min r.length o.length := by unfold lessR; rw [List.length_zipWith]
theorem elim_get {b c n i : Nat} {top : Row} {A : Mat} (hi : i < A.length) : (elim b c top n A).getD i [] = if b < i ∧ i < n ∧ (A.getD i []).getD c 0 ≠ 0 then lessR (A.getD i []) top ((A.getD i []).getD c 0 / top.getD c 0) else A.getD i [] := by
  unfold elim
  have e : A[i]? = some A[i] := List.getElem?_eq_getElem hi
  rw [getDn (a := if b < i ∧ i < n ∧ (A[i]).getD c 0 ≠ 0 then lessR A[i] top ((A[i]).getD c 0 / top.getD c 0) else A[i]) (by rw [List.getElem?_mapIdx, e]; rfl), getDn e]
theorem elim_length {b c n : Nat} {top : Row} {A : Mat} : (elim b c top n A).length = A.length := by unfold elim; rw [List.length_mapIdx]
theorem ext_getD {A B : Mat} (hl : A.length = B.length) (h : ∀ i, i < A.length → A.getD i [] = B.getD i []) : A = B := by
  refine List.ext_getElem hl fun i h1 h2 => ?_
  have := h i h1
  rw [getDn (List.getElem?_eq_getElem h1), getDn (List.getElem?_eq_getElem h2)] at this
  exact this
theorem elim_zero {b c : Nat} {top : Row} {A : Mat} : elim b c top (b + 1) A = A := by
  refine ext_getD elim_length fun i hi => ?_
  rw [elim_length] at hi
  rw [elim_get hi, if_neg (by omega)]
theorem set_getD {A : Mat} {k i : Nat} {r : Row} (hk : k < A.length) : (A.set k r).getD i [] = if i = k then r else A.getD i [] := by
  by_cases h : i = k
  · rw [if_pos h, h, getDn (List.getElem?_set_self hk)]
  · rw [if_neg h, List.getD_eq_getElem?_getD, List.getElem?_set_ne (by omega), ← List.getD_eq_getElem?_getD]
theorem elim_succ {b c n : Nat} {top : Row} {A : Mat} (hn : n < A.length) (hb : b < n) : elim b c top (n + 1) A = if (A.getD n []).getD c 0 ≠ 0 then (elim b c top n A).set n (lessR (A.getD n []) top ((A.getD n []).getD c 0 / top.getD c 0)) else elim b c top n A := by
  by_cases hz : (A.getD n []).getD c 0 ≠ 0
  · rw [if_pos hz]
    refine ext_getD (by rw [elim_length, List.length_set, elim_length]) fun i hi => ?_
    rw [elim_length] at hi
    rw [elim_get hi, set_getD (by rw [elim_length]; exact hn)]
    by_cases e : i = n
    · subst e
      rw [if_pos ⟨hb, by omega, hz⟩, if_pos rfl]
    · rw [if_neg e, elim_get hi]
      by_cases e2 : b < i ∧ i < n ∧ (A.getD i []).getD c 0 ≠ 0
      · rw [if_pos e2, if_pos ⟨e2.1, by omega, e2.2.2⟩]
      · rw [if_neg e2, if_neg fun z => e2 ⟨z.1, by omega, z.2.2⟩]
  · rw [if_neg hz]
    refine ext_getD (by rw [elim_length, elim_length]) fun i hi => ?_
    rw [elim_length] at hi
    rw [elim_get hi, elim_get hi]
    by_cases e2 : b < i ∧ i < n ∧ (A.getD i []).getD c 0 ≠ 0
    · rw [if_pos e2, if_pos ⟨e2.1, by omega, e2.2.2⟩]
    · rw [if_neg e2, if_neg fun z => e2 ⟨z.1, by
        rcases Nat.lt_succ_iff_lt_or_eq.mp z.2.1 with w | w
        · exact w
        · exact absurd (w ▸ z.2.2) hz, z.2.2⟩]
theorem Rect.elim {A : Mat} {m wd b c n : Nat} {top : Row} (h : Rect A m wd) (ht : top.length = wd) : Rect (OC.elim b c top n A) m wd := ⟨by rw [elim_length]; exact h.1, fun r hr => by
  obtain ⟨i, hi, e⟩ := List.mem_iff_getElem.mp hr
  rw [elim_length] at hi
  have e2 : (OC.elim b c top n A).getD i [] = r := by rw [← e]; exact getDn (List.getElem?_eq_getElem _)
  rw [← e2, elim_get hi]
  have := h.row (i := i) (by rw [← h.1]; exact hi)
  split
  · rw [lessR_length, this, ht, Nat.min_self]
  · exact this⟩
theorem stepCol_facts {st : Stt} {n wd c : Nat} (h : Rect st.1 n wd) (hc : st.2.1.length ≤ n) : Rect (stepCol st c).1 n wd ∧ (stepCol st c).2.1.length ≤ n := by
  unfold stepCol
  cases e : pivotAt st.1 st.2.1.length c with
  | none => exact ⟨h, hc⟩
  | some p =>
    obtain ⟨h1, h2, h3⟩ := pivot_lt e
    rw [h.1] at h1
    have hb : st.2.1.length < n := by omega
    have hL : Rect (if p ≠ st.2.1.length then swapR st.1 st.2.1.length p else st.1) n wd := by
      split
      · exact h.swap hb h1
      · exact h
    refine ⟨hL.elim (hL.row hb), ?_⟩
    show (st.2.1 ++ [c]).length ≤ n
    rw [List.length_append]
    exact hb
theorem stepsN_facts {A : Mat} {n wd : Nat} (h : Rect A n wd) : ∀ k, Rect (stepsN A k).1 n wd ∧ (stepsN A k).2.1.length ≤ n
  | 0 => ⟨h, Nat.zero_le _⟩
  | k + 1 => by
    obtain ⟨h1, h2⟩ := stepsN_facts h k
    rw [stepsN_succ]
    exact stepCol_facts h1 h2
end OC
set_option maxHeartbeats 4000000
/-! OcQ: promises of the class Ratio; operators over data. -/
namespace OC
open PySem PySem.Spec PyProof.Rows L2

theorem pz {X : Cx} {E : XK} : Passes CX0 X E := fun _ _ _ _ _ _ _ h => h.elim
theorem fnr_of {P : Program} {w : World} {K : Frg} {mg : Str → Option Value} {base : Heap} {CX : CXT} {k : Nat} {f : Addr} {fd : FuncData} {ps : List Str} {sp : Sp} (F : FnOk P w K mg base CX k f fd ps sp) (hb : Binds K fd ps []) : FnR P w K mg base CX k f sp :=
  (F.raw hb .nil).imp fun vs H Q E h => by rw [List.append_nil]; exact h
/-! ### promises -/
/-- d stands for the number q -/
inductive Nm : D → Rat → Prop where
  | rat (q : Rat) : Nm (.rat q) q
  | int (i : Int) : Nm (.int i) i
/-- a promise that changes nothing that is owned -/
def pS (f : List D → D → Prop) : Sc := fun ds μ r μ' => μ' = μ ∧ ∃ d, r = .val d ∧ f ds d
theorem pS.mk {f : List D → D → Prop} {ds : List D} {d : D} {μ : Mu} (h : f ds d) : pS f ds μ (.val d) μ := ⟨rfl, d, rfl, h⟩
def S_bin (f : Rat → Rat → Rat) : Sc := pS fun ds d => ∃ p x q, ds = [.rat p, x] ∧ Nm x q ∧ Sm p ∧ Sm q ∧ d = .rat (f p q)
def S_R__add__ : Sc := S_bin fun p q => p + q
def S_R__sub__ : Sc := S_bin fun p q => p - q
def S_R__mul__ : Sc := S_bin fun p q => p * q
def S_R__rmul__ : Sc := S_bin fun p q => p * q
def S_Rover : Sc := pS fun ds d => ∃ p x q, ds = [.rat p, x] ∧ Nm x q ∧ Sm p ∧ Sm q ∧ q ≠ 0 ∧ d = .rat (p / q)
def S_R__neg__ : Sc := pS fun ds d => ∃ p, ds = [.rat p] ∧ Sm p ∧ d = .rat (-p)
def S_Ris_below : Sc := pS fun ds d => ∃ p x q, ds = [.rat p, x] ∧ Nm x q ∧ Sm p ∧ Sm q ∧ d = .bl (decide (p < q))
def S_R__eq__ : Sc := pS fun ds d => ∃ p q, ds = [.rat p, .rat q] ∧ d = .bl (decide (p = q))

def S_Rsign : Sc := pS fun ds d => ∃ p, ds = [.rat p] ∧ d = .int (sgn p)
def S_Rtop : Sc := pS fun ds d => ∃ p : Rat, ds = [.rat p] ∧ d = .int p.num
def S_Rbottom : Sc := pS fun ds d => ∃ p : Rat, ds = [.rat p] ∧ d = .int p.den
/-! ### readings of operators -/
abbrev rAddI : R2 := rI0 fun i j => .int (i + j)
abbrev rSubI : R2 := rI0 fun i j => .int (i - j)
abbrev rMulI : R2 := rI CMulW fun i j => .int (i * j)
abbrev rDivQ : R2 := rI CDivQ fun i j => .int (i.fdiv j)
abbrev rModP : R2 := rI (fun _ j => 0 < j) fun i j => .int (i % j)
abbrev rPowP : R2 := rI CPow fun i j => .int (i ^ j.toNat)
abbrev rLtI : R2 := rI0 fun i j => .bl (decide (i < j))
abbrev rLeI : R2 := rI0 fun i j => .bl (decide (i ≤ j))
abbrev rGtI : R2 := rI0 fun i j => .bl (decide (j < i))
abbrev rGeI : R2 := rI0 fun i j => .bl (decide (j ≤ i))
abbrev rIsN0 : R2 := fun x y H Q => y = .non ∧ Q (.bl (decide (x = .non))) H
abbrev rNotN0 : R2 := fun x y H Q => y = .non ∧ Q (.bl (!decide (x = .non))) H
abbrev rNegI : V → Hp → VK → Prop := rU fun i => .int (-i)
abbrev rLen (K : Frg) : List V → Hp → VK → Prop := fun xs H Q => ∃ x n, xs = [x] ∧ LenV K x H n ∧ Q (.int n) H
abbrev rAbs : List V → Hp → VK → Prop := fun xs H Q => ∃ i, xs = [.int i] ∧ Q (.int (if i < 0 then -i else i)) H
abbrev rMax2 : List V → Hp → VK → Prop := fun xs H Q => ∃ i j, xs = [.int i, .int j] ∧ Q (.int (if j > i then j else i)) H
abbrev rMin2 : List V → Hp → VK → Prop := fun xs H Q => ∃ i j, xs = [.int i, .int j] ∧ Q (.int (if j < i then j else i)) H
abbrev rInt1 : List V → Hp → VK → Prop := fun xs H Q => (∃ i, xs = [.int i] ∧ Q (.int i) H) ∨ ∃ k, xs = [.bl k] ∧ Q (.int (if k then 1 else 0)) H
abbrev rStrI : List V → Hp → VK → Prop := fun xs H Q => ∃ i, xs = [.int i] ∧ i.natAbs.log2 < 1920 ∧ Q (.str (toString i)) H
abbrev rListOf (K : Frg) : List V → Hp → VK → Prop := fun xs H Q => ∃ p ys, xs = [.ref p] ∧ (SqL K H p ys ∨ SqT K H p ys) ∧ ∀ l, H l = none → Q (.ref l) (upd H l (.lst ys))
abbrev rTupOf (K : Frg) : List V → Hp → VK → Prop := fun xs H Q => ∃ p ys, xs = [.ref p] ∧ ((SqL K H p ys ∧ ∀ l, H l = none → Q (.ref l) (upd H l (.tup ys))) ∨ (SqT K H p ys ∧ Q (.ref p) H))
abbrev rDivmod : List V → Hp → VK → Prop := fun xs H Q => ∃ i j, xs = [.int i, .int j] ∧ CDiv i j ∧ ∀ p, H p = none → Q (.ref p) (upd H p (.tup [.int (i / j), .int (i % j)]))
def rRepS : R2 := fun x y H Q => ∃ z i, x = .str z ∧ y = .int i ∧ MulOk z i ∧ Q (.str (Txt.mul z i)) H
theorem op_repS {X : Cx} : OpR X (binaryOp .Mult) rRepS := by
  intro pins s σ H x y v u Q I rx ry h
  obtain ⟨z, i, rfl, rfl, hm, q⟩ := h
  obtain ⟨t, rfl⟩ := rx
  obtain ⟨t', rfl⟩ := ry
  exact SB.mul hm fun t2 k => ⟨.str (Txt.mul z i), H, I.tok _, ⟨_, rfl⟩, q⟩
def rAdd (C CN : Addr) : R2 := fun x y H Q => rAddI x y H Q ∨ rCat x y H Q ∨ rOwnI C (SpO C CN S_R__add__) E0 x y H Q ∨ rOwnT C (SpO C CN S_R__add__) E0 x y H Q
def rSub (C CN : Addr) : R2 := fun x y H Q => rSubI x y H Q ∨ rOwnI C (SpO C CN S_R__sub__) E0 x y H Q
def rMul (C CN : Addr) : R2 := fun x y H Q => rMulI x y H Q ∨ rRep x y H Q ∨ rRepS x y H Q ∨ rOwnI C (SpO C CN S_R__mul__) E0 x y H Q ∨ rOwnT C (SpO C CN S_R__mul__) E0 x y H Q ∨ rOwnR C (SpO C CN S_R__rmul__) E0 x y H Q
def rNeg (C CN : Addr) : V → Hp → VK → Prop := fun x H Q => rNegI x H Q ∨ rOwnU C (SpO C CN S_R__neg__) E0 x H Q
def rEqU (K : Frg) : R2 := fun x y H Q => rEq x y H Q ∨ rEqE K x y H Q
def rNeU (C CN : Addr) (K : Frg) : R2 := fun x y H Q => rNe x y H Q ∨ rNeE K x y H Q ∨ rOwnNe C (SpO C CN S_R__eq__) E0 x y H Q
section
variable {P : Program} {w : World} {K : Frg} {mg : Str → Option Value} {base : Heap} {k : Nat} {X : Cx}
theorem Tx.opn (T : Tx K mg) {o : String} (h : opB o K = true) : (∃ g : Addr, PySem.W.findIn K (.ref (cR K)) (dunderR o) = some none ∨ PySem.W.findIn K (.ref (cR K)) (dunderR o) = some (some (.ref g))) ∧ (∃ fo, PySem.W.findIn K (.type "int") (PySem.dunder o) = some fo) ∧ ∃ ro, PySem.W.findIn K (.type "int") (dunderR o) = some ro := by
  obtain ⟨h1, h⟩ := He.ba h
  obtain ⟨h2, h⟩ := He.ba h
  obtain ⟨h3, h4⟩ := He.ba h
  obtain ⟨rc, e, hr⟩ := someR_ok h2
  obtain ⟨fo, e3⟩ := Option.isSome_iff_exists.mp h3
  obtain ⟨ro, e4⟩ := Option.isSome_iff_exists.mp h4
  refine ⟨?_, ⟨fo, e3⟩, ro, e4⟩
  rcases hr with hr | ⟨g, hr⟩
  · exact ⟨0, .inl (by rw [e, hr])⟩
  · exact ⟨g, .inr (by rw [e, hr])⟩
theorem op_T (T : Tx X.K X.mg) {op : Operator} {o : String} {m : Str} {sp : Sp} {i : Nat} (ho : op.info.2 = o) (hmem : o ∈ (["add", "sub", "mul"] : List String)) (hm : PySem.dunder o = m) (hi : opN[i]? = some m)
    (F : FnR X.prog X.w X.K X.mg X.base CX0 k (aM m X.K) sp) (hr : Room k X.A) : OpR X (binaryOp op) (rOwnT (cR X.K) sp E0) := by
  subst ho
  subst hm
  obtain ⟨⟨g, hrf⟩, ⟨fo, h1⟩, ro, h2⟩ := T.opn (T.op _ hmem)
  have M := T.meth i _ hi
  rcases hrf with hrf | hrf
  · exact op_ownT T.sf M.at_ M.fn hrf (.inl rfl) h1 h2 T.si F hr pz
  · exact op_ownT T.sf M.at_ M.fn hrf (.inr ⟨g, rfl⟩) h1 h2 T.si F hr pz
theorem op_Add (T : Tx X.K X.mg) (F : FnR X.prog X.w X.K X.mg X.base CX0 k (aM "__add__" X.K) (SpO (cR X.K) (cN X.K) S_R__add__)) (hr : Room k X.A) : OpR X (binaryOp .Add) (rAdd (cR X.K) (cN X.K)) :=
  op_add.or (op_cat.or ((op_ownI (op := .Add) T.sf (T.meth 0 _ rfl).at_ (T.meth 0 _ rfl).fn F hr pz).or (op_T T (o := "add") (m := "__add__") (i := 0) rfl (by simp) rfl rfl F hr)))
theorem op_Sub (T : Tx X.K X.mg) (F : FnR X.prog X.w X.K X.mg X.base CX0 k (aM "__sub__" X.K) (SpO (cR X.K) (cN X.K) S_R__sub__)) (hr : Room k X.A) : OpR X (binaryOp .Sub) (rSub (cR X.K) (cN X.K)) :=
  op_sub.or (op_ownI T.sf (T.meth 2 _ rfl).at_ (T.meth 2 _ rfl).fn F hr pz)
theorem op_Mul (T : Tx X.K X.mg) (F : FnR X.prog X.w X.K X.mg X.base CX0 k (aM "__mul__" X.K) (SpO (cR X.K) (cN X.K) S_R__mul__)) (G : FnR X.prog X.w X.K X.mg X.base CX0 k (aM "__rmul__" X.K) (SpO (cR X.K) (cN X.K) S_R__rmul__)) (hr : Room k X.A) : OpR X (binaryOp .Mult) (rMul (cR X.K) (cN X.K)) :=
  op_mulW.or (op_rep.or (op_repS.or ((op_ownI (op := .Mult) T.sf (T.meth 4 _ rfl).at_ (T.meth 4 _ rfl).fn F hr pz).or ((op_T T (o := "mul") (m := "__mul__") (i := 4) rfl (by simp) rfl rfl F hr).or (op_ownR T.sf (T.meth 4 _ rfl).at_ rfl ⟨_, rfl⟩ (T.meth 5 _ rfl).at_ (T.meth 5 _ rfl).fn T.is G hr pz)))))
theorem un_Neg (T : Tx X.K X.mg) (F : FnR X.prog X.w X.K X.mg X.base CX0 k (aM "__neg__" X.K) (SpO (cR X.K) (cN X.K) S_R__neg__)) (hr : Room k X.A) : UnR X (unaryOp .USub) (rNeg (cR X.K) (cN X.K)) :=
  OC.UnR.or un_neg (un_ownN (T.meth 6 _ rfl).at_ (T.meth 6 _ rfl).fn F hr pz)
theorem op_EqU (hr : Room k X.A) : OpR X (compareOp .Eq) (rEqU X.K) := op_eq.or (op_eqE hr.units0)
theorem op_NeU (T : Tx X.K X.mg) (F : FnR X.prog X.w X.K X.mg X.base CX0 k (aM "__eq__" X.K) (SpO (cR X.K) (cN X.K) S_R__eq__)) (hr : Room (k + 1) X.A) : OpR X (compareOp .NotEq) (rNeU (cR X.K) (cN X.K) X.K) := by
  obtain ⟨o, h1, h2⟩ := T.eqf
  exact op_ne.or ((op_neE hr.units0).or (op_neOwn T.raw h1 h2 F hr pz))
end
end OC
set_option maxHeartbeats 4000000
/-! OcG: defs called where no repr is under way. -/
namespace OC
open PySem PySem.Spec PyProof.Rows L2

section
variable {P : Program} {w : World} {K : PySem.W.Frag} {mg : Str → Option Value} {base : Heap} {CX : CXT} {k : Nat} {f : Addr} {sp : Sp}
/-- a def's promise where no repr is under way -/
def FnG (P : Program) (w : World) (K : PySem.W.Frag) (mg : Str → Option Value) (base : Heap) (CX : CXT) (k : Nat) (f : Addr) (sp : Sp) : Prop :=
  ∀ (A : Around) (out : List Env) (st : Shared) (H : Hp) (args : List Value) (vals : List V) (Q : VK) (E : XK), A.guards = some [] → Room k A → Env0 P w K mg base A out st H → Vals vals args → sp vals H Q E →
    codeAny (model P w) A (.call (.ref f) { pos := args, kw := [] }) (CR CX out P w H st Q E) st
theorem fng_of {name qual : Str} {params : Arguments} {body : List Stmt} {scope : Scope} {dV kV doc pm cdv ct oc : Value} {an od : Option Addr} {osl : Array (Option Value)} {N ps : List Str}
    (known : K.lookup f = some ⟨oc, od, .func (PySem.W.fnOf name qual params body scope dV kV doc pm an cdv ct), osl⟩)
    (code : PySem.W.codeIn K cdv qual = true) (names : FnScope N ps scope)
    (long : ∀ vs H Q E, sp vs H Q E → vs.length = ps.length)
    (bound : Binds K (PySem.W.fnOf name qual params body scope dV kV doc pm an cdv ct) ps [])
    (inner : ∀ (A : Around) (out : List Env) (st : Shared) (H : Hp) (vs : List V) (Q : VK) (E : XK), A.guards = some [] →
      Room k (A.deeper (envOfC qual scope st.heap.objs.size f cdv)) → sp vs H Q E →
      ∃ t, PSs (cxOf CX P w K mg base N qual scope f cdv A out st H E) body t ∧ t { nx := fun _ H' => Q .non H', rt := Q } (start N vs) H) :
    FnG P w K mg base CX (k + 1) f sp := by
  intro A out st H args vals Q E hG room env0 rel holds
  have many := long _ _ _ _ holds
  have inK : K.In st.heap := env0.mod.kin.keeps (fun x y z => (env0.bs x y z).1)
  have free : st.heap.NoLimit := env0.mod.nolimit.keeps (fun x y z => (env0.bs x y z).1)
  have sized : (args ++ []).length = ps.length := by rw [List.append_nil, ← rel.length, many]
  have binds := bound st args inK sized
  rw [List.append_nil] at binds
  have kinds : ∀ y ∈ ps.zip args, scope.names.lookup y.1 = some .local ∨ (scope.names.lookup y.1 = some .cell ∧ ((cellsFrom (st.heap.objs.size + 1) scope.names []).lookup y.1).isSome = true) := by
    rintro ⟨n, v⟩ hy
    cases names.par n (List.of_mem_zip hy).1 with
    | inl q => exact Or.inl q
    | inr q => exact Or.inr ⟨q, PySem.W.cellsFrom_some _ _ _ (Or.inl q)⟩
  refine codeAny_call_function room.depth (inK _ _ known) rfl names.co names.gen rfl (PySem.W.codeRec_of inK code) (binds _ _ _ _ (wpAny_newFunctionEnv_cells names.kind kinds ?_))
  intro env he s1 x
  subst he
  refine ⟨free.keeps x.toInCall.keep, codeAny_func ?_⟩
  obtain ⟨t, steps, runs⟩ := inner A out st H vals Q E hG (room.deeper _) holds
  have start_ := inv_start (CX := CX) (E := E) names room.hd env0 many rel x
  refine wpAny_mono (steps.run [] s1 (start N vals) H _ start_ runs) ?_ (fun _ _ z => z)
  intro flow s' ends
  cases flow with
  | ret u =>
    obtain ⟨v, _, H', inv, rv, q⟩ := ends
    exact ⟨v, H', inv.os, inv.bare, inv.base, inv.hok, rv, q⟩
  | next =>
    obtain ⟨_, H', inv, q⟩ := ends
    exact ⟨V.non, H', inv.os, inv.bare, inv.base, inv.hok, rfl, q⟩
  | brk => exact False.elim ends.choose_spec.choose_spec.2
  | cont => exact False.elim ends.choose_spec.choose_spec.2
end
section
variable {X : Cx} {pins : List (Addr × Obj)} {σ : L2.St} {H : Hp} {s : Shared} {CX : CXT} {k : Nat} {f : Addr} {sp : Sp} {E : XK}
theorem run_fnG {Q : VK} {us : List Value} {vs : List V} (F : FnG X.prog X.w X.K X.mg X.base CX k f sp) (hG : X.A.guards = some []) (hr : Room k X.A) (hx : Passes CX X E) (I : Inv X pins σ H s) (rel : Vals vs us) (h : sp vs H Q E) :
    wpAny (model X.prog X.w) X.A (call (.ref f) us) (EP X pins σ Q) X.xe s := by
  refine wpAny_call (codeAny_mono (F X.A X.stack s H us vs Q E hG hr I.env0 rel h) ?_)
  intro out s' left
  match out, left with
  | .error er, left => exact hx pins σ H s er s' I left
  | .ok (.ret u), left => exact I.after left
  | .ok .next, left => exact left.elim
  | .ok .brk, left => exact left.elim
  | .ok .cont, left => exact left.elim
theorem pe_cG {x : Str} {e : Expr} {es : List Expr} {t : TA} {q pos : Pos} (F : FnG X.prog X.w X.K X.mg X.base CX k f sp) (hG : X.A.guards = some []) (hr : Room k X.A) (hg : Gl X x) (hm : X.mg x = some (.ref f)) (hk : PySem.W.keepIn X.K (.ref f) = true) (hx : Passes CX X E)
    (ha : PA X (e :: es) t) (hdb : (x == ("__debug__" : Str)) = false := by decide) (he : starEach (e :: es) X.env = (false, eval e X.env) :: starEach es X.env := by rfl) (hpl : (backTo pos (starEach es X.env)).any (·.1) = false := by rfl) :
    PE X (.Call (.Name x q) (e :: es) [] pos) (tcR sp E t) := by
  refine ⟨fun pins s σ H Q I h => ?_⟩
  refine wpAny_Call_Name_kw (ld_glob I hg hm ?_ hdb)
  refine PySem.W.callWith_K (h₀ := X.base) I.ok.mod.kin hk (thn (ha.run pos pins s σ H _ I h) fun us s1 ⟨vs, H1, I1, r, q⟩ => ⟨I1.kIn, ?_⟩) he hpl
  exact run_fnG F hG hr hx I1 r q
end
/-! ### the law, called from outside -/
theorem law_callG {P : Program} {w : World} {K : PySem.W.Frag} {mg mb : Str → Option Value} {CX : CXT} {k : Nat} {law_ at_ : Addr} {sp : Sp} {st : Shared} {words : List Value} {ns : List Int}
    (inK : K.In st.heap) (glob : st.heap.Ns mainGlobals mg) (blt : st.heap.Ns builtinsNs mb) (same : ∀ x : Str, x ≠ "__name__" → mb x = bootBuiltins x) (free : st.heap.NoLimit) (nog : st.gens = #[])
    (here : st.heap.get? at_ = some { cls := .type "list", data := .seq words.toArray }) (areI : IntsAre words ns) (few : ns.length ≤ sizeLine) (room : Room k callerA)
    (F : ∀ base : Heap, K.In base → base.Ns mainGlobals mg → FnG P w K mg base CX k law_ sp)
    (holds : ∀ H : Hp, Only H → SqL K H at_ (ns.map V.int) → sp [.ref at_] H (fun v _ => v = .bl true) fun _ _ _ => False)
    (noX : ∀ H e s', CX [] H st (fun _ _ _ => False) e s' → False) :
    codeAny (model P w) callerA (.call (.ref law_) { pos := [.ref at_], kw := [] }) (fun r s' => r = .ok (.ret (.bool true)) ∧ OldK st.heap s'.heap ∧ s'.os = st.os ∧ AllBare s'.gens) st := by
  have told := vals_ints areI
  have count := areI.length
  have main : ∀ H : Hp, Only H → SqL K H at_ (ns.map V.int) → HOk P w H st.heap → (∀ b, H b ≠ none → b = at_ ∧ K.lookup at_ = none) →
      codeAny (model P w) callerA (.call (.ref law_) { pos := [.ref at_], kw := [] }) (fun r s' => r = .ok (.ret (.bool true)) ∧ OldK st.heap s'.heap ∧ s'.os = st.os ∧ AllBare s'.gens) st := by
    intro H only script okH near
    have keepsNs : ∀ {b : Addr} {m : Str → Option Value}, st.heap.Ns b m → (hidT st.heap H).Ns b m := by
      rintro b m ⟨o, es, ep, got, isD, rest⟩
      refine ⟨o, es, ep, hidT_get got ?_, isD, rest⟩
      cases found : H b with
      | none => rfl
      | some u =>
        have hb := (near b (by rw [found]; exact fun z => by cases z)).1
        rw [hb, here] at got
        rw [← Option.some.inj got] at isD
        exact absurd isD (fun z => by
          have z' : Data.seq words.toArray _ = Data.dict es ep := z
          cases z')
    have baseK : K.In (hidT st.heap H) := by
      intro b o e
      refine hidT_get (inK b o e) ?_
      cases found : H b with
      | none => rfl
      | some u =>
        obtain ⟨hb, hk⟩ := near b (by rw [found]; exact fun z => by cases z)
        rw [hb, hk] at e
        cases e
    have modK : Mod K mg (hidT st.heap H) := ⟨baseK, keepsNs glob, ⟨mb, keepsNs blt, same⟩, by
      obtain ⟨mc, l1, l2⟩ := free
      exact ⟨mc, keepsNs l1, l2⟩⟩
    have begin_ : Env0 P w K mg (hidT st.heap H) callerA [] st H := ⟨rfl, modK, fun b o e => of_hidT e, Nat.le_of_eq (hidT_size _ _), trivial, (fun b hb => by cases hb), okH, .of_eq nog⟩
    refine codeAny_mono (F _ baseK (keepsNs glob) callerA [] st H [.ref at_] [.ref at_] _ _ rfl room begin_ (.cons rfl .nil) (holds H only script)) ?_
    intro out s' left
    match out, left with
    | .error er, left => exact (noX H er s' left).elim
    | .ok .next, left => exact left.elim
    | .ok .brk, left => exact left.elim
    | .ok .cont, left => exact left.elim
    | .ok (.ret u), left =>
      obtain ⟨v, H', sameOs, bare, un, okH', rel, isT⟩ := left
      have isT' : v = V.bl true := isT
      rw [isT'] at rel
      have hu : u = Value.bool true := rel
      refine ⟨by rw [hu], OldK.of_keep ?_, sameOs, bare⟩
      intro b o e
      cases found : H b with
      | none => exact un.keep b o e found (fun z => by cases z) (fun z => by cases z)
      | some y =>
        rcases only b with z | ⟨ob, xs, z⟩
        · rw [found] at z
          cases z
        · obtain ⟨e1, _⟩ := okH b _ z
          obtain ⟨e2, _⟩ := okH' b _ (un.frzs b ob _ z)
          rw [e1] at e
          rw [← Option.some.inj e]
          exact e2
  cases found : K.lookup at_ with
  | some o =>
    have got := inK at_ o found
    rw [here] at got
    have go := Option.some.inj got
    subst go
    exact main (fun _ => none) (fun _ => .inl rfl) (.inr ⟨_, words.toArray, _, found, rfl, rfl, rfl, by rw [List.size_toArray, count]; exact few, by simpa using told⟩) (fun b u z => absurd (show (none : Option HO) = some u from z) (fun y => by cases y)) (fun b z => absurd rfl z)
  | none =>
    let H0 : Hp := fun b => if b = at_ then some (.frz { cls := .type "list", data := .seq words.toArray } (.lst (ns.map V.int))) else none
    have on : H0 at_ = some (.frz { cls := .type "list", data := .seq words.toArray } (.lst (ns.map V.int))) := if_pos rfl
    have off : ∀ b, b ≠ at_ → H0 b = none := fun b hb => if_neg hb
    refine main H0 (fun b => ?_) (.inl (.inr ⟨_, on⟩)) (fun b u z => ?_) (fun b z => ?_)
    · rcases Decidable.em (b = at_) with rfl | hb
      · exact .inr ⟨_, _, on⟩
      · exact .inl (off b hb)
    · rcases Decidable.em (b = at_) with rfl | hb
      · rw [on] at z
        cases z
        exact ⟨here, by rw [List.length_map]; exact few, words, _, told, here⟩
      · rw [off b hb] at z
        cases z
    · rcases Decidable.em (b = at_) with hb | hb
      · exact ⟨hb, found⟩
      · exact absurd (off b hb) z
/-- the walk of the law, from its promise where no repr is under way -/
theorem walk_ofG {l : PySem.W.OpenLaw} {n k : Nat} {q : Program} {loose : List Str} {XP : (Str → Option Value) → Heap → Prop} {YP : World → Heap → Prop} {d : DefRec} {CX : CXT}
    (most : l.most = some n) (most2 : n ≤ sizeLine) (nodef : d.params.defaults = []) (room : Room k callerA)
    (F : ∀ (w : World) (mg : Str → Option Value) (law_ : Addr) (h : Heap), YP w h → h.Ns mainGlobals mg → mg d.name = some (.ref law_) →
      ∃ (K : PySem.W.Frag) (sp : Sp), K.In h ∧
        (∀ (H : Hp) (a : Addr) (ns : List Int), ns.length ≤ n → Only H → SqL K H a (ns.map V.int) → sp [.ref a] H (fun v _ => v = .bl true) fun _ _ _ => False) ∧
        ∀ base : Heap, K.In base → base.Ns mainGlobals mg → FnG l.prog w K mg base CX k law_ sp)
    (noX : ∀ (H : Hp) (s : Shared) (e : Value) (s' : Shared), CX [] H s (fun _ _ _ => False) e s' → False) :
    PySem.W.WalkO q loose XP YP l.row.toRowW d [] (fun f vs => PySem.call f vs) := by
  refine Att.attach_call most nodef ?_
  intro w s0 s1 mg mb law_ o pm cd doc a words ns G Y _ _ _ named here areI few nog
  obtain ⟨K, sp, inK, holds, all_⟩ := F w mg law_ _ Y G.T.g named
  exact law_callG inK G.T.g G.T.b G.T.builtins G.T.nolimit nog here areI (Nat.le_trans few most2) room all_ (fun H only script => holds H a ns few only script) (fun H e s' => noX H s1 e s')
end OC
set_option maxHeartbeats 4000000
/-! OcV: what operators and built-ins give over data. -/
namespace OC
open PySem PySem.Spec PyProof.Rows L2

section
variable {C CN : Addr} {K : Frg} {mg : Str → Option Value} {ρ ρ1 : Sto} {μ μ1 μ2 μ3 : Mu} {te ta tb tc : TE} {tt : TT} {tr : TA} {x y d d' : D} {ds es : List D} {r r' : R2} {b c : Bool} {i j : Int} {p q : Rat} {S : Sc} {E : XK}
/-! ### operators -/
theorem A2.il (h : A2 C r μ x y d μ1) : A2 C (fun x y H Q => r x y H Q ∨ r' x y H Q) μ x y d μ1 := ⟨h.1, fun B H v u ok rx ry Q k => .inl (h.2 B H v u ok rx ry Q k)⟩
theorem A2.ir (h : A2 C r' μ x y d μ1) : A2 C (fun x y H Q => r x y H Q ∨ r' x y H Q) μ x y d μ1 := ⟨h.1, fun B H v u ok rx ry Q k => .inr (h.2 B H v u ok rx ry Q k)⟩
theorem a2_i0 {g : Int → Int → V} (h : ∀ B, Rep C B d (g i j)) : A2 C (rI0 g) μ (.int i) (.int j) d μ := ⟨rfl, fun B H v u ok rx ry Q k => ⟨i, j, rx, ry, k _ B H (Gr.refl _ _ _) ok (h B)⟩⟩
theorem a2_ic {cn : Int → Int → Prop} {g : Int → Int → V} (hc : cn i j) (h : ∀ B, Rep C B d (g i j)) : A2 C (rI cn g) μ (.int i) (.int j) d μ := ⟨rfl, fun B H v u ok rx ry Q k => ⟨i, j, rx, ry, hc, k _ B H (Gr.refl _ _ _) ok (h B)⟩⟩
theorem a2_addI : A2 C rAddI μ (.int i) (.int j) (.int (i + j)) μ := a2_i0 fun _ => rfl
theorem a2_subI : A2 C rSubI μ (.int i) (.int j) (.int (i - j)) μ := a2_i0 fun _ => rfl
theorem a2_mulI (h : CMulW i j) : A2 C rMulI μ (.int i) (.int j) (.int (i * j)) μ := a2_ic h fun _ => rfl
theorem a2_divQ (h : j ≠ 0) (h2 : j.natAbs.log2 < 9000) : A2 C rDivQ μ (.int i) (.int j) (.int (i.fdiv j)) μ := a2_ic (cn := CDivQ) ⟨h, h2⟩ fun _ => rfl
theorem a2_modP (h : 0 < j) : A2 C rModP μ (.int i) (.int j) (.int (i % j)) μ := a2_ic (cn := fun _ j => 0 < j) h fun _ => rfl
theorem a2_powP (h : CPow i j) : A2 C rPowP μ (.int i) (.int j) (.int (i ^ j.toNat)) μ := a2_ic h fun _ => rfl
theorem a2_lt : A2 C rLtI μ (.int i) (.int j) (.bl (decide (i < j))) μ := a2_i0 fun _ => rfl
theorem a2_le : A2 C rLeI μ (.int i) (.int j) (.bl (decide (i ≤ j))) μ := a2_i0 fun _ => rfl
theorem a2_gt : A2 C rGtI μ (.int i) (.int j) (.bl (decide (j < i))) μ := a2_i0 fun _ => rfl
theorem a2_ge : A2 C rGeI μ (.int i) (.int j) (.bl (decide (j ≤ i))) μ := a2_i0 fun _ => rfl
def isNon : D → Bool
  | .non => true
  | _ => false
def plainD : D → Bool
  | .ptr _ => false
  | .scr _ _ => false
  | .ty _ => false
  | _ => true
theorem rep_non {B : Hp} {v : V} : ∀ {d : D}, plainD d = true → Rep C B d v → decide (v = .non) = isNon d
  | .non, _, h => by rw [show v = V.non from h]; rfl
  | .bl b, _, h => by rw [show v = V.bl b from h]; rfl
  | .int i, _, h => by rw [show v = V.int i from h]; rfl
  | .str s, _, h => by rw [show v = V.str s from h]; rfl
  | .rat q, _, h => by obtain ⟨a, dx, rfl, _⟩ := h; rfl
  | .lst xs, _, h => by obtain ⟨a, dx, rfl, _⟩ := h; rfl
  | .tup xs, _, h => by obtain ⟨a, dx, rfl, _⟩ := h; rfl
  | .dic, _, h => by obtain ⟨a, rfl, _⟩ := h; rfl
theorem a2_isN (h : plainD x = true) : A2 C rIsN0 μ x .non (.bl (isNon x)) μ := ⟨rfl, fun B H v u ok rx ry Q k => ⟨ry, k _ B H (Gr.refl _ _ _) ok (by rw [rep_non h rx]; exact rfl)⟩⟩
theorem a2_notN (h : plainD x = true) : A2 C rNotN0 μ x .non (.bl (!isNon x)) μ := ⟨rfl, fun B H v u ok rx ry Q k => ⟨ry, k _ B H (Gr.refl _ _ _) ok (by rw [rep_non h rx]; exact rfl)⟩⟩
/-- what compares as scalars -/
def eqD : D → D → Bool
  | .int i, .int j => decide (i = j)
  | .bl i, .bl j => decide (i = j)
  | .str i, .str j => decide (i = j)
  | _, _ => false
def scD : D → D → Bool
  | .int _, .int _ => true
  | .bl _, .bl _ => true
  | .str _, .str _ => true
  | .non, .int _ => true
  | .int _, .non => true
  | _, _ => false
theorem scD_ok {B : Hp} {v u : V} (h : scD x y = true) (rx : Rep C B x v) (ry : Rep C B y u) : scal v u = true ∧ decide (v = u) = eqD x y := by
  cases x <;> cases y <;> first | (cases h; done) | skip
  case non.int j => rw [show v = V.non from rx, show u = V.int j from ry]; exact ⟨rfl, rfl⟩
  case bl.bl i j => rw [show v = V.bl i from rx, show u = V.bl j from ry]; exact ⟨rfl, by unfold eqD; rw [decide_eq_decide]; simp⟩
  case int.non i => rw [show v = V.int i from rx, show u = V.non from ry]; exact ⟨rfl, rfl⟩
  case int.int i j => rw [show v = V.int i from rx, show u = V.int j from ry]; exact ⟨rfl, by unfold eqD; rw [decide_eq_decide]; simp⟩
  case str.str i j => rw [show v = V.str i from rx, show u = V.str j from ry]; exact ⟨rfl, by unfold eqD; rw [decide_eq_decide]; simp⟩
theorem a2_eqS (h : scD x y = true) : A2 C rEq μ x y (.bl (eqD x y)) μ := ⟨rfl, fun B H v u ok rx ry Q k => by
  obtain ⟨h1, h2⟩ := scD_ok h rx ry
  exact ⟨h1, k _ B H (Gr.refl _ _ _) ok (by rw [h2]; exact rfl)⟩⟩
theorem a2_neS (h : scD x y = true) : A2 C rNe μ x y (.bl (!eqD x y)) μ := ⟨rfl, fun B H v u ok rx ry Q k => by
  obtain ⟨h1, h2⟩ := scD_ok h rx ry
  exact ⟨h1, k _ B H (Gr.refl _ _ _) ok (by rw [h2]; exact rfl)⟩⟩
theorem RepL.isEmpty {B : Hp} {vs : List V} (h : RepL C B ds vs) : vs.isEmpty = ds.isEmpty := by
  cases ds with
  | nil => rw [show vs = [] from h]; rfl
  | cons e es => obtain ⟨v, r, rfl, _⟩ := h; rfl
theorem a2_eqE : A2 C (rEqE K) μ (.lst ds) (.lst []) (.bl ds.isEmpty) μ := ⟨rfl, fun B H v u ok rx ry Q k => by
  obtain ⟨a, vs, rfl, h1, h2⟩ := rx
  obtain ⟨a', vs', rfl, h3, h4⟩ := ry
  cases (show vs' = [] from h4)
  exact ⟨a, a', vs, rfl, rfl, SqL.of (ok.bh _ _ h1), SqL.of (ok.bh _ _ h3), k _ B H (Gr.refl _ _ _) ok (by rw [h2.isEmpty]; exact rfl)⟩⟩
theorem a2_neE : A2 C (rNeE K) μ (.lst ds) (.lst []) (.bl (!ds.isEmpty)) μ := ⟨rfl, fun B H v u ok rx ry Q k => by
  obtain ⟨a, vs, rfl, h1, h2⟩ := rx
  obtain ⟨a', vs', rfl, h3, h4⟩ := ry
  cases (show vs' = [] from h4)
  exact ⟨a, a', vs, rfl, rfl, SqL.of (ok.bh _ _ h1), SqL.of (ok.bh _ _ h3), k _ B H (Gr.refl _ _ _) ok (by rw [h2.isEmpty]; exact rfl)⟩⟩
theorem a2_cat (hl : ds.length + es.length ≤ 100000) : A2 C rCat μ (.lst ds) (.lst es) (.lst (ds ++ es)) μ := ⟨rfl, fun B H v u ok rx ry Q k => by
  obtain ⟨a, vs, rfl, h1, h2⟩ := rx
  obtain ⟨a', vs', rfl, h3, h4⟩ := ry
  refine ⟨a, a', vs, vs', rfl, rfl, ok.bh _ _ h1, ok.bh _ _ h3, by rw [h2.length, h4.length]; exact Nat.le_trans hl (by decide), fun p hp => ?_⟩
  exact k _ (upd B p (.lst (vs ++ vs'))) _ (Gr.new hp ok.bh) (ok.new hp) ⟨p, vs ++ vs', rfl, upd_same, (h2.app h4).mono fun a u e => by rw [upd_ne (ne_of_none e (ok.bh.free hp))]; exact e⟩⟩
theorem a2_rep {n : Nat} (hl : ds.length * n ≤ 100000) (hn : n ≤ 100000) : A2 C rRep μ (.lst ds) (.int n) (.lst (List.replicate n ds).flatten) μ := ⟨rfl, fun B H v u ok rx ry Q k => by
  obtain ⟨a, vs, rfl, h1, h2⟩ := rx
  refine ⟨a, (n : Int), vs, rfl, ry, ok.bh _ _ h1, by omega, by omega, by rw [h2.length, Int.toNat_natCast]; exact Nat.le_trans hl (by decide), fun p hp => ?_⟩
  rw [Int.toNat_natCast]
  exact k _ (upd B p (.lst (List.replicate n vs).flatten)) _ (Gr.new hp ok.bh) (ok.new hp) ⟨p, _, rfl, upd_same, (h2.rep n).mono fun a u e => by rw [upd_ne (ne_of_none e (ok.bh.free hp))]; exact e⟩⟩
theorem a2_repS {z : Str} (h : MulOk z i) : A2 C rRepS μ (.str z) (.int i) (.str (Txt.mul z i)) μ := ⟨rfl, fun B H v u ok rx ry Q k => ⟨z, i, rx, ry, h, k _ B H (Gr.refl _ _ _) ok rfl⟩⟩
theorem a2_ownI (hS : S [.rat p, .rat q] μ (.val d) μ1) (hm : dom μ1 = dom μ) : A2 C (rOwnI C (SpO C CN S) E) μ (.rat p) (.rat q) d μ1 := ⟨hm, fun B H v u ok rx ry Q k => by
  obtain ⟨a, dx, rfl, h1⟩ := id rx
  obtain ⟨a', dx', rfl, h2⟩ := id ry
  exact ⟨a, a', dx, dx', _, _, rfl, rfl, ok.bh _ _ h1, ok.bh _ _ h2, [.rat p, .rat q], μ, B, .val d, μ1, ⟨_, _, rfl, rx, _, _, rfl, ry, rfl⟩, ok, hS, hm, k⟩⟩
theorem a2_ownT (hS : S [.rat p, .int i] μ (.val d) μ1) (hm : dom μ1 = dom μ) : A2 C (rOwnT C (SpO C CN S) E) μ (.rat p) (.int i) d μ1 := ⟨hm, fun B H v u ok rx ry Q k => by
  obtain ⟨a, dx, rfl, h1⟩ := id rx
  exact ⟨a, dx, _, i, rfl, ry, ok.bh _ _ h1, [.rat p, .int i], μ, B, .val d, μ1, ⟨_, _, rfl, rx, _, _, rfl, ry, rfl⟩, ok, hS, hm, k⟩⟩
theorem a2_ownR (hS : S [.rat p, .int i] μ (.val d) μ1) (hm : dom μ1 = dom μ) : A2 C (rOwnR C (SpO C CN S) E) μ (.int i) (.rat p) d μ1 := ⟨hm, fun B H v u ok rx ry Q k => by
  obtain ⟨a, dx, rfl, h1⟩ := id ry
  exact ⟨a, dx, _, i, rx, rfl, ok.bh _ _ h1, [.rat p, .int i], μ, B, .val d, μ1, ⟨_, _, rfl, ry, _, _, rfl, rx, rfl⟩, ok, hS, hm, k⟩⟩
theorem a2_ownNe (hS : S [.rat p, .rat q] μ (.val (.bl b)) μ) : A2 C (rOwnNe C (SpO C CN S) E) μ (.rat p) (.rat q) (.bl (!b)) μ := ⟨rfl, fun B H v u ok rx ry Q k => by
  obtain ⟨a, dx, rfl, h1⟩ := id rx
  obtain ⟨a', dx', rfl, h2⟩ := id ry
  exact ⟨a, a', dx, dx', _, _, rfl, rfl, ok.bh _ _ h1, ok.bh _ _ h2, [.rat p, .rat q], μ, B, .val (.bl b), μ, ⟨_, _, rfl, rx, _, _, rfl, ry, rfl⟩, ok, hS, rfl, fun v B' H' g ok' r => ⟨b, r, k _ B' H' g ok' rfl⟩⟩⟩
theorem a1_own (hS : S [.rat p] μ (.val d) μ) : A1 C (rOwnU C (SpO C CN S) E) μ (.rat p) d := fun B H v ok rx Q k => by
  obtain ⟨a, dx, rfl, h1⟩ := id rx
  exact ⟨a, dx, _, rfl, ok.bh _ _ h1, [.rat p], μ, B, .val d, μ, ⟨_, _, rfl, rx, rfl⟩, ok, hS, rfl, k⟩
/-! the united ones -/
theorem sbin {f : Rat → Rat → Rat} (hx : Nm x q) (h1 : Sm p) (h2 : Sm q) : S_bin f [.rat p, x] μ (.val (.rat (f p q))) μ := pS.mk ⟨p, x, q, rfl, hx, h1, h2, rfl⟩
theorem add_i : A2 C (rAdd C CN) μ (.int i) (.int j) (.int (i + j)) μ := a2_addI.il
theorem add_l (hl : ds.length + es.length ≤ 100000) : A2 C (rAdd C CN) μ (.lst ds) (.lst es) (.lst (ds ++ es)) μ := (a2_cat hl).il.ir
theorem add_q (h1 : Sm p) (h2 : Sm q) : A2 C (rAdd C CN) μ (.rat p) (.rat q) (.rat (p + q)) μ := (a2_ownI (sbin (.rat q) h1 h2) rfl).il.ir.ir
theorem add_t (h1 : Sm p) (h2 : Sm i) : A2 C (rAdd C CN) μ (.rat p) (.int i) (.rat (p + i)) μ := (a2_ownT (sbin (.int i) h1 h2) rfl).ir.ir.ir
theorem sub_i : A2 C (rSub C CN) μ (.int i) (.int j) (.int (i - j)) μ := a2_subI.il
theorem sub_q (h1 : Sm p) (h2 : Sm q) : A2 C (rSub C CN) μ (.rat p) (.rat q) (.rat (p - q)) μ := (a2_ownI (sbin (.rat q) h1 h2) rfl).ir
theorem mul_i (h : CMulW i j) : A2 C (rMul C CN) μ (.int i) (.int j) (.int (i * j)) μ := (a2_mulI h).il
theorem mul_l {n : Nat} (hl : ds.length * n ≤ 100000) (hn : n ≤ 100000) : A2 C (rMul C CN) μ (.lst ds) (.int n) (.lst (List.replicate n ds).flatten) μ := (a2_rep hl hn).il.ir
theorem mul_s {z : Str} (h : MulOk z i) : A2 C (rMul C CN) μ (.str z) (.int i) (.str (Txt.mul z i)) μ := (a2_repS h).il.ir.ir
theorem mul_q (h1 : Sm p) (h2 : Sm q) : A2 C (rMul C CN) μ (.rat p) (.rat q) (.rat (p * q)) μ := (a2_ownI (sbin (.rat q) h1 h2) rfl).il.ir.ir.ir
theorem mul_t (h1 : Sm p) (h2 : Sm i) : A2 C (rMul C CN) μ (.rat p) (.int i) (.rat (p * i)) μ := (a2_ownT (sbin (.int i) h1 h2) rfl).il.ir.ir.ir.ir
theorem mul_r (h1 : Sm p) (h2 : Sm i) : A2 C (rMul C CN) μ (.int i) (.rat p) (.rat (p * i)) μ := (a2_ownR (sbin (.int i) h1 h2) rfl).ir.ir.ir.ir.ir
theorem neg_i : A1 C (rNeg C CN) μ (.int i) (.int (-i)) := fun B H v ok rx Q k => .inl ⟨i, rx, k _ B H (Gr.refl _ _ _) ok rfl⟩
theorem neg_q (h : Sm p) : A1 C (rNeg C CN) μ (.rat p) (.rat (-p)) := fun B H v ok rx Q k => .inr (a1_own (S := S_R__neg__) (pS.mk ⟨p, rfl, h, rfl⟩) B H v ok rx Q k)
theorem eq_s (h : scD x y = true) : A2 C (rEqU K) μ x y (.bl (eqD x y)) μ := (a2_eqS h).il
theorem eq_e : A2 C (rEqU K) μ (.lst ds) (.lst []) (.bl ds.isEmpty) μ := a2_eqE.ir
theorem ne_s (h : scD x y = true) : A2 C (rNeU C CN K) μ x y (.bl (!eqD x y)) μ := (a2_neS h).il
theorem ne_e : A2 C (rNeU C CN K) μ (.lst ds) (.lst []) (.bl (!ds.isEmpty)) μ := a2_neE.il.ir
theorem ne_q : A2 C (rNeU C CN K) μ (.rat p) (.rat q) (.bl (!decide (p = q))) μ := (a2_ownNe (S := S_R__eq__) (pS.mk ⟨p, q, rfl, rfl⟩)).ir.ir
/-- a < b < c -/
theorem ae_chain1 (ha : AE C ta ρ μ x μ1) (hb : AE C tb ρ μ1 y μ2) (h : A2 C r μ2 x y (.bl true) μ2) (hc : AE C tc ρ μ2 d μ3) (h2 : A2 C r' μ3 y d d' μ3) : AE C (tChain r r' ta tb tc) ρ μ d' μ3 :=
  ⟨hc.1.trans (hb.1.trans ha.1), fun σ B H rs ok Q k => ha.2 σ B H rs ok _ fun v B1 H1 g1 ok1 r1 => hb.2 σ B1 H1 (rs.mono g1.bb) ok1 _ fun u B2 H2 g2 ok2 r2 => h.2 B2 H2 v u ok2 (r1.mono g2.bb) r2 _ fun z B3 H3 g3 ok3 r3 => by
    refine ⟨true, r3, ?_⟩
    rw [if_pos rfl]
    have gA := (g1.trans (g2.dm ha.1)).trans (g3.dm (hb.1.trans ha.1))
    exact hc.2 σ B3 H3 (rs.mono gA.bb) ok3 _ fun v4 B4 H4 g4 ok4 r4 => h2.2 B4 H4 u v4 ok4 (r2.mono (g3.bb.trans g4.bb)) r4 Q fun z5 B5 H5 g5 ok5 r5 => k z5 B5 H5 ((gA.trans (g4.dm (hb.1.trans ha.1))).trans (g5.dm (hc.1.trans (hb.1.trans ha.1)))) ok5 r5⟩
theorem ae_chain0 (ha : AE C ta ρ μ x μ1) (hb : AE C tb ρ μ1 y μ2) (h : A2 C r μ2 x y (.bl false) μ2) : AE C (tChain r r' ta tb tc) ρ μ (.bl false) μ2 :=
  ⟨hb.1.trans ha.1, fun σ B H rs ok Q k => ha.2 σ B H rs ok _ fun v B1 H1 g1 ok1 r1 => hb.2 σ B1 H1 (rs.mono g1.bb) ok1 _ fun u B2 H2 g2 ok2 r2 => h.2 B2 H2 v u ok2 (r1.mono g2.bb) r2 _ fun z B3 H3 g3 ok3 r3 => by
    refine ⟨false, r3, ?_⟩
    rw [if_neg Bool.false_ne_true]
    exact k _ B3 H3 ((g1.trans (g2.dm ha.1)).trans (g3.dm (hb.1.trans ha.1))) ok3 rfl⟩
/-! ### built-ins -/
theorem ac_of {r : List V → Hp → VK → Prop} (h : ∀ B H vs, Ok C μ B H → RepL C B ds vs → ∀ Q : VK, (∀ v, Rep C B d v → Q v H) → r vs H Q) : AC C r μ ds d μ := ⟨rfl, fun B H vs ok rv Q k => h B H vs ok rv Q fun v rv' => k v B H (Gr.refl _ _ _) ok rv'⟩
theorem ac_abs : AC C rAbs μ [.int i] (.int (if i < 0 then -i else i)) μ := ac_of fun B H vs ok ⟨v, r, e, h1, h2⟩ Q k => ⟨i, by rw [e, show v = V.int i from h1, show r = [] from h2], k _ rfl⟩
theorem ac_max : AC C rMax2 μ [.int i, .int j] (.int (if j > i then j else i)) μ := ac_of fun B H vs ok ⟨v, r, e, h1, v2, r2, e2, h3, h4⟩ Q k => ⟨i, j, by rw [e, show v = V.int i from h1, e2, show v2 = V.int j from h3, show r2 = [] from h4], k _ rfl⟩
theorem ac_min : AC C rMin2 μ [.int i, .int j] (.int (if j < i then j else i)) μ := ac_of fun B H vs ok ⟨v, r, e, h1, v2, r2, e2, h3, h4⟩ Q k => ⟨i, j, by rw [e, show v = V.int i from h1, e2, show v2 = V.int j from h3, show r2 = [] from h4], k _ rfl⟩
theorem ac_int : AC C rInt1 μ [.int i] (.int i) μ := ac_of fun B H vs ok ⟨v, r, e, h1, h2⟩ Q k => .inl ⟨i, by rw [e, show v = V.int i from h1, show r = [] from h2], k _ rfl⟩
theorem ac_intB : AC C rInt1 μ [.bl b] (.int (if b then 1 else 0)) μ := ac_of fun B H vs ok ⟨v, r, e, h1, h2⟩ Q k => .inr ⟨b, by rw [e, show v = V.bl b from h1, show r = [] from h2], k _ rfl⟩
theorem ac_strI (h : i.natAbs.log2 < 1920) : AC C rStrI μ [.int i] (.str (toString i)) μ := ac_of fun B H vs ok ⟨v, r, e, h1, h2⟩ Q k => ⟨i, by rw [e, show v = V.int i from h1, show r = [] from h2], h, k _ rfl⟩
theorem ac_divmod (h : CDiv i j) : AC C rDivmod μ [.int i, .int j] (.tup [.int (i / j), .int (i % j)]) μ := ⟨rfl, fun B H vs ok ⟨v, r, e, h1, v2, r2, e2, h3, h4⟩ Q k => ⟨i, j, by rw [e, show v = V.int i from h1, e2, show v2 = V.int j from h3, show r2 = [] from h4], h, fun p hp =>
  k _ (upd B p (.tup [.int (i / j), .int (i % j)])) _ (Gr.new hp ok.bh) (ok.new hp) ⟨p, _, rfl, upd_same, _, _, rfl, rfl, _, _, rfl, rfl, rfl⟩⟩⟩
theorem ac_len_l : AC C (rLen K) μ [.lst ds] (.int (ds.length : Nat)) μ := ac_of fun B H vs ok ⟨v, r, e, ⟨a, ws, e1, h1, h2⟩, h3⟩ Q k => ⟨.ref a, ds.length, by rw [e, e1, show r = [] from h3], .inl ⟨ws, SqL.of (ok.bh _ _ h1), h2.length.symm⟩, k _ rfl⟩
theorem ac_len_t : AC C (rLen K) μ [.tup ds] (.int (ds.length : Nat)) μ := ac_of fun B H vs ok ⟨v, r, e, ⟨a, ws, e1, h1, h2⟩, h3⟩ Q k => ⟨.ref a, ds.length, by rw [e, e1, show r = [] from h3], .inr ⟨ws, SqT.of (ok.bh _ _ h1), h2.length.symm⟩, k _ rfl⟩
theorem ac_len_o {p : Addr} (hm : (p, ds) ∈ μ) : AC C (rLen K) μ [.ptr p] (.int (ds.length : Nat)) μ := ac_of fun B H vs ok ⟨v, r, e, h1, h3⟩ Q k => by
  obtain ⟨hB, ws, hv, rv⟩ := ok.own.mem hm
  exact ⟨.ref p, ds.length, by rw [e, show v = V.ref p from h1, show r = [] from h3], .inl ⟨ws, SqL.of hv, rv.length.symm⟩, k _ rfl⟩
theorem ac_len_s {ns : List Int} : AC C (rLen K) μ [.scr K ns] (.int (ns.length : Nat)) μ := ac_of fun B H vs ok ⟨v, r, e, ⟨a, e1, h1⟩, h3⟩ Q k => ⟨.ref a, ns.length, by rw [e, e1, show r = [] from h3], .inl ⟨_, h1.same ok.bh, by simp⟩, k _ rfl⟩
theorem ac_all {bs : List Bool} : AC C (rAll K) μ [.lst (bs.map D.bl)] (.bl (bs.all id)) μ := ac_of fun B H vs ok ⟨v, r, e, ⟨a, ws, e1, h1, h2⟩, h3⟩ Q k => ⟨a, bs, by rw [e, e1, show r = [] from h3], by rw [← h2.bls_eq]; exact SqL.of (ok.bh _ _ h1), k _ rfl⟩
theorem ac_tupL : AC C (rTupOf K) μ [.lst ds] (.tup ds) μ := ⟨rfl, fun B H vs ok ⟨v, r, e, ⟨a, ws, e1, h1, h2⟩, h3⟩ Q k => ⟨a, ws, by rw [e, e1, show r = [] from h3], .inl ⟨SqL.of (ok.bh _ _ h1), fun p hp =>
  k _ (upd B p (.tup ws)) _ (Gr.new hp ok.bh) (ok.new hp) ⟨p, _, rfl, upd_same, h2.mono fun a u e => by rw [upd_ne (ne_of_none e (ok.bh.free hp))]; exact e⟩⟩⟩⟩
theorem acf_new {r : List V → Hp → VK → Prop} (h : ∀ B H vs, Ok C μ B H → RepL C B ds vs → ∀ Q : VK, (∃ ws, RepL C B es ws ∧ ((∀ p, H p = none → Q (.ref p) (upd H p (.lst ws))) → r vs H Q))) : ACF C r μ ds es μ := ⟨rfl, fun B H vs ok rv Q k => by
  obtain ⟨ws, h1, h2⟩ := h B H vs ok rv Q
  exact h2 fun p hp => k p ws B _ (Gr.newH hp) (ok.newH hp) hp (ok.bh.free hp) upd_same h1⟩
theorem acf_listL : ACF C (rListOf K) μ [.lst ds] ds μ := acf_new fun B H vs ok ⟨v, r, e, ⟨a, ws, e1, h1, h2⟩, h3⟩ Q => ⟨ws, h2, fun k => ⟨a, ws, by rw [e, e1, show r = [] from h3], .inl (SqL.of (ok.bh _ _ h1)), k⟩⟩
/-! ### places, parts -/
theorem RepL.atI {B : Hp} {vs : List V} (h : RepL C B ds vs) (e : atI ds i = some d) : ∃ v, L2.atI vs i = some v ∧ Rep C B d v := by
  unfold L2.atI at e ⊢
  rw [h.length]
  cases q : ixN ds.length i with
  | none => rw [q] at e; cases e
  | some j =>
    rw [q] at e
    exact h.get (i := j) e
theorem ix_l (h : atI ds i = some d) : A2 C (rIx K) μ (.lst ds) (.int i) d μ := ⟨rfl, fun B H v u ok rx ry Q k => by
  obtain ⟨a, vs, rfl, h1, h2⟩ := rx
  obtain ⟨w, h3, h4⟩ := h2.atI h
  exact .inl ⟨a, vs, i, w, rfl, ry, SqL.of (ok.bh _ _ h1), h3, k _ B H (Gr.refl _ _ _) ok h4⟩⟩
theorem ix_t (h : atI ds i = some d) : A2 C (rIx K) μ (.tup ds) (.int i) d μ := ⟨rfl, fun B H v u ok rx ry Q k => by
  obtain ⟨a, vs, rfl, h1, h2⟩ := rx
  obtain ⟨w, h3, h4⟩ := h2.atI h
  exact .inr (.inl ⟨a, vs, i, w, rfl, ry, SqT.of (ok.bh _ _ h1), h3, k _ B H (Gr.refl _ _ _) ok h4⟩)⟩
theorem ix_o {p : Addr} (hm : (p, ds) ∈ μ) (h : atI ds i = some d) : A2 C (rIx K) μ (.ptr p) (.int i) d μ := ⟨rfl, fun B H v u ok rx ry Q k => by
  obtain ⟨hB, ws, hv, rv⟩ := ok.own.mem hm
  obtain ⟨w, h3, h4⟩ := rv.atI h
  exact .inl ⟨p, ws, i, w, rx, ry, SqL.of hv, h3, k _ B H (Gr.refl _ _ _) ok h4⟩⟩
theorem ix_s {ns : List Int} {n : Int} (h : atI ns i = some n) : A2 C (rIx K) μ (.scr K ns) (.int i) (.int n) μ := ⟨rfl, fun B H v u ok rx ry Q k => by
  obtain ⟨a, rfl, h1⟩ := rx
  refine .inl ⟨a, ns.map V.int, i, .int n, rfl, ry, h1.same ok.bh, ?_, k _ B H (Gr.refl _ _ _) ok rfl⟩
  unfold L2.atI at h ⊢
  rw [List.length_map]
  cases q : ixN ns.length i with
  | none => rw [q] at h; cases h
  | some j =>
    rw [q] at h
    show (ns.map V.int)[j]? = _
    rw [List.getElem?_map, show ns[j]? = some n from h]
    rfl⟩
def cutD (ds : List D) (lo hi : Option Int) : List D := (ds.drop (HT.sIx ds.length 0 lo)).take (HT.sIx ds.length ds.length hi - HT.sIx ds.length 0 lo)
theorem RepL.cut {B : Hp} {vs : List V} (h : RepL C B ds vs) (lo hi : Option Int) : RepL C B (cutD ds lo hi) (cutV vs lo hi) := by
  unfold cutD cutV
  rw [h.length]
  exact (h.drop _).take _
theorem ao_none : AO C tNoPart ρ μ none := fun σ B H rs ok Q k => k B H (Gr.refl _ _ _) ok
theorem ao_some (h : AE C te ρ μ (.int i) μ) : AO C (tPart te) ρ μ (some i) := fun σ B H rs ok Q k => h.2 σ B H rs ok _ fun v B1 H1 g1 ok1 r1 => ⟨i, r1, k B1 H1 g1 ok1⟩
theorem af_slice {tl th : TO} {lo hi : Option Int} (h : AE C te ρ μ (.lst ds) μ1) (hl : AO C tl ρ μ1 lo) (hh : AO C th ρ μ1 hi) : AF C (tSl (rSlL K) te tl th) ρ μ (cutD ds lo hi) μ1 :=
  ⟨h.1, fun σ B H rs ok Q k => h.2 σ B H rs ok _ fun v B1 H1 g1 ok1 r1 => hl σ B1 H1 (rs.mono g1.bb) ok1 _ fun B2 H2 g2 ok2 => hh σ B2 H2 (rs.mono (g1.bb.trans g2.bb)) ok2 _ fun B3 H3 g3 ok3 => by
    obtain ⟨a, vs, rfl, h1, h2⟩ := r1
    have g13 : Gr (dom μ) B H B3 H3 := (g1.trans (g2.dm h.1)).trans (g3.dm h.1)
    refine ⟨a, vs, rfl, SqL.of (ok3.bh _ _ (g3.bb _ _ (g2.bb _ _ h1))), fun p hp => ?_⟩
    refine k p (cutV vs lo hi) B3 _ (g13.trans (Gr.newH hp)) (ok3.newH hp) ?_ (ok3.bh.free hp) upd_same ((h2.mono (g2.bb.trans g3.bb)).cut lo hi)
    cases z : H p with
    | none => rfl
    | some o =>
      obtain ⟨o', z'⟩ := g13.ds p o z
      rw [hp] at z'; cases z'⟩
theorem af_rev (h : AE C te ρ μ (.lst ds) μ1) : AF C (tRevL K te) ρ μ ds.reverse μ1 :=
  ⟨h.1, fun σ B H rs ok Q k => h.2 σ B H rs ok _ fun v B1 H1 g1 ok1 r1 => by
    obtain ⟨a, vs, rfl, h1, h2⟩ := r1
    refine ⟨a, vs, rfl, SqL.of (ok1.bh _ _ h1), fun p hp => ?_⟩
    refine k p vs.reverse B1 _ (g1.trans (Gr.newH hp)) (ok1.newH hp) ?_ (ok1.bh.free hp) upd_same h2.rev
    cases z : H p with
    | none => rfl
    | some o =>
      obtain ⟨o', z'⟩ := g1.ds p o z
      rw [hp] at z'; cases z'⟩
theorem ai_seqL (h : AE C te ρ μ (.lst ds) μ1) : AI C (iSeq K te) ρ μ ds μ1 := ⟨h.1, fun σ B H rs ok R q => h.2 σ B H rs ok _ fun v B1 H1 g1 ok1 r1 => by
  obtain ⟨a, vs, rfl, h1, h2⟩ := r1
  exact ⟨a, rfl, .inl ⟨⟨vs, SqL.of (ok1.bh _ _ h1)⟩, q _ B1 H1 g1 ok1 (wk_list h1 h2)⟩⟩⟩
theorem ai_seqT (h : AE C te ρ μ (.tup ds) μ1) : AI C (iSeq K te) ρ μ ds μ1 := ⟨h.1, fun σ B H rs ok R q => h.2 σ B H rs ok _ fun v B1 H1 g1 ok1 r1 => by
  obtain ⟨a, vs, rfl, h1, h2⟩ := r1
  exact ⟨a, rfl, .inr ⟨⟨vs, SqT.of (ok1.bh _ _ h1)⟩, q _ B1 H1 g1 ok1 (wk_tup h1 h2)⟩⟩⟩
theorem ae_dnew : AE C tDNewK ρ μ .dic μ := ⟨rfl, fun σ B H rs ok Q k => fun p hp => k (.ref p) (upd B p (.dK [])) _ (Gr.new hp ok.bh) (ok.new hp) ⟨p, rfl, upd_same⟩⟩
/-! ### isinstance -/
def isD : D → String → Bool
  | .bl _, n => n == "bool" || n == "int"
  | .int _, n => n == "int"
  | .lst _, n => n == "list"
  | .tup _, n => n == "tuple"
  | _, _ => false
def isR : D → Bool
  | .rat _ => true
  | _ => false
def tyO (K : Frg) : D → Value
  | .non => .type "NoneType"
  | .bl _ => .type "bool"
  | .int _ => .type "int"
  | .str _ => .type "str"
  | .rat _ => .ref (cR K)
  | .lst _ => .type "list"
  | .tup _ => .type "tuple"
  | .dic => .type "dict"
  | _ => .none
theorem tyX_of (T : Tx K mg) {B H : Hp} {v : V} (bh : Same B H) : ∀ {d : D}, plainD d = true → Rep (cR K) B d v → TyX K H v (tyO K d)
  | .non, _, h => by rw [show v = V.non from h]; exact .base .non
  | .bl b, _, h => by rw [show v = V.bl b from h]; exact .base (.bl b)
  | .int i, _, h => by rw [show v = V.int i from h]; exact .base (.int i)
  | .str s, _, h => by rw [show v = V.str s from h]; exact .base (.str s)
  | .rat q, _, h => by obtain ⟨a, dx, rfl, h⟩ := h; exact .base (.ins (bh _ _ h) T.cls T.oc1 T.oc2 T.oc3 T.oc4)
  | .lst xs, _, h => by obtain ⟨a, vs, rfl, h, _⟩ := h; exact .base (.lst (bh _ _ h))
  | .tup xs, _, h => by obtain ⟨a, vs, rfl, h, _⟩ := h; exact .base (.tup (bh _ _ h))
  | .dic, _, h => by obtain ⟨a, rfl, h⟩ := h; exact .base (.dK (bh _ _ h))
theorem kit_isD (T : Tx K mg) {n : String} (hn : n ∈ (["int", "bool", "list", "tuple"] : List String)) : ∀ {d : D}, plainD d = true → PySem.W.kitOne K (tyO K d) (.type n) = some (isD d n) := fun {d} hd => by
  have hR := T.kC n hn
  simp only [List.mem_cons, List.not_mem_nil, or_false] at hn
  cases d with
  | rat q => exact hR
  | ptr a => cases hd
  | scr a b => cases hd
  | ty a => cases hd
  | non => rcases hn with rfl | rfl | rfl | rfl <;> first | exact kit_ty (r := false) (by decide +kernel) | exact kit_ty (r := true) (by decide +kernel)
  | bl b => rcases hn with rfl | rfl | rfl | rfl <;> first | exact kit_ty (r := false) (by decide +kernel) | exact kit_ty (r := true) (by decide +kernel)
  | int i => rcases hn with rfl | rfl | rfl | rfl <;> first | exact kit_ty (r := false) (by decide +kernel) | exact kit_ty (r := true) (by decide +kernel)
  | str s => rcases hn with rfl | rfl | rfl | rfl <;> first | exact kit_ty (r := false) (by decide +kernel) | exact kit_ty (r := true) (by decide +kernel)
  | lst s => rcases hn with rfl | rfl | rfl | rfl <;> first | exact kit_ty (r := false) (by decide +kernel) | exact kit_ty (r := true) (by decide +kernel)
  | tup s => rcases hn with rfl | rfl | rfl | rfl <;> first | exact kit_ty (r := false) (by decide +kernel) | exact kit_ty (r := true) (by decide +kernel)
  | dic => rcases hn with rfl | rfl | rfl | rfl <;> first | exact kit_ty (r := false) (by decide +kernel) | exact kit_ty (r := true) (by decide +kernel)
theorem ac_isi (T : Tx K mg) {n : String} (hn : n ∈ (["int", "bool", "list", "tuple"] : List String)) (hd : plainD d = true) : AC (cR K) (rIsi K) μ [d, .ty n] (.bl (isD d n)) μ := ac_of fun B H vs ok ⟨v, r, e, h1, v2, r2, e2, h3, h4⟩ Q k =>
  ⟨v, .ty n, tyO K d, .type n, isD d n, by rw [e, e2, show v2 = V.ty n from h3, show r2 = [] from h4], .ty n, tyX_of T ok.bh hd h1, kit_isD T hn hd, k _ rfl⟩
theorem ac_isiR (T : Tx K mg) (hd : plainD d = true) : AC (cR K) (rIsi K) μ [d, .ptr (cR K)] (.bl (isR d)) μ := ac_of fun B H vs ok ⟨v, r, e, h1, v2, r2, e2, h3, h4⟩ Q k =>
  ⟨v, .ref (cR K), tyO K d, .ref (cR K), isR d, by rw [e, e2, show v2 = V.ref _ from h3, show r2 = [] from h4], .own _, tyX_of T ok.bh hd h1, by
    cases d with
    | rat q => exact T.kk
    | ptr a => cases hd
    | scr a b => cases hd
    | ty a => cases hd
    | non => exact T.kT 3 _ rfl
    | bl b => exact T.kT 1 _ rfl
    | int i => exact T.kT 0 _ rfl
    | str s => exact T.kT 2 _ rfl
    | lst s => exact T.kT 4 _ rfl
    | tup s => exact T.kT 5 _ rfl
    | dic => exact T.kT 6 _ rfl, k _ rfl⟩
def isL : D → Bool
  | .lst _ => true
  | .tup _ => true
  | _ => false
theorem ac_isiT (T : Tx K mg) (hd : plainD d = true) : AC (cR K) (rIsiT K) μ [d, .tup [.ty "list", .ty "tuple"]] (.bl (isL d)) μ := ac_of fun B H vs ok ⟨v, r, e, h1, v2, r2, e2, ⟨a, ws, e3, h5, ⟨w1, s1, e6, h6, w2, s2, e7, h7, h8⟩⟩, h4⟩ Q k =>
  ⟨v, a, [.ty "list", .ty "tuple"], tyO K d, [.type "list", .type "tuple"], isL d, by rw [e, e2, e3, show r2 = [] from h4], by rw [e6, show w1 = V.ty "list" from h6, e7, show w2 = V.ty "tuple" from h7, show s2 = [] from h8] at h5; exact ok.bh _ _ h5, .cons (.ty _) (.cons (.ty _) .nil), tyX_of T ok.bh hd h1, by
    have k1 := kit_isD T (n := "list") (by simp) hd
    have k2 := kit_isD T (n := "tuple") (by simp) hd
    refine kitAny_cons k1 (fun z => kitAny_cons k2 (fun z' => ?_) fun z' => ?_) fun z => ?_
    · rw [kitAny_nil]; cases d <;> first | rfl | (cases z; done) | (cases z'; done)
    · cases d <;> first | rfl | (cases z; done) | (cases z'; done)
    · cases d <;> first | rfl | (cases z; done), k _ rfl⟩
end
end OC
set_option maxHeartbeats 4000000
/-! OcX1: the class Ratio and numbers: promises, readings, bodies. -/
namespace OC
open PySem PySem.Spec PyProof.Rows L2

/-! ### promises -/
def isI : D → Bool
  | .int _ => true
  | _ => false
def isN : D → Bool
  | .int _ => true
  | .rat _ => true
  | _ => false
def S_is_integer : Sc := pS fun ds d => ∃ x, ds = [x] ∧ plainD x = true ∧ d = .bl (isI x)
def S_is_list : Sc := pS fun ds d => ∃ x, ds = [x] ∧ plainD x = true ∧ d = .bl (isL x)
def S_common_part : Sc := pS fun ds d => ∃ a b, ds = [.int a, .int b] ∧ d = .int (Int.gcd a b : Nat)
def S_told_pair : Sc := pS fun ds d => ∃ x q, ds = [x] ∧ Nm x q ∧ d = .tup [.int q.num, .int q.den]
def S_is_number : Sc := pS fun ds d => ∃ x, ds = [x] ∧ plainD x = true ∧ d = .bl (isN x)
def S_ratio_of : Sc := pS fun ds d => ∃ x q, ds = [x] ∧ Nm x q ∧ Sm q ∧ d = .rat q
def S_want_number : Sc := S_ratio_of
def S_total_of : Sc := pS fun ds d => ∃ qs : List Rat, ds = [.lst (qs.map D.rat)] ∧ qs.length ≤ 1000 ∧ SmS qs ∧ d = .rat (sumR qs)
/-- a list of things that stand for numbers -/
inductive Nms : List D → List Rat → Prop where
  | nil : Nms [] []
  | cons {x : D} {q : Rat} {xs : List D} {qs : List Rat} (h : Nm x q) (t : Nms xs qs) : Nms (x :: xs) (q :: qs)
def S_Rtotal : Sc := pS fun ds d => ∃ (a : Addr) (qs : List Rat), ds = [.ptr a, .lst (qs.map D.rat)] ∧ qs.length ≤ 1000 ∧ SmS qs ∧ d = .rat (sumR qs)
def S_weighed : Sc := pS fun ds d => ∃ ws vs : List Rat, ds = [.lst (ws.map D.rat), .lst (vs.map D.rat)] ∧ ws.length ≤ 1000 ∧ WOk ws vs ∧ d = .rat (dot ws vs)

abbrev N_is_integer : List Str := ["value"]
def t_is_integer (K : Frg) (C CN : Addr) : TS := (tRet (tAndV (tCB (rIsi K) (tCons (tVar 0) (tCons (tC (.ty "int")) tNil))) (tNotV (tCB (rIsi K) (tCons (tVar 0) (tCons (tC (.ty "bool")) tNil))))))

abbrev N_is_list : List Str := ["value"]
def t_is_list (K : Frg) (C CN : Addr) : TS := (tRet (tCB (rIsiT K) (tCons (tVar 0) (tCons (tTup (tCons (tC (.ty "list")) (tCons (tC (.ty "tuple")) tNil))) tNil))))

abbrev N_common_part : List Str := ["one", "other"]
def t_common_part (K : Frg) (C CN : Addr) : TS := (tSeq (tPar 0 1 (tCons (tCB rAbs (tCons (tVar 0) tNil)) (tCons (tCB rAbs (tCons (tVar 1) tNil)) tNil)))
  (tSeq (tWhile (tTest (tOp rGtI (tVar 1) (tC (.int 0)))) (tPar 0 1 (tCons (tVar 1) (tCons (tOp rModP (tCB rInt1 (tCons (tVar 0) tNil)) (tVar 1)) tNil))))
  (tRet (tVar 0))))

abbrev N_R__init__ : List Str := ["self", "top", "bottom", "common"]
def t_R__init__ (K : Frg) (C CN : Addr) : TS := (tSeq (tIfS (tNot (tB (tcR (SpO C CN S_is_integer) E0 (tCons (tVar 1) tNil)))) tNever tNext)
  (tSeq (tIfS (tOr (tNot (tB (tcR (SpO C CN S_is_integer) E0 (tCons (tVar 2) tNil)))) (tTest (tOp rEq (tVar 2) (tC (.int 0))))) tNever tNext)
  (tSeq (tAsg (tcR (SpO C CN S_common_part) E0 (tCons (tVar 1) (tCons (tVar 2) tNil))) (gName 3))
  (tSeq (tIfS (tTest (tOp rLtI (tVar 2) (tC (.int 0)))) (tAsg (tOp rSubI (tC (.int 0)) (tVar 3)) (gName 3)) tNext)
  (tSeq (sFld K (tVar 0) (tOp rDivQ (tVar 1) (tVar 3)) "own_top")
  (sFld K (tVar 0) (tOp rDivQ (tVar 2) (tVar 3)) "own_bottom"))))))

abbrev N_Rtop : List Str := ["self"]
def t_Rtop (K : Frg) (C CN : Addr) : TS := (tRet (tFld K (tVar 0) "own_top"))

abbrev N_Rbottom : List Str := ["self"]
def t_Rbottom (K : Frg) (C CN : Addr) : TS := (tRet (tFld K (tVar 0) "own_bottom"))

abbrev N_Rsign : List Str := ["self"]
def t_Rsign (K : Frg) (C CN : Addr) : TS := (tRet (tOp rSubI (tCB rInt1 (tCons (tOp rGtI (tFld K (tVar 0) "own_top") (tC (.int 0))) tNil)) (tCB rInt1 (tCons (tOp rLtI (tFld K (tVar 0) "own_top") (tC (.int 0))) tNil))))

abbrev N_told_pair : List Str := ["value"]
def t_told_pair (K : Frg) (C CN : Addr) : TS := (tSeq (tIfS (tB (tCB (rIsi K) (tCons (tVar 0) (tCons (tC (.ref C)) tNil)))) (tRet (tTup (tCons (tFld K (tVar 0) "own_top") (tCons (tFld K (tVar 0) "own_bottom") tNil)))) tNext)
  (tSeq (tIfS (tNot (tB (tcR (SpO C CN S_is_integer) E0 (tCons (tVar 0) tNil)))) tNever tNext)
  (tRet (tTup (tCons (tVar 0) (tCons (tC (.int 1)) tNil))))))

abbrev N_R__add__ : List Str := ["self", "other", "top", "bottom"]
def t_R__add__ (K : Frg) (C CN : Addr) : TS := (tSeq (tAsg (tcR (SpO C CN S_told_pair) E0 (tCons (tVar 1) tNil)) (gTup K 2 (gCons (gName 2) (gCons (gName 3) gNil))))
  (tRet (StX.tMakeR C (spIni C []) E0 (tCons (tOp rAddI (tOp rMulI (tFld K (tVar 0) "own_top") (tVar 3)) (tOp rMulI (tVar 2) (tFld K (tVar 0) "own_bottom"))) (tCons (tOp rMulI (tFld K (tVar 0) "own_bottom") (tVar 3)) tNil)))))

abbrev N_R__sub__ : List Str := ["self", "other", "top", "bottom"]
def t_R__sub__ (K : Frg) (C CN : Addr) : TS := (tSeq (tAsg (tcR (SpO C CN S_told_pair) E0 (tCons (tVar 1) tNil)) (gTup K 2 (gCons (gName 2) (gCons (gName 3) gNil))))
  (tRet (StX.tMakeR C (spIni C []) E0 (tCons (tOp rSubI (tOp rMulI (tFld K (tVar 0) "own_top") (tVar 3)) (tOp rMulI (tVar 2) (tFld K (tVar 0) "own_bottom"))) (tCons (tOp rMulI (tFld K (tVar 0) "own_bottom") (tVar 3)) tNil)))))

abbrev N_R__mul__ : List Str := ["self", "other", "top", "bottom"]
def t_R__mul__ (K : Frg) (C CN : Addr) : TS := (tSeq (tAsg (tcR (SpO C CN S_told_pair) E0 (tCons (tVar 1) tNil)) (gTup K 2 (gCons (gName 2) (gCons (gName 3) gNil))))
  (tRet (StX.tMakeR C (spIni C []) E0 (tCons (tOp rMulI (tFld K (tVar 0) "own_top") (tVar 2)) (tCons (tOp rMulI (tFld K (tVar 0) "own_bottom") (tVar 3)) tNil)))))

abbrev N_R__rmul__ : List Str := ["self", "other", "top", "bottom"]
def t_R__rmul__ (K : Frg) (C CN : Addr) : TS := (tSeq (tAsg (tcR (SpO C CN S_told_pair) E0 (tCons (tVar 1) tNil)) (gTup K 2 (gCons (gName 2) (gCons (gName 3) gNil))))
  (tRet (StX.tMakeR C (spIni C []) E0 (tCons (tOp rMulI (tFld K (tVar 0) "own_top") (tVar 2)) (tCons (tOp rMulI (tFld K (tVar 0) "own_bottom") (tVar 3)) tNil)))))

abbrev N_R__neg__ : List Str := ["self"]
def t_R__neg__ (K : Frg) (C CN : Addr) : TS := (tRet (StX.tMakeR C (spIni C []) E0 (tCons (tOp rSubI (tC (.int 0)) (tFld K (tVar 0) "own_top")) (tCons (tFld K (tVar 0) "own_bottom") tNil))))

abbrev N_Rover : List Str := ["self", "other", "top", "bottom"]
def t_Rover (K : Frg) (C CN : Addr) : TS := (tSeq (tAsg (tcR (SpO C CN S_told_pair) E0 (tCons (tVar 1) tNil)) (gTup K 2 (gCons (gName 2) (gCons (gName 3) gNil))))
  (tSeq (tIfS (tTest (tOp rEq (tVar 2) (tC (.int 0)))) tNever tNext)
  (tRet (StX.tMakeR C (spIni C []) E0 (tCons (tOp rMulI (tFld K (tVar 0) "own_top") (tVar 3)) (tCons (tOp rMulI (tFld K (tVar 0) "own_bottom") (tVar 2)) tNil))))))

abbrev N_Ris_below : List Str := ["self", "other", "top", "bottom"]
def t_Ris_below (K : Frg) (C CN : Addr) : TS := (tSeq (tAsg (tcR (SpO C CN S_told_pair) E0 (tCons (tVar 1) tNil)) (gTup K 2 (gCons (gName 2) (gCons (gName 3) gNil))))
  (tRet (tOp rLtI (tOp rMulI (tFld K (tVar 0) "own_top") (tVar 3)) (tOp rMulI (tVar 2) (tFld K (tVar 0) "own_bottom")))))

abbrev N_R__eq__ : List Str := ["self", "other"]
def t_R__eq__ (K : Frg) (C CN : Addr) : TS := (tSeq (tIfS (tNot (tB (tCB (rIsi K) (tCons (tVar 1) (tCons (tC (.ref C)) tNil))))) (tRet (tC (.bl false))) tNext)
  (tRet (tAndV (tOp rEq (tFld K (tVar 0) "own_top") (tFld K (tVar 1) "own_top")) (tOp rEq (tFld K (tVar 0) "own_bottom") (tFld K (tVar 1) "own_bottom")))))

abbrev N_is_number : List Str := ["value"]
def t_is_number (K : Frg) (C CN : Addr) : TS := (tRet (tOrV (tcR (SpO C CN S_is_integer) E0 (tCons (tVar 0) tNil)) (tCB (rIsi K) (tCons (tVar 0) (tCons (tC (.ref C)) tNil)))))

abbrev N_ratio_of : List Str := ["number"]
def t_ratio_of (K : Frg) (C CN : Addr) : TS := (tRet (tIf (tB (tCB (rIsi K) (tCons (tVar 0) (tCons (tC (.ref C)) tNil)))) (tVar 0) (StX.tMakeR C (spIni C [.int 1]) E0 (tCons (tVar 0) tNil))))

abbrev N_want_number : List Str := ["value"]
def t_want_number (K : Frg) (C CN : Addr) : TS := (tSeq (tIfS (tNot (tB (tcR (SpO C CN S_is_number) E0 (tCons (tVar 0) tNil)))) tNever tNext)
  (tRet (tcR (SpO C CN S_ratio_of) E0 (tCons (tVar 0) tNil))))

abbrev N_total_of : List Str := ["ratios", "found", "ratio"]
def t_total_of (K : Frg) (C CN : Addr) : TS := (tSeq (tAsg (StX.tMakeR C (spIni C [.int 1]) E0 (tCons (tC (.int 0)) tNil)) (gName 1))
  (tSeq (tFor (iSeq K (tVar 0)) (gName 2) (tAsg (tOp (rAdd C CN) (tVar 1) (tVar 2)) (gName 1)))
  (tRet (tVar 1))))

abbrev N_Rtotal : List Str := ["cls", "numbers", "number"]
def t_Rtotal (K : Frg) (C CN : Addr) : TS := (tSeq (tIfS (tNot (tB (tcR (SpO C CN S_is_list) E0 (tCons (tVar 1) tNil)))) tNever tNext)
  (tRet (tcR (SpO C CN S_total_of) E0 (tCons (tLc (iSeq K (tVar 1)) (gName 2) tYes (tcR (SpO C CN S_want_number) E0 (tCons (tVar 2) tNil)) [2]) tNil))))

abbrev N_weighed : List Str := ["weights", "values", "weight", "value"]
def t_weighed (K : Frg) (C CN : Addr) : TS := (tRet (tcR (SpO C CN S_total_of) E0 (tCons (tLc (iZip K (tCons (tVar 0) (tCons (tVar 1) tNil))) (gTup K 2 (gCons (gName 2) (gCons (gName 3) gNil))) tYes (tOp (rMul C CN) (tVar 2) (tVar 3)) [2, 3]) tNil)))

/-! ### bodies -/
abbrev EV (d : D) (μ : Mu) : AEn := { nx := fun _ μ2 => d = .non ∧ μ.Sublist μ2, rt := fun r2 μ2 => (r2 = .val d ∨ ∃ ds, r2 = .fresh ds ∧ d = .lst ds) ∧ μ.Sublist μ2, er := fun _ => False }
theorem bod_pG {C : Addr} {ts : TS} {n : Nat} {f : List D → D → Prop} (h : ∀ ds μ d, f ds d → ∀ Γ : Gam, Γ.dm = dom μ → ASg C Γ ts (startA n ds) μ (EV d μ)) : Bod C ts n (pS f) := fun ds μ r μ' hS hd Γ hΓ => by
  obtain ⟨rfl, d, rfl, hf⟩ := hS
  intro σ B H Dn rs ok gx f
  refine h ds μ' d hf Γ hΓ σ B H Dn rs ok gx ⟨?_, ?_, fun _ _ _ _ _ z => z.elim, fun _ _ _ _ _ z => z.elim, fun _ _ _ z => z.elim⟩
  · rintro ρ μ2 σ B H ⟨rfl, hs⟩; exact f.nx _ _ _ _ _ ⟨rfl, hs⟩
  · rintro r2 μ2 v B H ⟨rfl | ⟨es, rfl, rfl⟩, hs⟩
    · exact f.rt _ _ _ _ _ ⟨.inl rfl, hs⟩
    · exact f.rt _ _ _ _ _ ⟨.inr ⟨es, rfl, rfl⟩, hs⟩
theorem bod_pS {C : Addr} {ts : TS} {n : Nat} {f : List D → D → Prop} (h : ∀ ds μ d, f ds d → AS C ts (startA n ds) μ (EV d μ)) : Bod C ts n (pS f) := bod_pG fun ds μ d hf Γ _ => (h ds μ d hf).toG
theorem ev {d : D} {μ μ2 : Mu} (h : μ.Sublist μ2 := by exact List.Sublist.refl _) : (EV d μ).rt (.val d) μ2 := ⟨.inl rfl, h⟩
theorem evF {ds : List D} {μ μ2 : Mu} (h : μ.Sublist μ2 := by exact List.Sublist.refl _) : (EV (.lst ds) μ).rt (.fresh ds) μ2 := ⟨.inr ⟨ds, rfl, rfl⟩, h⟩
section
variable {C CN : Addr} {K : Frg} {mg : Str → Option Value} {ρ : Sto} {μ : Mu} {E : AEn} {x y : D} {q : Rat} {te : TE} {tr : TA}
theorem len1 {f : List D → D → Prop} {n : Nat} (h : ∀ ds d, f ds d → ds.length = n) : ∀ ds μ r μ', pS f ds μ r μ' → ds.length = n := fun ds μ r μ' ⟨_, d, _, hf⟩ => h ds d hf
theorem len_is_integer : ∀ ds μ r μ', S_is_integer ds μ r μ' → ds.length = 1 := len1 fun ds d ⟨x, e, _⟩ => by rw [e]; rfl
theorem len_is_list : ∀ ds μ r μ', S_is_list ds μ r μ' → ds.length = 1 := len1 fun ds d ⟨x, e, _⟩ => by rw [e]; rfl
theorem len_common_part : ∀ ds μ r μ', S_common_part ds μ r μ' → ds.length = 2 := len1 fun ds d ⟨x, y, e, _⟩ => by rw [e]; rfl
theorem len_told_pair : ∀ ds μ r μ', S_told_pair ds μ r μ' → ds.length = 1 := len1 fun ds d ⟨x, y, e, _⟩ => by rw [e]; rfl
theorem len_is_number : ∀ ds μ r μ', S_is_number ds μ r μ' → ds.length = 1 := len1 fun ds d ⟨x, e, _⟩ => by rw [e]; rfl
theorem len_ratio_of : ∀ ds μ r μ', S_ratio_of ds μ r μ' → ds.length = 1 := len1 fun ds d ⟨x, y, e, _⟩ => by rw [e]; rfl
theorem len_want_number : ∀ ds μ r μ', S_want_number ds μ r μ' → ds.length = 1 := len_ratio_of
theorem len_total_of : ∀ ds μ r μ', S_total_of ds μ r μ' → ds.length = 1 := len1 fun ds d ⟨x, e, _⟩ => by rw [e]; rfl
theorem len_Rtotal : ∀ ds μ r μ', S_Rtotal ds μ r μ' → ds.length = 2 := len1 fun ds d ⟨x, y, e, _⟩ => by rw [e]; rfl
theorem len_weighed : ∀ ds μ r μ', S_weighed ds μ r μ' → ds.length = 2 := len1 fun ds d ⟨x, y, e, _⟩ => by rw [e]; rfl
theorem len_bin {f : Rat → Rat → Rat} : ∀ ds μ r μ', S_bin f ds μ r μ' → ds.length = 2 := len1 fun ds d ⟨x, y, z, e, _⟩ => by rw [e]; rfl
theorem len_R__add__ : ∀ ds μ r μ', S_R__add__ ds μ r μ' → ds.length = 2 := len_bin
theorem len_R__sub__ : ∀ ds μ r μ', S_R__sub__ ds μ r μ' → ds.length = 2 := len_bin
theorem len_R__mul__ : ∀ ds μ r μ', S_R__mul__ ds μ r μ' → ds.length = 2 := len_bin
theorem len_R__rmul__ : ∀ ds μ r μ', S_R__rmul__ ds μ r μ' → ds.length = 2 := len_bin
theorem len_Rover : ∀ ds μ r μ', S_Rover ds μ r μ' → ds.length = 2 := len1 fun ds d ⟨x, y, z, e, _⟩ => by rw [e]; rfl
theorem len_Ris_below : ∀ ds μ r μ', S_Ris_below ds μ r μ' → ds.length = 2 := len1 fun ds d ⟨x, y, z, e, _⟩ => by rw [e]; rfl
theorem len_R__neg__ : ∀ ds μ r μ', S_R__neg__ ds μ r μ' → ds.length = 1 := len1 fun ds d ⟨x, e, _⟩ => by rw [e]; rfl
theorem len_R__eq__ : ∀ ds μ r μ', S_R__eq__ ds μ r μ' → ds.length = 2 := len1 fun ds d ⟨x, y, e, _⟩ => by rw [e]; rfl
theorem len_Rsign : ∀ ds μ r μ', S_Rsign ds μ r μ' → ds.length = 1 := len1 fun ds d ⟨x, e, _⟩ => by rw [e]; rfl
theorem len_Rtop : ∀ ds μ r μ', S_Rtop ds μ r μ' → ds.length = 1 := len1 fun ds d ⟨x, e, _⟩ => by rw [e]; rfl
theorem len_Rbottom : ∀ ds μ r μ', S_Rbottom ds μ r μ' → ds.length = 1 := len1 fun ds d ⟨x, e, _⟩ => by rw [e]; rfl

theorem aa1 (h : AE C te ρ μ x μ) : AA C (tCons te tNil) ρ μ [x] μ := aa_cons h aa_nil
theorem aa2 {tf : TE} (h : AE C te ρ μ x μ) (h2 : AE C tf ρ μ y μ) : AA C (tCons te (tCons tf tNil)) ρ μ [x, y] μ := aa_cons h (aa_cons h2 aa_nil)
theorem aa3 {tf tg : TE} {z : D} (h : AE C te ρ μ x μ) (h2 : AE C tf ρ μ y μ) (h3 : AE C tg ρ μ z μ) : AA C (tCons te (tCons tf (tCons tg tNil))) ρ μ [x, y, z] μ := aa_cons h (aa_cons h2 (aa_cons h3 aa_nil))

theorem bod_is_integer (T : Tx K mg) : Bod (cR K) (t_is_integer K (cR K) (cN K)) 1 S_is_integer := bod_pS fun ds μ d ⟨x, e, hx, hd⟩ => by
  subst e hd
  refine as_ret (ae_and (b := isD x "int") (c := !isD x "bool") (ae_cb (aa2 (ae_var rfl) ae_ty) (ac_isi T (by simp) hx)) fun _ => ae_not (ae_cb (aa2 (ae_var rfl) ae_ty) (ac_isi T (by simp) hx))) ?_
  have e : (isD x "int" && !isD x "bool") = isI x := by cases x <;> first | rfl | (cases hx; done)
  rw [e]
  exact ev
theorem bod_is_list (T : Tx K mg) : Bod (cR K) (t_is_list K (cR K) (cN K)) 1 S_is_list := bod_pS fun ds μ d ⟨x, e, hx, hd⟩ => by
  subst e hd
  exact as_ret (ae_cb (aa2 (ae_var rfl) (ae_tup (aa2 ae_ty ae_ty) (by decide))) (ac_isiT T hx)) ev
theorem abs_ite (a : Int) : (if a < 0 then -a else a) = (a.natAbs : Int) := by split <;> omega
theorem bod_common_part : Bod C (t_common_part K C CN) 2 S_common_part := bod_pS fun ds μ d ⟨a, b, e, hd⟩ => by
  subst e hd
  refine as_seq (as_par (aa2 (ae_cb (aa1 (ae_var rfl)) ac_abs) (ae_cb (aa1 (ae_var rfl)) ac_abs)) ?_)
  rw [abs_ite, abs_ite]
  refine as_seq (as_while (fun m ρ' μ' => μ' = μ ∧ ∃ c : Nat, ρ' = [some (.int c), some (.int m)] ∧ Nat.gcd c m = Int.gcd a b) b.natAbs ⟨rfl, a.natAbs, rfl, rfl⟩ ?_)
  rintro m ρ' μ' ⟨rfl, c, rfl, hg⟩
  refine ⟨_, _, at_test (ae_op (ae_var rfl) ae_int a2_gt), fun hb => ?_, fun hb => ?_⟩
  · have hm : 0 < m := by have := of_decide_eq_true hb; omega
    refine as_par (aa2 (ae_var rfl) (ae_op (ae_cb (aa1 (ae_var rfl)) ac_int) (ae_var rfl) (a2_modP (by omega)))) ⟨c % m, Nat.mod_lt _ hm, rfl, m, ?_, ?_⟩
    · rw [← Int.natCast_emod]; rfl
    · rw [← hg, Nat.gcd_comm c m, Nat.gcd_rec m c, Nat.gcd_comm]
  · have hm : m = 0 := by have := of_decide_eq_false hb; omega
    subst hm
    rw [Nat.gcd_zero_right] at hg
    subst hg
    exact as_ret (ae_var rfl) ev
theorem bod_told_pair (T : Tx K mg) : Bod (cR K) (t_told_pair K (cR K) (cN K)) 1 S_told_pair := bod_pS fun ds μ d ⟨x, q, e, hx, hd⟩ => by
  subst e hd
  cases hx with
  | rat q => exact as_seq (as_ifT (at_B (ae_cb (aa2 (ae_var rfl) ae_ptr) (ac_isiR T rfl))) (as_ret (ae_tup (aa2 (ae_fldT T.cls T.nt (ae_var rfl)) (ae_fldB T.cls T.nb (ae_var rfl))) (Nat.le_of_ble_eq_true rfl)) ev))
  | int i => 
    refine as_seq (as_ifF (at_B (ae_cb (aa2 (ae_var rfl) ae_ptr) (ac_isiR T rfl))) (as_next ?_))
    refine as_seq (as_ifF (at_not (at_B (b := true) (ae_call (aa1 (ae_var rfl)) (pS.mk ⟨_, rfl, rfl, rfl⟩)))) (as_next ?_))
    refine as_ret (ae_tup (aa2 (ae_var rfl) ae_int) (Nat.le_of_ble_eq_true rfl)) ?_
    rw [Rat.num_intCast, Rat.den_intCast]
    exact ev
theorem Nm.plain (h : Nm x q) : plainD x = true := by cases h <;> rfl
theorem log2_pos {n a : Nat} (ha : 0 < a) (h : n < 2 ^ a) : n.log2 < a := PySem.Flt.log2_lt_of ha h
theorem natAbs_mul_lt {a b : Int} {m n : Nat} (h1 : a.natAbs < 2 ^ m) (h2 : b.natAbs < 2 ^ n) : (a * b).natAbs < 2 ^ (m + n) := wide_lt h1 h2
theorem natAbs_add_lt {a b : Int} {m : Nat} (h1 : a.natAbs < 2 ^ m) (h2 : b.natAbs < 2 ^ m) : (a + b).natAbs < 2 ^ (m + 1) := by
  have := Int.natAbs_add_le a b
  rw [Nat.pow_succ]
  omega
theorem natAbs_sub_lt {a b : Int} {m : Nat} (h1 : a.natAbs < 2 ^ m) (h2 : b.natAbs < 2 ^ m) : (a - b).natAbs < 2 ^ (m + 1) := by
  have := Int.natAbs_sub_le a b
  rw [Nat.pow_succ]
  omega
theorem Sm.n (h : Sm q) : q.num.natAbs < 2 ^ 4490 := h.1
theorem Sm.d (h : Sm q) : (q.den : Int).natAbs < 2 ^ 4490 := by rw [Int.natAbs_natCast]; exact h.2
theorem cmul {a b : Int} (h1 : a.natAbs < 2 ^ 4490) (h2 : b.natAbs < 2 ^ 4490) : CMulW a b := wide_mul h1 h2 (by decide) (by decide) (by decide)
theorem lg1 {a b : Int} (h1 : a.natAbs < 2 ^ 4490) (h2 : b.natAbs < 2 ^ 4490) : (a * b).natAbs.log2 < 8999 := Nat.lt_of_lt_of_le (log2_pos (a := 4490 + 4490) (by decide) (natAbs_mul_lt h1 h2)) (by decide)
theorem lg2 {a b c d : Int} (h1 : a.natAbs < 2 ^ 4490) (h2 : b.natAbs < 2 ^ 4490) (h3 : c.natAbs < 2 ^ 4490) (h4 : d.natAbs < 2 ^ 4490) : (a * b + c * d).natAbs.log2 < 100000 := Nat.lt_of_lt_of_le (log2_pos (a := 4490 + 4490 + 1) (by decide) (natAbs_add_lt (natAbs_mul_lt h1 h2) (natAbs_mul_lt h3 h4))) (by decide)
theorem lg3 {a b c d : Int} (h1 : a.natAbs < 2 ^ 4490) (h2 : b.natAbs < 2 ^ 4490) (h3 : c.natAbs < 2 ^ 4490) (h4 : d.natAbs < 2 ^ 4490) : (a * b - c * d).natAbs.log2 < 100000 := Nat.lt_of_lt_of_le (log2_pos (a := 4490 + 4490 + 1) (by decide) (natAbs_sub_lt (natAbs_mul_lt h1 h2) (natAbs_mul_lt h3 h4))) (by decide)
theorem lg100 {n : Nat} (h : n < 8999) : n < 100000 := Nat.lt_of_lt_of_le h (by decide)
theorem as_pair {te : TE} {ta : TA} {ts : TS} {v : Str} {i j : Nat} (hx : Nm y q) (h0 : AE C te ρ μ y μ) (h : AS C ts ((ρ.set i (some (.int q.num))).set j (some (.int q.den))) μ E) : AS C (tSeq (tAsg (tcR (SpO C CN S_told_pair) E0 (tCons te tNil)) (gTup K 2 (gCons (gName i) (gCons (gName j) gNil)))) ts) ρ μ E :=
  as_seq (as_asg (ae_call (aa1 h0) (pS.mk ⟨_, q, rfl, hx, rfl⟩)) (ag_tup rfl (ags_cons ag_name (ags_cons ag_name ags_nil))) h)
theorem bod_R__add__ (T : Tx K mg) : Bod (cR K) (t_R__add__ K (cR K) (cN K)) 4 S_R__add__ := bod_pS fun ds μ d ⟨p, x, q, e, hx, h1, h2, hd⟩ => by
  subst e hd
  refine as_pair (v := "") (ta := tNil) hx (ae_var rfl) (as_ret (ae_make2 (aa2 (ae_op (ae_op (ae_fldT T.cls T.nt (ae_var rfl)) (ae_var rfl) (a2_mulI (cmul h1.n h2.d))) (ae_op (ae_var rfl) (ae_fldB T.cls T.nb (ae_var rfl)) (a2_mulI (cmul h2.n h1.d))) a2_addI) (ae_op (ae_fldB T.cls T.nb (ae_var rfl)) (ae_var rfl) (a2_mulI (cmul h1.d h2.d)))) ?_ (lg2 h1.n h2.d h2.n h1.d) (lg1 h1.d h2.d)) ?_)
  · exact Int.mul_ne_zero (by have := p.den_nz; omega) (by have := q.den_nz; omega)
  · rw [q_add]; exact ev
theorem bod_R__sub__ (T : Tx K mg) : Bod (cR K) (t_R__sub__ K (cR K) (cN K)) 4 S_R__sub__ := bod_pS fun ds μ d ⟨p, x, q, e, hx, h1, h2, hd⟩ => by
  subst e hd
  refine as_pair (v := "") (ta := tNil) hx (ae_var rfl) (as_ret (ae_make2 (aa2 (ae_op (ae_op (ae_fldT T.cls T.nt (ae_var rfl)) (ae_var rfl) (a2_mulI (cmul h1.n h2.d))) (ae_op (ae_var rfl) (ae_fldB T.cls T.nb (ae_var rfl)) (a2_mulI (cmul h2.n h1.d))) a2_subI) (ae_op (ae_fldB T.cls T.nb (ae_var rfl)) (ae_var rfl) (a2_mulI (cmul h1.d h2.d)))) ?_ (lg3 h1.n h2.d h2.n h1.d) (lg1 h1.d h2.d)) ?_)
  · exact Int.mul_ne_zero (by have := p.den_nz; omega) (by have := q.den_nz; omega)
  · rw [q_sub]; exact ev
theorem bod_R__mul__ (T : Tx K mg) : Bod (cR K) (t_R__mul__ K (cR K) (cN K)) 4 S_R__mul__ := bod_pS fun ds μ d ⟨p, x, q, e, hx, h1, h2, hd⟩ => by
  subst e hd
  refine as_pair (v := "") (ta := tNil) hx (ae_var rfl) (as_ret (ae_make2 (aa2 (ae_op (ae_fldT T.cls T.nt (ae_var rfl)) (ae_var rfl) (a2_mulI (cmul h1.n h2.n))) (ae_op (ae_fldB T.cls T.nb (ae_var rfl)) (ae_var rfl) (a2_mulI (cmul h1.d h2.d)))) ?_ (lg100 (lg1 h1.n h2.n)) (lg1 h1.d h2.d)) ?_)
  · exact Int.mul_ne_zero (by have := p.den_nz; omega) (by have := q.den_nz; omega)
  · rw [q_mul]; exact ev
theorem bod_R__rmul__ (T : Tx K mg) : Bod (cR K) (t_R__rmul__ K (cR K) (cN K)) 4 S_R__rmul__ := bod_R__mul__ T
theorem bod_Rover (T : Tx K mg) : Bod (cR K) (t_Rover K (cR K) (cN K)) 4 S_Rover := bod_pS fun ds μ d ⟨p, x, q, e, hx, h1, h2, h0, hd⟩ => by
  subst e hd
  have hn : q.num ≠ 0 := fun z => h0 (Rat.num_eq_zero.mp z)
  refine as_pair (v := "") (ta := tNil) hx (ae_var rfl) (as_seq (as_ifF (at_test ((ae_op (ae_var rfl) ae_int (a2_eqS rfl)).is (by show D.bl (decide (q.num = 0)) = .bl false; rw [decide_eq_false hn]))) (as_next (as_ret (ae_make2 (aa2 (ae_op (ae_fldT T.cls T.nt (ae_var rfl)) (ae_var rfl) (a2_mulI (cmul h1.n h2.d))) (ae_op (ae_fldB T.cls T.nb (ae_var rfl)) (ae_var rfl) (a2_mulI (cmul h1.d h2.n)))) ?_ (lg100 (lg1 h1.n h2.d)) (lg1 h1.d h2.n)) ?_))))
  · exact Int.mul_ne_zero (by have := p.den_nz; omega) hn
  · rw [q_div _ _ h0]; exact ev
theorem bod_R__neg__ (T : Tx K mg) : Bod (cR K) (t_R__neg__ K (cR K) (cN K)) 1 S_R__neg__ := bod_pS fun ds μ d ⟨p, e, h1, hd⟩ => by
  subst e hd
  refine as_ret (ae_make2 (aa2 (ae_op ae_int (ae_fldT T.cls T.nt (ae_var rfl)) a2_subI) (ae_fldB T.cls T.nb (ae_var rfl))) (by have := p.den_nz; omega) ?_ (Nat.lt_of_lt_of_le (log2_pos (by decide) h1.d) (by decide))) ?_
  · rw [Int.zero_sub, Int.natAbs_neg]; exact Nat.lt_of_lt_of_le (log2_pos (by decide) h1.n) (by decide)
  · rw [q_neg]; exact ev
theorem bod_Ris_below (T : Tx K mg) : Bod (cR K) (t_Ris_below K (cR K) (cN K)) 4 S_Ris_below := bod_pS fun ds μ d ⟨p, x, q, e, hx, h1, h2, hd⟩ => by
  subst e hd
  refine as_pair (v := "") (ta := tNil) hx (ae_var rfl) (as_ret (ae_op (ae_op (ae_fldT T.cls T.nt (ae_var rfl)) (ae_var rfl) (a2_mulI (cmul h1.n h2.d))) (ae_op (ae_var rfl) (ae_fldB T.cls T.nb (ae_var rfl)) (a2_mulI (cmul h2.n h1.d))) a2_lt) ?_)
  rw [q_lt]; exact ev
theorem bod_R__eq__ (T : Tx K mg) : Bod (cR K) (t_R__eq__ K (cR K) (cN K)) 2 S_R__eq__ := bod_pS fun ds μ d ⟨p, q, e, hd⟩ => by
  subst e hd
  refine as_seq (as_ifF (at_not (b := true) (at_B (ae_cb (aa2 (ae_var rfl) ae_ptr) (ac_isiR T rfl)))) (as_next (as_ret (ae_and (ae_op (ae_fldT T.cls T.nt (ae_var rfl)) (ae_fldT T.cls T.nt (ae_var rfl)) (a2_eqS rfl)) fun _ => ae_op (ae_fldB T.cls T.nb (ae_var rfl)) (ae_fldB T.cls T.nb (ae_var rfl)) (a2_eqS rfl)) ?_)))
  show (EV (.bl (decide (p = q))) μ).rt (.val (.bl (decide (p.num = q.num) && decide ((p.den : Int) = q.den)))) μ
  rw [q_eq]; exact ev
theorem bod_Rsign (T : Tx K mg) : Bod (cR K) (t_Rsign K (cR K) (cN K)) 1 S_Rsign := bod_pS fun ds μ d ⟨p, e, hd⟩ => by
  subst e hd
  refine as_ret (ae_op (ae_cb (aa1 (ae_op (ae_fldT T.cls T.nt (ae_var rfl)) ae_int a2_gt)) ac_intB) (ae_cb (aa1 (ae_op (ae_fldT T.cls T.nt (ae_var rfl)) ae_int a2_lt)) ac_intB) a2_subI) ?_
  rw [q_sgn]; exact ev
theorem bod_Rtop (T : Tx K mg) : Bod (cR K) (t_Rtop K (cR K) (cN K)) 1 S_Rtop := bod_pS fun ds μ d ⟨p, e, hd⟩ => by
  subst e hd
  exact as_ret (ae_fldT T.cls T.nt (ae_var rfl)) ev
theorem bod_Rbottom (T : Tx K mg) : Bod (cR K) (t_Rbottom K (cR K) (cN K)) 1 S_Rbottom := bod_pS fun ds μ d ⟨p, e, hd⟩ => by
  subst e hd
  exact as_ret (ae_fldB T.cls T.nb (ae_var rfl)) ev
theorem bod_is_number (T : Tx K mg) : Bod (cR K) (t_is_number K (cR K) (cN K)) 1 S_is_number := bod_pS fun ds μ d ⟨x, e, hx, hd⟩ => by
  subst e hd
  refine as_ret (ae_or (b := isI x) (c := isR x) (ae_call (aa1 (ae_var rfl)) (pS.mk ⟨_, rfl, hx, rfl⟩)) fun _ => ae_cb (aa2 (ae_var rfl) ae_ptr) (ac_isiR T hx)) ?_
  have e : (isI x || isR x) = isN x := by cases x <;> rfl
  rw [e]; exact ev
theorem bod_ratio_of (T : Tx K mg) : Bod (cR K) (t_ratio_of K (cR K) (cN K)) 1 S_ratio_of := bod_pS fun ds μ d ⟨x, q, e, hx, h1, hd⟩ => by
  subst e hd
  cases hx with
  | rat q => exact as_ret (ae_ifT (at_B (b := true) (ae_cb (aa2 (ae_var rfl) ae_ptr) (ac_isiR T rfl))) (ae_var rfl)) ev
  | int i =>
    refine as_ret (ae_ifF (at_B (b := false) (ae_cb (aa2 (ae_var rfl) ae_ptr) (ac_isiR T rfl))) (ae_make1 (aa1 (ae_var rfl)) ?_)) ?_
    · have := h1.n; rw [Rat.num_intCast] at this; exact Nat.lt_of_lt_of_le (log2_pos (by decide) this) (by decide)
    · rw [q_one]; exact ev
theorem bod_want_number (T : Tx K mg) : Bod (cR K) (t_want_number K (cR K) (cN K)) 1 S_want_number := bod_pS fun ds μ d ⟨x, q, e, hx, h1, hd⟩ => by
  subst e hd
  refine as_seq (as_ifF (at_not (b := true) (at_B (ae_call (aa1 (ae_var rfl)) (pS.mk ⟨_, rfl, hx.plain, by cases hx <;> rfl⟩)))) (as_next (as_ret (ae_call (aa1 (ae_var rfl)) (pS.mk ⟨_, q, rfl, hx, h1, rfl⟩)) ev)))
theorem sumR_succ {qs : List Rat} {i : Nat} {q : Rat} (h : qs[i]? = some q) : sumR (qs.take (i + 1)) = sumR (qs.take i) + q := by
  unfold sumR
  rw [List.take_succ, h, Option.toList_some, List.foldl_append]
  rfl
theorem map_rat_get {qs : List Rat} {i : Nat} {d : D} (h : (qs.map D.rat)[i]? = some d) : ∃ q, qs[i]? = some q ∧ d = .rat q := by
  rw [List.getElem?_map] at h
  cases e : qs[i]? with
  | none => rw [e] at h; cases h
  | some q => rw [e] at h; exact ⟨q, rfl, (Option.some.inj h).symm⟩
theorem bod_total_of : Bod C (t_total_of K C CN) 3 S_total_of := bod_pS fun ds μ d ⟨qs, e, hl, hs, hd⟩ => by
  subst e hd
  refine as_seq (as_set ((ae_make1 (aa1 ae_int)).is (d' := .rat (sumR (qs.take 0))) (by rw [q_one]; rfl)) ?_)
  refine as_seq (as_for (fun i ρ' μ' => μ' = μ ∧ ρ'[1]? = some (some (.rat (sumR (qs.take i)))) ∧ ρ'.length = 3) (ai_seqL (ae_var rfl)) ⟨rfl, rfl, rfl⟩ (fun i d ρ' μ' hd hp => ?_) fun ρ' μ' hp => ?_)
  · obtain ⟨rfl, h1, h2⟩ := hp
    obtain ⟨q, hq, rfl⟩ := map_rat_get hd
    refine ⟨_, _, ag_name, as_set (ae_op (ae_var (d := .rat (sumR (qs.take i))) ?_) (ae_var (d := .rat q) ?_) (add_q (hs.2 i) (hs.1 q (List.mem_of_getElem? hq)))) ⟨rfl, ?_, ?_⟩⟩
    · rw [List.getElem?_set_ne (by decide)]; exact h1
    · rw [List.getElem?_set_self (by omega)]
    · rw [List.getElem?_set_self (by rw [List.length_set]; omega), sumR_succ hq]
    · rw [List.length_set, List.length_set]; exact h2
  · obtain ⟨rfl, h1, h2⟩ := hp
    rw [List.length_map, List.take_length] at h1
    exact as_ret (ae_var h1) ev
theorem bod_weighed : Bod C (t_weighed K C CN) 4 S_weighed := bod_pS fun ds μ d ⟨ws, vs, e, hl, ⟨h1, h2, h3⟩, hd⟩ => by
  subst e hd
  have hz : ∀ i (p : D), (prsD (ws.map D.rat) (vs.map D.rat))[i]? = some p → ∃ a b, p = .tup [.rat a, .rat b] ∧ (dotL ws vs)[i]? = some (a * b) ∧ Sm a ∧ Sm b := fun i p hp => by
    obtain ⟨x, y, e1, e2, rfl⟩ := prsD_zip_get hp
    obtain ⟨a, ha, rfl⟩ := map_rat_get e1
    obtain ⟨b, hb, rfl⟩ := map_rat_get e2
    refine ⟨a, b, rfl, ?_, h1 a (List.mem_of_getElem? ha), h2 b (List.mem_of_getElem? hb)⟩
    unfold dotL
    rw [List.getElem?_zipWith, ha, hb]
  have hlen : (prsD (ws.map D.rat) (vs.map D.rat)).length = (dotL ws vs).length := by
    unfold dotL
    rw [prsD_length, List.length_map, List.length_map, List.length_zipWith]
  have hd0 : (dotL ws vs).length ≤ 1000 := by
    unfold dotL
    rw [List.length_zipWith]
    omega
  refine as_ret (ae_call (aa1 (AF.e ((af_map (fun i => .rat ((dotL ws vs).getD i 0)) (ai_zip (aa2 (ae_var rfl) (ae_var rfl))) (by omega) fun i p hp => ?_).is (es := (dotL ws vs).map D.rat) ?_))) (pS.mk ⟨dotL ws vs, rfl, hd0, h3, rfl⟩)) ev
  · obtain ⟨a, b, rfl, e1, e2, e3⟩ := hz i p hp
    refine ⟨_, _, ag_tup rfl (ags_cons ag_name (ags_cons ag_name ags_nil)), by simp, at_yes, (ae_op (ae_var rfl) (ae_var rfl) (mul_q e2 e3)).is ?_⟩
    rw [List.getD_eq_getElem?_getD, e1]
    rfl
  · rw [hlen]
    refine List.ext_getElem? fun i => ?_
    rw [List.getElem?_map, List.getElem?_map]
    by_cases hi : i < (dotL ws vs).length
    · rw [List.getElem?_range hi, List.getElem?_eq_getElem hi]
      simp [hi]
    · rw [List.getElem?_eq_none (by simpa using hi), List.getElem?_eq_none (by simpa using hi)]
      rfl
theorem bod_Rtotal (T : Tx K mg) : Bod (cR K) (t_Rtotal K (cR K) (cN K)) 3 S_Rtotal := bod_pS fun ds μ d ⟨a, qs, e, hl, hs, hd⟩ => by
  subst e hd
  refine as_seq (as_ifF (at_not (b := true) (at_B (ae_call (aa1 (ae_var rfl)) (pS.mk ⟨_, rfl, rfl, rfl⟩)))) (as_next (as_ret (ae_call (aa1 (AF.e ((af_map (fun i => .rat (qs.getD i 0)) (ai_seqL (ae_var rfl)) (by rw [List.length_map]; omega) fun i p hp => ?_).is (es := qs.map D.rat) ?_))) (pS.mk ⟨qs, rfl, hl, hs, rfl⟩)) ev)))
  · obtain ⟨q, hq, rfl⟩ := map_rat_get hp
    refine ⟨_, _, ag_name, by simp, at_yes, (ae_call (aa1 (ae_var rfl)) (pS.mk ⟨_, q, rfl, .rat q, hs.1 q (List.mem_of_getElem? hq), rfl⟩)).is ?_⟩
    rw [List.getD_eq_getElem?_getD, hq]
    rfl
  · rw [List.length_map]
    refine List.ext_getElem? fun i => ?_
    rw [List.getElem?_map, List.getElem?_map]
    by_cases hi : i < qs.length
    · rw [List.getElem?_range hi, List.getElem?_eq_getElem hi]
      simp [hi]
    · rw [List.getElem?_eq_none (by simpa using hi), List.getElem?_eq_none (by simpa using hi)]
      rfl
end
end OC
set_option maxHeartbeats 4000000
/-! OcY1: the class Ratio and numbers: the defs keep their promises. -/
namespace OC
open PySem PySem.Spec PyProof.Rows L2
theorem bt_isinstance : bootBuiltins "isinstance" = some (.builtin "isinstance") := by decide +kernel
theorem bt_len : bootBuiltins "len" = some (.builtin "len") := by decide +kernel
theorem bt_abs : bootBuiltins "abs" = some (.builtin "abs") := by decide +kernel
theorem bt_max : bootBuiltins "max" = some (.builtin "max") := by decide +kernel
theorem bt_min : bootBuiltins "min" = some (.builtin "min") := by decide +kernel
theorem bt_all : bootBuiltins "all" = some (.builtin "all") := by decide +kernel
theorem bt_divmod : bootBuiltins "divmod" = some (.builtin "divmod") := by decide +kernel
theorem bt_repr : bootBuiltins "repr" = some (.builtin "repr") := by decide +kernel
theorem bt_int : bootBuiltins "int" = some (.type "int") := by decide +kernel
theorem bt_bool : bootBuiltins "bool" = some (.type "bool") := by decide +kernel
theorem bt_str : bootBuiltins "str" = some (.type "str") := by decide +kernel
theorem bt_list : bootBuiltins "list" = some (.type "list") := by decide +kernel
theorem bt_tuple : bootBuiltins "tuple" = some (.type "tuple") := by decide +kernel
section
variable {P : Program} {w : World} {K : Frg} {mg : Str → Option Value} {base : Heap}
theorem Tx.kf (T : Tx K mg) (i : Nat) (d : He5.DefA) (h : dfs[i]? = some d) : PySem.W.keepIn K (.ref (d.at_ K)) = true := by
  obtain ⟨fd, F⟩ := T.def_ i d h
  exact F.kp
theorem sc_is_integer : FnScope N_is_integer ["value"] (defScope st_is_integer) := ⟨rfl, rfl, rfl, by decide +kernel, rfl, by decide +kernel, by decide +kernel⟩
theorem ok_is_integer (T : Tx K mg) : FnR P w K mg base CX0 1 (aF "is_integer" K) (SpO (cR K) (cN K) S_is_integer) := by
  obtain ⟨fd, F⟩ := T.def_ 0 df_is_integer rfl
  have b : Binds K fd ["value"] [] := F.bindsN fun _ _ _ _ _ _ us hl => match us, hl with | [_], _ => rfl
  refine fnr_of (F.ok sc_is_integer (SpO.len len_is_integer) fun cdv A outer s H vs Q E hr h => ⟨t_is_integer K (cR K) (cN K), PSs.nox ?_, Bod.go (N := N_is_integer) (by first | exact bod_is_integer T | exact bod_is_integer) h⟩) b
  exact (pss_one (ps_ret (pe_and (pe_callB call_isi rfl (T.free 0 _ rfl) bt_isinstance (pa_cons (pv 0) (pa_cons (pe_bltn rfl (T.free 1 _ rfl) bt_int rfl) pa_nil))) (pe_one (pe_not (pe_callB call_isi rfl (T.free 0 _ rfl) bt_isinstance (pa_cons (pv 0) (pa_cons (pe_bltn rfl (T.free 2 _ rfl) bt_bool rfl) pa_nil))))))))

theorem sc_is_list : FnScope N_is_list ["value"] (defScope st_is_list) := ⟨rfl, rfl, rfl, by decide +kernel, rfl, by decide +kernel, by decide +kernel⟩
theorem ok_is_list (T : Tx K mg) : FnR P w K mg base CX0 1 (aF "is_list" K) (SpO (cR K) (cN K) S_is_list) := by
  obtain ⟨fd, F⟩ := T.def_ 1 df_is_list rfl
  have b : Binds K fd ["value"] [] := F.bindsN fun _ _ _ _ _ _ us hl => match us, hl with | [_], _ => rfl
  refine fnr_of (F.ok sc_is_list (SpO.len len_is_list) fun cdv A outer s H vs Q E hr h => ⟨t_is_list K (cR K) (cN K), PSs.nox ?_, Bod.go (N := N_is_list) (by first | exact bod_is_list T | exact bod_is_list) h⟩) b
  exact (pss_one (ps_ret (pe_callB call_isiT rfl (T.free 0 _ rfl) bt_isinstance (pa_cons (pv 0) (pa_cons (pe_tup (pa_cons (pe_bltn rfl (T.free 3 _ rfl) bt_list rfl) (pa_cons (pe_bltn rfl (T.free 4 _ rfl) bt_tuple rfl) pa_nil))) pa_nil)))))

theorem sc_common_part : FnScope N_common_part ["one", "other"] (defScope st_common_part) := ⟨rfl, rfl, rfl, by decide +kernel, rfl, by decide +kernel, by decide +kernel⟩
theorem ok_common_part (T : Tx K mg) : FnR P w K mg base CX0 1 (aF "common_part" K) (SpO (cR K) (cN K) S_common_part) := by
  obtain ⟨fd, F⟩ := T.def_ 3 df_common_part rfl
  have b : Binds K fd ["one", "other"] [] := F.bindsN fun _ _ _ _ _ _ us hl => match us, hl with | [_, _], _ => rfl
  refine fnr_of (F.ok sc_common_part (SpO.len len_common_part) fun cdv A outer s H vs Q E hr h => ⟨t_common_part K (cR K) (cN K), PSs.nox ?_, Bod.go (N := N_common_part) (by first | exact bod_common_part T | exact bod_common_part) h⟩) b
  exact (pss_cons (ps_par (i := 0) (j := 1) rfl sc_common_part.nd rfl rfl (by decide) rfl rfl (pa_cons (pe_callB (call_abs) rfl (T.free 7 _ rfl) bt_abs (pa_cons (pv 0) pa_nil)) (pa_cons (pe_callB (call_abs) rfl (T.free 7 _ rfl) bt_abs (pa_cons (pv 1) pa_nil)) pa_nil)) rfl)
  (pss_cons (ps_while PassesOwn.never (pt_cmpR (op_gt) (pv 1) pe_int (nomark _)) (pss_one (ps_par (i := 0) (j := 1) rfl sc_common_part.nd rfl rfl (by decide) rfl rfl (pa_cons (pv 1) (pa_cons (pe_op op_mod (pe_callTy call_int1 rfl (T.free 1 _ rfl) bt_int (pa_cons (pv 0) pa_nil)) (pv 1)) pa_nil)) rfl)))
  (pss_one (ps_ret (pv 0)))))

/-! ### Ratio(t, b) -/
theorem bod_init (T : Tx K mg) (vs : List V) (H : Hp) (Q : VK) (E : XK) (h : spInit (cR K) vs H Q E) : t_R__init__ K (cR K) (cN K) { nx := fun _ H' => Q .non H', rt := Q } (L2.start N_R__init__ vs) H := by
  obtain ⟨x, dx, t, b, rfl, hx, hb, h1, h2, hQ⟩ := h
  obtain ⟨hg, e1, e2⟩ := rq_parts (t := t) hb
  generalize hc : (if b < 0 then 0 - (Int.gcd t b : Int) else (Int.gcd t b : Int)) = c at e1 e2
  have hc0 : c ≠ 0 := by rw [← hc]; split <;> omega
  have hcl : c.natAbs.log2 < 9000 := by
    have hle : c.natAbs ≤ b.natAbs := by
      have h3 : Int.gcd t b ≤ b.natAbs := Nat.gcd_le_right _ (Int.natAbs_pos.mpr hb)
      rw [← hc]; split <;> omega
    by_cases z : c.natAbs = 0
    · rw [z]; decide
    · have := (Nat.log2_lt (by omega)).mp (Nat.lt_of_lt_of_le h2 (show 8999 ≤ 8999 by omega))
      exact (Nat.log2_lt z).mpr (Nat.lt_of_le_of_lt hle (Nat.lt_of_lt_of_le this (Nat.pow_le_pow_right (by decide) (by decide))))
  let B : Hp := fun _ => none
  have rs : RS (cR K) B [some (.ptr x), some (.int t), some (.int b), none] (L2.start N_R__init__ [.ref x, .int t, .int b]) := ⟨rfl, fun i d e => by
    match i, e with
    | 0, e => cases e; exact ⟨_, rfl, rfl⟩
    | 1, e => cases e; exact ⟨_, rfl, rfl⟩
    | 2, e => cases e; exact ⟨_, rfl, rfl⟩
    | 3, e => cases e
    | n + 4, e => cases e⟩
  have ok0 : ∀ H : Hp, Ok (cR K) [] B H := fun H => ⟨fun a o e => (by cases e), trivial⟩
  let Γ : Gam := ⟨B, H, [], fun _ => False⟩
  have gx0 : Gx Γ [] B H := ⟨Same.refl _, fun _ _ h _ => h, fun _ _ h => .inl h, fun _ o h => ⟨o, h⟩, fun p hp => .inl hp⟩
  -- the last two rows
  have store : ∀ (σ : L2.St) (B' H' : Hp), RS (cR K) B' [some (.ptr x), some (.int t), some (.int b), some (.int c)] σ → Ok (cR K) [] B' H' → Gx Γ [] B' H' →
      tSeq (sFld K (tVar 0) (tOp rDivQ (tVar 1) (tVar 3)) "own_top") (sFld K (tVar 0) (tOp rDivQ (tVar 2) (tVar 3)) "own_bottom") { nx := fun _ H' => Q .non H', rt := Q } σ H' := by
    intro σ B' H' rs' ok' gx'
    have hx' : H' x = some (.ins (cR K) dx []) := gx'.hh x _ hx (by simp [Γ])
    refine (ae_op (ae_var rfl) (ae_var rfl) (a2_divQ hc0 hcl)).2 σ B' H' rs' ok' _ fun v B1 H1 g1 ok1 r1 => ?_
    obtain ⟨v0, s0, r0⟩ := rs'.at_ 0 _ rfl
    obtain rfl : v0 = V.ref x := r0
    obtain rfl : v = V.int (t.fdiv c) := r1
    have hx1 : H1 x = some (.ins (cR K) dx []) := g1.hh x _ hx' (by simp [dom])
    refine ⟨_, s0, x, cR K, dx, [], rfl, hx1, T.cls, T.nt, by simp, ?_⟩
    have ok2 : Ok (cR K) [] B (upd H1 x (.ins (cR K) dx [("own_top", .int (t.fdiv c))])) := ok0 _
    have rs2 : RS (cR K) B [some (.ptr x), some (.int t), some (.int b), some (.int c)] σ := ⟨rs'.len, fun i d e => by
      obtain ⟨v, q1, q2⟩ := rs'.at_ i d e
      refine ⟨v, q1, ?_⟩
      match i, e with
      | 0, e => cases e; exact q2
      | 1, e => cases e; exact q2
      | 2, e => cases e; exact q2
      | 3, e => cases e; exact q2
      | n + 4, e => cases e⟩
    refine (ae_op (ae_var rfl) (ae_var rfl) (a2_divQ hc0 hcl)).2 σ B _ rs2 ok2 _ fun v B3 H3 g3 ok3 r3 => ?_
    obtain rfl : v = V.int (b.fdiv c) := r3
    have hx3 : H3 x = some (.ins (cR K) dx [("own_top", .int (t.fdiv c))]) := g3.hh x _ upd_same (by simp [dom])
    refine ⟨_, s0, x, cR K, dx, _, rfl, hx3, T.cls, T.nb, by simp, ?_⟩
    refine hQ _ ?_ fun a o ha h => ?_
    · rw [upd_same]
      show some (HO.ins (cR K) dx [("own_top", V.int (t.fdiv c)), ("own_bottom", V.int (b.fdiv c))]) = _
      rw [e1, e2]
      rfl
    · rw [upd_ne ha]
      exact g3.hh a o (by rw [upd_ne ha]; exact g1.hh a o (gx'.hh a o h (by simp [Γ])) (by simp [dom])) (by simp [dom])
  have E1 : AEn := { nx := fun _ _ => True, rt := fun _ _ => False }
  refine (show AS (cR K) (tIfS (tNot (tB (tcR (SpO (cR K) (cN K) S_is_integer) E0 (tCons (tVar 1) tNil)))) tNever tNext) _ [] { nx := fun ρ μ => ρ = [some (.ptr x), some (.int t), some (.int b), none] ∧ μ = [], rt := fun _ _ => False } from
    as_ifF (at_not (b := true) (at_B (ae_call (aa1 (ae_var rfl)) (pS.mk ⟨_, rfl, rfl, rfl⟩)))) (as_next ⟨rfl, rfl⟩)) Γ _ B H _ rs (ok0 H) gx0 ⟨?_, fun _ _ _ _ _ z => z.elim, fun _ _ _ _ _ z => z.elim, fun _ _ _ _ _ z => z.elim, fun _ _ _ z => z.elim⟩
  rintro ρ μ σ1 B1 H1 ⟨rfl, rfl⟩ rs1 ok1 gx1
  have hb' : eqD (.int b) (.int 0) = false := decide_eq_false hb
  refine (show AS (cR K) (tIfS (tOr (tNot (tB (tcR (SpO (cR K) (cN K) S_is_integer) E0 (tCons (tVar 2) tNil)))) (tTest (tOp rEq (tVar 2) (tC (.int 0))))) tNever tNext) _ [] { nx := fun ρ μ => ρ = [some (.ptr x), some (.int t), some (.int b), none] ∧ μ = [], rt := fun _ _ => False } from
    as_ifF (at_or0 (at_not (b := true) (at_B (ae_call (aa1 (ae_var rfl)) (pS.mk ⟨_, rfl, rfl, rfl⟩)))) (at_test ((ae_op (ae_var rfl) ae_int (a2_eqS rfl)).is (by rw [hb'])))) (as_next ⟨rfl, rfl⟩)) Γ _ B1 H1 _ rs1 ok1 gx1 ⟨?_, fun _ _ _ _ _ z => z.elim, fun _ _ _ _ _ z => z.elim, fun _ _ _ _ _ z => z.elim, fun _ _ _ z => z.elim⟩
  rintro ρ μ σ2 B2 H2 ⟨rfl, rfl⟩ rs2 ok2 gx2
  refine (show AS (cR K) (tAsg (tcR (SpO (cR K) (cN K) S_common_part) E0 (tCons (tVar 1) (tCons (tVar 2) tNil))) (gName 3)) _ [] { nx := fun ρ μ => ρ = [some (.ptr x), some (.int t), some (.int b), some (.int (Int.gcd t b : Nat))] ∧ μ = [], rt := fun _ _ => False } from
    as_set (ae_call (aa2 (ae_var rfl) (ae_var rfl)) (pS.mk ⟨t, b, rfl, rfl⟩)) ⟨rfl, rfl⟩) Γ _ B2 H2 _ rs2 ok2 gx2 ⟨?_, fun _ _ _ _ _ z => z.elim, fun _ _ _ _ _ z => z.elim, fun _ _ _ _ _ z => z.elim, fun _ _ _ z => z.elim⟩
  rintro ρ μ σ3 B3 H3 ⟨rfl, rfl⟩ rs3 ok3 gx3
  refine (show AS (cR K) (tIfS (tTest (tOp rLtI (tVar 2) (tC (.int 0)))) (tAsg (tOp rSubI (tC (.int 0)) (tVar 3)) (gName 3)) tNext) _ [] { nx := fun ρ μ => ρ = [some (.ptr x), some (.int t), some (.int b), some (.int c)] ∧ μ = [], rt := fun _ _ => False } from
    as_if (at_test (ae_op (ae_var rfl) ae_int a2_lt)) (fun z => as_set (ae_op ae_int (ae_var rfl) a2_subI) ⟨by rw [← hc, if_pos (of_decide_eq_true z)]; rfl, rfl⟩) (fun z => as_next ⟨by rw [← hc, if_neg (of_decide_eq_false z)], rfl⟩)) Γ _ B3 H3 _ rs3 ok3 gx3 ⟨?_, fun _ _ _ _ _ z => z.elim, fun _ _ _ _ _ z => z.elim, fun _ _ _ _ _ z => z.elim, fun _ _ _ z => z.elim⟩
  rintro ρ μ σ4 B4 H4 ⟨rfl, rfl⟩ rs4 ok4 gx4
  exact store σ4 B4 H4 rs4 ok4 gx4
theorem sc_R__init__ : FnScope N_R__init__ ["self", "top", "bottom"] (defScope st_R__init__) := ⟨rfl, rfl, rfl, by decide +kernel, rfl, by decide +kernel, by decide +kernel⟩
theorem okF_R__init__ (T : Tx K mg) : ∃ fd, FnOk P w K mg base CX0 2 (aM "__init__" K) fd ["self", "top", "bottom"] (spInit (cR K)) ∧ (∃ ds, Vals [.int 1] ds ∧ Binds K fd ["self", "top", "bottom"] ds) ∧ Binds K fd ["self", "top", "bottom"] [] := by
  obtain ⟨fd, F⟩ := T.def_ 55 df_R__init__ rfl
  refine ⟨fd, ?_, ?_, ?_⟩
  rotate_left
  · exact F.binds1 (ps := ["self", "top", "bottom"]) 2 0 (List.cons_ne_nil _ _) rfl fun T kV doc pm an cdv ct us its h1 h2 => match us, its, h1, h2 with | [_, _], [_], _, _ => ⟨_, rfl, rfl⟩
  · obtain ⟨ds, v, b⟩ := F.binds1 (ps := ["self", "top", "bottom"]) 3 1 (List.cons_ne_nil _ _) rfl fun T kV doc pm an cdv ct us its h1 h2 => match us, its, h1, h2 with | [_, _, _], [_], _, _ => ⟨_, rfl, by kernel_rfl⟩
    cases v
    exact b
  refine F.ok sc_R__init__ (fun vs H Q E h => ?_) fun cdv A outer s H vs Q E hr h => ⟨t_R__init__ K (cR K) (cN K), PSs.nox ?_, bod_init T vs H Q E h⟩
  · obtain ⟨x, dx, t, b, rfl, _⟩ := h
    rfl
  exact (pss_cons (ps_if (pt_not (pt_val (pe_cR (ok_is_integer T) (hr.mono (by decide)) rfl (T.glo 0 _ rfl) (T.kf 0 _ rfl) pz (pa_cons (pv 1) pa_nil)))) (pss_one ps_never) pss_nil)
  (pss_cons (ps_if (PW.pt (pw_or (pt_not (pt_val (pe_cR (ok_is_integer T) (hr.mono (by decide)) rfl (T.glo 0 _ rfl) (T.kf 0 _ rfl) pz (pa_cons (pv 2) pa_nil)))) (pw_or1 (pt_cmpR op_eq (pv 2) pe_int (nomark _))))) (pss_one ps_never) pss_nil)
  (pss_cons (ps_set (i := 3) sc_R__init__.nd rfl (by first | exact Or.inl rfl | exact Or.inr rfl) (pe_cR (ok_common_part T) (hr.mono (by decide)) rfl (T.glo 3 _ rfl) (T.kf 3 _ rfl) pz (pa_cons (pv 1) (pa_cons (pv 2) pa_nil))))
  (pss_cons (ps_if (pt_cmpR (op_lt) (pv 2) pe_int (nomark _)) (pss_one (ps_set (i := 3) sc_R__init__.nd rfl (by first | exact Or.inl rfl | exact Or.inr rfl) (pe_op op_sub pe_int (pv 3)))) pss_nil)
  (pss_cons (ps_fld (pv 0) (pe_op op_fdivQ (pv 1) (pv 3)) rfl)
  (pss_one (ps_fld (pv 0) (pe_op op_fdivQ (pv 2) (pv 3)) rfl)))))))


theorem ok_R__init__1 (T : Tx K mg) : FnR P w K mg base CX0 2 (He.ma K (He.ga K "Ratio") "__init__") (spIni (cR K) [.int 1]) := by
  obtain ⟨fd, F, ⟨ds, v, b⟩, _⟩ := okF_R__init__ (P := P) (w := w) (base := base) T
  exact F.raw b v
theorem ok_R__init__2 (T : Tx K mg) : FnR P w K mg base CX0 2 (He.ma K (He.ga K "Ratio") "__init__") (spIni (cR K) []) := by
  obtain ⟨fd, F, _, b⟩ := okF_R__init__ (P := P) (w := w) (base := base) T
  exact F.raw b .nil
theorem sc_Rtop : FnScope N_Rtop ["self"] (defScope st_Rtop) := ⟨rfl, rfl, rfl, by decide +kernel, rfl, by decide +kernel, by decide +kernel⟩
theorem ok_Rtop (T : Tx K mg) : FnR P w K mg base CX0 1 (aG "top" K) (SpO (cR K) (cN K) S_Rtop) := by
  obtain ⟨fd, F⟩ := T.def_ 56 df_Rtop rfl
  have b : Binds K fd ["self"] [] := F.bindsN fun _ _ _ _ _ _ us hl => match us, hl with | [_], _ => rfl
  refine fnr_of (F.ok sc_Rtop (SpO.len len_Rtop) fun cdv A outer s H vs Q E hr h => ⟨t_Rtop K (cR K) (cN K), PSs.nox ?_, Bod.go (N := N_Rtop) (by first | exact bod_Rtop T | exact bod_Rtop) h⟩) b
  exact (pss_one (ps_ret (pe_fld (pv 0) rfl)))

theorem sc_Rbottom : FnScope N_Rbottom ["self"] (defScope st_Rbottom) := ⟨rfl, rfl, rfl, by decide +kernel, rfl, by decide +kernel, by decide +kernel⟩
theorem ok_Rbottom (T : Tx K mg) : FnR P w K mg base CX0 1 (aG "bottom" K) (SpO (cR K) (cN K) S_Rbottom) := by
  obtain ⟨fd, F⟩ := T.def_ 57 df_Rbottom rfl
  have b : Binds K fd ["self"] [] := F.bindsN fun _ _ _ _ _ _ us hl => match us, hl with | [_], _ => rfl
  refine fnr_of (F.ok sc_Rbottom (SpO.len len_Rbottom) fun cdv A outer s H vs Q E hr h => ⟨t_Rbottom K (cR K) (cN K), PSs.nox ?_, Bod.go (N := N_Rbottom) (by first | exact bod_Rbottom T | exact bod_Rbottom) h⟩) b
  exact (pss_one (ps_ret (pe_fld (pv 0) rfl)))

theorem sc_Rsign : FnScope N_Rsign ["self"] (defScope st_Rsign) := ⟨rfl, rfl, rfl, by decide +kernel, rfl, by decide +kernel, by decide +kernel⟩
theorem ok_Rsign (T : Tx K mg) : FnR P w K mg base CX0 1 (aG "sign" K) (SpO (cR K) (cN K) S_Rsign) := by
  obtain ⟨fd, F⟩ := T.def_ 58 df_Rsign rfl
  have b : Binds K fd ["self"] [] := F.bindsN fun _ _ _ _ _ _ us hl => match us, hl with | [_], _ => rfl
  refine fnr_of (F.ok sc_Rsign (SpO.len len_Rsign) fun cdv A outer s H vs Q E hr h => ⟨t_Rsign K (cR K) (cN K), PSs.nox ?_, Bod.go (N := N_Rsign) (by first | exact bod_Rsign T | exact bod_Rsign) h⟩) b
  exact (pss_one (ps_ret (pe_op op_sub (pe_callTy call_int1 rfl (T.free 1 _ rfl) bt_int (pa_cons (pe_cmpR (op_gt) (pe_fld (pv 0) rfl) pe_int (nomark _)) pa_nil)) (pe_callTy call_int1 rfl (T.free 1 _ rfl) bt_int (pa_cons (pe_cmpR (op_lt) (pe_fld (pv 0) rfl) pe_int (nomark _)) pa_nil)))))

theorem sc_told_pair : FnScope N_told_pair ["value"] (defScope st_told_pair) := ⟨rfl, rfl, rfl, by decide +kernel, rfl, by decide +kernel, by decide +kernel⟩
theorem ok_told_pair (T : Tx K mg) : FnR P w K mg base CX0 2 (aF "told_pair" K) (SpO (cR K) (cN K) S_told_pair) := by
  obtain ⟨fd, F⟩ := T.def_ 4 df_told_pair rfl
  have b : Binds K fd ["value"] [] := F.bindsN fun _ _ _ _ _ _ us hl => match us, hl with | [_], _ => rfl
  refine fnr_of (F.ok sc_told_pair (SpO.len len_told_pair) fun cdv A outer s H vs Q E hr h => ⟨t_told_pair K (cR K) (cN K), PSs.nox ?_, Bod.go (N := N_told_pair) (by first | exact bod_told_pair T | exact bod_told_pair) h⟩) b
  exact (pss_cons (ps_if (pt_val (pe_callB call_isi rfl (T.free 0 _ rfl) bt_isinstance (pa_cons (pv 0) (pa_cons (pe_glob rfl (T.glo 62 _ rfl) rfl) pa_nil)))) (pss_one (ps_ret (pe_tup (pa_cons (pe_fld (pv 0) rfl) (pa_cons (pe_fld (pv 0) rfl) pa_nil))))) pss_nil)
  (pss_cons (ps_if (pt_not (pt_val (pe_cR (ok_is_integer T) (hr.mono (by decide)) rfl (T.glo 0 _ rfl) (T.kf 0 _ rfl) pz (pa_cons (pv 0) pa_nil)))) (pss_one ps_never) pss_nil)
  (pss_one (ps_ret (pe_tup (pa_cons (pv 0) (pa_cons pe_int pa_nil)))))))

theorem sc_R__add__ : FnScope N_R__add__ ["self", "other"] (defScope st_R__add__) := ⟨rfl, rfl, rfl, by decide +kernel, rfl, by decide +kernel, by decide +kernel⟩
theorem ok_R__add__ (T : Tx K mg) : FnR P w K mg base CX0 4 (aM "__add__" K) (SpO (cR K) (cN K) S_R__add__) := by
  obtain ⟨fd, F⟩ := T.def_ 60 df_R__add__ rfl
  have b : Binds K fd ["self", "other"] [] := F.bindsN fun _ _ _ _ _ _ us hl => match us, hl with | [_, _], _ => rfl
  refine fnr_of (F.ok sc_R__add__ (SpO.len len_R__add__) fun cdv A outer s H vs Q E hr h => ⟨t_R__add__ K (cR K) (cN K), PSs.nox ?_, Bod.go (N := N_R__add__) (by first | exact bod_R__add__ T | exact bod_R__add__) h⟩) b
  exact (pss_cons (ps_asg (pe_cR (ok_told_pair T) (hr.mono (by decide)) rfl (T.glo 4 _ rfl) (T.kf 4 _ rfl) pz (pa_cons (pv 1) pa_nil)) (pg_tup rfl (pgs_cons (pg_name (i := 2) sc_R__add__.nd rfl (by first | exact Or.inl rfl | exact Or.inr rfl)) (pgs_cons (pg_name (i := 3) sc_R__add__.nd rfl (by first | exact Or.inl rfl | exact Or.inr rfl)) pgs_nil))))
  (pss_one (ps_ret (StX.pe_makeR T.mk_ (ok_R__init__2 T) (hr.mono (by decide)) rfl (T.glo 62 _ rfl) pz (pa_cons (pe_op op_add (pe_op op_mulW (pe_fld (pv 0) rfl) (pv 3)) (pe_op op_mulW (pv 2) (pe_fld (pv 0) rfl))) (pa_cons (pe_op op_mulW (pe_fld (pv 0) rfl) (pv 3)) pa_nil))))))

theorem sc_R__sub__ : FnScope N_R__sub__ ["self", "other"] (defScope st_R__sub__) := ⟨rfl, rfl, rfl, by decide +kernel, rfl, by decide +kernel, by decide +kernel⟩
theorem ok_R__sub__ (T : Tx K mg) : FnR P w K mg base CX0 4 (aM "__sub__" K) (SpO (cR K) (cN K) S_R__sub__) := by
  obtain ⟨fd, F⟩ := T.def_ 62 df_R__sub__ rfl
  have b : Binds K fd ["self", "other"] [] := F.bindsN fun _ _ _ _ _ _ us hl => match us, hl with | [_, _], _ => rfl
  refine fnr_of (F.ok sc_R__sub__ (SpO.len len_R__sub__) fun cdv A outer s H vs Q E hr h => ⟨t_R__sub__ K (cR K) (cN K), PSs.nox ?_, Bod.go (N := N_R__sub__) (by first | exact bod_R__sub__ T | exact bod_R__sub__) h⟩) b
  exact (pss_cons (ps_asg (pe_cR (ok_told_pair T) (hr.mono (by decide)) rfl (T.glo 4 _ rfl) (T.kf 4 _ rfl) pz (pa_cons (pv 1) pa_nil)) (pg_tup rfl (pgs_cons (pg_name (i := 2) sc_R__sub__.nd rfl (by first | exact Or.inl rfl | exact Or.inr rfl)) (pgs_cons (pg_name (i := 3) sc_R__sub__.nd rfl (by first | exact Or.inl rfl | exact Or.inr rfl)) pgs_nil))))
  (pss_one (ps_ret (StX.pe_makeR T.mk_ (ok_R__init__2 T) (hr.mono (by decide)) rfl (T.glo 62 _ rfl) pz (pa_cons (pe_op op_sub (pe_op op_mulW (pe_fld (pv 0) rfl) (pv 3)) (pe_op op_mulW (pv 2) (pe_fld (pv 0) rfl))) (pa_cons (pe_op op_mulW (pe_fld (pv 0) rfl) (pv 3)) pa_nil))))))

theorem sc_R__mul__ : FnScope N_R__mul__ ["self", "other"] (defScope st_R__mul__) := ⟨rfl, rfl, rfl, by decide +kernel, rfl, by decide +kernel, by decide +kernel⟩
theorem ok_R__mul__ (T : Tx K mg) : FnR P w K mg base CX0 4 (aM "__mul__" K) (SpO (cR K) (cN K) S_R__mul__) := by
  obtain ⟨fd, F⟩ := T.def_ 64 df_R__mul__ rfl
  have b : Binds K fd ["self", "other"] [] := F.bindsN fun _ _ _ _ _ _ us hl => match us, hl with | [_, _], _ => rfl
  refine fnr_of (F.ok sc_R__mul__ (SpO.len len_R__mul__) fun cdv A outer s H vs Q E hr h => ⟨t_R__mul__ K (cR K) (cN K), PSs.nox ?_, Bod.go (N := N_R__mul__) (by first | exact bod_R__mul__ T | exact bod_R__mul__) h⟩) b
  exact (pss_cons (ps_asg (pe_cR (ok_told_pair T) (hr.mono (by decide)) rfl (T.glo 4 _ rfl) (T.kf 4 _ rfl) pz (pa_cons (pv 1) pa_nil)) (pg_tup rfl (pgs_cons (pg_name (i := 2) sc_R__mul__.nd rfl (by first | exact Or.inl rfl | exact Or.inr rfl)) (pgs_cons (pg_name (i := 3) sc_R__mul__.nd rfl (by first | exact Or.inl rfl | exact Or.inr rfl)) pgs_nil))))
  (pss_one (ps_ret (StX.pe_makeR T.mk_ (ok_R__init__2 T) (hr.mono (by decide)) rfl (T.glo 62 _ rfl) pz (pa_cons (pe_op op_mulW (pe_fld (pv 0) rfl) (pv 2)) (pa_cons (pe_op op_mulW (pe_fld (pv 0) rfl) (pv 3)) pa_nil))))))

theorem sc_R__rmul__ : FnScope N_R__rmul__ ["self", "other"] (defScope st_R__rmul__) := ⟨rfl, rfl, rfl, by decide +kernel, rfl, by decide +kernel, by decide +kernel⟩
theorem ok_R__rmul__ (T : Tx K mg) : FnR P w K mg base CX0 4 (aM "__rmul__" K) (SpO (cR K) (cN K) S_R__rmul__) := by
  obtain ⟨fd, F⟩ := T.def_ 65 df_R__rmul__ rfl
  have b : Binds K fd ["self", "other"] [] := F.bindsN fun _ _ _ _ _ _ us hl => match us, hl with | [_, _], _ => rfl
  refine fnr_of (F.ok sc_R__rmul__ (SpO.len len_R__rmul__) fun cdv A outer s H vs Q E hr h => ⟨t_R__rmul__ K (cR K) (cN K), PSs.nox ?_, Bod.go (N := N_R__rmul__) (by first | exact bod_R__rmul__ T | exact bod_R__rmul__) h⟩) b
  exact (pss_cons (ps_asg (pe_cR (ok_told_pair T) (hr.mono (by decide)) rfl (T.glo 4 _ rfl) (T.kf 4 _ rfl) pz (pa_cons (pv 1) pa_nil)) (pg_tup rfl (pgs_cons (pg_name (i := 2) sc_R__rmul__.nd rfl (by first | exact Or.inl rfl | exact Or.inr rfl)) (pgs_cons (pg_name (i := 3) sc_R__rmul__.nd rfl (by first | exact Or.inl rfl | exact Or.inr rfl)) pgs_nil))))
  (pss_one (ps_ret (StX.pe_makeR T.mk_ (ok_R__init__2 T) (hr.mono (by decide)) rfl (T.glo 62 _ rfl) pz (pa_cons (pe_op op_mulW (pe_fld (pv 0) rfl) (pv 2)) (pa_cons (pe_op op_mulW (pe_fld (pv 0) rfl) (pv 3)) pa_nil))))))

theorem sc_R__neg__ : FnScope N_R__neg__ ["self"] (defScope st_R__neg__) := ⟨rfl, rfl, rfl, by decide +kernel, rfl, by decide +kernel, by decide +kernel⟩
theorem ok_R__neg__ (T : Tx K mg) : FnR P w K mg base CX0 4 (aM "__neg__" K) (SpO (cR K) (cN K) S_R__neg__) := by
  obtain ⟨fd, F⟩ := T.def_ 66 df_R__neg__ rfl
  have b : Binds K fd ["self"] [] := F.bindsN fun _ _ _ _ _ _ us hl => match us, hl with | [_], _ => rfl
  refine fnr_of (F.ok sc_R__neg__ (SpO.len len_R__neg__) fun cdv A outer s H vs Q E hr h => ⟨t_R__neg__ K (cR K) (cN K), PSs.nox ?_, Bod.go (N := N_R__neg__) (by first | exact bod_R__neg__ T | exact bod_R__neg__) h⟩) b
  exact (pss_one (ps_ret (StX.pe_makeR T.mk_ (ok_R__init__2 T) (hr.mono (by decide)) rfl (T.glo 62 _ rfl) pz (pa_cons (pe_op op_sub pe_int (pe_fld (pv 0) rfl)) (pa_cons (pe_fld (pv 0) rfl) pa_nil)))))

theorem sc_Rover : FnScope N_Rover ["self", "other"] (defScope st_Rover) := ⟨rfl, rfl, rfl, by decide +kernel, rfl, by decide +kernel, by decide +kernel⟩
theorem ok_Rover (T : Tx K mg) : FnR P w K mg base CX0 4 (aM "over" K) (SpO (cR K) (cN K) S_Rover) := by
  obtain ⟨fd, F⟩ := T.def_ 67 df_Rover rfl
  have b : Binds K fd ["self", "other"] [] := F.bindsN fun _ _ _ _ _ _ us hl => match us, hl with | [_, _], _ => rfl
  refine fnr_of (F.ok sc_Rover (SpO.len len_Rover) fun cdv A outer s H vs Q E hr h => ⟨t_Rover K (cR K) (cN K), PSs.nox ?_, Bod.go (N := N_Rover) (by first | exact bod_Rover T | exact bod_Rover) h⟩) b
  exact (pss_cons (ps_asg (pe_cR (ok_told_pair T) (hr.mono (by decide)) rfl (T.glo 4 _ rfl) (T.kf 4 _ rfl) pz (pa_cons (pv 1) pa_nil)) (pg_tup rfl (pgs_cons (pg_name (i := 2) sc_Rover.nd rfl (by first | exact Or.inl rfl | exact Or.inr rfl)) (pgs_cons (pg_name (i := 3) sc_Rover.nd rfl (by first | exact Or.inl rfl | exact Or.inr rfl)) pgs_nil))))
  (pss_cons (ps_if (pt_cmpR op_eq (pv 2) pe_int (nomark _)) (pss_one ps_never) pss_nil)
  (pss_one (ps_ret (StX.pe_makeR T.mk_ (ok_R__init__2 T) (hr.mono (by decide)) rfl (T.glo 62 _ rfl) pz (pa_cons (pe_op op_mulW (pe_fld (pv 0) rfl) (pv 3)) (pa_cons (pe_op op_mulW (pe_fld (pv 0) rfl) (pv 2)) pa_nil)))))))

theorem sc_Ris_below : FnScope N_Ris_below ["self", "other"] (defScope st_Ris_below) := ⟨rfl, rfl, rfl, by decide +kernel, rfl, by decide +kernel, by decide +kernel⟩
theorem ok_Ris_below (T : Tx K mg) : FnR P w K mg base CX0 3 (aM "is_below" K) (SpO (cR K) (cN K) S_Ris_below) := by
  obtain ⟨fd, F⟩ := T.def_ 68 df_Ris_below rfl
  have b : Binds K fd ["self", "other"] [] := F.bindsN fun _ _ _ _ _ _ us hl => match us, hl with | [_, _], _ => rfl
  refine fnr_of (F.ok sc_Ris_below (SpO.len len_Ris_below) fun cdv A outer s H vs Q E hr h => ⟨t_Ris_below K (cR K) (cN K), PSs.nox ?_, Bod.go (N := N_Ris_below) (by first | exact bod_Ris_below T | exact bod_Ris_below) h⟩) b
  exact (pss_cons (ps_asg (pe_cR (ok_told_pair T) (hr.mono (by decide)) rfl (T.glo 4 _ rfl) (T.kf 4 _ rfl) pz (pa_cons (pv 1) pa_nil)) (pg_tup rfl (pgs_cons (pg_name (i := 2) sc_Ris_below.nd rfl (by first | exact Or.inl rfl | exact Or.inr rfl)) (pgs_cons (pg_name (i := 3) sc_Ris_below.nd rfl (by first | exact Or.inl rfl | exact Or.inr rfl)) pgs_nil))))
  (pss_one (ps_ret (pe_cmpR (op_lt) (pe_op op_mulW (pe_fld (pv 0) rfl) (pv 3)) (pe_op op_mulW (pv 2) (pe_fld (pv 0) rfl)) (nomark _)))))

theorem sc_R__eq__ : FnScope N_R__eq__ ["self", "other"] (defScope st_R__eq__) := ⟨rfl, rfl, rfl, by decide +kernel, rfl, by decide +kernel, by decide +kernel⟩
theorem ok_R__eq__ (T : Tx K mg) : FnR P w K mg base CX0 1 (aM "__eq__" K) (SpO (cR K) (cN K) S_R__eq__) := by
  obtain ⟨fd, F⟩ := T.def_ 69 df_R__eq__ rfl
  have b : Binds K fd ["self", "other"] [] := F.bindsN fun _ _ _ _ _ _ us hl => match us, hl with | [_, _], _ => rfl
  refine fnr_of (F.ok sc_R__eq__ (SpO.len len_R__eq__) fun cdv A outer s H vs Q E hr h => ⟨t_R__eq__ K (cR K) (cN K), PSs.nox ?_, Bod.go (N := N_R__eq__) (by first | exact bod_R__eq__ T | exact bod_R__eq__) h⟩) b
  exact (pss_cons (ps_if (pt_not (pt_val (pe_callB call_isi rfl (T.free 0 _ rfl) bt_isinstance (pa_cons (pv 1) (pa_cons (pe_glob rfl (T.glo 62 _ rfl) rfl) pa_nil))))) (pss_one (ps_ret pe_bl)) pss_nil)
  (pss_one (ps_ret (pe_and (pe_cmpR op_eq (pe_fld (pv 0) rfl) (pe_fld (pv 1) rfl) (nomark _)) (pe_one (pe_cmpR op_eq (pe_fld (pv 0) rfl) (pe_fld (pv 1) rfl) (nomark _)))))))

theorem sc_is_number : FnScope N_is_number ["value"] (defScope st_is_number) := ⟨rfl, rfl, rfl, by decide +kernel, rfl, by decide +kernel, by decide +kernel⟩
theorem ok_is_number (T : Tx K mg) : FnR P w K mg base CX0 2 (aF "is_number" K) (SpO (cR K) (cN K) S_is_number) := by
  obtain ⟨fd, F⟩ := T.def_ 5 df_is_number rfl
  have b : Binds K fd ["value"] [] := F.bindsN fun _ _ _ _ _ _ us hl => match us, hl with | [_], _ => rfl
  refine fnr_of (F.ok sc_is_number (SpO.len len_is_number) fun cdv A outer s H vs Q E hr h => ⟨t_is_number K (cR K) (cN K), PSs.nox ?_, Bod.go (N := N_is_number) (by first | exact bod_is_number T | exact bod_is_number) h⟩) b
  exact (pss_one (ps_ret (pe_or (pe_cR (ok_is_integer T) (hr.mono (by decide)) rfl (T.glo 0 _ rfl) (T.kf 0 _ rfl) pz (pa_cons (pv 0) pa_nil)) (pe_one (pe_callB call_isi rfl (T.free 0 _ rfl) bt_isinstance (pa_cons (pv 0) (pa_cons (pe_glob rfl (T.glo 62 _ rfl) rfl) pa_nil)))))))

theorem sc_ratio_of : FnScope N_ratio_of ["number"] (defScope st_ratio_of) := ⟨rfl, rfl, rfl, by decide +kernel, rfl, by decide +kernel, by decide +kernel⟩
theorem ok_ratio_of (T : Tx K mg) : FnR P w K mg base CX0 4 (aF "ratio_of" K) (SpO (cR K) (cN K) S_ratio_of) := by
  obtain ⟨fd, F⟩ := T.def_ 6 df_ratio_of rfl
  have b : Binds K fd ["number"] [] := F.bindsN fun _ _ _ _ _ _ us hl => match us, hl with | [_], _ => rfl
  refine fnr_of (F.ok sc_ratio_of (SpO.len len_ratio_of) fun cdv A outer s H vs Q E hr h => ⟨t_ratio_of K (cR K) (cN K), PSs.nox ?_, Bod.go (N := N_ratio_of) (by first | exact bod_ratio_of T | exact bod_ratio_of) h⟩) b
  exact (pss_one (ps_ret (pe_ifExp (pt_val (pe_callB call_isi rfl (T.free 0 _ rfl) bt_isinstance (pa_cons (pv 0) (pa_cons (pe_glob rfl (T.glo 62 _ rfl) rfl) pa_nil)))) (pv 0) (StX.pe_makeR T.mk_ (ok_R__init__1 T) (hr.mono (by decide)) rfl (T.glo 62 _ rfl) pz (pa_cons (pv 0) pa_nil)))))

theorem sc_want_number : FnScope N_want_number ["value"] (defScope st_want_number) := ⟨rfl, rfl, rfl, by decide +kernel, rfl, by decide +kernel, by decide +kernel⟩
theorem ok_want_number (T : Tx K mg) : FnR P w K mg base CX0 5 (aF "want_number" K) (SpO (cR K) (cN K) S_want_number) := by
  obtain ⟨fd, F⟩ := T.def_ 7 df_want_number rfl
  have b : Binds K fd ["value"] [] := F.bindsN fun _ _ _ _ _ _ us hl => match us, hl with | [_], _ => rfl
  refine fnr_of (F.ok sc_want_number (SpO.len len_want_number) fun cdv A outer s H vs Q E hr h => ⟨t_want_number K (cR K) (cN K), PSs.nox ?_, Bod.go (N := N_want_number) (by first | exact bod_want_number T | exact bod_want_number) h⟩) b
  exact (pss_cons (ps_if (pt_not (pt_val (pe_cR (ok_is_number T) (hr.mono (by decide)) rfl (T.glo 5 _ rfl) (T.kf 5 _ rfl) pz (pa_cons (pv 0) pa_nil)))) (pss_one ps_never) pss_nil)
  (pss_one (ps_ret (pe_cR (ok_ratio_of T) (hr.mono (by decide)) rfl (T.glo 6 _ rfl) (T.kf 6 _ rfl) pz (pa_cons (pv 0) pa_nil)))))

theorem sc_total_of : FnScope N_total_of ["ratios"] (defScope st_total_of) := ⟨rfl, rfl, rfl, by decide +kernel, rfl, by decide +kernel, by decide +kernel⟩
theorem ok_total_of (T : Tx K mg) : FnR P w K mg base CX0 5 (aF "total_of" K) (SpO (cR K) (cN K) S_total_of) := by
  obtain ⟨fd, F⟩ := T.def_ 8 df_total_of rfl
  have b : Binds K fd ["ratios"] [] := F.bindsN fun _ _ _ _ _ _ us hl => match us, hl with | [_], _ => rfl
  refine fnr_of (F.ok sc_total_of (SpO.len len_total_of) fun cdv A outer s H vs Q E hr h => ⟨t_total_of K (cR K) (cN K), PSs.nox ?_, Bod.go (N := N_total_of) (by first | exact bod_total_of T | exact bod_total_of) h⟩) b
  exact (pss_cons (ps_set (i := 1) sc_total_of.nd rfl (by first | exact Or.inl rfl | exact Or.inr rfl) (StX.pe_makeR T.mk_ (ok_R__init__1 T) (hr.mono (by decide)) rfl (T.glo 62 _ rfl) pz (pa_cons pe_int pa_nil)))
  (pss_cons (ps_for PassesOwn.never rfl (pi_seq (pv 0)) (pg_name (i := 2) sc_total_of.nd rfl (by first | exact Or.inl rfl | exact Or.inr rfl)) (pss_one (ps_set (i := 1) sc_total_of.nd rfl (by first | exact Or.inl rfl | exact Or.inr rfl) (pe_op (op_Add T (ok_R__add__ T) (hr.mono (by decide))) (pv 1) (pv 2)))))
  (pss_one (ps_ret (pv 1)))))

theorem sc_Rtotal : FnScope N_Rtotal ["cls", "numbers"] (defScope st_Rtotal) := ⟨rfl, rfl, rfl, by decide +kernel, rfl, by decide +kernel, by decide +kernel⟩
theorem ok_Rtotal (T : Tx K mg) : FnR P w K mg base CX0 6 (aT "total" K) (SpO (cR K) (cN K) S_Rtotal) := by
  obtain ⟨fd, F⟩ := T.def_ 59 df_Rtotal rfl
  have b : Binds K fd ["cls", "numbers"] [] := F.bindsN fun _ _ _ _ _ _ us hl => match us, hl with | [_, _], _ => rfl
  refine fnr_of (F.ok sc_Rtotal (SpO.len len_Rtotal) fun cdv A outer s H vs Q E hr h => ⟨t_Rtotal K (cR K) (cN K), PSs.nox ?_, Bod.go (N := N_Rtotal) (by first | exact bod_Rtotal T | exact bod_Rtotal) h⟩) b
  exact (pss_cons (ps_if (pt_not (pt_val (pe_cR (ok_is_list T) (hr.mono (by decide)) rfl (T.glo 1 _ rfl) (T.kf 1 _ rfl) pz (pa_cons (pv 1) pa_nil)))) (pss_one ps_never) pss_nil)
  (pss_one (ps_ret (pe_cR (ok_total_of T) (hr.mono (by decide)) rfl (T.glo 8 _ rfl) (T.kf 8 _ rfl) pz (pa_cons (pe_lc (own := [("number", 2)]) (wi := (iSeq K (tVar 1))) (g := (gName 2)) (tt := tYes) (te := (tcR (SpO (cR K) (cN K) S_want_number) E0 (tCons (tVar 2) tNil))) rfl sc_Rtotal.nd (pi_seq (pv 1)) (blkOk_by (by kernel_rfl)) (fun _ _ _ _ _ => (pg_name (i := 2) sc_Rtotal.nd rfl (by first | exact Or.inl rfl | exact Or.inr rfl))) (fun _ _ _ _ _ => pts_nil) (fun _ _ _ _ _ => (pe_cR (ok_want_number T) (hr.mono (by decide)) rfl (T.glo 7 _ rfl) (T.kf 7 _ rfl) pz (pa_cons (pv 2) pa_nil)))) pa_nil)))))

theorem sc_weighed : FnScope N_weighed ["weights", "values"] (defScope st_weighed) := ⟨rfl, rfl, rfl, by decide +kernel, rfl, by decide +kernel, by decide +kernel⟩
theorem ok_weighed (T : Tx K mg) : FnR P w K mg base CX0 6 (aF "weighed" K) (SpO (cR K) (cN K) S_weighed) := by
  obtain ⟨fd, F⟩ := T.def_ 9 df_weighed rfl
  have b : Binds K fd ["weights", "values"] [] := F.bindsN fun _ _ _ _ _ _ us hl => match us, hl with | [_, _], _ => rfl
  refine fnr_of (F.ok sc_weighed (SpO.len len_weighed) fun cdv A outer s H vs Q E hr h => ⟨t_weighed K (cR K) (cN K), PSs.nox ?_, Bod.go (N := N_weighed) (by first | exact bod_weighed T | exact bod_weighed) h⟩) b
  exact (pss_one (ps_ret (pe_cR (ok_total_of T) (hr.mono (by decide)) rfl (T.glo 8 _ rfl) (T.kf 8 _ rfl) pz (pa_cons (pe_lc (own := [("weight", 2), ("value", 3)]) (wi := (iZip K (tCons (tVar 0) (tCons (tVar 1) tNil)))) (g := (gTup K 2 (gCons (gName 2) (gCons (gName 3) gNil)))) (tt := tYes) (te := (tOp (rMul (cR K) (cN K)) (tVar 2) (tVar 3))) rfl sc_weighed.nd (pi_zip rfl (T.free 8 _ rfl) (pa_cons (pv 0) (pa_cons (pv 1) pa_nil))) (blkOk_by (by kernel_rfl)) (fun _ _ _ _ _ => (pg_tup rfl (pgs_cons (pg_name (i := 2) sc_weighed.nd rfl (by first | exact Or.inl rfl | exact Or.inr rfl)) (pgs_cons (pg_name (i := 3) sc_weighed.nd rfl (by first | exact Or.inl rfl | exact Or.inr rfl)) pgs_nil)))) (fun _ _ _ _ _ => pts_nil) (fun _ _ _ _ _ => (pe_op (op_Mul T (ok_R__mul__ T) (ok_R__rmul__ T) (hr.mono (by decide))) (pv 2) (pv 3)))) pa_nil))))

end
end OC
set_option maxHeartbeats 4000000
/-! OcW: owned lists: stores, loans. -/
namespace OC
open PySem PySem.Spec PyProof.Rows L2

section
variable {C CN : Addr} {K : Frg} {mg : Str → Option Value} {ρ ρ1 ρ2 : Sto} {μ μ1 μ2 μ3 : Mu} {te tf ta tb tc : TE} {tt : TT} {tr : TA} {x y z d d' : D} {ds es fs : List D} {r r' : R2} {b c : Bool} {i j : Int} {S : Sc} {E : AEn} {g : TG} {gs : TGs} {XE : XK} {Γ : Gam}
theorem AF.frame {p : Addr} (h : AF C te ρ μ es μ1) : AF C te ρ ((p, ds) :: μ) es ((p, ds) :: μ1) := ⟨by show p :: dom μ1 = p :: dom μ; rw [h.1], fun σ B H rs ok Q q => h.2 σ B H rs ok.tail Q fun l vs B' H' g ok' h1 h2 h3 h4 =>
  q l vs B' H' (g.more fun a z => List.mem_cons_of_mem _ z) (ok.keep h.1 g ok') h1 h2 h3 h4⟩
theorem Ok.own1 {B H B1 H1 : Hp} {p : Addr} {vs : List V} (ok : Ok C μ B H) (g : Gr (dom μ) B H B1 H1) (hd : dom μ1 = dom μ) (ok1 : Ok C μ1 B1 H1) (hp : H p = none) (hB : B1 p = none) (h1 : H1 p = some (.lst vs)) (r1 : RepL C B1 ds vs) : p ∉ dom μ1 ∧ Ok C ((p, ds) :: μ1) B1 H1 := by
  have hn : p ∉ dom μ1 := fun z => by
    obtain ⟨ds', hm⟩ := mem_dom (hd ▸ z)
    obtain ⟨_, vs', h2, _⟩ := ok.own.mem hm
    rw [hp] at h2; cases h2
  exact ⟨hn, ok1.bh, ⟨hB, hn, vs, h1, r1⟩, ok1.own⟩
theorem Gx.own1 {B H : Hp} {p : Addr} (gx : Gx Γ μ B H) (hz : Γ.H0 p = none) : Gx Γ ((p, ds) :: μ) B H := ⟨gx.bb, gx.hh, gx.fr, gx.ds, fun q hq => by
  rcases List.mem_cons.mp hq with z | z
  · rw [z]; exact .inr hz
  · exact gx.lo q z⟩
/-- a, b = [..], e -/
theorem as_parF {i j : Nat} (h1 : AF C te ρ μ ds μ) (h2 : AE C tf ρ μ d μ) (h : ∀ p, p ∉ dom μ → E.nx ((ρ.set i (some (.ptr p))).set j (some d)) ((p, ds) :: μ)) : AS C (tPar i j (tCons te (tCons tf tNil))) ρ μ E := fun Γ σ B H Dn rs ok gx f =>
  h1.2 σ B H rs ok _ fun p vs B1 H1 g1 ok1 hp hB hv rv => by
    obtain ⟨hn, okp⟩ := ok.own1 g1 rfl ok1 hp hB hv rv
    have gx1 := (gx.step rfl g1).own1 (ds := ds) (gx.free hp)
    refine (h2.frame (p := p) (ds := ds)).2 σ B1 H1 (rs.mono g1.bb) okp _ fun v B2 H2 g2 ok2 r2 => ?_
    exact ⟨.ref p, v, rfl, f.nx _ _ _ B2 H2 (h p hn) (((rs.mono (g1.bb.trans g2.bb)).set (d := .ptr p) (v := .ref p) i rfl).set j r2) ok2 (gx1.step rfl g2)⟩
/-- a, b, c = [..], [..], e -/
theorem as_par3F {i j l : Nat} (h1 : AF C te ρ μ ds μ) (h2 : AF C tf ρ μ es μ) (h3 : AE C tc ρ μ d μ) (h : ∀ p q, p ≠ q → p ∉ dom μ → q ∉ dom μ → E.nx (((ρ.set i (some (.ptr p))).set j (some (.ptr q))).set l (some d)) ((q, es) :: (p, ds) :: μ)) :
    AS C (tPar3 i j l (tCons te (tCons tf (tCons tc tNil)))) ρ μ E := fun Γ σ B H Dn rs ok gx f =>
  h1.2 σ B H rs ok _ fun p vs B1 H1 g1 ok1 hp hB hv rv => by
    obtain ⟨hn, okp⟩ := ok.own1 g1 rfl ok1 hp hB hv rv
    have gx1 := (gx.step rfl g1).own1 (ds := ds) (gx.free hp)
    refine (h2.frame (p := p) (ds := ds)).2 σ B1 H1 (rs.mono g1.bb) okp _ fun q ws B2 H2 g2 ok2 hq hB2 hw rw' => ?_
    obtain ⟨hn2, okq⟩ := okp.own1 g2 rfl ok2 hq hB2 hw rw'
    have gx2 := (gx1.step rfl g2).own1 (ds := es) (gx1.free hq)
    refine ((h3.frame (p := p) (ds := ds)).frame (p := q) (ds := es)).2 σ B2 H2 (rs.mono (g1.bb.trans g2.bb)) okq _ fun v B3 H3 g3 ok3 r3 => ?_
    refine ⟨.ref p, .ref q, v, rfl, f.nx _ _ _ B3 H3 (h p q (fun z => hn2 (by rw [← z]; exact List.mem_cons_self ..)) hn fun z => hn2 (List.mem_cons_of_mem _ z)) ((((rs.mono ((g1.bb.trans g2.bb).trans g3.bb)).set (d := .ptr p) (v := .ref p) i rfl).set (d := .ptr q) (v := .ref q) j rfl).set l r3) ok3 (gx2.step rfl g3)⟩
/-! ### targets that store into owned lists -/
def AH (C : Addr) (g : TG) (d : D) (ρ : Sto) (μ : Mu) (ρ2 : Sto) (μ2 : Mu) : Prop := dom μ2 = dom μ ∧
  ∀ σ B H v, RS C B ρ σ → Ok C μ B H → Rep C B d v → ∀ Q : L2.St → Hp → Prop, (∀ σ2 B2 H2, RS C B2 ρ2 σ2 → Ok C μ2 B2 H2 → Gr (dom μ) B H B2 H2 → Q σ2 H2) → g v σ H Q
def AHs (C : Addr) (g : TGs) (ds : List D) (ρ : Sto) (μ : Mu) (ρ2 : Sto) (μ2 : Mu) : Prop := dom μ2 = dom μ ∧
  ∀ σ B H vs, RS C B ρ σ → Ok C μ B H → RepL C B ds vs → ∀ Q : L2.St → Hp → Prop, (∀ σ2 B2 H2, RS C B2 ρ2 σ2 → Ok C μ2 B2 H2 → Gr (dom μ) B H B2 H2 → Q σ2 H2) → g vs σ H Q
theorem ah_name {j : Nat} : AH C (gName j) d ρ μ (ρ.set j (some d)) μ := ⟨rfl, fun σ B H v rs ok r Q q => q _ B H (rs.set j r) ok (Gr.refl _ _ _)⟩
theorem ah_sub {p : Addr} {k : Nat} (ha : AE C ta ρ μ (.ptr p) μ) (hb : AE C tb ρ μ (.int i) μ) (hm : (p, ds) ∈ μ) (hj : ixN ds.length i = some k) : AH C (gSub ta tb rSetL) d ρ μ ρ (setM μ p (ds.set k d)) :=
  ⟨dom_setM _ _ _, fun σ B H v rs ok r1 Q q => ha.2 σ B H rs ok _ fun u B2 H2 g2 ok2 r2 => hb.2 σ B2 H2 (rs.mono g2.bb) ok2 _ fun w B3 H3 g3 ok3 r3 => by
    obtain ⟨hB, vs, hv, rv⟩ := ok3.own.mem hm
    rw [show u = V.ref p from r2, show w = V.int i from r3]
    exact ⟨p, vs, i, k, rfl, rfl, hv, by rw [rv.length]; exact hj, q _ B3 _ (rs.mono (g2.bb.trans g3.bb)) (ok3.upd hm (rv.set (r1.mono (g2.bb.trans g3.bb)) k)) ((g2.trans g3).trans (Gr.upd (dom_mem hm)))⟩⟩
theorem ahs_nil : AHs C gNil [] ρ μ ρ μ := ⟨rfl, fun σ B H vs rs ok r Q q => ⟨r, q σ B H rs ok (Gr.refl _ _ _)⟩⟩
theorem ahs_cons (h : AH C g d ρ μ ρ1 μ1) (h2 : AHs C gs ds ρ1 μ1 ρ2 μ2) : AHs C (gCons g gs) (d :: ds) ρ μ ρ2 μ2 := ⟨h2.1.trans h.1, fun σ B H vs rs ok r Q q => by
  obtain ⟨v, r', rfl, h1, h2'⟩ := r
  exact ⟨v, r', rfl, h.2 σ B H v rs ok h1 _ fun σ1 B1 H1 rs1 ok1 g1 => h2.2 σ1 B1 H1 r' rs1 ok1 (h2'.mono g1.bb) Q fun σ2 B2 H2 rs2 ok2 g2 => q σ2 B2 H2 rs2 ok2 (g1.trans (g2.dm h.1))⟩⟩
theorem ah_tup {n : Nat} (hn : ds.length = n) (h : AHs C gs ds ρ μ ρ2 μ2) : AH C (gTup K n gs) (.tup ds) ρ μ ρ2 μ2 := ⟨h.1, fun σ B H v rs ok r Q q => by
  obtain ⟨a, vs, rfl, h1, h2⟩ := r
  exact ⟨a, vs, rfl, SqT.of (ok.bh _ _ h1), h2.length.trans hn, h.2 σ B H vs rs ok h2 Q q⟩⟩
theorem as_asgH (he : AE C te ρ μ d μ1) (hg : AH C g d ρ μ1 ρ2 μ2) (h : E.nx ρ2 μ2) : AS C (tAsg te g) ρ μ E := fun Γ σ B H Dn rs ok gx f =>
  he.2 σ B H rs ok _ fun v B1 H1 g1 ok1 r1 => hg.2 σ B1 H1 v (rs.mono g1.bb) ok1 r1 _ fun σ2 B2 H2 rs2 ok2 g2 => f.nx ρ2 μ2 σ2 B2 H2 h rs2 ok2 ((gx.step he.1 g1).step hg.1 g2)
theorem setM_next {p q : Addr} (h : q ≠ p) : setM ((q, ds) :: μ) p es = (q, ds) :: setM μ p es := by
  unfold setM
  rw [List.map_cons, if_neg h]
/-! ### an owned list, lent to a call -/
def unb (p : Addr) (es : List D) : D → D
  | .ptr q => if q = p then .lst es else .ptr q
  | d => d
def leafD : D → Bool
  | .non => true
  | .bl _ => true
  | .int _ => true
  | .str _ => true
  | .rat _ => true
  | _ => false
theorem rep_unb {B B' : Hp} {p : Addr} {vs : List V} (e : Same B B') (hp : B' p = some (.lst vs)) (r : RepL C B' es vs) : ∀ {d : D} {v : V}, Rep C B d v → Rep C B' (unb p es d) v
  | .ptr q, v, h => by
    show Rep C B' (if q = p then .lst es else .ptr q) v
    by_cases z : q = p
    · rw [if_pos z]
      rw [show v = V.ref q from h, z]
      exact ⟨p, vs, rfl, hp, r⟩
    · rw [if_neg z]
      exact h
  | .non, v, h => h
  | .bl b, v, h => h
  | .int i, v, h => h
  | .str x, v, h => h
  | .rat q, v, h => h.mono e
  | .lst xs, v, h => h.mono e
  | .tup xs, v, h => h.mono e
  | .dic, v, h => h.mono e
  | .scr _ _, v, h => h.mono e
  | .ty _, v, h => h
theorem repL_unb {B B' : Hp} {p : Addr} {vs : List V} (e : Same B B') (hp : B' p = some (.lst vs)) (r : RepL C B' es vs) : ∀ {ds : List D} {ws : List V}, RepL C B ds ws → RepL C B' (ds.map (unb p es)) ws
  | [], ws, h => h
  | d :: ds, ws, h => by
    obtain ⟨v, r', rfl, h1, h2⟩ := h
    exact ⟨v, r', rfl, rep_unb e hp r h1, repL_unb e hp r h2⟩
theorem ae_lend {p : Addr} {f : List D → D → Prop} (ha : AA C tr ρ μ ds μ1) (hm : (p, es) ∈ μ1) (hf : f (ds.map (unb p es)) d) (hl : leafD d = true) : AE C (tcR (SpO C CN (pS f)) XE tr) ρ μ d μ1 :=
  ⟨ha.1, fun σ B H rs ok Q q => ha.2 σ B H rs ok _ fun vs B1 H1 g1 ok1 r1 => by
    obtain ⟨hB, ws, hw, rw'⟩ := ok1.own.mem hm
    have s12 : Same B1 (L2.upd B1 p (.lst ws)) := fun a u e => by rw [upd_ne (ne_of_none e hB)]; exact e
    have s2 : Same (L2.upd B1 p (.lst ws)) H1 := fun a u e => by
      by_cases z : a = p
      · rw [z, upd_same] at e; rw [z, hw]; exact e
      · rw [upd_ne z] at e; exact ok1.bh a u e
    refine ⟨ds.map (unb p es), [], L2.upd B1 p (.lst ws), .val d, [], repL_unb s12 upd_same (rw'.mono s12) r1, Ok.nil s2, ⟨rfl, d, rfl, hf⟩, rfl, fun v B' H' g ok' r => ?_⟩
    have hp' : B' p = some (.lst ws) := g.bb _ _ upd_same
    have s3 : Same B1 (fun a => if a = p then none else B' a) := fun a u e => by
      show (if a = p then none else B' a) = some u
      rw [if_neg (ne_of_none e hB)]
      exact g.bb _ _ (s12 _ _ e)
    refine q v (fun a => if a = p then none else B' a) H' (g1.trans ⟨s3, fun a o e _ => g.hh a o e (by simp [dom]), fun a o e => ?_, g.ds⟩) ⟨fun a u e => ?_, ok1.own.to s3 (fun q hq => ?_) fun q ws' hq e => g.hh q _ e (by simp [dom])⟩ ?_
    · by_cases z : a = p
      · rw [if_pos z] at e; cases e
      · rw [if_neg z] at e
        rcases g.fr a o e with w | w
        · rw [upd_ne z] at w; exact .inl w
        · exact .inr w
    · by_cases z : a = p
      · rw [if_pos z] at e; cases e
      · rw [if_neg z] at e; exact ok'.bh a u e
    · by_cases z : q = p
      · exact if_pos z
      · rw [if_neg z]
        obtain ⟨ds', hm'⟩ := mem_dom hq
        obtain ⟨h1, ws', h2, _⟩ := ok1.own.mem hm'
        cases e : B' q with
        | none => rfl
        | some u =>
          rcases g.fr q u e with w | w
          · rw [upd_ne z, h1] at w; cases w
          · rw [h2] at w; cases w
    · cases d with
      | rat q0 =>
        obtain ⟨a, dx, rfl, e⟩ := r
        refine ⟨a, dx, rfl, ?_⟩
        show (if a = p then none else B' a) = _
        rw [if_neg (fun z => by rw [z, hp'] at e; cases e)]
        exact e
      | non => exact r
      | bl b => exact r
      | int i => exact r
      | str s => exact r
      | _ => cases hl⟩
/-- f([..]), f changes the list -/
theorem ae_give (h : AF C te ρ μ ds μ1) (hS : ∀ p, p ∉ dom μ1 → ∃ ds', S [.ptr p] ((p, ds) :: μ1) (.val d) ((p, ds') :: μ1)) : AE C (tcR (SpO C CN S) XE (tCons te tNil)) ρ μ d μ1 :=
  ⟨h.1, fun σ B H rs ok Q q => h.2 σ B H rs ok _ fun p vs B1 H1 g1 ok1 hp hB h1 r1 => by
    obtain ⟨hn, okp⟩ := ok.own1 g1 h.1 ok1 hp hB h1 r1
    obtain ⟨ds', hS'⟩ := hS p hn
    refine ⟨[.ptr p], (p, ds) :: μ1, B1, .val d, (p, ds') :: μ1, ⟨_, _, rfl, rfl, rfl⟩, okp, hS', rfl, fun v B' H' g ok' r => q v B' H' ?_ ok'.tail r⟩
    refine ⟨g1.bb.trans g.bb, fun a o e n => ?_, fun a o e => ?_, fun a o e => ?_⟩
    · refine g.hh a o (g1.hh a o e n) fun z => ?_
      rcases List.mem_cons.mp z with w | w
      · rw [w, hp] at e; cases e
      · exact n (h.1 ▸ w)
    · rcases g.fr a o e with w | w
      · exact g1.fr a o w
      · cases q : H a with
        | none => exact .inr rfl
        | some u =>
          obtain ⟨o', z⟩ := g1.ds a u q
          rw [w] at z; cases z
    · obtain ⟨o', z⟩ := g1.ds a o e
      exact g.ds a o' z⟩
end
end OC
set_option maxHeartbeats 4000000
/-! OcX2: tables: promises, readings, bodies. -/
namespace OC
open PySem PySem.Spec PyProof.Rows L2

/-! ### promises -/
abbrev RLd (r : Row) : D := .lst (r.map D.rat)
abbrev RMd (A : Mat) : D := .lst (A.map RLd)
inductive SeqD : D → List D → Prop where
  | lst (xs : List D) : SeqD (.lst xs) xs
  | tup (xs : List D) : SeqD (.tup xs) xs
def itemsD : D → List D
  | .lst xs => xs
  | .tup xs => xs
  | _ => []
def numsB (v : D) (m : Int) : Bool := isL v && (decide (((itemsD v).length : Int) = m) && (itemsD v).all isN)
inductive TabD : List D → Mat → Prop where
  | nil : TabD [] []
  | cons {x : D} {xs t : List D} {r : Row} {A : Mat} (h : SeqD x xs) (n : Nms xs r) (g : TabD t A) : TabD (x :: t) (r :: A)
def SymM (A : Mat) : Prop := ∀ i j, i < A.length → j < A.length → ent A i j = ent A j i
/-- what is given as a table -/
structure TabOk (v : D) (A : Mat) : Prop where
  tab : ∃ vs, SeqD v vs ∧ TabD vs A
  sq : SqM A
  sym : SymM A
  sm : SmM A
  n1 : 1 ≤ A.length
  n2 : A.length ≤ 20
def S_are_numbers : Sc := pS fun ds d => ∃ v m, ds = [v, .int m] ∧ plainD v = true ∧ (∀ x ∈ itemsD v, plainD x = true) ∧ (itemsD v).length ≤ 1000 ∧ d = .bl (numsB v m)
def S_ratios_of : Sc := pS fun ds d => ∃ v xs qs, ds = [v] ∧ SeqD v xs ∧ Nms xs qs ∧ (∀ q ∈ qs, Sm q) ∧ qs.length ≤ 1000 ∧ d = RLd qs
def S_are_alike : Sc := pS fun ds d => ∃ A : Mat, ds = [RMd A] ∧ SqM A ∧ SymM A ∧ A.length ≤ 1000 ∧ d = .bl true
def S_is_table : Sc := pS fun ds d => ∃ v A, ds = [v] ∧ TabOk v A ∧ d = .bl true
def S_told_rows : Sc := pS fun ds d => ∃ v A, ds = [v] ∧ TabOk v A ∧ d = RMd A
def S_made_by : Sc := pS fun ds d => ∃ (A : Mat) (v : Row), ds = [RMd A, RLd v] ∧ A.length ≤ 1000 ∧ (∀ r ∈ A, r.length ≤ 1000 ∧ WOk r v) ∧ d = RLd (mv A v)
def S_value_in : Sc := pS fun ds d => ∃ (A : Mat) (a b : Row), ds = [RMd A, RLd a, RLd b] ∧ A.length ≤ 1000 ∧ a.length ≤ 1000 ∧ (∀ r ∈ A, r.length ≤ 1000 ∧ WOk r b) ∧ WOk a (mv A b) ∧ d = .rat (dot a (mv A b))
def S_lessened : Sc := pS fun ds d => ∃ (r o : Row) (c : Rat), ds = [RLd r, RLd o, .rat c] ∧ r.length ≤ 1000 ∧ LOk r o c ∧ d = RLd (lessR r o c)
def optD : Option Nat → D
  | none => .non
  | some i => .int i
def S_pivot_at : Sc := pS fun ds d => ∃ (A : Mat) (b c : Nat), ds = [RMd A, .int b, .int c] ∧ A.length ≤ 1000 ∧ b ≤ 1000 ∧ (∀ r ∈ A, c < r.length) ∧ d = optD (pivotAt A b c)
def S_single_at : Sc := pS fun ds d => ∃ A : Mat, ds = [RMd A] ∧ SqM A ∧ A.length ≤ 1000 ∧ d = optD (singleAt A)
def pairD : Option (Nat × Nat) → D
  | none => .non
  | some (i, j) => .tup [.int i, .int j]
def S_pair_at : Sc := pS fun ds d => ∃ A : Mat, ds = [RMd A] ∧ SqM A ∧ A.length ≤ 1000 ∧ d = pairD (pairAt A)
def S_less_square : Sc := pS fun ds d => ∃ (A : Mat) (c : Rat) (f : Row), ds = [RMd A, .rat c, RLd f] ∧ LsOk A c f ∧ d = RMd (lessSq A c f)
def sqD (s : Rat × Row) : D := .tup [.rat s.1, RLd s.2]
abbrev SQd (s : Sqs) : D := .lst (s.map sqD)
def S_next_squares : Sc := pS fun ds d => ∃ A : Mat, ds = [RMd A] ∧ NxOk A ∧ d = SQd (nextSq A)

abbrev N_are_numbers : List Str := ["value", "many", "number"]
def t_are_numbers (K : Frg) (C CN : Addr) : TS := (tRet (tAndV (tcR (SpO C CN S_is_list) E0 (tCons (tVar 0) tNil)) (tAndV (tOp (rEqU K) (tCB (rLen K) (tCons (tVar 0) tNil)) (tVar 1)) (tCB (rAll K) (tCons (tLc (iSeq K (tVar 0)) (gName 2) tYes (tcR (SpO C CN S_is_number) E0 (tCons (tVar 2) tNil)) [2]) tNil)))))

abbrev N_are_alike : List Str := ["rows", "place", "row", "other"]
def t_are_alike (K : Frg) (C CN : Addr) : TS := (tSeq (tFor (iEnum K (tCons (tVar 0) tNil)) (gTup K 2 (gCons (gName 1) (gCons (gName 2) gNil))) (tFor (iRng1 (tCons (tVar 1) tNil)) (gName 3) (tIfS (tTest (tOp (rNeU C CN K) (tOp (rIx K) (tVar 2) (tVar 3)) (tOp (rIx K) (tOp (rIx K) (tVar 0) (tVar 3)) (tVar 1)))) (tRet (tC (.bl false))) tNext)))
  (tRet (tC (.bl true))))

abbrev N_is_table : List Str := ["value", "row"]
def t_is_table (K : Frg) (C CN : Addr) : TS := (tSeq (tIfS (tOr (tNot (tB (tcR (SpO C CN S_is_list) E0 (tCons (tVar 0) tNil)))) (tNot (tTest (tChain rLeI rLeI (tC (.int 1)) (tCB (rLen K) (tCons (tVar 0) tNil)) (tC (.int 20)))))) (tRet (tC (.bl false))) tNext)
  (tSeq (tIfS (tNot (tB (tCB (rAll K) (tCons (tLc (iSeq K (tVar 0)) (gName 1) tYes (tcR (SpO C CN S_are_numbers) E0 (tCons (tVar 1) (tCons (tCB (rLen K) (tCons (tVar 0) tNil)) tNil))) [1]) tNil)))) (tRet (tC (.bl false))) tNext)
  (tRet (tcR (SpO C CN S_are_alike) E0 (tCons (tLc (iSeq K (tVar 0)) (gName 1) tYes (tcR (SpO C CN S_ratios_of) E0 (tCons (tVar 1) tNil)) [1]) tNil)))))

abbrev N_ratios_of : List Str := ["numbers", "number"]
def t_ratios_of (K : Frg) (C CN : Addr) : TS := (tRet (tLc (iSeq K (tVar 0)) (gName 1) tYes (tcR (SpO C CN S_ratio_of) E0 (tCons (tVar 1) tNil)) [1]))

abbrev N_told_rows : List Str := ["table", "row"]
def t_told_rows (K : Frg) (C CN : Addr) : TS := (tSeq (tIfS (tNot (tB (tcR (SpO C CN S_is_table) E0 (tCons (tVar 0) tNil)))) tNever tNext)
  (tRet (tLc (iSeq K (tVar 0)) (gName 1) tYes (tcR (SpO C CN S_ratios_of) E0 (tCons (tVar 1) tNil)) [1])))

abbrev N_made_by : List Str := ["rows", "numbers", "row"]
def t_made_by (K : Frg) (C CN : Addr) : TS := (tRet (tLc (iSeq K (tVar 0)) (gName 2) tYes (tcR (SpO C CN S_weighed) E0 (tCons (tVar 2) (tCons (tVar 1) tNil))) [2]))

abbrev N_value_in : List Str := ["rows", "first", "second"]
def t_value_in (K : Frg) (C CN : Addr) : TS := (tRet (tcR (SpO C CN S_weighed) E0 (tCons (tVar 1) (tCons (tcR (SpO C CN S_made_by) E0 (tCons (tVar 0) (tCons (tVar 2) tNil))) tNil))))

abbrev N_lessened : List Str := ["row", "other", "number", "one", "two"]
def t_lessened (K : Frg) (C CN : Addr) : TS := (tRet (tLc (iZip K (tCons (tVar 0) (tCons (tVar 1) tNil))) (gTup K 2 (gCons (gName 3) (gCons (gName 4) gNil))) tYes (tOp (rSub C CN) (tVar 3) (tOp (rMul C CN) (tVar 4) (tVar 2))) [3, 4]))

abbrev N_pivot_at : List Str := ["rows", "begin", "column", "place"]
def t_pivot_at (K : Frg) (C CN : Addr) : TS := (tSeq (tFor (iRng2 (tCons (tVar 1) (tCons (tCB (rLen K) (tCons (tVar 0) tNil)) tNil))) (gName 3) (tIfS (tTest (tOp (rNeU C CN K) (tPrR C (SpO C CN S_Rsign) E0 (tOp (rIx K) (tOp (rIx K) (tVar 0) (tVar 3)) (tVar 2))) (tC (.int 0)))) (tRet (tVar 3)) tNext))
  (tRet (tC .non)))

abbrev N_single_at : List Str := ["rows", "place", "row"]
def t_single_at (K : Frg) (C CN : Addr) : TS := (tSeq (tFor (iEnum K (tCons (tVar 0) tNil)) (gTup K 2 (gCons (gName 1) (gCons (gName 2) gNil))) (tIfS (tTest (tOp (rNeU C CN K) (tPrR C (SpO C CN S_Rsign) E0 (tOp (rIx K) (tVar 2) (tVar 1))) (tC (.int 0)))) (tRet (tVar 1)) tNext))
  (tRet (tC .non)))

abbrev N_pair_at : List Str := ["rows", "place", "row", "other"]
def t_pair_at (K : Frg) (C CN : Addr) : TS := (tSeq (tFor (iEnum K (tCons (tVar 0) tNil)) (gTup K 2 (gCons (gName 1) (gCons (gName 2) gNil))) (tFor (iRng2 (tCons (tOp (rAdd C CN) (tVar 1) (tC (.int 1))) (tCons (tCB (rLen K) (tCons (tVar 0) tNil)) tNil))) (gName 3) (tIfS (tTest (tOp (rNeU C CN K) (tPrR C (SpO C CN S_Rsign) E0 (tOp (rIx K) (tVar 2) (tVar 3))) (tC (.int 0)))) (tRet (tTup (tCons (tVar 1) (tCons (tVar 3) tNil)))) tNext)))
  (tRet (tC .non)))

abbrev N_less_square : List Str := ["rows", "number", "form", "row", "part"]
def t_less_square (K : Frg) (C CN : Addr) : TS := (tRet (tLc (iZip K (tCons (tVar 0) (tCons (tVar 2) tNil))) (gTup K 2 (gCons (gName 3) (gCons (gName 4) gNil))) tYes (tcR (SpO C CN S_lessened) E0 (tCons (tVar 3) (tCons (tVar 2) (tCons (tOp (rMul C CN) (tVar 1) (tVar 4)) tNil)))) [3, 4]))

abbrev N_next_squares : List Str := ["rows", "place", "pair", "half", "both", "one", "other", "left", "right"]
def t_next_squares (K : Frg) (C CN : Addr) : TS := (tSeq (tAsg (tcR (SpO C CN S_single_at) E0 (tCons (tVar 0) tNil)) (gName 1))
  (tSeq (tIfS (tTest (tOp rNotN0 (tVar 1) (tC .non))) (tRet (tLst (tCons (tTup (tCons (tMethR C "over" (SpO C CN S_Rover) E0 (StX.tMakeR C (spIni C [.int 1]) E0 (tCons (tC (.int 1)) tNil)) (tCons (tOp (rIx K) (tOp (rIx K) (tVar 0) (tVar 1)) (tVar 1)) tNil)) (tCons (tOp (rIx K) (tVar 0) (tVar 1)) tNil))) tNil))) tNext)
  (tSeq (tAsg (tcR (SpO C CN S_pair_at) E0 (tCons (tVar 0) tNil)) (gName 2))
  (tSeq (tIfS (tTest (tOp rIsN0 (tVar 2) (tC .non))) (tRet (tLst tNil)) tNext)
  (tSeq (tPar 5 6 (tCons (tOp (rIx K) (tVar 0) (tOp (rIx K) (tVar 2) (tC (.int 0)))) (tCons (tOp (rIx K) (tVar 0) (tOp (rIx K) (tVar 2) (tC (.int 1)))) tNil)))
  (tSeq (tAsg (tMethR C "over" (SpO C CN S_Rover) E0 (StX.tMakeR C (spIni C [.int 1]) E0 (tCons (tC (.int 1)) tNil)) (tCons (tOp (rMul C CN) (tOp (rIx K) (tVar 5) (tOp (rIx K) (tVar 2) (tC (.int 1)))) (tC (.int 2))) tNil)) (gName 3))
  (tSeq (tAsg (tLc (iZip K (tCons (tVar 5) (tCons (tVar 6) tNil))) (gTup K 2 (gCons (gName 7) (gCons (gName 8) gNil))) tYes (tOp (rAdd C CN) (tVar 7) (tVar 8)) [7, 8]) (gName 4))
  (tRet (tLst (tCons (tTup (tCons (tVar 3) (tCons (tVar 4) tNil))) (tCons (tTup (tCons (tUn (rNeg C CN) (tVar 3)) (tCons (tLc (iZip K (tCons (tVar 5) (tCons (tVar 6) tNil))) (gTup K 2 (gCons (gName 7) (gCons (gName 8) gNil))) tYes (tOp (rSub C CN) (tVar 7) (tVar 8)) [7, 8]) tNil))) tNil)))))))))))

/-! ### bodies -/
section
variable {C CN : Addr} {K : Frg} {mg : Str → Option Value} {ρ : Sto} {μ μ1 : Mu} {E : AEn} {x y d : D} {q : Rat} {te : TE} {tt : TT} {tr : TA} {wi : TI} {g : TG} {vs : List Nat} {xs ys : List D} {qs : List Rat}
theorem len_are_numbers : ∀ ds μ r μ', S_are_numbers ds μ r μ' → ds.length = 2 := len1 fun ds d ⟨x, y, e, _⟩ => by rw [e]; rfl
theorem len_ratios_of : ∀ ds μ r μ', S_ratios_of ds μ r μ' → ds.length = 1 := len1 fun ds d ⟨x, y, z, e, _⟩ => by rw [e]; rfl
theorem len_are_alike : ∀ ds μ r μ', S_are_alike ds μ r μ' → ds.length = 1 := len1 fun ds d ⟨x, e, _⟩ => by rw [e]; rfl
theorem len_is_table : ∀ ds μ r μ', S_is_table ds μ r μ' → ds.length = 1 := len1 fun ds d ⟨x, y, e, _⟩ => by rw [e]; rfl
theorem len_told_rows : ∀ ds μ r μ', S_told_rows ds μ r μ' → ds.length = 1 := len1 fun ds d ⟨x, y, e, _⟩ => by rw [e]; rfl
theorem len_made_by : ∀ ds μ r μ', S_made_by ds μ r μ' → ds.length = 2 := len1 fun ds d ⟨x, y, e, _⟩ => by rw [e]; rfl
theorem len_value_in : ∀ ds μ r μ', S_value_in ds μ r μ' → ds.length = 3 := len1 fun ds d ⟨x, y, z, e, _⟩ => by rw [e]; rfl
theorem len_lessened : ∀ ds μ r μ', S_lessened ds μ r μ' → ds.length = 3 := len1 fun ds d ⟨x, y, z, e, _⟩ => by rw [e]; rfl
theorem len_pivot_at : ∀ ds μ r μ', S_pivot_at ds μ r μ' → ds.length = 3 := len1 fun ds d ⟨x, y, z, e, _⟩ => by rw [e]; rfl
theorem len_single_at : ∀ ds μ r μ', S_single_at ds μ r μ' → ds.length = 1 := len1 fun ds d ⟨x, e, _⟩ => by rw [e]; rfl
theorem len_pair_at : ∀ ds μ r μ', S_pair_at ds μ r μ' → ds.length = 1 := len1 fun ds d ⟨x, e, _⟩ => by rw [e]; rfl
theorem len_less_square : ∀ ds μ r μ', S_less_square ds μ r μ' → ds.length = 3 := len1 fun ds d ⟨x, y, z, e, _⟩ => by rw [e]; rfl
theorem len_next_squares : ∀ ds μ r μ', S_next_squares ds μ r μ' → ds.length = 1 := len1 fun ds d ⟨x, e, _⟩ => by rw [e]; rfl
/-- a comprehension whose items are known -/
theorem af_mapY (ys : List D) (hi : AI C wi ρ μ xs μ1) (hl : ys.length = xs.length) (hlen : xs.length ≤ 100000)
    (hs : ∀ (i : Nat) (x y : D), xs[i]? = some x → ys[i]? = some y → ∃ ρ2 js, AG C g x (wipeA ρ vs) js ρ2 ∧ (∀ j ∈ js, j ∈ vs) ∧ AT C tt ρ2 μ1 true μ1 ∧ AE C te ρ2 μ1 y μ1) : AF C (tLc wi g tt te vs) ρ μ ys μ1 := by
  refine (af_map (fun i => ys.getD i .non) hi hlen fun i d hd => ?_).is ?_
  · have hi : i < ys.length := by rw [hl]; exact (List.getElem?_eq_some_iff.mp hd).1
    have e : ys[i]? = some ys[i] := List.getElem?_eq_getElem hi
    obtain ⟨ρ2, js, h1, h2, h3, h4⟩ := hs i d _ hd e
    refine ⟨ρ2, js, h1, h2, h3, h4.is ?_⟩
    rw [List.getD_eq_getElem?_getD, e]
    rfl
  · rw [← hl]
    refine List.ext_getElem? fun i => ?_
    rw [List.getElem?_map]
    by_cases hi : i < ys.length
    · rw [List.getElem?_range hi, List.getElem?_eq_getElem hi]
      simp [hi]
    · rw [List.getElem?_eq_none (by simpa using hi), List.getElem?_eq_none (by simpa using hi)]
      rfl
theorem SeqD.plain {v : D} (h : SeqD v xs) : plainD v = true := by cases h <;> rfl
theorem SeqD.isL {v : D} (h : SeqD v xs) : OC.isL v = true := by cases h <;> rfl
theorem SeqD.items {v : D} (h : SeqD v xs) : itemsD v = xs := by cases h <;> rfl
theorem ai_seq {v : D} (h : SeqD v xs) (he : AE C te ρ μ v μ1) : AI C (iSeq K te) ρ μ xs μ1 := by
  cases h with
  | lst xs => exact ai_seqL he
  | tup xs => exact ai_seqT he
theorem ac_len {v : D} (h : SeqD v xs) : AC C (rLen K) μ [v] (.int (xs.length : Nat)) μ := by
  cases h with
  | lst xs => exact ac_len_l
  | tup xs => exact ac_len_t
theorem Nms.length (h : Nms xs qs) : xs.length = qs.length := by
  induction h with
  | nil => rfl
  | cons _ _ ih => rw [List.length_cons, List.length_cons, ih]
theorem Nms.get (h : Nms xs qs) : ∀ {i : Nat} {x : D}, xs[i]? = some x → ∃ q, qs[i]? = some q ∧ Nm x q := by
  induction h with
  | nil => intro i x e; cases e
  | cons h t ih =>
    intro i x e
    cases i with
    | zero => cases e; exact ⟨_, rfl, h⟩
    | succ i => exact ih (i := i) e
theorem Nms.all (h : Nms xs qs) : xs.all isN = true := by
  induction h with
  | nil => rfl
  | cons h t ih => cases h <;> exact ih
theorem Nms.plains (h : Nms xs qs) : ∀ x ∈ xs, plainD x = true := by
  induction h with
  | nil => intro x h; cases h
  | cons h t ih =>
    intro x hx
    rcases List.mem_cons.mp hx with e | e
    · rw [e]; exact h.plain
    · exact ih x e
theorem TabD.length {ts : List D} {A : Mat} (h : TabD ts A) : ts.length = A.length := by
  induction h with
  | nil => rfl
  | cons _ _ _ ih => rw [List.length_cons, List.length_cons, ih]
theorem TabD.get {ts : List D} {A : Mat} (h : TabD ts A) : ∀ {i : Nat} {x : D}, ts[i]? = some x → ∃ xs r, A[i]? = some r ∧ SeqD x xs ∧ Nms xs r := by
  induction h with
  | nil => intro i x e; cases e
  | cons h n t ih =>
    intro i x e
    cases i with
    | zero => cases e; exact ⟨_, _, rfl, h, n⟩
    | succ i => exact ih (i := i) e
theorem getD_of {α : Type} {l : List α} {i : Nat} {a b : α} (h : l[i]? = some a) : l.getD i b = a := by rw [List.getD_eq_getElem?_getD, h]; rfl
theorem get_of {α : Type} {l : List α} {i : Nat} {b : α} (h : i < l.length) : l[i]? = some (l.getD i b) := by rw [List.getElem?_eq_getElem h, getD_of (List.getElem?_eq_getElem h)]
theorem RLd_at {r : Row} {j : Nat} (h : j < r.length) : atI (r.map D.rat) (j : Int) = some (.rat (r.getD j 0)) := atI_nat (by rw [List.getElem?_map, get_of h]; rfl)
theorem RMd_at {A : Mat} {i : Nat} (h : i < A.length) : atI (A.map RLd) (i : Int) = some (RLd (A.getD i [])) := atI_nat (by rw [List.getElem?_map, get_of h]; rfl)
theorem row_mem {A : Mat} {i : Nat} (h : i < A.length) : A.getD i [] ∈ A := by
  rw [getD_of (List.getElem?_eq_getElem h)]
  exact List.getElem_mem h
theorem ent_mem {A : Mat} {i j : Nat} (h : i < A.length) (h2 : j < (A.getD i []).length) : ent A i j ∈ A.getD i [] := by
  unfold ent
  rw [getD_of (List.getElem?_eq_getElem h2)]
  exact List.getElem_mem h2
theorem int_eq {i j : Int} : eqD (.int i) (.int j) = decide (i = j) := rfl
theorem bod_are_numbers : Bod C (t_are_numbers K C CN) 3 S_are_numbers := bod_pS fun ds μ d ⟨v, m, e, h1, h2, h3, hd⟩ => by
  subst e hd
  have c1 : ∀ ρ : Sto, ρ[0]? = some (some v) → AE C (tcR (SpO C CN S_is_list) E0 (tCons (tVar 0) tNil)) ρ μ (.bl (isL v)) μ := fun ρ hr => ae_call (aa1 (ae_var hr)) (pS.mk ⟨_, rfl, h1, rfl⟩)
  refine as_ret (d := .bl (numsB v m)) ?_ ev
  unfold numsB
  cases hL : isL v with
  | false => exact (ae_and0 ((c1 _ rfl).is (by rw [hL]))).is rfl
  | true =>
    have hs : SeqD v (itemsD v) := by
      cases v with
      | lst xs => exact .lst xs
      | tup xs => exact .tup xs
      | _ => cases hL
    refine ae_and1 ((c1 _ rfl).is (by rw [hL])) (ae_and (c := (itemsD v).all isN) ((ae_op (ae_cb (aa1 (ae_var rfl)) (ac_len hs)) (ae_var rfl) (eq_s rfl)).is rfl) fun _ => ?_)
    refine (ae_cb (aa1 (AF.e (af_mapY (((itemsD v).map isN).map D.bl) (ai_seq hs (ae_var rfl)) (by simp) (by omega) fun i x y hx hy => ?_))) ac_all).is (by rw [List.all_map]; rfl)
    rw [List.getElem?_map, List.getElem?_map, hx] at hy
    cases hy
    exact ⟨_, _, ag_name, by simp, at_yes, ae_call (aa1 (ae_var rfl)) (pS.mk ⟨_, rfl, h2 x (List.mem_of_getElem? hx), rfl⟩)⟩
theorem bod_ratios_of : Bod C (t_ratios_of K C CN) 2 S_ratios_of := bod_pS fun ds μ d ⟨v, xs, qs, e, h1, h2, h3, h4, hd⟩ => by
  subst e hd
  refine as_retF (af_mapY (qs.map D.rat) (ai_seq h1 (ae_var rfl)) (by rw [List.length_map, h2.length]) (by rw [h2.length]; omega) fun i x y hx hy => ?_) evF
  obtain ⟨q, hq, hn⟩ := h2.get hx
  rw [List.getElem?_map, hq] at hy
  cases hy
  exact ⟨_, _, ag_name, by simp, at_yes, ae_call (aa1 (ae_var rfl)) (pS.mk ⟨_, q, rfl, hn, h3 q (List.mem_of_getElem? hq), rfl⟩)⟩
theorem ents {A : Mat} (hs : SqM A) {i j : Nat} (hi : i < A.length) (hj : j < A.length) : AE C te ρ μ (RMd A) μ → ∀ {ti tj : TE}, AE C ti ρ μ (.int (i : Nat)) μ → AE C tj ρ μ (.int (j : Nat)) μ → AE C (tOp (rIx K) (tOp (rIx K) te ti) tj) ρ μ (.rat (ent A i j)) μ := fun h ti tj h1 h2 =>
  ae_op (ae_op h h1 (ix_l (RMd_at hi))) h2 (ix_l (RLd_at (by rw [hs _ (row_mem hi)]; exact hj)))
theorem enum_row {A : Mat} {i : Nat} {p : D} (h : (enuD (A.map RLd))[i]? = some p) : i < A.length ∧ p = .tup [.int (i : Nat), RLd (A.getD i [])] := by
  obtain ⟨x, hx, rfl⟩ := enuD_get h
  rw [List.getElem?_map] at hx
  cases e : A[i]? with
  | none => rw [e] at hx; cases hx
  | some r =>
    rw [e] at hx
    cases hx
    exact ⟨(List.getElem?_eq_some_iff.mp e).1, by rw [getD_of e]⟩
theorem rng_get {lo : Int} {n i : Nat} {p : D} (h : (rngD lo n)[i]? = some p) : i < n ∧ p = .int (lo + (i : Nat)) := by
  have hi : i < n := by have := (List.getElem?_eq_some_iff.mp h).1; rwa [rngD_length] at this
  rw [rngD_get hi] at h
  exact ⟨hi, (Option.some.inj h).symm⟩
theorem get_set_ne {ρ : Sto} {i j : Nat} {x : Option D} (h : i ≠ j) {o : Option (Option D)} (h2 : ρ[j]? = o) : (ρ.set i x)[j]? = o := by rw [List.getElem?_set_ne h]; exact h2
theorem get_set_eq {ρ : Sto} {i : Nat} {x : Option D} (h : i < ρ.length) : (ρ.set i x)[i]? = some x := List.getElem?_set_self h
theorem bod_are_alike : Bod C (t_are_alike K C CN) 4 S_are_alike := bod_pS fun ds μ d ⟨A, e, h1, h2, h3, hd⟩ => by
  subst e hd
  refine as_seq (as_for (fun _ ρ' μ' => μ' = μ ∧ ρ'[0]? = some (some (RMd A)) ∧ ρ'.length = 4) (ai_enum (aa1 (ae_var rfl))) ⟨rfl, rfl, rfl⟩ (fun i p ρ' μ' hp hP => ?_) fun ρ' μ' hP => ?_)
  · obtain ⟨rfl, hr, hl⟩ := hP
    obtain ⟨hi, rfl⟩ := enum_row hp
    refine ⟨_, _, ag_tup rfl (ags_cons ag_name (ags_cons ag_name ags_nil)), ?_⟩
    refine as_for (fun _ ρ2 μ2 => μ2 = μ' ∧ ρ2[0]? = some (some (RMd A)) ∧ ρ2.length = 4 ∧ ρ2[1]? = some (some (.int (i : Nat))) ∧ ρ2[2]? = some (some (RLd (A.getD i [])))) (ai_range1 (n := i) (aa1 (ae_var ?_)) (by omega)) ⟨rfl, ?_, ?_, ?_, ?_⟩ (fun j p ρ2 μ' hp hP => ?_) fun ρ2 μ' hP => ?_
    · exact get_set_ne (by decide) (get_set_eq (by omega))
    · exact get_set_ne (by decide) (get_set_ne (by decide) hr)
    · rw [List.length_set, List.length_set, hl]
    · exact get_set_ne (by decide) (get_set_eq (by omega))
    · exact get_set_eq (by rw [List.length_set]; omega)
    · obtain ⟨rfl, hr0, hl2, hr1, hr2⟩ := hP
      obtain ⟨hj, rfl⟩ := rng_get hp
      refine ⟨_, _, ag_name, ?_⟩
      rw [Int.zero_add]
      have e3 : (ρ2.set 3 (some (D.int (j : Nat))))[3]? = some (some (.int (j : Nat))) := get_set_eq (by omega)
      refine as_ifF (at_test ((ae_op (ae_op (ae_var (get_set_ne (by decide) hr2)) (ae_var e3) (ix_l (RLd_at (by rw [h1 _ (row_mem hi)]; omega)))) (ents h1 (show j < A.length by omega) hi (ae_var (get_set_ne (by decide) hr0)) (ae_var e3) (ae_var (get_set_ne (by decide) hr1))) ne_q).is ?_)) (as_next ⟨rfl, get_set_ne (by decide) hr0, by rw [List.length_set]; exact hl2, get_set_ne (by decide) hr1, get_set_ne (by decide) hr2⟩)
      rw [show (A.getD i []).getD j 0 = ent A i j from rfl, h2 i j hi (by omega), decide_eq_true rfl]
      rfl
    · exact ⟨hP.1, hP.2.1, hP.2.2.1⟩
  · exact hP.1 ▸ as_ret ae_bl ev
theorem TabOk.rows {v : D} {A : Mat} (h : TabOk v A) : ∃ ts, SeqD v ts ∧ TabD ts A ∧ ts.length = A.length := by
  obtain ⟨ts, h1, h2⟩ := h.tab
  exact ⟨ts, h1, h2, h2.length⟩
theorem bod_told_rows : Bod C (t_told_rows K C CN) 2 S_told_rows := bod_pS fun ds μ d ⟨v, A, e, h, hd⟩ => by
  subst e hd
  obtain ⟨ts, h1, h2, h3⟩ := h.rows
  refine as_seq (as_ifF (at_not (b := true) (at_B (ae_call (aa1 (ae_var rfl)) (pS.mk ⟨_, A, rfl, h, rfl⟩)))) (as_next (as_retF (af_mapY (A.map RLd) (ai_seq h1 (ae_var rfl)) (by rw [List.length_map, h3]) (by have := h.n2; omega) fun i x y hx hy => ?_) evF)))
  obtain ⟨xs, r, hr, hs, hn⟩ := h2.get hx
  rw [List.getElem?_map, hr] at hy
  cases hy
  have hm := List.mem_of_getElem? hr
  exact ⟨_, _, ag_name, by simp, at_yes, ae_call (aa1 (ae_var rfl)) (pS.mk ⟨_, xs, r, rfl, hs, hn, h.sm r hm, by rw [h.sq r hm]; have := h.n2; omega, rfl⟩)⟩
theorem bod_is_table : Bod C (t_is_table K C CN) 2 S_is_table := bod_pS fun ds μ d ⟨v, A, e, h, hd⟩ => by
  subst e hd
  obtain ⟨ts, h1, h2, h3⟩ := h.rows
  have n1 := h.n1
  have n2 := h.n2
  refine as_seq (as_ifF (at_or0 (at_not (b := true) (at_B ((ae_call (aa1 (ae_var rfl)) (pS.mk ⟨_, rfl, h1.plain, rfl⟩)).is (by rw [h1.isL])))) (at_not (b := true) (at_test (ae_chain1 ae_int (ae_cb (aa1 (ae_var rfl)) (ac_len h1)) (a2_i0 fun B => ?_) ae_int (a2_i0 fun B => ?_))))) (as_next ?_))
  · show V.bl (decide ((1 : Int) ≤ (ts.length : Nat))) = V.bl true
    rw [decide_eq_true (by omega)]
  · show V.bl (decide (((ts.length : Nat) : Int) ≤ 20)) = V.bl true
    rw [decide_eq_true (by omega)]
  refine as_seq (as_ifF (at_not (b := true) (at_B ((ae_cb (aa1 (AF.e (af_mapY ((ts.map fun _ => true).map D.bl) (ai_seq h1 (ae_var rfl)) (by simp) (by omega) fun i x y hx hy => ?_))) ac_all).is ?_))) (as_next ?_))
  · rw [List.getElem?_map, List.getElem?_map, hx] at hy
    cases hy
    obtain ⟨xs, r, hr, hs, hn⟩ := h2.get hx
    have hm := List.mem_of_getElem? hr
    refine ⟨_, _, ag_name, by simp, at_yes, (ae_call (aa2 (ae_var rfl) (ae_cb (aa1 (ae_var rfl)) (ac_len h1))) (pS.mk ⟨_, _, rfl, hs.plain, by rw [hs.items]; exact hn.plains, by rw [hs.items, hn.length, h.sq r hm]; omega, rfl⟩)).is ?_⟩
    unfold numsB
    rw [hs.isL, hs.items, hn.all, hn.length, h.sq r hm, h3, decide_eq_true rfl]
    rfl
  · rw [List.all_map]; simp
  refine as_ret (ae_call (aa1 (AF.e (af_mapY (A.map RLd) (ai_seq h1 (ae_var rfl)) (by rw [List.length_map, h3]) (by omega) fun i x y hx hy => ?_))) (pS.mk ⟨A, rfl, h.sq, h.sym, by omega, rfl⟩)) ev
  obtain ⟨xs, r, hr, hs, hn⟩ := h2.get hx
  rw [List.getElem?_map, hr] at hy
  cases hy
  have hm := List.mem_of_getElem? hr
  exact ⟨_, _, ag_name, by simp, at_yes, ae_call (aa1 (ae_var rfl)) (pS.mk ⟨_, xs, r, rfl, hs, hn, h.sm r hm, by rw [h.sq r hm]; omega, rfl⟩)⟩
theorem bod_made_by : Bod C (t_made_by K C CN) 3 S_made_by := bod_pS fun ds μ d ⟨A, v, e, h1, h2, hd⟩ => by
  subst e hd
  refine as_retF (af_mapY ((mv A v).map D.rat) (ai_seqL (ae_var rfl)) (by unfold mv; simp) (by rw [List.length_map]; omega) fun i x y hx hy => ?_) evF
  rw [List.getElem?_map] at hx
  cases e : A[i]? with
  | none => rw [e] at hx; cases hx
  | some r =>
    rw [e] at hx
    cases hx
    unfold mv at hy
    rw [List.getElem?_map, List.getElem?_map, e] at hy
    cases hy
    obtain ⟨h3, h4⟩ := h2 r (List.mem_of_getElem? e)
    exact ⟨_, _, ag_name, by simp, at_yes, ae_call (aa2 (ae_var rfl) (ae_var rfl)) (pS.mk ⟨r, v, rfl, h3, h4, rfl⟩)⟩
theorem bod_value_in : Bod C (t_value_in K C CN) 3 S_value_in := bod_pS fun ds μ d ⟨A, a, b, e, h1, h2, h3, h4, hd⟩ => by
  subst e hd
  exact as_ret (ae_call (aa2 (ae_var rfl) (ae_call (aa2 (ae_var rfl) (ae_var rfl)) (pS.mk ⟨A, b, rfl, h1, h3, rfl⟩))) (pS.mk ⟨a, mv A b, rfl, h2, h4, rfl⟩)) ev
/-- a zip of two lists of numbers -/
theorem zip_get {a b : Row} {i : Nat} {p : D} {f : Rat → Rat → Rat} {y : D} (hp : (prsD (a.map D.rat) (b.map D.rat))[i]? = some p) (hy : ((List.zipWith f a b).map D.rat)[i]? = some y) : ∃ s t, s ∈ a ∧ t ∈ b ∧ p = .tup [.rat s, .rat t] ∧ y = .rat (f s t) := by
  obtain ⟨x1, x2, e1, e2, rfl⟩ := prsD_zip_get hp
  obtain ⟨s, hs, rfl⟩ := map_rat_get e1
  obtain ⟨t, ht, rfl⟩ := map_rat_get e2
  rw [List.getElem?_map, List.getElem?_zipWith, hs, ht] at hy
  exact ⟨s, t, List.mem_of_getElem? hs, List.mem_of_getElem? ht, rfl, (Option.some.inj hy).symm⟩
theorem zip_len {a b : Row} {f : Rat → Rat → Rat} : ((List.zipWith f a b).map D.rat).length = (prsD (a.map D.rat) (b.map D.rat)).length := by
  rw [List.length_map, List.length_zipWith, prsD_length, List.length_map, List.length_map]
theorem bod_lessened : Bod C (t_lessened K C CN) 5 S_lessened := bod_pS fun ds μ d ⟨r, o, c, e, h1, ⟨h2, h3, h4, h5⟩, hd⟩ => by
  subst e hd
  refine as_retF (af_mapY ((lessR r o c).map D.rat) (ai_zip (aa2 (ae_var rfl) (ae_var rfl))) zip_len (by rw [prsD_length, List.length_map]; omega) fun i x y hx hy => ?_) evF
  obtain ⟨s, t, hs, ht, rfl, rfl⟩ := zip_get hx hy
  exact ⟨_, _, ag_tup rfl (ags_cons ag_name (ags_cons ag_name ags_nil)), by simp, at_yes, ae_op (ae_var rfl) (ae_op (ae_var rfl) (ae_var rfl) (mul_q (h4 t ht) h2)) (sub_q (h3 s hs) (h5 t ht))⟩
theorem ae_sign (h : AE C te ρ μ (.rat q) μ1) : AE C (tPrR C (SpO C CN S_Rsign) E0 te) ρ μ (.int (sgn q)) μ1 := ae_prop h (pS.mk ⟨q, rfl, rfl⟩)
theorem sgn_ne : (!eqD (.int (sgn q)) (.int 0)) = decide (q ≠ 0) := by
  unfold sgn
  rw [int_eq]
  by_cases h : 0 < q
  · rw [if_pos h, decide_eq_true (show q ≠ 0 by grind)]; rfl
  · rw [if_neg h]
    by_cases h2 : q < 0
    · rw [if_pos h2, decide_eq_true (show q ≠ 0 by grind)]; rfl
    · rw [if_neg h2, decide_eq_false (show ¬ q ≠ 0 by grind)]; rfl
theorem ae_nz (h : AE C te ρ μ (.rat q) μ1) : AT C (tTest (tOp (rNeU C CN K) (tPrR C (SpO C CN S_Rsign) E0 te) (tC (.int 0)))) ρ μ (decide (q ≠ 0)) μ1 := at_test ((ae_op (ae_sign h) ae_int (ne_s rfl)).is (by rw [sgn_ne]))
theorem find_none_upto {n : Nat} {f : Nat → Bool} (h : ∀ i, i < n → f i = false) : (List.range n).find? f = none := by
  rw [List.find?_eq_none]
  intro x hx
  rw [h x (List.mem_range.mp hx)]
  simp
theorem find_at {n i : Nat} {f : Nat → Bool} (hi : i < n) (hf : f i = true) (h : ∀ j, j < i → f j = false) : (List.range n).find? f = some i := by
  have e : List.range n = List.range i ++ (List.range (n - i)).map (i + ·) := by
    rw [← List.range_add]
    congr 1
    omega
  rw [e, List.find?_append, find_none_upto h]
  obtain ⟨m, hm⟩ : ∃ m, n - i = m + 1 := ⟨n - i - 1, by omega⟩
  rw [hm, List.range_succ_eq_map, List.map_cons, List.find?_cons]
  show (match f (i + 0) with | true => some (i + 0) | false => _) = some i
  rw [Nat.add_zero, hf]
theorem bod_pivot_at : Bod C (t_pivot_at K C CN) 4 S_pivot_at := bod_pS fun ds μ d ⟨A, b, c, e, h1, h2, h3, hd⟩ => by
  subst e hd
  refine as_seq (as_for (fun i ρ' μ' => μ' = μ ∧ ρ'[0]? = some (some (RMd A)) ∧ ρ'[2]? = some (some (.int (c : Nat))) ∧ ρ'.length = 4 ∧ ∀ j, j < b + i → (decide (b ≤ j) && decide (ent A j c ≠ 0)) = false)
    (ai_range2 (i := b) (j := A.length) (aa2 (ae_var rfl) ((ae_cb (aa1 (ae_var rfl)) ac_len_l).is (by rw [List.length_map]))) (by omega)) ⟨rfl, rfl, rfl, rfl, fun j hj => ?_⟩ (fun i p ρ' μ' hp hP => ?_) fun ρ' μ' hP => ?_)
  · rw [decide_eq_false (show ¬ b ≤ j by omega)]; rfl
  · obtain ⟨rfl, hr0, hr2, hl, hb⟩ := hP
    obtain ⟨hi, rfl⟩ := rng_get hp
    have hi' : b + i < A.length := by omega
    rw [show ((b : Nat) : Int) + (i : Nat) = ((b + i : Nat) : Int) by omega]
    have e3 : (ρ'.set 3 (some (D.int ((b + i : Nat) : Int))))[3]? = some (some (.int ((b + i : Nat) : Int))) := get_set_eq (by omega)
    refine ⟨_, _, ag_name, as_if (ae_nz (q := ent A (b + i) c) (ae_op (ae_op (ae_var (get_set_ne (by decide) hr0)) (ae_var e3) (ix_l (RMd_at hi'))) (ae_var (get_set_ne (by decide) hr2)) (ix_l (RLd_at (h3 _ (row_mem hi')))))) (fun hz => ?_) fun hz => ?_⟩
    · refine as_ret (ae_var e3) ?_
      have : pivotAt A b c = some (b + i) := find_at hi' (by rw [hz, decide_eq_true (show b ≤ b + i by omega)]; rfl) fun j hj => hb j hj
      rw [this]
      exact ev
    · refine as_next ⟨rfl, get_set_ne (by decide) hr0, get_set_ne (by decide) hr2, by rw [List.length_set]; exact hl, fun j hj => ?_⟩
      rcases Nat.lt_succ_iff_lt_or_eq.mp (show j < (b + i) + 1 by omega) with z | z
      · exact hb j z
      · rw [z, hz, Bool.and_false]
  · obtain ⟨rfl, hr0, hr2, hl, hb⟩ := hP
    rw [rngD_length] at hb
    have : pivotAt A b c = none := find_none_upto fun j hj => hb j (by omega)
    rw [this]
    exact as_ret ae_non ev
theorem bod_single_at : Bod C (t_single_at K C CN) 3 S_single_at := bod_pS fun ds μ d ⟨A, e, h1, h2, hd⟩ => by
  subst e hd
  refine as_seq (as_for (fun i ρ' μ' => μ' = μ ∧ ρ'.length = 3 ∧ ∀ j, j < i → decide (ent A j j ≠ 0) = false) (ai_enum (aa1 (ae_var rfl))) ⟨rfl, rfl, fun j hj => absurd hj (by omega)⟩ (fun i p ρ' μ' hp hP => ?_) fun ρ' μ' hP => ?_)
  · obtain ⟨rfl, hl, hb⟩ := hP
    obtain ⟨hi, rfl⟩ := enum_row hp
    have e1 : ((ρ'.set 1 (some (D.int (i : Nat)))).set 2 (some (RLd (A.getD i []))))[1]? = some (some (.int (i : Nat))) := get_set_ne (by decide) (get_set_eq (by omega))
    refine ⟨_, _, ag_tup rfl (ags_cons ag_name (ags_cons ag_name ags_nil)), as_if (ae_nz (q := ent A i i) (ae_op (ae_var (get_set_eq (by rw [List.length_set]; omega))) (ae_var e1) (ix_l (RLd_at (by rw [h1 _ (row_mem hi)]; exact hi))))) (fun hz => ?_) fun hz => ?_⟩
    · refine as_ret (ae_var e1) ?_
      have : singleAt A = some i := find_at hi hz hb
      rw [this]
      exact ev
    · refine as_next ⟨rfl, by rw [List.length_set, List.length_set]; exact hl, fun j hj => ?_⟩
      rcases Nat.lt_succ_iff_lt_or_eq.mp hj with z | z
      · exact hb j z
      · rw [z, hz]
  · obtain ⟨rfl, hl, hb⟩ := hP
    rw [enuD_length, List.length_map] at hb
    have : singleAt A = none := find_none_upto hb
    rw [this]
    exact as_ret ae_non ev
theorem findSome_none_upto {α : Type} {n : Nat} {f : Nat → Option α} (h : ∀ i, i < n → f i = none) : (List.range n).findSome? f = none := by
  rw [List.findSome?_eq_none_iff]
  intro x hx
  exact h x (List.mem_range.mp hx)
theorem findSome_at {α : Type} {n i : Nat} {f : Nat → Option α} {a : α} (hi : i < n) (hf : f i = some a) (h : ∀ j, j < i → f j = none) : (List.range n).findSome? f = some a := by
  have e : List.range n = List.range i ++ (List.range (n - i)).map (i + ·) := by
    rw [← List.range_add]
    congr 1
    omega
  rw [e, List.findSome?_append, findSome_none_upto h]
  obtain ⟨m, hm⟩ : ∃ m, n - i = m + 1 := ⟨n - i - 1, by omega⟩
  rw [hm, List.range_succ_eq_map, List.map_cons, List.findSome?_cons]
  show (Option.or none (match f (i + 0) with | some b => some b | none => _)) = some a
  rw [Nat.add_zero, hf]
  rfl
theorem bod_pair_at : Bod C (t_pair_at K C CN) 4 S_pair_at := bod_pS fun ds μ d ⟨A, e, h1, h2, hd⟩ => by
  subst e hd
  refine as_seq (as_for (fun i ρ' μ' => μ' = μ ∧ ρ'[0]? = some (some (RMd A)) ∧ ρ'.length = 4 ∧ ∀ j, j < i → pairIn A j = none) (ai_enum (aa1 (ae_var rfl))) ⟨rfl, rfl, rfl, fun j hj => absurd hj (by omega)⟩ (fun i p ρ' μ' hp hP => ?_) fun ρ' μ' hP => ?_)
  · obtain ⟨rfl, hr0, hl, hb⟩ := hP
    obtain ⟨hi, rfl⟩ := enum_row hp
    refine ⟨_, _, ag_tup rfl (ags_cons ag_name (ags_cons ag_name ags_nil)), ?_⟩
    have g0 : ((ρ'.set 1 (some (D.int (i : Nat)))).set 2 (some (RLd (A.getD i []))))[0]? = some (some (RMd A)) := get_set_ne (by decide) (get_set_ne (by decide) hr0)
    have g1 : ((ρ'.set 1 (some (D.int (i : Nat)))).set 2 (some (RLd (A.getD i []))))[1]? = some (some (.int (i : Nat))) := get_set_ne (by decide) (get_set_eq (by omega))
    have g2 : ((ρ'.set 1 (some (D.int (i : Nat)))).set 2 (some (RLd (A.getD i []))))[2]? = some (some (RLd (A.getD i []))) := get_set_eq (by rw [List.length_set]; omega)
    have gl : ((ρ'.set 1 (some (D.int (i : Nat)))).set 2 (some (RLd (A.getD i [])))).length = 4 := by rw [List.length_set, List.length_set]; exact hl
    generalize (ρ'.set 1 (some (D.int (i : Nat)))).set 2 (some (RLd (A.getD i []))) = ρ1 at g0 g1 g2 gl
    refine as_for (fun t ρ2 μ2 => μ2 = μ' ∧ ρ2[0]? = some (some (RMd A)) ∧ ρ2[1]? = some (some (.int (i : Nat))) ∧ ρ2[2]? = some (some (RLd (A.getD i []))) ∧ ρ2.length = 4 ∧ ∀ j, j < (i + 1) + t → (decide (i + 1 ≤ j) && decide (ent A i j ≠ 0)) = false)
      (ai_range2 (i := ((i + 1 : Nat) : Int)) (j := A.length) (aa2 ((ae_op (ae_var g1) ae_int add_i).is (by show D.int ((i : Nat) + 1) = _; rfl)) ((ae_cb (aa1 (ae_var g0)) ac_len_l).is (by rw [List.length_map]))) (by omega)) ⟨rfl, g0, g1, g2, gl, fun j hj => ?_⟩ (fun t p ρ2 μ' hp hP => ?_) fun ρ2 μ' hP => ?_
    · rw [decide_eq_false (show ¬ i + 1 ≤ j by omega)]; rfl
    · obtain ⟨rfl, k0, k1, k2, kl, kb⟩ := hP
      obtain ⟨ht, rfl⟩ := rng_get hp
      have ht' : i + 1 + t < A.length := by omega
      rw [show ((i + 1 : Nat) : Int) + (t : Nat) = ((i + 1 + t : Nat) : Int) by omega]
      have e3 : (ρ2.set 3 (some (D.int ((i + 1 + t : Nat) : Int))))[3]? = some (some (.int ((i + 1 + t : Nat) : Int))) := get_set_eq (by omega)
      refine ⟨_, _, ag_name, as_if (ae_nz (q := ent A i (i + 1 + t)) (ae_op (ae_var (get_set_ne (by decide) k2)) (ae_var e3) (ix_l (RLd_at (by rw [h1 _ (row_mem hi)]; exact ht'))))) (fun hz => ?_) fun hz => ?_⟩
      · refine as_ret (ae_tup (aa2 (ae_var (get_set_ne (by decide) k1)) (ae_var e3)) (Nat.le_of_ble_eq_true rfl)) ?_
        have e5 : pairIn A i = some (i + 1 + t) := find_at ht' (by rw [hz, decide_eq_true (show i + 1 ≤ i + 1 + t by omega)]; rfl) fun j hj => kb j hj
        have : pairAt A = some (i, i + 1 + t) := findSome_at hi (by rw [e5]; rfl) fun j hj => by rw [hb j hj]; rfl
        rw [this]
        exact ev
      · refine as_next ⟨rfl, get_set_ne (by decide) k0, get_set_ne (by decide) k1, get_set_ne (by decide) k2, by rw [List.length_set]; exact kl, fun j hj => ?_⟩
        rcases Nat.lt_succ_iff_lt_or_eq.mp (show j < (i + 1 + t) + 1 by omega) with z | z
        · exact kb j z
        · rw [z, hz, Bool.and_false]
    · obtain ⟨rfl, k0, k1, k2, kl, kb⟩ := hP
      rw [rngD_length] at kb
      refine ⟨rfl, k0, kl, fun j hj => ?_⟩
      rcases Nat.lt_succ_iff_lt_or_eq.mp hj with z | z
      · exact hb j z
      · rw [z]; exact find_none_upto fun l hl' => kb l (by omega)
  · obtain ⟨rfl, hr0, hl, hb⟩ := hP
    rw [enuD_length, List.length_map] at hb
    have : pairAt A = none := findSome_none_upto fun j hj => by rw [hb j hj]; rfl
    rw [this]
    exact as_ret ae_non ev
theorem bod_less_square : Bod C (t_less_square K C CN) 5 S_less_square := bod_pS fun ds μ d ⟨A, c, f, e, ⟨h1, h2, h3, h4⟩, hd⟩ => by
  subst e hd
  refine as_retF (af_mapY ((lessSq A c f).map RLd) (ai_zip (aa2 (ae_var rfl) (ae_var rfl))) (by unfold lessSq; rw [List.length_map, List.length_zipWith, prsD_length, List.length_map, List.length_map]) (by rw [prsD_length, List.length_map]; omega) fun i x y hx hy => ?_) evF
  obtain ⟨x1, x2, e1, e2, rfl⟩ := prsD_zip_get hx
  obtain ⟨t, ht, rfl⟩ := map_rat_get e2
  rw [List.getElem?_map] at e1
  cases e : A[i]? with
  | none => rw [e] at e1; cases e1
  | some r =>
    rw [e] at e1
    cases e1
    unfold lessSq at hy
    rw [List.getElem?_map, List.getElem?_zipWith, e, ht] at hy
    cases hy
    obtain ⟨h5, h6⟩ := h4 r (List.mem_of_getElem? e)
    have ht' := List.mem_of_getElem? ht
    exact ⟨_, _, ag_tup rfl (ags_cons ag_name (ags_cons ag_name ags_nil)), by simp, at_yes, ae_call (aa3 (ae_var rfl) (ae_var rfl) (ae_op (ae_var rfl) (ae_var rfl) (mul_q h2 (h3 t ht')))) (pS.mk ⟨r, f, c * t, rfl, h5, h6 t ht', rfl⟩)⟩
theorem ae_one (i : Int) (h : i.natAbs.log2 < 100000 := by decide) : AE C (StX.tMakeR C (spIni C [.int 1]) E0 (tCons (tC (.int i)) tNil)) ρ μ (.rat (i : Rat)) μ := (ae_make1 (aa1 ae_int) h).is (by rw [q_one])
theorem sm_int {i : Int} (h : i.natAbs < 1000) : Sm (i : Rat) := by
  refine ⟨?_, ?_⟩
  · rw [Rat.num_intCast]; exact Nat.lt_of_lt_of_le h (by decide)
  · rw [Rat.den_intCast]; decide
theorem ae_over {p : Rat} {tf : TE} (h : AE C te ρ μ (.rat p) μ) (h2 : AE C tf ρ μ (.rat q) μ) (hp : Sm p) (hq : Sm q) (h0 : q ≠ 0) : AE C (tMethR C "over" (SpO C CN S_Rover) E0 te (tCons tf tNil)) ρ μ (.rat (p / q)) μ := ae_meth h (aa1 h2) (pS.mk ⟨p, _, q, rfl, .rat q, hp, hq, h0, rfl⟩)
theorem SmM.e {A : Mat} (h : SmM A) (hs : SqM A) {i j : Nat} (hi : i < A.length) (hj : j < A.length) : Sm (ent A i j) := h _ (row_mem hi) _ (ent_mem hi (by rw [hs _ (row_mem hi)]; exact hj))
theorem single_lt {A : Mat} {p : Nat} (h : singleAt A = some p) : p < A.length ∧ ent A p p ≠ 0 := by
  have h1 := List.mem_of_find?_eq_some h
  have h2 := List.find?_some h
  exact ⟨List.mem_range.mp h1, of_decide_eq_true h2⟩
theorem pair_lt {A : Mat} {i j : Nat} (h : pairAt A = some (i, j)) : i < A.length ∧ j < A.length ∧ i < j ∧ ent A i j ≠ 0 := by
  obtain ⟨p, hp, hm⟩ := List.exists_of_findSome?_eq_some h
  cases e : pairIn A p with
  | none => rw [e] at hm; cases hm
  | some o =>
    rw [e] at hm
    cases hm
    have h1 := List.mem_of_find?_eq_some e
    have h2 := List.find?_some e
    rw [Bool.and_eq_true] at h2
    have h3 := of_decide_eq_true h2.1
    exact ⟨List.mem_range.mp hp, List.mem_range.mp h1, by omega, of_decide_eq_true h2.2⟩
theorem bod_next_squares : Bod C (t_next_squares K C CN) 9 S_next_squares := bod_pS fun ds μ d ⟨A, e, ⟨h1, h2, h3, h4⟩, hd⟩ => by
  subst e hd
  refine as_seq (as_set (ae_call (aa1 (ae_var rfl)) (pS.mk ⟨A, rfl, h1, h2, rfl⟩)) ?_)
  have so : Sm (1 : Rat) := sm_int (i := 1) (by decide)
  cases hs : singleAt A with
  | some p =>
    obtain ⟨hp, hz⟩ := single_lt hs
    have e : nextSq A = [(1 / ent A p p, A.getD p [])] := by unfold nextSq; rw [hs]
    rw [e]
    refine as_seq (as_ifT (at_test (ae_op (ae_var (d := .int (p : Nat)) rfl) ae_non (a2_notN rfl))) ?_)
    exact as_retF (af_lst (aa1 (ae_tup (aa2 (ae_over (ae_one 1) (ents h1 hp hp (ae_var rfl) (ae_var rfl) (ae_var rfl)) so (h3.e h1 hp hp) hz) (ae_op (ae_var rfl) (ae_var rfl) (ix_l (RMd_at hp)))) (Nat.le_of_ble_eq_true rfl))) (Nat.le_of_ble_eq_true rfl)) evF
  | none =>
    refine as_seq (as_ifF (at_test (ae_op (ae_var (d := .non) rfl) ae_non (a2_notN rfl))) (as_next ?_))
    refine as_seq (as_set (ae_call (aa1 (ae_var rfl)) (pS.mk ⟨A, rfl, h1, h2, rfl⟩)) ?_)
    cases hq : pairAt A with
    | none =>
      have e : nextSq A = [] := by unfold nextSq; rw [hs, hq]
      rw [e]
      exact as_seq (as_ifT (at_test (ae_op (ae_var (d := .non) rfl) ae_non (a2_isN rfl))) (as_retF (af_lst aa_nil (Nat.le_of_ble_eq_true rfl)) evF))
    | some ij =>
      obtain ⟨i, j⟩ := ij
      obtain ⟨hi, hj, _, hz⟩ := pair_lt hq
      have e : nextSq A = [(1 / (ent A i j * 2), addR (A.getD i []) (A.getD j [])), (-(1 / (ent A i j * 2)), subR (A.getD i []) (A.getD j []))] := by unfold nextSq; rw [hs, hq]
      rw [e]
      obtain ⟨s2, s3⟩ := h4 i j hi hj
      have li : (A.getD i []).length = A.length := h1 _ (row_mem hi)
      have lj : (A.getD j []).length = A.length := h1 _ (row_mem hj)
      have si : ∀ q ∈ A.getD i [], Sm q := h3 _ (row_mem hi)
      have sj : ∀ q ∈ A.getD j [], Sm q := h3 _ (row_mem hj)
      refine as_seq (as_ifF (at_test (ae_op (ae_var (d := .tup [.int (i : Nat), .int (j : Nat)]) rfl) ae_non (a2_isN rfl))) (as_next ?_))
      refine as_seq (as_par (aa2 (ae_op (ae_var rfl) (ae_op (ae_var (d := .tup [.int (i : Nat), .int (j : Nat)]) rfl) ae_int (ix_t (d := .int (i : Nat)) rfl)) (ix_l (RMd_at hi))) (ae_op (ae_var rfl) (ae_op (ae_var (d := .tup [.int (i : Nat), .int (j : Nat)]) rfl) ae_int (ix_t (d := .int (j : Nat)) rfl)) (ix_l (RMd_at hj)))) ?_)
      have hz2 : ent A i j * 2 ≠ 0 := by grind
      refine as_seq (as_set (ae_over (ae_one 1) (ae_op (ae_op (ae_var rfl) (ae_op (ae_var (d := .tup [.int (i : Nat), .int (j : Nat)]) rfl) ae_int (ix_t (d := .int (j : Nat)) rfl)) (ix_l (d := .rat (ent A i j)) (RLd_at (by rw [li]; exact hj)))) ae_int (mul_t (h3.e h1 hi hj) (sm_int (i := 2) (by decide)))) so s2 hz2) ?_)
      refine as_seq (as_set (AF.e (af_mapY ((addR (A.getD i []) (A.getD j [])).map D.rat) (ai_zip (aa2 (ae_var rfl) (ae_var rfl))) zip_len (by rw [prsD_length, List.length_map]; omega) fun i x y hx hy => ?_)) ?_)
      · obtain ⟨s, t, hs, ht, rfl, rfl⟩ := zip_get hx hy
        exact ⟨_, _, ag_tup rfl (ags_cons ag_name (ags_cons ag_name ags_nil)), by simp, at_yes, ae_op (ae_var rfl) (ae_var rfl) (add_q (si s hs) (sj t ht))⟩
      refine as_retF (af_lst (aa2 (ae_tup (aa2 (ae_var rfl) (ae_var rfl)) (Nat.le_of_ble_eq_true rfl)) (ae_tup (aa2 (ae_un (ae_var rfl) (neg_q (s3 hz))) (AF.e (af_mapY ((subR (A.getD i []) (A.getD j [])).map D.rat) (ai_zip (aa2 (ae_var rfl) (ae_var rfl))) zip_len (by rw [prsD_length, List.length_map]; omega) fun i x y hx hy => ?_))) (Nat.le_of_ble_eq_true rfl))) (Nat.le_of_ble_eq_true rfl)) evF
      obtain ⟨s, t, hs, ht, rfl, rfl⟩ := zip_get hx hy
      exact ⟨_, _, ag_tup rfl (ags_cons ag_name (ags_cons ag_name ags_nil)), by simp, at_yes, ae_op (ae_var rfl) (ae_var rfl) (sub_q (si s hs) (sj t ht))⟩
end
end OC
set_option maxHeartbeats 4000000
/-! OcY2: the defs keep their promises. -/
namespace OC
open PySem PySem.Spec PyProof.Rows L2
section
variable {P : Program} {w : World} {K : Frg} {mg : Str → Option Value} {base : Heap}
theorem sc_are_numbers : FnScope N_are_numbers ["value", "many"] (defScope st_are_numbers) := ⟨rfl, rfl, rfl, by decide +kernel, rfl, by decide +kernel, by decide +kernel⟩
theorem ok_are_numbers (T : Tx K mg) : FnR P w K mg base CX0 3 (aF "are_numbers" K) (SpO (cR K) (cN K) S_are_numbers) := by
  obtain ⟨fd, F⟩ := T.def_ 10 df_are_numbers rfl
  have b : Binds K fd ["value", "many"] [] := F.bindsN fun _ _ _ _ _ _ us hl => match us, hl with | [_, _], _ => rfl
  refine fnr_of (F.ok sc_are_numbers (SpO.len len_are_numbers) fun cdv A outer s H vs Q E hr h => ⟨t_are_numbers K (cR K) (cN K), PSs.nox ?_, Bod.go (N := N_are_numbers) (by first | exact bod_are_numbers T | exact bod_are_numbers) h⟩) b
  exact (pss_one (ps_ret (pe_and (pe_cR (ok_is_list T) (hr.mono (by decide)) rfl (T.glo 1 _ rfl) (T.kf 1 _ rfl) pz (pa_cons (pv 0) pa_nil)) (pe_and (pe_cmpR (op_EqU hr) (pe_callB (call_len) rfl (T.free 5 _ rfl) bt_len (pa_cons (pv 0) pa_nil)) (pv 1) (nomark _)) (pe_one (pe_callB (cr_all rfl) rfl (T.free 6 _ rfl) bt_all (pa_cons (pe_lc (own := [("number", 2)]) (wi := (iSeq K (tVar 0))) (g := (gName 2)) (tt := tYes) (te := (tcR (SpO (cR K) (cN K) S_is_number) E0 (tCons (tVar 2) tNil))) rfl sc_are_numbers.nd (pi_seq (pv 0)) (blkOk_by (by kernel_rfl)) (fun _ _ _ _ _ => (pg_name (i := 2) sc_are_numbers.nd rfl (by first | exact Or.inl rfl | exact Or.inr rfl))) (fun _ _ _ _ _ => pts_nil) (fun _ _ _ _ _ => (pe_cR (ok_is_number T) (hr.mono (by decide)) rfl (T.glo 5 _ rfl) (T.kf 5 _ rfl) pz (pa_cons (pv 2) pa_nil)))) pa_nil)))))))

theorem sc_ratios_of : FnScope N_ratios_of ["numbers"] (defScope st_ratios_of) := ⟨rfl, rfl, rfl, by decide +kernel, rfl, by decide +kernel, by decide +kernel⟩
theorem ok_ratios_of (T : Tx K mg) : FnR P w K mg base CX0 5 (aF "ratios_of" K) (SpO (cR K) (cN K) S_ratios_of) := by
  obtain ⟨fd, F⟩ := T.def_ 13 df_ratios_of rfl
  have b : Binds K fd ["numbers"] [] := F.bindsN fun _ _ _ _ _ _ us hl => match us, hl with | [_], _ => rfl
  refine fnr_of (F.ok sc_ratios_of (SpO.len len_ratios_of) fun cdv A outer s H vs Q E hr h => ⟨t_ratios_of K (cR K) (cN K), PSs.nox ?_, Bod.go (N := N_ratios_of) (by first | exact bod_ratios_of T | exact bod_ratios_of) h⟩) b
  exact (pss_one (ps_ret (pe_lc (own := [("number", 1)]) (wi := (iSeq K (tVar 0))) (g := (gName 1)) (tt := tYes) (te := (tcR (SpO (cR K) (cN K) S_ratio_of) E0 (tCons (tVar 1) tNil))) rfl sc_ratios_of.nd (pi_seq (pv 0)) (blkOk_by (by kernel_rfl)) (fun _ _ _ _ _ => (pg_name (i := 1) sc_ratios_of.nd rfl (by first | exact Or.inl rfl | exact Or.inr rfl))) (fun _ _ _ _ _ => pts_nil) (fun _ _ _ _ _ => (pe_cR (ok_ratio_of T) (hr.mono (by decide)) rfl (T.glo 6 _ rfl) (T.kf 6 _ rfl) pz (pa_cons (pv 1) pa_nil))))))

theorem sc_are_alike : FnScope N_are_alike ["rows"] (defScope st_are_alike) := ⟨rfl, rfl, rfl, by decide +kernel, rfl, by decide +kernel, by decide +kernel⟩
theorem ok_are_alike (T : Tx K mg) : FnR P w K mg base CX0 3 (aF "are_alike" K) (SpO (cR K) (cN K) S_are_alike) := by
  obtain ⟨fd, F⟩ := T.def_ 11 df_are_alike rfl
  have b : Binds K fd ["rows"] [] := F.bindsN fun _ _ _ _ _ _ us hl => match us, hl with | [_], _ => rfl
  refine fnr_of (F.ok sc_are_alike (SpO.len len_are_alike) fun cdv A outer s H vs Q E hr h => ⟨t_are_alike K (cR K) (cN K), PSs.nox ?_, Bod.go (N := N_are_alike) (by first | exact bod_are_alike T | exact bod_are_alike) h⟩) b
  exact (pss_cons (ps_for PassesOwn.never rfl (pi_enum rfl (T.free 9 _ rfl) (pa_cons (pv 0) pa_nil)) (pg_tup rfl (pgs_cons (pg_name (i := 1) sc_are_alike.nd rfl (by first | exact Or.inl rfl | exact Or.inr rfl)) (pgs_cons (pg_name (i := 2) sc_are_alike.nd rfl (by first | exact Or.inl rfl | exact Or.inr rfl)) pgs_nil))) (pss_one (ps_for PassesOwn.never rfl (pi_range1 rfl (T.free 10 _ rfl) (pa_cons (pv 1) pa_nil)) (pg_name (i := 3) sc_are_alike.nd rfl (by first | exact Or.inl rfl | exact Or.inr rfl)) (pss_one (ps_if (pt_cmpR (op_NeU T (ok_R__eq__ T) (hr.mono (by decide))) (pe_ix ix_seq (pv 2) (pv 3) (fun _ _ => rfl)) (pe_ix ix_seq (pe_ix ix_seq (pv 0) (pv 3) (fun _ _ => rfl)) (pv 1) (fun _ _ => rfl)) (nomark _)) (pss_one (ps_ret pe_bl)) pss_nil)))))
  (pss_one (ps_ret pe_bl)))

theorem sc_is_table : FnScope N_is_table ["value"] (defScope st_is_table) := ⟨rfl, rfl, rfl, by decide +kernel, rfl, by decide +kernel, by decide +kernel⟩
theorem ok_is_table (T : Tx K mg) : FnR P w K mg base CX0 6 (aF "is_table" K) (SpO (cR K) (cN K) S_is_table) := by
  obtain ⟨fd, F⟩ := T.def_ 12 df_is_table rfl
  have b : Binds K fd ["value"] [] := F.bindsN fun _ _ _ _ _ _ us hl => match us, hl with | [_], _ => rfl
  refine fnr_of (F.ok sc_is_table (SpO.len len_is_table) fun cdv A outer s H vs Q E hr h => ⟨t_is_table K (cR K) (cN K), PSs.nox ?_, Bod.go (N := N_is_table) (by first | exact bod_is_table T | exact bod_is_table) h⟩) b
  exact (pss_cons (ps_if (PW.pt (pw_or (pt_not (pt_val (pe_cR (ok_is_list T) (hr.mono (by decide)) rfl (T.glo 1 _ rfl) (T.kf 1 _ rfl) pz (pa_cons (pv 0) pa_nil)))) (pw_or1 (pt_not (pt_chain (op_le) (op_le) pe_int (pe_callB (call_len) rfl (T.free 5 _ rfl) bt_len (pa_cons (pv 0) pa_nil)) (pe_glob rfl T.rows.choose_spec ⟨_, rfl⟩)))))) (pss_one (ps_ret pe_bl)) pss_nil)
  (pss_cons (ps_if (pt_not (pt_val (pe_callB (cr_all rfl) rfl (T.free 6 _ rfl) bt_all (pa_cons (pe_lc (own := [("row", 1)]) (wi := (iSeq K (tVar 0))) (g := (gName 1)) (tt := tYes) (te := (tcR (SpO (cR K) (cN K) S_are_numbers) E0 (tCons (tVar 1) (tCons (tCB (rLen K) (tCons (tVar 0) tNil)) tNil)))) rfl sc_is_table.nd (pi_seq (pv 0)) (blkOk_by (by kernel_rfl)) (fun _ _ _ _ _ => (pg_name (i := 1) sc_is_table.nd rfl (by first | exact Or.inl rfl | exact Or.inr rfl))) (fun _ _ _ _ _ => pts_nil) (fun _ _ _ _ _ => (pe_cR (ok_are_numbers T) (hr.mono (by decide)) rfl (T.glo 10 _ rfl) (T.kf 10 _ rfl) pz (pa_cons (pv 1) (pa_cons (pe_callB (call_len) rfl (T.free 5 _ rfl) bt_len (pa_cons (pv 0) pa_nil)) pa_nil))))) pa_nil)))) (pss_one (ps_ret pe_bl)) pss_nil)
  (pss_one (ps_ret (pe_cR (ok_are_alike T) (hr.mono (by decide)) rfl (T.glo 11 _ rfl) (T.kf 11 _ rfl) pz (pa_cons (pe_lc (own := [("row", 1)]) (wi := (iSeq K (tVar 0))) (g := (gName 1)) (tt := tYes) (te := (tcR (SpO (cR K) (cN K) S_ratios_of) E0 (tCons (tVar 1) tNil))) rfl sc_is_table.nd (pi_seq (pv 0)) (blkOk_by (by kernel_rfl)) (fun _ _ _ _ _ => (pg_name (i := 1) sc_is_table.nd rfl (by first | exact Or.inl rfl | exact Or.inr rfl))) (fun _ _ _ _ _ => pts_nil) (fun _ _ _ _ _ => (pe_cR (ok_ratios_of T) (hr.mono (by decide)) rfl (T.glo 13 _ rfl) (T.kf 13 _ rfl) pz (pa_cons (pv 1) pa_nil)))) pa_nil))))))

theorem sc_told_rows : FnScope N_told_rows ["table"] (defScope st_told_rows) := ⟨rfl, rfl, rfl, by decide +kernel, rfl, by decide +kernel, by decide +kernel⟩
theorem ok_told_rows (T : Tx K mg) : FnR P w K mg base CX0 7 (aF "told_rows" K) (SpO (cR K) (cN K) S_told_rows) := by
  obtain ⟨fd, F⟩ := T.def_ 14 df_told_rows rfl
  have b : Binds K fd ["table"] [] := F.bindsN fun _ _ _ _ _ _ us hl => match us, hl with | [_], _ => rfl
  refine fnr_of (F.ok sc_told_rows (SpO.len len_told_rows) fun cdv A outer s H vs Q E hr h => ⟨t_told_rows K (cR K) (cN K), PSs.nox ?_, Bod.go (N := N_told_rows) (by first | exact bod_told_rows T | exact bod_told_rows) h⟩) b
  exact (pss_cons (ps_if (pt_not (pt_val (pe_cR (ok_is_table T) (hr.mono (by decide)) rfl (T.glo 12 _ rfl) (T.kf 12 _ rfl) pz (pa_cons (pv 0) pa_nil)))) (pss_one ps_never) pss_nil)
  (pss_one (ps_ret (pe_lc (own := [("row", 1)]) (wi := (iSeq K (tVar 0))) (g := (gName 1)) (tt := tYes) (te := (tcR (SpO (cR K) (cN K) S_ratios_of) E0 (tCons (tVar 1) tNil))) rfl sc_told_rows.nd (pi_seq (pv 0)) (blkOk_by (by kernel_rfl)) (fun _ _ _ _ _ => (pg_name (i := 1) sc_told_rows.nd rfl (by first | exact Or.inl rfl | exact Or.inr rfl))) (fun _ _ _ _ _ => pts_nil) (fun _ _ _ _ _ => (pe_cR (ok_ratios_of T) (hr.mono (by decide)) rfl (T.glo 13 _ rfl) (T.kf 13 _ rfl) pz (pa_cons (pv 1) pa_nil)))))))

theorem sc_made_by : FnScope N_made_by ["rows", "numbers"] (defScope st_made_by) := ⟨rfl, rfl, rfl, by decide +kernel, rfl, by decide +kernel, by decide +kernel⟩
theorem ok_made_by (T : Tx K mg) : FnR P w K mg base CX0 7 (aF "made_by" K) (SpO (cR K) (cN K) S_made_by) := by
  obtain ⟨fd, F⟩ := T.def_ 15 df_made_by rfl
  have b : Binds K fd ["rows", "numbers"] [] := F.bindsN fun _ _ _ _ _ _ us hl => match us, hl with | [_, _], _ => rfl
  refine fnr_of (F.ok sc_made_by (SpO.len len_made_by) fun cdv A outer s H vs Q E hr h => ⟨t_made_by K (cR K) (cN K), PSs.nox ?_, Bod.go (N := N_made_by) (by first | exact bod_made_by T | exact bod_made_by) h⟩) b
  exact (pss_one (ps_ret (pe_lc (own := [("row", 2)]) (wi := (iSeq K (tVar 0))) (g := (gName 2)) (tt := tYes) (te := (tcR (SpO (cR K) (cN K) S_weighed) E0 (tCons (tVar 2) (tCons (tVar 1) tNil)))) rfl sc_made_by.nd (pi_seq (pv 0)) (blkOk_by (by kernel_rfl)) (fun _ _ _ _ _ => (pg_name (i := 2) sc_made_by.nd rfl (by first | exact Or.inl rfl | exact Or.inr rfl))) (fun _ _ _ _ _ => pts_nil) (fun _ _ _ _ _ => (pe_cR (ok_weighed T) (hr.mono (by decide)) rfl (T.glo 9 _ rfl) (T.kf 9 _ rfl) pz (pa_cons (pv 2) (pa_cons (pv 1) pa_nil)))))))

theorem sc_value_in : FnScope N_value_in ["rows", "first", "second"] (defScope st_value_in) := ⟨rfl, rfl, rfl, by decide +kernel, rfl, by decide +kernel, by decide +kernel⟩
theorem ok_value_in (T : Tx K mg) : FnR P w K mg base CX0 8 (aF "value_in" K) (SpO (cR K) (cN K) S_value_in) := by
  obtain ⟨fd, F⟩ := T.def_ 16 df_value_in rfl
  have b : Binds K fd ["rows", "first", "second"] [] := F.bindsN fun _ _ _ _ _ _ us hl => match us, hl with | [_, _, _], _ => rfl
  refine fnr_of (F.ok sc_value_in (SpO.len len_value_in) fun cdv A outer s H vs Q E hr h => ⟨t_value_in K (cR K) (cN K), PSs.nox ?_, Bod.go (N := N_value_in) (by first | exact bod_value_in T | exact bod_value_in) h⟩) b
  exact (pss_one (ps_ret (pe_cR (ok_weighed T) (hr.mono (by decide)) rfl (T.glo 9 _ rfl) (T.kf 9 _ rfl) pz (pa_cons (pv 1) (pa_cons (pe_cR (ok_made_by T) (hr.mono (by decide)) rfl (T.glo 15 _ rfl) (T.kf 15 _ rfl) pz (pa_cons (pv 0) (pa_cons (pv 2) pa_nil))) pa_nil)))))

theorem sc_lessened : FnScope N_lessened ["row", "other", "number"] (defScope st_lessened) := ⟨rfl, rfl, rfl, by decide +kernel, rfl, by decide +kernel, by decide +kernel⟩
theorem ok_lessened (T : Tx K mg) : FnR P w K mg base CX0 5 (aF "lessened" K) (SpO (cR K) (cN K) S_lessened) := by
  obtain ⟨fd, F⟩ := T.def_ 17 df_lessened rfl
  have b : Binds K fd ["row", "other", "number"] [] := F.bindsN fun _ _ _ _ _ _ us hl => match us, hl with | [_, _, _], _ => rfl
  refine fnr_of (F.ok sc_lessened (SpO.len len_lessened) fun cdv A outer s H vs Q E hr h => ⟨t_lessened K (cR K) (cN K), PSs.nox ?_, Bod.go (N := N_lessened) (by first | exact bod_lessened T | exact bod_lessened) h⟩) b
  exact (pss_one (ps_ret (pe_lc (own := [("one", 3), ("two", 4)]) (wi := (iZip K (tCons (tVar 0) (tCons (tVar 1) tNil)))) (g := (gTup K 2 (gCons (gName 3) (gCons (gName 4) gNil)))) (tt := tYes) (te := (tOp (rSub (cR K) (cN K)) (tVar 3) (tOp (rMul (cR K) (cN K)) (tVar 4) (tVar 2)))) rfl sc_lessened.nd (pi_zip rfl (T.free 8 _ rfl) (pa_cons (pv 0) (pa_cons (pv 1) pa_nil))) (blkOk_by (by kernel_rfl)) (fun _ _ _ _ _ => (pg_tup rfl (pgs_cons (pg_name (i := 3) sc_lessened.nd rfl (by first | exact Or.inl rfl | exact Or.inr rfl)) (pgs_cons (pg_name (i := 4) sc_lessened.nd rfl (by first | exact Or.inl rfl | exact Or.inr rfl)) pgs_nil)))) (fun _ _ _ _ _ => pts_nil) (fun _ _ _ _ _ => (pe_op (op_Sub T (ok_R__sub__ T) (hr.mono (by decide))) (pv 3) (pe_op (op_Mul T (ok_R__mul__ T) (ok_R__rmul__ T) (hr.mono (by decide))) (pv 4) (pv 2)))))))

theorem sc_pivot_at : FnScope N_pivot_at ["rows", "begin", "column"] (defScope st_pivot_at) := ⟨rfl, rfl, rfl, by decide +kernel, rfl, by decide +kernel, by decide +kernel⟩
theorem ok_pivot_at (T : Tx K mg) : FnR P w K mg base CX0 3 (aF "pivot_at" K) (SpO (cR K) (cN K) S_pivot_at) := by
  obtain ⟨fd, F⟩ := T.def_ 18 df_pivot_at rfl
  have b : Binds K fd ["rows", "begin", "column"] [] := F.bindsN fun _ _ _ _ _ _ us hl => match us, hl with | [_, _, _], _ => rfl
  refine fnr_of (F.ok sc_pivot_at (SpO.len len_pivot_at) fun cdv A outer s H vs Q E hr h => ⟨t_pivot_at K (cR K) (cN K), PSs.nox ?_, Bod.go (N := N_pivot_at) (by first | exact bod_pivot_at T | exact bod_pivot_at) h⟩) b
  exact (pss_cons (ps_for PassesOwn.never rfl (pi_range2 rfl (T.free 10 _ rfl) (pa_cons (pv 1) (pa_cons (pe_callB (call_len) rfl (T.free 5 _ rfl) bt_len (pa_cons (pv 0) pa_nil)) pa_nil))) (pg_name (i := 3) sc_pivot_at.nd rfl (by first | exact Or.inl rfl | exact Or.inr rfl)) (pss_one (ps_if (pt_cmpR (op_NeU T (ok_R__eq__ T) (hr.mono (by decide))) (pe_propR (pe_ix ix_seq (pe_ix ix_seq (pv 0) (pv 3) (fun _ _ => rfl)) (pv 2) (fun _ _ => rfl)) T.cls (T.prop 2 _ rfl) (ok_Rsign T) (hr.mono (by decide)) pz) pe_int (nomark _)) (pss_one (ps_ret (pv 3))) pss_nil)))
  (pss_one (ps_ret pe_non)))

theorem sc_single_at : FnScope N_single_at ["rows"] (defScope st_single_at) := ⟨rfl, rfl, rfl, by decide +kernel, rfl, by decide +kernel, by decide +kernel⟩
theorem ok_single_at (T : Tx K mg) : FnR P w K mg base CX0 3 (aF "single_at" K) (SpO (cR K) (cN K) S_single_at) := by
  obtain ⟨fd, F⟩ := T.def_ 20 df_single_at rfl
  have b : Binds K fd ["rows"] [] := F.bindsN fun _ _ _ _ _ _ us hl => match us, hl with | [_], _ => rfl
  refine fnr_of (F.ok sc_single_at (SpO.len len_single_at) fun cdv A outer s H vs Q E hr h => ⟨t_single_at K (cR K) (cN K), PSs.nox ?_, Bod.go (N := N_single_at) (by first | exact bod_single_at T | exact bod_single_at) h⟩) b
  exact (pss_cons (ps_for PassesOwn.never rfl (pi_enum rfl (T.free 9 _ rfl) (pa_cons (pv 0) pa_nil)) (pg_tup rfl (pgs_cons (pg_name (i := 1) sc_single_at.nd rfl (by first | exact Or.inl rfl | exact Or.inr rfl)) (pgs_cons (pg_name (i := 2) sc_single_at.nd rfl (by first | exact Or.inl rfl | exact Or.inr rfl)) pgs_nil))) (pss_one (ps_if (pt_cmpR (op_NeU T (ok_R__eq__ T) (hr.mono (by decide))) (pe_propR (pe_ix ix_seq (pv 2) (pv 1) (fun _ _ => rfl)) T.cls (T.prop 2 _ rfl) (ok_Rsign T) (hr.mono (by decide)) pz) pe_int (nomark _)) (pss_one (ps_ret (pv 1))) pss_nil)))
  (pss_one (ps_ret pe_non)))

theorem sc_pair_at : FnScope N_pair_at ["rows"] (defScope st_pair_at) := ⟨rfl, rfl, rfl, by decide +kernel, rfl, by decide +kernel, by decide +kernel⟩
theorem ok_pair_at (T : Tx K mg) : FnR P w K mg base CX0 5 (aF "pair_at" K) (SpO (cR K) (cN K) S_pair_at) := by
  obtain ⟨fd, F⟩ := T.def_ 21 df_pair_at rfl
  have b : Binds K fd ["rows"] [] := F.bindsN fun _ _ _ _ _ _ us hl => match us, hl with | [_], _ => rfl
  refine fnr_of (F.ok sc_pair_at (SpO.len len_pair_at) fun cdv A outer s H vs Q E hr h => ⟨t_pair_at K (cR K) (cN K), PSs.nox ?_, Bod.go (N := N_pair_at) (by first | exact bod_pair_at T | exact bod_pair_at) h⟩) b
  exact (pss_cons (ps_for PassesOwn.never rfl (pi_enum rfl (T.free 9 _ rfl) (pa_cons (pv 0) pa_nil)) (pg_tup rfl (pgs_cons (pg_name (i := 1) sc_pair_at.nd rfl (by first | exact Or.inl rfl | exact Or.inr rfl)) (pgs_cons (pg_name (i := 2) sc_pair_at.nd rfl (by first | exact Or.inl rfl | exact Or.inr rfl)) pgs_nil))) (pss_one (ps_for PassesOwn.never rfl (pi_range2 rfl (T.free 10 _ rfl) (pa_cons (pe_op (op_Add T (ok_R__add__ T) (hr.mono (by decide))) (pv 1) pe_int) (pa_cons (pe_callB (call_len) rfl (T.free 5 _ rfl) bt_len (pa_cons (pv 0) pa_nil)) pa_nil))) (pg_name (i := 3) sc_pair_at.nd rfl (by first | exact Or.inl rfl | exact Or.inr rfl)) (pss_one (ps_if (pt_cmpR (op_NeU T (ok_R__eq__ T) (hr.mono (by decide))) (pe_propR (pe_ix ix_seq (pv 2) (pv 3) (fun _ _ => rfl)) T.cls (T.prop 2 _ rfl) (ok_Rsign T) (hr.mono (by decide)) pz) pe_int (nomark _)) (pss_one (ps_ret (pe_tup (pa_cons (pv 1) (pa_cons (pv 3) pa_nil))))) pss_nil)))))
  (pss_one (ps_ret pe_non)))

theorem sc_less_square : FnScope N_less_square ["rows", "number", "form"] (defScope st_less_square) := ⟨rfl, rfl, rfl, by decide +kernel, rfl, by decide +kernel, by decide +kernel⟩
theorem ok_less_square (T : Tx K mg) : FnR P w K mg base CX0 6 (aF "less_square" K) (SpO (cR K) (cN K) S_less_square) := by
  obtain ⟨fd, F⟩ := T.def_ 22 df_less_square rfl
  have b : Binds K fd ["rows", "number", "form"] [] := F.bindsN fun _ _ _ _ _ _ us hl => match us, hl with | [_, _, _], _ => rfl
  refine fnr_of (F.ok sc_less_square (SpO.len len_less_square) fun cdv A outer s H vs Q E hr h => ⟨t_less_square K (cR K) (cN K), PSs.nox ?_, Bod.go (N := N_less_square) (by first | exact bod_less_square T | exact bod_less_square) h⟩) b
  exact (pss_one (ps_ret (pe_lc (own := [("row", 3), ("part", 4)]) (wi := (iZip K (tCons (tVar 0) (tCons (tVar 2) tNil)))) (g := (gTup K 2 (gCons (gName 3) (gCons (gName 4) gNil)))) (tt := tYes) (te := (tcR (SpO (cR K) (cN K) S_lessened) E0 (tCons (tVar 3) (tCons (tVar 2) (tCons (tOp (rMul (cR K) (cN K)) (tVar 1) (tVar 4)) tNil))))) rfl sc_less_square.nd (pi_zip rfl (T.free 8 _ rfl) (pa_cons (pv 0) (pa_cons (pv 2) pa_nil))) (blkOk_by (by kernel_rfl)) (fun _ _ _ _ _ => (pg_tup rfl (pgs_cons (pg_name (i := 3) sc_less_square.nd rfl (by first | exact Or.inl rfl | exact Or.inr rfl)) (pgs_cons (pg_name (i := 4) sc_less_square.nd rfl (by first | exact Or.inl rfl | exact Or.inr rfl)) pgs_nil)))) (fun _ _ _ _ _ => pts_nil) (fun _ _ _ _ _ => (pe_cR (ok_lessened T) (hr.mono (by decide)) rfl (T.glo 17 _ rfl) (T.kf 17 _ rfl) pz (pa_cons (pv 3) (pa_cons (pv 2) (pa_cons (pe_op (op_Mul T (ok_R__mul__ T) (ok_R__rmul__ T) (hr.mono (by decide))) (pv 1) (pv 4)) pa_nil))))))))

theorem sc_next_squares : FnScope N_next_squares ["rows"] (defScope st_next_squares) := ⟨rfl, rfl, rfl, by decide +kernel, rfl, by decide +kernel, by decide +kernel⟩
theorem ok_next_squares (T : Tx K mg) : FnR P w K mg base CX0 6 (aF "next_squares" K) (SpO (cR K) (cN K) S_next_squares) := by
  obtain ⟨fd, F⟩ := T.def_ 23 df_next_squares rfl
  have b : Binds K fd ["rows"] [] := F.bindsN fun _ _ _ _ _ _ us hl => match us, hl with | [_], _ => rfl
  refine fnr_of (F.ok sc_next_squares (SpO.len len_next_squares) fun cdv A outer s H vs Q E hr h => ⟨t_next_squares K (cR K) (cN K), PSs.nox ?_, Bod.go (N := N_next_squares) (by first | exact bod_next_squares T | exact bod_next_squares) h⟩) b
  exact (pss_cons (ps_set (i := 1) sc_next_squares.nd rfl (by first | exact Or.inl rfl | exact Or.inr rfl) (pe_cR (ok_single_at T) (hr.mono (by decide)) rfl (T.glo 20 _ rfl) (T.kf 20 _ rfl) pz (pa_cons (pv 0) pa_nil)))
  (pss_cons (ps_if (pt_cmpR (op_notN) (pv 1) pe_non (nomark _)) (pss_one (ps_ret (pe_lst (pa_cons (pe_tup (pa_cons (pe_methR (StX.pe_makeR T.mk_ (ok_R__init__1 T) (hr.mono (by decide)) rfl (T.glo 62 _ rfl) pz (pa_cons pe_int pa_nil)) T.cls (T.meth 7 _ rfl) (ok_Rover T) (hr.mono (by decide)) pz (pa_cons (pe_ix ix_seq (pe_ix ix_seq (pv 0) (pv 1) (fun _ _ => rfl)) (pv 1) (fun _ _ => rfl)) pa_nil)) (pa_cons (pe_ix ix_seq (pv 0) (pv 1) (fun _ _ => rfl)) pa_nil))) pa_nil)))) pss_nil)
  (pss_cons (ps_set (i := 2) sc_next_squares.nd rfl (by first | exact Or.inl rfl | exact Or.inr rfl) (pe_cR (ok_pair_at T) (hr.mono (by decide)) rfl (T.glo 21 _ rfl) (T.kf 21 _ rfl) pz (pa_cons (pv 0) pa_nil)))
  (pss_cons (ps_if (pt_cmpR (op_isN) (pv 2) pe_non (nomark _)) (pss_one (ps_ret (pe_lst pa_nil))) pss_nil)
  (pss_cons (ps_par (i := 5) (j := 6) rfl sc_next_squares.nd rfl rfl (by decide) rfl rfl (pa_cons (pe_ix ix_seq (pv 0) (pe_ix ix_seq (pv 2) pe_int (fun _ _ => rfl)) (fun _ _ => rfl)) (pa_cons (pe_ix ix_seq (pv 0) (pe_ix ix_seq (pv 2) pe_int (fun _ _ => rfl)) (fun _ _ => rfl)) pa_nil)) rfl)
  (pss_cons (ps_set (i := 3) sc_next_squares.nd rfl (by first | exact Or.inl rfl | exact Or.inr rfl) (pe_methR (StX.pe_makeR T.mk_ (ok_R__init__1 T) (hr.mono (by decide)) rfl (T.glo 62 _ rfl) pz (pa_cons pe_int pa_nil)) T.cls (T.meth 7 _ rfl) (ok_Rover T) (hr.mono (by decide)) pz (pa_cons (pe_op (op_Mul T (ok_R__mul__ T) (ok_R__rmul__ T) (hr.mono (by decide))) (pe_ix ix_seq (pv 5) (pe_ix ix_seq (pv 2) pe_int (fun _ _ => rfl)) (fun _ _ => rfl)) pe_int) pa_nil)))
  (pss_cons (ps_setLc (i := 4) (own := [("left", 7), ("right", 8)]) (wi := (iZip K (tCons (tVar 5) (tCons (tVar 6) tNil)))) (g := (gTup K 2 (gCons (gName 7) (gCons (gName 8) gNil)))) (tt := tYes) (te := (tOp (rAdd (cR K) (cN K)) (tVar 7) (tVar 8))) rfl sc_next_squares.nd rfl rfl (sw_true rfl rfl rfl (by kernel_rfl)) (pi_zip rfl (T.free 8 _ rfl) (pa_cons (pv 5) (pa_cons (pv 6) pa_nil))) (blkOk_by (by kernel_rfl)) (fun _ _ _ _ _ => (pg_tup rfl (pgs_cons (pg_name (i := 7) sc_next_squares.nd rfl (by first | exact Or.inl rfl | exact Or.inr rfl)) (pgs_cons (pg_name (i := 8) sc_next_squares.nd rfl (by first | exact Or.inl rfl | exact Or.inr rfl)) pgs_nil)))) (fun _ _ _ _ _ => pts_nil) (fun _ _ _ _ _ => (pe_op (op_Add T (ok_R__add__ T) (hr.mono (by decide))) (pv 7) (pv 8))))
  (pss_one (ps_ret (pe_lst (pa_cons (pe_tup (pa_cons (pv 3) (pa_cons (pv 4) pa_nil))) (pa_cons (pe_tup (pa_cons (pe_un (un_Neg T (ok_R__neg__ T) (hr.mono (by decide))) (pv 3)) (pa_cons (pe_lc (own := [("left", 7), ("right", 8)]) (wi := (iZip K (tCons (tVar 5) (tCons (tVar 6) tNil)))) (g := (gTup K 2 (gCons (gName 7) (gCons (gName 8) gNil)))) (tt := tYes) (te := (tOp (rSub (cR K) (cN K)) (tVar 7) (tVar 8))) rfl sc_next_squares.nd (pi_zip rfl (T.free 8 _ rfl) (pa_cons (pv 5) (pa_cons (pv 6) pa_nil))) (blkOk_by (by kernel_rfl)) (fun _ _ _ _ _ => (pg_tup rfl (pgs_cons (pg_name (i := 7) sc_next_squares.nd rfl (by first | exact Or.inl rfl | exact Or.inr rfl)) (pgs_cons (pg_name (i := 8) sc_next_squares.nd rfl (by first | exact Or.inl rfl | exact Or.inr rfl)) pgs_nil)))) (fun _ _ _ _ _ => pts_nil) (fun _ _ _ _ _ => (pe_op (op_Sub T (ok_R__sub__ T) (hr.mono (by decide))) (pv 7) (pv 8)))) pa_nil))) pa_nil))))))))))))

end
end OC
set_option maxHeartbeats 4000000
/-! OcX3: steps, squares, lists with values: promises, readings, bodies. -/
namespace OC
open PySem PySem.Spec PyProof.Rows L2

/-! ### promises -/
abbrev natD (n : Nat) : D := .int (n : Int)
def S_steps_in : Sc := pS fun ds d => ∃ (A : Mat) (n wd : Nat), ds = [RMd A] ∧ Rect A n wd ∧ 0 < n ∧ n ≤ 100 ∧ wd ≤ 1000 ∧ StOk A wd ∧ d = .tup [RMd (stepsN A wd).1, .lst ((stepsN A wd).2.1.map natD), .int (stepsN A wd).2.2]
def S_squares_in : Sc := pS fun ds d => ∃ (A : Mat) (k : Nat), ds = [RMd A] ∧ SqOk k A ∧ k ≤ 20 ∧ d = SQd (sqLoop k A)
def S_list_with : Sc := pS fun ds d => ∃ (forms : Mat) (values : Row), ds = [RMd forms, RLd values] ∧ ListOk forms values ∧ d = RLd (listWith forms values)

/-! ### readings -/
def tListZip (K : Frg) (t : TA) : TE := fun σ H Q => t σ H fun vs H1 => ∃ a b xs ys, vs = [.ref a, .ref b] ∧ SqL K H1 a xs ∧ SqL K H1 b ys ∧ xs.length ≤ 1000 ∧ ∀ (l : Addr) (ts : List Addr) (H2 : Hp), (∀ c o, H1 c = some o → H2 c = some o) → H1 l = none → H2 l = some (.lst (ts.map V.ref)) → ts.length = min xs.length ys.length → l ∉ ts →
  (∀ (i : Nat) (t : Addr), ts[i]? = some t → H1 t = none ∧ ∃ x y, xs[i]? = some x ∧ ys[i]? = some y ∧ H2 t = some (.tup [x, y])) → Q (.ref l) H2
abbrev N_steps_in : List Str := ["rows", "wide", "column", "left", "columns", "sign", "begin", "place", "top", "other"]
def t_steps_in (K : Frg) (C CN : Addr) : TS := (tSeq (tPar3 3 4 5 (tCons (tCB (rListOf K) (tCons (tVar 0) tNil)) (tCons (tLst tNil) (tCons (tC (.int 1)) tNil))))
  (tSeq (tAsg (tIf (tTest (tOp (rNeU C CN K) (tVar 0) (tLst tNil))) (tCB (rLen K) (tCons (tOp (rIx K) (tVar 0) (tC (.int 0))) tNil)) (tC (.int 0))) (gName 1))
  (tSeq (tFor (iRng1 (tCons (tVar 1) tNil)) (gName 2) (tSeq (tAsg (tCB (rLen K) (tCons (tVar 4) tNil)) (gName 6))
  (tSeq (tAsg (tcR (SpO C CN S_pivot_at) E0 (tCons (tVar 3) (tCons (tVar 6) (tCons (tVar 2) tNil)))) (gName 7))
  (tIfS (tTest (tOp rNotN0 (tVar 7) (tC .non))) (tSeq (tIfS (tTest (tOp (rNeU C CN K) (tVar 7) (tVar 6))) (tAsg (tTup (tCons (tOp (rIx K) (tVar 3) (tVar 7)) (tCons (tOp (rIx K) (tVar 3) (tVar 6)) (tCons (tOp (rSub C CN) (tC (.int 0)) (tVar 5)) tNil)))) (gTup K 3 (gCons (gSub (tVar 3) (tVar 6) rSetL) (gCons (gSub (tVar 3) (tVar 7) rSetL) (gCons (gName 5) gNil))))) tNext)
  (tSeq (tAsg (tOp (rIx K) (tVar 3) (tVar 6)) (gName 8))
  (tSeq (tFor (iRng2 (tCons (tOp (rAdd C CN) (tVar 6) (tC (.int 1))) (tCons (tCB (rLen K) (tCons (tVar 3) tNil)) tNil))) (gName 9) (tIfS (tTest (tOp (rNeU C CN K) (tPrR C (SpO C CN S_Rsign) E0 (tOp (rIx K) (tOp (rIx K) (tVar 3) (tVar 9)) (tVar 2))) (tC (.int 0)))) (tAsg (tcR (SpO C CN S_lessened) E0 (tCons (tOp (rIx K) (tVar 3) (tVar 9)) (tCons (tVar 8) (tCons (tMethR C "over" (SpO C CN S_Rover) E0 (tOp (rIx K) (tOp (rIx K) (tVar 3) (tVar 9)) (tVar 2)) (tCons (tOp (rIx K) (tVar 8) (tVar 2)) tNil)) tNil)))) (gSub (tVar 3) (tVar 9) rSetL)) tNext))
  (tDrop (tBM K "list" rAppend (tVar 4) (tCons (tVar 2) tNil)))))) tNext))))
  (tRet (tTup (tCons (tVar 3) (tCons (tVar 4) (tCons (tVar 5) tNil))))))))

abbrev N_squares_in : List Str := ["rows", "found", "more", "number", "form"]
def t_squares_in (K : Frg) (C CN : Addr) : TS := (tSeq (tPar 1 2 (tCons (tLst tNil) (tCons (tcR (SpO C CN S_next_squares) E0 (tCons (tVar 0) tNil)) tNil)))
  (tSeq (tWhile (tTest (tOp (rNeU C CN K) (tVar 2) (tLst tNil))) (tSeq (tFor (iSeq K (tVar 2)) (gTup K 2 (gCons (gName 3) (gCons (gName 4) gNil))) (tAsg (tcR (SpO C CN S_less_square) E0 (tCons (tVar 0) (tCons (tVar 3) (tCons (tVar 4) tNil)))) (gName 0)))
  (tSeq (tDrop (tBM K "list" rExtend (tVar 1) (tCons (tVar 2) tNil)))
  (tAsg (tcR (SpO C CN S_next_squares) E0 (tCons (tVar 0) tNil)) (gName 2)))))
  (tRet (tVar 1))))

/-! ### bodies -/
section
variable {C CN : Addr} {K : Frg} {mg : Str → Option Value} {ρ : Sto} {μ μ1 : Mu} {E : AEn} {x y d : D} {q : Rat} {te : TE} {tt : TT} {tr : TA} {wi : TI} {g : TG} {vs : List Nat} {xs ys ds es : List D} {qs : List Rat} {Γ : Gam}
theorem len_steps_in : ∀ ds μ r μ', S_steps_in ds μ r μ' → ds.length = 1 := len1 fun ds d ⟨x, y, z, e, _⟩ => by rw [e]; rfl
theorem len_squares_in : ∀ ds μ r μ', S_squares_in ds μ r μ' → ds.length = 1 := len1 fun ds d ⟨x, y, e, _⟩ => by rw [e]; rfl
theorem len_list_with : ∀ ds μ r μ', S_list_with ds μ r μ' → ds.length = 2 := len1 fun ds d ⟨x, y, e, _⟩ => by rw [e]; rfl
theorem ixN_nat {n i : Nat} (h : i < n) : ixN n (i : Int) = some i := by
  unfold ixN
  rw [if_pos (by omega), if_pos (by omega)]
  simp
theorem mapset {A : Mat} {k : Nat} {r : Row} : (A.map RLd).set k (RLd r) = (A.set k r).map RLd := by rw [List.map_set]
abbrev MU (p q : Addr) (L : Mat) (cols : List Nat) (μ : Mu) : Mu := (q, cols.map natD) :: (p, L.map RLd) :: μ
theorem own_ent {p q : Addr} {L : Mat} {cols : List Nat} {i c : Nat} {ta ti tc : TE} (hi : i < L.length) (hc : c < (L.getD i []).length) (ha : AE C ta ρ (MU p q L cols μ) (.ptr p) (MU p q L cols μ)) (h1 : AE C ti ρ (MU p q L cols μ) (.int (i : Nat)) (MU p q L cols μ)) (h2 : AE C tc ρ (MU p q L cols μ) (.int (c : Nat)) (MU p q L cols μ)) :
    AE C (tOp (rIx K) (tOp (rIx K) ta ti) tc) ρ (MU p q L cols μ) (.rat ((L.getD i []).getD c 0)) (MU p q L cols μ) :=
  ae_op (ae_op ha h1 (ix_o (List.mem_cons_of_mem _ (List.mem_cons_self ..)) (RMd_at hi))) h2 (ix_l (RLd_at hc))
theorem setM2 {p q : Addr} {ds es fs : List D} (h : p ≠ q) (hn : p ∉ dom μ) : setM ((q, es) :: (p, ds) :: μ) p fs = (q, es) :: (p, fs) :: μ := by
  rw [setM_next (Ne.symm h), setM_head hn]
theorem unb_self {p : Addr} : unb p es (.ptr p) = .lst es := if_pos rfl
theorem frz_self {p : Addr} {i : Nat} (h : ρ[i]? = some (some (.ptr p))) : (frzS ρ p ds)[i]? = some (some (.lst ds)) := by
  unfold frzS
  rw [List.getElem?_map, h]
  show some (if p = p then some (D.lst ds) else some (D.ptr p)) = _
  rw [if_pos rfl]
theorem frz_ne {p : Addr} {i : Nat} (h : ρ[i]? = some (some d)) (hd : d ≠ .ptr p) : (frzS ρ p ds)[i]? = some (some d) := by
  unfold frzS
  rw [List.getElem?_map, h]
  cases d with
  | ptr q =>
    show some (if q = p then some (D.lst ds) else some (D.ptr q)) = _
    rw [if_neg fun z => hd (by rw [z])]
  | _ => rfl
theorem swap_b {L : Mat} {b p : Nat} (hb : b < L.length) (hp : p < L.length) (h : p ≠ b) : (swapR L b p).getD b [] = L.getD p [] := by
  unfold swapR
  rw [set_getD (by rw [List.length_set]; exact hp), if_neg (Ne.symm h), set_getD hb, if_pos rfl]
theorem bod_steps_in : Bod C (t_steps_in K C CN) 10 S_steps_in := bod_pG fun ds μ d ⟨A, n, wd, e, hR, hn0, hn1, hw, hS, hd⟩ Γ hΓ => by
  subst e hd
  have h0 : (A.getD 0 []).length = wd := hR.row hn0
  refine ag_seq (as_par3F (af_cb (aa1 (ae_var rfl)) acf_listL) (af_lst aa_nil (Nat.le_of_ble_eq_true rfl)) ae_int fun p q hpq hp hq => ?_)
  refine ag_seq (as_set (d := .int (wd : Nat)) (ae_ifT (at_test ((ae_op (ae_var rfl) (AF.e (af_lst aa_nil (Nat.le_of_ble_eq_true rfl))) ne_e).is ?_)) ((ae_cb (aa1 (ae_op (ae_var rfl) ae_int (ix_l (RMd_at (i := 0) (by rw [hR.1]; exact hn0))))) ac_len_l).is ?_)) ?_)
  · have : A ≠ [] := fun z => by rw [z] at hR; have := hR.1; simp at this; omega
    cases A with
    | nil => exact absurd rfl this
    | cons r t => rfl
  · rw [List.length_map, h0]
  refine ag_seq (as_for (fun k ρ' μ' => μ' = MU p q (stepsN A k).1 (stepsN A k).2.1 μ ∧ ρ'.length = 10 ∧ ρ'[3]? = some (some (.ptr p)) ∧ ρ'[4]? = some (some (.ptr q)) ∧ ρ'[5]? = some (some (.int (stepsN A k).2.2))) (ai_range1 (n := wd) (aa1 (ae_var rfl)) (by omega)) ⟨rfl, rfl, rfl, rfl, rfl⟩ (fun k dd ρ' μ' hp2 hP => ?_) fun ρ' μ' hP => ?_)
  · obtain ⟨rfl, hl, r3, r4, r5⟩ := hP
    obtain ⟨hk, rfl⟩ := rng_get hp2
    obtain ⟨hRk, hck⟩ := stepsN_facts hR k
    have hSk := hS k hk
    rw [stepsN_succ]
    generalize stepsN A k = st at hRk hck hSk r5
    obtain ⟨L, cols, sg⟩ := st
    dsimp only at hRk hck hSk r5 ⊢
    rw [Int.zero_add]
    refine ⟨_, _, ag_name, ?_⟩
    have u2 : (ρ'.set 2 (some (D.int (k : Nat))))[2]? = some (some (.int (k : Nat))) := get_set_eq (by omega)
    have u3 : (ρ'.set 2 (some (D.int (k : Nat))))[3]? = some (some (.ptr p)) := get_set_ne (by decide) r3
    have u4 : (ρ'.set 2 (some (D.int (k : Nat))))[4]? = some (some (.ptr q)) := get_set_ne (by decide) r4
    have u5 : (ρ'.set 2 (some (D.int (k : Nat))))[5]? = some (some (.int sg)) := get_set_ne (by decide) r5
    have ul : (ρ'.set 2 (some (D.int (k : Nat)))).length = 10 := by rw [List.length_set]; exact hl
    generalize ρ'.set 2 (some (D.int (k : Nat))) = ρ1 at u2 u3 u4 u5 ul
    refine as_seq (as_set (d := .int (cols.length : Nat)) ((ae_cb (aa1 (ae_var u4)) (ac_len_o (List.mem_cons_self ..))).is (by rw [List.length_map])) ?_)
    have v2 := get_set_ne (i := 6) (x := some (D.int (cols.length : Nat))) (by decide) u2
    have v3 := get_set_ne (i := 6) (x := some (D.int (cols.length : Nat))) (by decide) u3
    have v4 := get_set_ne (i := 6) (x := some (D.int (cols.length : Nat))) (by decide) u4
    have v5 := get_set_ne (i := 6) (x := some (D.int (cols.length : Nat))) (by decide) u5
    have v6 : (ρ1.set 6 (some (D.int (cols.length : Nat))))[6]? = some (some (.int (cols.length : Nat))) := get_set_eq (by omega)
    have vl : (ρ1.set 6 (some (D.int (cols.length : Nat)))).length = 10 := by rw [List.length_set]; exact ul
    generalize ρ1.set 6 (some (D.int (cols.length : Nat))) = ρ2 at v2 v3 v4 v5 v6 vl
    have hcw : ∀ r ∈ L, k < r.length := fun r hr => by rw [hRk.2 r hr]; exact hk
    refine as_seq (as_set (d := optD (pivotAt L cols.length k)) (ae_lend (p := p) (es := L.map RLd) (ds := [.ptr p, .int (cols.length : Nat), .int (k : Nat)]) (aa3 (ae_var v3) (ae_var v6) (ae_var v2)) (List.mem_cons_of_mem _ (List.mem_cons_self ..)) ⟨L, cols.length, k, ?_, by rw [hRk.1]; omega, by omega, hcw, rfl⟩ ?_) ?_)
    · show [unb p (L.map RLd) (.ptr p), D.int (cols.length : Nat), D.int (k : Nat)] = _
      rw [unb_self]
    · cases pivotAt L cols.length k <;> rfl
    unfold stepCol
    dsimp only
    cases hpv : pivotAt L cols.length k with
    | none =>
      refine as_ifF (at_test (ae_op (ae_var (d := .non) (get_set_eq (by omega))) ae_non (a2_notN rfl))) (as_next ⟨rfl, by rw [List.length_set]; exact vl, get_set_ne (by decide) v3, get_set_ne (by decide) v4, get_set_ne (by decide) v5⟩)
    | some pv =>
      obtain ⟨hpl, hbp, hpz⟩ := pivot_lt hpv
      have hbl : cols.length < L.length := by omega
      have hSk' := hSk.h pv hpv
      dsimp only at hSk'
      dsimp only
      have w2 := get_set_ne (i := 7) (x := some (D.int (pv : Nat))) (by decide) v2
      have w3 := get_set_ne (i := 7) (x := some (D.int (pv : Nat))) (by decide) v3
      have w4 := get_set_ne (i := 7) (x := some (D.int (pv : Nat))) (by decide) v4
      have w5 := get_set_ne (i := 7) (x := some (D.int (pv : Nat))) (by decide) v5
      have w6 := get_set_ne (i := 7) (x := some (D.int (pv : Nat))) (by decide) v6
      have w7 : (ρ2.set 7 (some (D.int (pv : Nat))))[7]? = some (some (.int (pv : Nat))) := get_set_eq (by omega)
      have wl : (ρ2.set 7 (some (D.int (pv : Nat)))).length = 10 := by rw [List.length_set]; exact vl
      show AS C _ (ρ2.set 7 (some (D.int (pv : Nat)))) _ _
      generalize ρ2.set 7 (some (D.int (pv : Nat))) = ρ3 at w2 w3 w4 w5 w6 w7 wl
      refine as_ifT (at_test (ae_op (ae_var w7) ae_non (a2_notN rfl))) ?_
      -- the swap
      refine as_seq (AS.imp (E' := { nx := fun ρ4 μ4 => μ4 = MU p q (if pv ≠ cols.length then swapR L cols.length pv else L) cols μ ∧ ρ4.length = 10 ∧ ρ4[2]? = some (some (.int (k : Nat))) ∧ ρ4[3]? = some (some (.ptr p)) ∧ ρ4[4]? = some (some (.ptr q)) ∧ ρ4[5]? = some (some (.int (if pv ≠ cols.length then 0 - sg else sg))) ∧ ρ4[6]? = some (some (.int (cols.length : Nat))), rt := fun _ _ => False }) ?_ (fun ρ4 μ4 hP4 => ?_) (fun _ _ z => z.elim) (fun _ _ z => z.elim) (fun _ _ z => z.elim) fun _ z => z.elim)
      · have hcmp : (!eqD (.int (pv : Nat)) (.int (cols.length : Nat))) = decide (pv ≠ cols.length) := by
          rw [int_eq, ← decide_not]
          refine decide_eq_decide.mpr ⟨fun z z' => z (by rw [z']), fun z z' => z (by omega)⟩
        refine as_if (b := decide (pv ≠ cols.length)) (at_test ((ae_op (ae_var w7) (ae_var w6) (ne_s rfl)).is (by rw [hcmp]))) (fun hz => ?_) (fun hz => ?_)
        · have hz' := of_decide_eq_true hz
          rw [if_pos hz', if_pos hz']
          have hm : (p, L.map RLd) ∈ MU p q L cols μ := List.mem_cons_of_mem _ (List.mem_cons_self ..)
          have e1 : setM (MU p q L cols μ) p ((L.map RLd).set cols.length (RLd (L.getD pv []))) = MU p q (L.set cols.length (L.getD pv [])) cols μ := by rw [mapset]; exact setM2 hpq hp
          have e2 : setM (MU p q (L.set cols.length (L.getD pv [])) cols μ) p (((L.set cols.length (L.getD pv [])).map RLd).set pv (RLd (L.getD cols.length []))) = MU p q (swapR L cols.length pv) cols μ := by rw [mapset]; exact setM2 hpq hp
          refine as_asgH (ae_tup (aa_cons (ae_op (ae_var w3) (ae_var w7) (ix_o hm (RMd_at hpl))) (aa_cons (ae_op (ae_var w3) (ae_var w6) (ix_o hm (RMd_at hbl))) (aa_cons (ae_op ae_int (ae_var w5) sub_i) aa_nil))) (Nat.le_of_ble_eq_true rfl))
            (ah_tup rfl (ahs_cons (ah_sub (ae_var w3) (ae_var w6) hm (by rw [List.length_map]; exact ixN_nat hbl)) (by rw [e1]; exact ahs_cons (ah_sub (ae_var w3) (ae_var w7) (List.mem_cons_of_mem _ (List.mem_cons_self ..)) (by rw [List.length_map, List.length_set]; exact ixN_nat hpl)) (by rw [e2]; exact ahs_cons ah_name ahs_nil)))) ⟨rfl, by rw [List.length_set]; exact wl, get_set_ne (by decide) w2, get_set_ne (by decide) w3, get_set_ne (by decide) w4, get_set_eq (by omega), get_set_ne (by decide) w6⟩
        · have hz' := of_decide_eq_false hz
          rw [if_neg hz', if_neg hz']
          exact as_next ⟨rfl, wl, w2, w3, w4, w5, w6⟩
      obtain ⟨rfl, xl, x2, x3, x4, x5, x6⟩ := hP4
      have hLL : Rect (if pv ≠ cols.length then swapR L cols.length pv else L) n wd := by
        split
        · exact hRk.swap (by rw [← hRk.1]; exact hbl) (by rw [← hRk.1]; exact hpl)
        · exact hRk
      have hMb : ((if pv ≠ cols.length then swapR L cols.length pv else L).getD cols.length []).getD k 0 ≠ 0 := by
        by_cases z : pv ≠ cols.length
        · rw [if_pos z, swap_b hbl hpl z]; exact hpz
        · rw [if_neg z, show cols.length = pv by omega]; exact hpz
      generalize (if pv ≠ cols.length then swapR L cols.length pv else L) = M at hLL hSk' hMb ⊢
      have hbn : cols.length < n := by rw [← hRk.1]; exact hbl
      have hbM : cols.length < M.length := by rw [hLL.1]; exact hbn
      refine as_seq (as_set (ae_op (ae_var x3) (ae_var x6) (ix_o (List.mem_cons_of_mem _ (List.mem_cons_self ..)) (RMd_at hbM))) ?_)
      have y2 := get_set_ne (i := 8) (x := some (RLd (M.getD cols.length []))) (by decide) x2
      have y3 := get_set_ne (i := 8) (x := some (RLd (M.getD cols.length []))) (by decide) x3
      have y4 := get_set_ne (i := 8) (x := some (RLd (M.getD cols.length []))) (by decide) x4
      have y5 := get_set_ne (i := 8) (x := some (RLd (M.getD cols.length []))) (by decide) x5
      have y6 := get_set_ne (i := 8) (x := some (RLd (M.getD cols.length []))) (by decide) x6
      have y8 : (ρ4.set 8 (some (RLd (M.getD cols.length []))))[8]? = some (some (RLd (M.getD cols.length []))) := get_set_eq (by omega)
      have yl : (ρ4.set 8 (some (RLd (M.getD cols.length [])))).length = 10 := by rw [List.length_set]; exact xl
      generalize ρ4.set 8 (some (RLd (M.getD cols.length []))) = ρ5 at y2 y3 y4 y5 y6 y8 yl
      have htop : (M.getD cols.length []).length = wd := hLL.row hbn
      -- the rows below
      refine as_seq (as_for (fun t ρ6 μ6 => μ6 = MU p q (elim cols.length k (M.getD cols.length []) (cols.length + 1 + t) M) cols μ ∧ ρ6.length = 10 ∧ ρ6[2]? = some (some (.int (k : Nat))) ∧ ρ6[3]? = some (some (.ptr p)) ∧ ρ6[4]? = some (some (.ptr q)) ∧ ρ6[5]? = some (some (.int (if pv ≠ cols.length then 0 - sg else sg))) ∧ ρ6[8]? = some (some (RLd (M.getD cols.length []))))
        (ai_range2 (i := ((cols.length + 1 : Nat) : Int)) (j := (M.length : Nat)) (aa2 ((ae_op (ae_var y6) ae_int add_i).is (by rfl)) ((ae_cb (aa1 (ae_var y3)) (ac_len_o (List.mem_cons_of_mem _ (List.mem_cons_self ..)))).is (by rw [List.length_map]))) (by rw [hLL.1]; omega)) ⟨by rw [Nat.add_zero, elim_zero], yl, y2, y3, y4, y5, y8⟩ (fun t dd ρ6 μ6 hp6 hP6 => ?_) fun ρ6 μ6 hP6 => ?_)
      · obtain ⟨rfl, zl, z2, z3, z4, z5, z8⟩ := hP6
        obtain ⟨ht, rfl⟩ := rng_get hp6
        have ho : cols.length + 1 + t < M.length := by omega
        rw [show ((cols.length + 1 : Nat) : Int) + (t : Nat) = ((cols.length + 1 + t : Nat) : Int) by omega]
        rw [show cols.length + 1 + (t + 1) = (cols.length + 1 + t) + 1 by omega, elim_succ ho (by omega)]
        have hE : Rect (elim cols.length k (M.getD cols.length []) (cols.length + 1 + t) M) n wd := hLL.elim htop
        have eO : (elim cols.length k (M.getD cols.length []) (cols.length + 1 + t) M).getD (cols.length + 1 + t) [] = M.getD (cols.length + 1 + t) [] := by rw [elim_get ho, if_neg (by omega)]
        have hE' : cols.length + 1 + t < (elim cols.length k (M.getD cols.length []) (cols.length + 1 + t) M).length := by rw [elim_length]; exact ho
        generalize elim cols.length k (M.getD cols.length []) (cols.length + 1 + t) M = W at hE eO hE' ⊢
        have a2 := get_set_ne (i := 9) (x := some (D.int ((cols.length + 1 + t : Nat) : Int))) (by decide) z2
        have a3 := get_set_ne (i := 9) (x := some (D.int ((cols.length + 1 + t : Nat) : Int))) (by decide) z3
        have a4 := get_set_ne (i := 9) (x := some (D.int ((cols.length + 1 + t : Nat) : Int))) (by decide) z4
        have a5 := get_set_ne (i := 9) (x := some (D.int ((cols.length + 1 + t : Nat) : Int))) (by decide) z5
        have a8 := get_set_ne (i := 9) (x := some (D.int ((cols.length + 1 + t : Nat) : Int))) (by decide) z8
        have a9 : (ρ6.set 9 (some (D.int ((cols.length + 1 + t : Nat) : Int))))[9]? = some (some (.int ((cols.length + 1 + t : Nat) : Int))) := get_set_eq (by omega)
        have al : (ρ6.set 9 (some (D.int ((cols.length + 1 + t : Nat) : Int)))).length = 10 := by rw [List.length_set]; exact zl
        refine ⟨_, _, ag_name, ?_⟩
        generalize ρ6.set 9 (some (D.int ((cols.length + 1 + t : Nat) : Int))) = ρ7 at a2 a3 a4 a5 a8 a9 al
        have hkO : k < (W.getD (cols.length + 1 + t) []).length := by rw [hE.row (by rw [← hE.1]; exact hE')]; exact hk
        have hEnt : AE C (tOp (rIx K) (tOp (rIx K) (tVar 3) (tVar 9)) (tVar 2)) ρ7 (MU p q W cols μ) (.rat ((M.getD (cols.length + 1 + t) []).getD k 0)) (MU p q W cols μ) := (own_ent hE' hkO (ae_var a3) (ae_var a9) (ae_var a2)).is (by rw [eO])
        refine as_if (ae_nz hEnt) (fun hz => ?_) (fun hz => ?_)
        · have hz' := of_decide_eq_true hz
          rw [if_pos hz']
          obtain ⟨s1, s2, s3⟩ := hSk' (cols.length + 1 + t) (by omega) (by rw [hRk.1, ← hLL.1]; exact ho) hz'
          have hm : (p, W.map RLd) ∈ MU p q W cols μ := List.mem_cons_of_mem _ (List.mem_cons_self ..)
          have hpz' : (M.getD cols.length []).getD k 0 ≠ 0 := hMb
          refine as_item (ae_call (aa3 ((ae_op (ae_var a3) (ae_var a9) (ix_o hm (RMd_at hE'))).is (by rw [eO])) (ae_var a8) (ae_over hEnt (ae_op (ae_var a8) (ae_var a2) (ix_l (RLd_at (by rw [htop]; exact hk)))) s1 s2 hpz')) (pS.mk ⟨_, _, _, rfl, by rw [hLL.row (by rw [← hLL.1]; exact ho)]; omega, s3, rfl⟩)) (ae_var a3) (ae_var a9) hm (by rw [List.length_map]; exact ixN_nat hE') ⟨?_, al, a2, a3, a4, a5, a8⟩
          rw [mapset]
          exact setM2 hpq hp
        · have hz' := of_decide_eq_false hz
          rw [if_neg hz']
          exact as_next ⟨rfl, al, a2, a3, a4, a5, a8⟩
      · obtain ⟨rfl, zl, z2, z3, z4, z5, z8⟩ := hP6
        rw [rngD_length, show cols.length + 1 + ((M.length : Int) - ((cols.length + 1 : Nat) : Int)).toNat = M.length by omega]
        refine as_append (ae_var z4) (ae_var z2) (List.mem_cons_self ..) (by rw [List.length_map]; omega) ⟨?_, zl, z3, z4, z5⟩
        rw [setM_head (fun z => by
          rcases List.mem_cons.mp z with w | w
          · exact hpq w.symm
          · exact hq w), show cols.map natD ++ [D.int (k : Nat)] = (cols ++ [k]).map natD by rw [List.map_append]; rfl]
  · obtain ⟨rfl, hl, r3, r4, r5⟩ := hP
    rw [rngD_length] at r5 ⊢
    refine ag_frz (by rw [hΓ]; exact hq) (ag_frz (by rw [hΓ]; exact hp) (AS.toG (as_ret (ae_tup (aa_cons (ae_var ?_) (aa_cons (ae_var ?_) (aa_cons (ae_var ?_) aa_nil))) (Nat.le_of_ble_eq_true rfl)) ev)))
    · exact frz_self (frz_ne r3 fun z => hpq (by cases z; rfl))
    · exact frz_ne (frz_self r4) fun z => by cases z
    · exact frz_ne (frz_ne r5 fun z => by cases z) fun z => by cases z
/-! ### squares -/
theorem ae_nonempty {i : Nat} (h : ρ[i]? = some (some (.lst ds))) : AT C (tTest (tOp (rNeU C CN K) (tVar i) (tLst tNil))) ρ μ (!ds.isEmpty) μ := at_test (ae_op (ae_var h) (AF.e (af_lst aa_nil (Nat.le_of_ble_eq_true rfl))) ne_e)
theorem SqOk.nx {k : Nat} {A : Mat} (h : SqOk k A) : NxOk A := by cases h <;> assumption
theorem nextSq_len (A : Mat) : (nextSq A).length ≤ 2 := by
  unfold nextSq
  split
  · exact Nat.le_succ _
  · split
    · exact Nat.zero_le _
    · exact Nat.le_refl _
theorem as_less {A : Mat} {ss : Sqs} (h : LessOk A ss) (hl : ss.length ≤ 100) (h0 : ρ[0]? = some (some (RMd A))) (h2 : ρ[2]? = some (some (SQd ss))) (hn : ρ.length = 5) (hE : ∀ ρ', ρ'.length = 5 → ρ'[0]? = some (some (RMd (lessAll A ss))) → ρ'[1]? = ρ[1]? → ρ'[2]? = ρ[2]? → E.nx ρ' μ) :
    AS C (tFor (iSeq K (tVar 2)) (gTup K 2 (gCons (gName 3) (gCons (gName 4) gNil))) (tAsg (tcR (SpO C CN S_less_square) E0 (tCons (tVar 0) (tCons (tVar 3) (tCons (tVar 4) tNil)))) (gName 0))) ρ μ E := by
  have take : ∀ (ss : Sqs) (A : Mat), LessOk A ss → ∀ (i : Nat) (s : Rat × Row), ss[i]? = some s → LsOk (lessAll A (ss.take i)) s.1 s.2 := by
    intro ss
    induction ss with
    | nil => intro A _ i s e; cases e
    | cons s0 ss ih =>
      intro A hA i s e
      cases i with
      | zero => cases e; exact hA.1
      | succ i => exact ih _ hA.2 i s e
  refine as_for (fun i ρ' μ' => μ' = μ ∧ ρ'.length = 5 ∧ ρ'[0]? = some (some (RMd (lessAll A (ss.take i)))) ∧ ρ'[1]? = ρ[1]? ∧ ρ'[2]? = ρ[2]?) (ai_seqL (ae_var h2)) ⟨rfl, hn, h0, rfl, rfl⟩ (fun i d ρ' μ' hd hP => ?_) fun ρ' μ' hP => ?_
  · obtain ⟨rfl, hl', r0, r1, r2⟩ := hP
    rw [List.getElem?_map] at hd
    cases e : ss[i]? with
    | none => rw [e] at hd; cases hd
    | some s =>
      rw [e] at hd
      cases hd
      refine ⟨_, _, ag_tup rfl (ags_cons ag_name (ags_cons ag_name ags_nil)), as_set (ae_call (aa3 (ae_var (get_set_ne (by decide) (get_set_ne (by decide) r0))) (ae_var (get_set_ne (by decide) (get_set_eq (by omega)))) (ae_var (get_set_eq (by rw [List.length_set]; omega)))) (pS.mk ⟨_, s.1, s.2, rfl, take ss A h i s e, rfl⟩)) ⟨rfl, by rw [List.length_set, List.length_set, List.length_set]; exact hl', ?_, ?_, ?_⟩⟩
      · rw [get_set_eq (by rw [List.length_set, List.length_set]; omega), List.take_succ, e]
        show _ = some (some (RMd (List.foldl _ A (ss.take i ++ [s]))))
        rw [List.foldl_append]
        rfl
      · exact get_set_ne (by decide) (get_set_ne (by decide) (get_set_ne (by decide) r1))
      · exact get_set_ne (by decide) (get_set_ne (by decide) (get_set_ne (by decide) r2))
  · obtain ⟨rfl, hl', r0, r1, r2⟩ := hP
    rw [List.length_map, List.take_length] at r0
    exact hE ρ' hl' r0 r1 r2
theorem bod_squares_in : Bod C (t_squares_in K C CN) 5 S_squares_in := bod_pG fun ds μ d ⟨A, k, e, hS, hk, hd⟩ Γ hΓ => by
  subst e hd
  refine ag_seq (as_parF (af_lst aa_nil (Nat.le_of_ble_eq_true rfl)) (ae_call (aa1 (ae_var rfl)) (pS.mk ⟨A, rfl, hS.nx, rfl⟩)) fun p hp => ?_)
  refine ag_seq (as_while (fun m ρ' μ' => ∃ (A' : Mat) (found : Sqs), SqOk m A' ∧ μ' = (p, found.map sqD) :: μ ∧ ρ'.length = 5 ∧ ρ'[0]? = some (some (RMd A')) ∧ ρ'[1]? = some (some (.ptr p)) ∧ ρ'[2]? = some (some (SQd (nextSq A'))) ∧ found ++ sqLoop m A' = sqLoop k A ∧ found.length + 2 * m ≤ 2 * k) k ⟨A, [], hS, rfl, rfl, rfl, rfl, rfl, rfl, by simp⟩ ?_)
  rintro m ρ' μ' ⟨A', found, hA, rfl, hl, r0, r1, r2, hf, hm⟩
  refine ⟨_, _, ae_nonempty r2, fun hb => ?_, fun hb => ?_⟩
  · cases hA with
    | done h e => rw [e] at hb; cases hb
    | @step m _ h e l g =>
      refine as_seq (as_less l (by have := nextSq_len A'; omega) r0 r2 hl fun ρ2 l2 s0 s1 s2 => ?_)
      rw [r1] at s1
      rw [r2] at s2
      refine as_seq (as_extend (ae_var s1) (ae_var s2) (List.mem_cons_self ..) (by rw [List.length_map, List.length_map]; have := nextSq_len A'; omega) ?_)
      rw [setM_head hp]
      refine as_set (ae_call (aa1 (ae_var s0)) (pS.mk ⟨_, rfl, g.nx, rfl⟩)) ⟨m, Nat.lt_succ_self _, lessAll A' (nextSq A'), found ++ nextSq A', g, by rw [List.map_append], by rw [List.length_set]; exact l2, get_set_ne (by decide) s0, get_set_ne (by decide) s1, get_set_eq (by omega), ?_, ?_⟩
      · rw [List.append_assoc]
        have : sqLoop (m + 1) A' = nextSq A' ++ sqLoop m (lessAll A' (nextSq A')) := by
          show (match nextSq A' with | [] => [] | more => more ++ sqLoop m (lessAll A' more)) = _
          split
          · rename_i z; exact absurd z e
          · rfl
        rw [← this]
        exact hf
      · rw [List.length_append]
        have := nextSq_len A'
        omega
  · have e : nextSq A' = [] := by
      have : (nextSq A').map sqD = [] := by simpa using hb
      simpa using this
    have e2 : sqLoop m A' = [] := by
      cases m with
      | zero => rfl
      | succ m =>
        show (match nextSq A' with | [] => [] | more => more ++ sqLoop m (lessAll A' more)) = _
        rw [e]
    rw [e2, List.append_nil] at hf
    refine ag_frz (by rw [hΓ]; exact hp) (AS.toG (as_ret (ae_var (frz_self r1)) ?_))
    rw [hf]
    exact ev
end
end OC
set_option maxHeartbeats 4000000
/-! OcX4: lists with values, level: promises, readings, bodies. -/
namespace OC
open PySem PySem.Spec PyProof.Rows L2

/-! ### promises -/
def unitR (j n : Nat) : Row := (List.range n).map fun o => if o = j then 1 else 0
def aboveL (s : Sqs) : List Nat := (List.range s.length).filter fun i => decide (0 < (s.getD i (0, [])).1)
def formsL (s : Sqs) : Mat := s.map (·.2)
def aboveF (s : Sqs) : Option Row := (aboveL s).head?.map fun j => listWith (formsL s) (unitR j s.length)
def optL : Option Row → D
  | none => .lst []
  | some r => .lst [RLd r]
def S_above_in : Sc := pS fun ds d => ∃ (A : Mat) (k : Nat), ds = [RMd A, .int 1] ∧ SqOk k A ∧ k ≤ 20 ∧ (sqLoop k A).length ≤ 100 ∧ (∀ j, (aboveL (sqLoop k A)).head? = some j → ListOk (formsL (sqLoop k A)) (unitR j (sqLoop k A).length)) ∧ d = optL (aboveF (sqLoop k A))
/-- the table without the square of the weights -/
def restM (A : Mat) (w : Row) : Mat := lessSq A (1 / dot w (mv A w)) (mv A w)
def levelV (A : Mat) (w : Row) (k : Nat) : Option Row := (aboveF (sqLoop k (restM A w))).map fun v => lessR v w (dot (mv A w) v / dot w (mv A w))
structure LvOk (A : Mat) (w : Row) (k : Nat) : Prop where
  n : A.length ≤ 1000
  wl : w.length ≤ 1000
  rows : ∀ r ∈ A, r.length ≤ 1000 ∧ WOk r w
  ml : WOk w (mv A w)
  sw : Sm (dot w (mv A w))
  nz : dot w (mv A w) ≠ 0
  ls : LsOk A (1 / dot w (mv A w)) (mv A w)
  sq : SqOk k (restM A w)
  k20 : k ≤ 20
  sl : (sqLoop k (restM A w)).length ≤ 100
  ab : ∀ j, (aboveL (sqLoop k (restM A w))).head? = some j → ListOk (formsL (sqLoop k (restM A w))) (unitR j (sqLoop k (restM A w)).length)
  v : ∀ v, aboveF (sqLoop k (restM A w)) = some v → v.length ≤ 1000 ∧ WOk (mv A w) v ∧ Sm (dot (mv A w) v) ∧ LOk v w (dot (mv A w) v / dot w (mv A w))
def optR : Option Row → D
  | none => .non
  | some r => RLd r
/-- a list of its own, or nothing -/
def retR : Option Row → Ret
  | none => .val .non
  | some q => .fresh (q.map D.rat)
def S_lessF : Sc := fun ds μ r μ' => μ' = μ ∧ ∃ (q o : Row) (c : Rat), ds = [RLd q, RLd o, .rat c] ∧ q.length ≤ 1000 ∧ LOk q o c ∧ r = .fresh ((lessR q o c).map D.rat)
def S_level_in : Sc := fun ds μ r μ' => μ' = μ ∧ ∃ (A : Mat) (w : Row) (k : Nat), ds = [RMd A, RLd w] ∧ LvOk A w k ∧ r = retR (levelV A w k)

abbrev N_list_with : List Str := ["forms", "values", "found", "left", "columns", "sign", "row", "column", "part", "form", "value"]
def t_list_with (K : Frg) (C CN : Addr) : TS := (tSeq (tAsg (tcR (SpO C CN S_steps_in) E0 (tCons (tLc (iZip K (tCons (tVar 0) (tCons (tVar 1) tNil))) (gTup K 2 (gCons (gName 9) (gCons (gName 10) gNil))) tYes (tOp (rAdd C CN) (tVar 9) (tLst (tCons (tVar 10) tNil))) [9, 10]) tNil)) (gTup K 3 (gCons (gName 3) (gCons (gName 4) (gCons (gName 5) gNil)))))
  (tSeq (tAsg (tLc (iSeq K (tOp (rIx K) (tVar 0) (tC (.int 0)))) (gName 8) tYes (StX.tMakeR C (spIni C [.int 1]) E0 (tCons (tC (.int 0)) tNil)) [8]) (gName 2))
  (tSeq (tFor (iSeq K (tRevL K (tListZip K (tCons (tVar 3) (tCons (tVar 4) tNil))))) (gTup K 2 (gCons (gName 6) (gCons (gName 7) gNil))) (tAsg (tMethR C "over" (SpO C CN S_Rover) E0 (tOp (rSub C CN) (tOp (rIx K) (tVar 6) (tUn (rNeg C CN) (tC (.int 1)))) (tcR (SpO C CN S_weighed) E0 (tCons (tSl (rSlL K) (tVar 6) tNoPart (tPart (tUn (rNeg C CN) (tC (.int 1))))) (tCons (tVar 2) tNil)))) (tCons (tOp (rIx K) (tVar 6) (tVar 7)) tNil)) (gSub (tVar 2) (tVar 7) rSetL)))
  (tRet (tVar 2)))))

abbrev N_above_in : List Str := ["rows", "most", "squares_now", "forms", "above", "found", "place", "number", "form", "square", "other"]
def t_above_in (K : Frg) (C CN : Addr) : TS := (tSeq (tAsg (tcR (SpO C CN S_squares_in) E0 (tCons (tVar 0) tNil)) (gName 2))
  (tSeq (tAsg (tLc (iSeq K (tVar 2)) (gTup K 2 (gCons (gName 7) (gCons (gName 8) gNil))) tYes (tVar 8) [7, 8]) (gName 3))
  (tSeq (tAsg (tLc (iEnum K (tCons (tVar 2) tNil)) (gTup K 2 (gCons (gName 6) (gCons (gName 9) gNil))) (tTest (tOp rGtI (tPrR C (SpO C CN S_Rsign) E0 (tOp (rIx K) (tVar 9) (tC (.int 0)))) (tC (.int 0)))) (tVar 6) [6, 9]) (gName 4))
  (tSeq (tAsg (tLst tNil) (gName 5))
  (tSeq (tFor (iSeq K (tSl (rSlL K) (tVar 4) tNoPart (tPart (tVar 1)))) (gName 6) (tDrop (tBM K "list" rAppend (tVar 5) (tCons (tcR (SpO C CN S_list_with) E0 (tCons (tVar 3) (tCons (tLc (iRng1 (tCons (tCB (rLen K) (tCons (tVar 3) tNil)) tNil)) (gName 10) tYes (tIf (tTest (tOp (rEqU K) (tVar 10) (tVar 6))) (StX.tMakeR C (spIni C [.int 1]) E0 (tCons (tC (.int 1)) tNil)) (StX.tMakeR C (spIni C [.int 1]) E0 (tCons (tC (.int 0)) tNil))) [10]) tNil))) tNil))))
  (tRet (tVar 5)))))))

abbrev N_level_in : List Str := ["rows", "weights", "made", "worth", "above"]
def t_level_in (K : Frg) (C CN : Addr) : TS := (tSeq (tAsg (tcR (SpO C CN S_made_by) E0 (tCons (tVar 0) (tCons (tVar 1) tNil))) (gName 2))
  (tSeq (tAsg (tcR (SpO C CN S_weighed) E0 (tCons (tVar 1) (tCons (tVar 2) tNil))) (gName 3))
  (tSeq (tAsg (tcR (SpO C CN S_above_in) E0 (tCons (tcR (SpO C CN S_less_square) E0 (tCons (tVar 0) (tCons (tMethR C "over" (SpO C CN S_Rover) E0 (StX.tMakeR C (spIni C [.int 1]) E0 (tCons (tC (.int 1)) tNil)) (tCons (tVar 3) tNil)) (tCons (tVar 2) tNil)))) (tCons (tC (.int 1)) tNil))) (gName 4))
  (tSeq (tIfS (tTest (tOp (rEqU K) (tVar 4) (tLst tNil))) (tRet (tC .non)) tNext)
  (tRet (tcR (SpO C CN S_lessF) E0 (tCons (tOp (rIx K) (tVar 4) (tC (.int 0))) (tCons (tVar 1) (tCons (tMethR C "over" (SpO C CN S_Rover) E0 (tcR (SpO C CN S_weighed) E0 (tCons (tVar 2) (tCons (tOp (rIx K) (tVar 4) (tC (.int 0))) tNil))) (tCons (tVar 3) tNil)) tNil)))))))))

/-! ### bodies -/
theorem RepL.of_get {C : Addr} {B : Hp} : ∀ {ds : List D} {vs : List V}, ds.length = vs.length → (∀ (i : Nat) (d : D) (v : V), ds[i]? = some d → vs[i]? = some v → Rep C B d v) → RepL C B ds vs
  | [], [], _, _ => rfl
  | d :: ds, v :: vs, hl, h => ⟨v, vs, rfl, h 0 d v rfl rfl, RepL.of_get (by simpa using hl) fun i d v h1 h2 => h (i + 1) d v h1 h2⟩
section
variable {C CN : Addr} {K : Frg} {mg : Str → Option Value} {ρ : Sto} {μ μ1 : Mu} {E : AEn} {x y d : D} {q : Rat} {te : TE} {tt : TT} {tr : TA} {wi : TI} {g : TG} {vs : List Nat} {xs ys ds es : List D} {qs : List Rat} {Γ : Gam}
theorem af_listZip (ha : AA C tr ρ μ [.lst ds, .lst es] μ1) (hl : ds.length ≤ 1000) : AF C (tListZip K tr) ρ μ (prsD ds es) μ1 := ⟨ha.1, fun σ B H rs ok Q q => ha.2 σ B H rs ok _ fun vs B1 H1 g1 ok1 r1 => by
  obtain ⟨v, r, rfl, ⟨a, xs, rfl, ha', ra⟩, v2, r2, rfl, ⟨b, ys, rfl, hb', rb⟩, h3⟩ := r1
  refine ⟨a, b, xs, ys, by rw [show r2 = [] from h3], SqL.of (ok1.bh _ _ ha'), SqL.of (ok1.bh _ _ hb'), by rw [ra.length]; exact hl, fun l ts H2 hk hl0 hl2 hlen hlt hts => ?_⟩
  have tN : ∀ c, c ∈ ts → H1 c = none := fun c hc => by
    obtain ⟨i, hi, e⟩ := List.mem_iff_getElem.mp hc
    exact (hts i c (by rw [List.getElem?_eq_getElem hi, e])).1
  have sB : Same B1 (fun c => if c ∈ ts then H2 c else B1 c) := fun c o e => by
    show (if c ∈ ts then H2 c else B1 c) = some o
    rw [if_neg fun z => by have := ok1.bh _ _ e; rw [tN c z] at this; cases this]
    exact e
  have g2 : Gr (dom μ1) B1 H1 (fun c => if c ∈ ts then H2 c else B1 c) H2 := ⟨sB, fun c o e _ => hk c o e, fun c o e => by
    by_cases z : c ∈ ts
    · exact .inr (tN c z)
    · rw [if_neg z] at e; exact .inl e, fun c o e => ⟨o, hk c o e⟩⟩
  have gg := g1.trans (g2.dm ha.1)
  refine q l (ts.map V.ref) _ H2 gg ⟨fun c o e => ?_, ok1.own.to sB (fun p hp => ?_) fun p ws _ e => hk p _ e⟩ ?_ ?_ hl2 (RepL.of_get ?_ fun i d v e1 e2 => ?_)
  · by_cases z : c ∈ ts
    · rw [if_pos z] at e; exact e
    · rw [if_neg z] at e; exact hk _ _ (ok1.bh _ _ e)
  · obtain ⟨ds', hm⟩ := mem_dom hp
    obtain ⟨h1, ws, h2, _⟩ := ok1.own.mem hm
    show (if p ∈ ts then H2 p else B1 p) = none
    rw [if_neg fun z => by rw [tN p z] at h2; cases h2]
    exact h1
  · cases z : H l with
    | none => rfl
    | some o =>
      obtain ⟨o', z'⟩ := g1.ds l o z
      rw [hl0] at z'; cases z'
  · show (if l ∈ ts then H2 l else B1 l) = none
    rw [if_neg hlt]
    exact ok1.bh.free hl0
  · rw [prsD_length, List.length_map, hlen, ra.length, rb.length]
  · rw [List.getElem?_map] at e2
    cases e3 : ts[i]? with
    | none => rw [e3] at e2; cases e2
    | some t =>
      rw [e3] at e2
      cases e2
      obtain ⟨h1, x, y, hx, hy, h2⟩ := hts i t e3
      obtain ⟨d1, d2, hd1, hd2, rfl⟩ := prsD_zip_get e1
      obtain ⟨x', hx', rx⟩ := ra.get hd1
      obtain ⟨y', hy', ry⟩ := rb.get hd2
      rw [hx] at hx'
      rw [hy] at hy'
      cases hx'
      cases hy'
      refine ⟨t, [x, y], rfl, ?_, x, [y], rfl, rx.mono sB, y, [], rfl, ry.mono sB, rfl⟩
      show (if t ∈ ts then H2 t else B1 t) = _
      rw [if_pos (List.mem_of_getElem? e3)]
      exact h2⟩
theorem len_above_in : ∀ ds μ r μ', S_above_in ds μ r μ' → ds.length = 2 := len1 fun ds d ⟨x, y, e, _⟩ => by rw [e]; rfl
theorem len_level_in : ∀ ds μ r μ', S_level_in ds μ r μ' → ds.length = 2 := fun ds μ r μ' ⟨_, x, y, z, e, _⟩ => by rw [e]; rfl
theorem len_lessF : ∀ ds μ r μ', S_lessF ds μ r μ' → ds.length = 3 := fun ds μ r μ' ⟨_, x, y, z, e, _⟩ => by rw [e]; rfl
theorem bod_lessF : Bod C (t_lessened K C CN) 5 S_lessF := fun ds μ r μ' ⟨hμ, q, o, c, e, h1, ⟨h2, h3, h4, h5⟩, hr⟩ hd Γ hΓ => by
  subst e hr hμ
  refine AS.toG (as_retF (af_mapY ((lessR q o c).map D.rat) (ai_zip (aa2 (ae_var rfl) (ae_var rfl))) zip_len (by rw [prsD_length, List.length_map]; omega) fun i x y hx hy => ?_) ⟨.inl rfl, List.Sublist.refl _⟩)
  obtain ⟨s, t, hs, ht, rfl, rfl⟩ := zip_get hx hy
  exact ⟨_, _, ag_tup rfl (ags_cons ag_name (ags_cons ag_name ags_nil)), by simp, at_yes, ae_op (ae_var rfl) (ae_op (ae_var rfl) (ae_var rfl) (mul_q (h4 t ht) h2)) (sub_q (h3 s hs) (h5 t ht))⟩
theorem RLd_last {r : Row} (h : 0 < r.length) : atI (r.map D.rat) (-1) = some (.rat (r.getD (r.length - 1) 0)) := by
  unfold L2.atI
  have e : ixN (r.map D.rat).length (-1) = some (r.length - 1) := by
    unfold ixN
    rw [List.length_map, if_neg (by decide), if_pos (by omega)]
    exact congrArg some (by omega)
  rw [e]
  show (r.map D.rat)[r.length - 1]? = _
  rw [List.getElem?_map, get_of (b := (0 : Rat)) (by omega)]
  rfl
theorem cut_last {r : Row} : cutD (r.map D.rat) none (some (-1)) = (r.take (r.length - 1)).map D.rat := by
  unfold cutD
  rw [List.length_map, List.map_take]
  have e1 : HT.sIx r.length 0 none = 0 := rfl
  have e2 : HT.sIx r.length r.length (some (-1)) = r.length - 1 := by
    unfold HT.sIx
    simp
    omega
  rw [e1, e2, List.drop_zero, Nat.sub_zero]
theorem cut_one {l : List D} : cutD l none (some 1) = l.take 1 := by
  unfold cutD
  have e1 : HT.sIx l.length 0 none = 0 := rfl
  have e2 : HT.sIx l.length l.length (some 1) = min 1 l.length := by
    unfold HT.sIx
    simp
    try omega
  rw [e1, e2, List.drop_zero, Nat.sub_zero]
  by_cases h : 1 ≤ l.length
  · rw [Nat.min_eq_left h]
  · have : l = [] := by cases l with
      | nil => rfl
      | cons a t => simp at h
    rw [this]
    rfl
theorem prs_zip {L : Mat} {cols : List Nat} : (prsD (L.map RLd) (cols.map natD)) = (L.zip cols).map fun rc => .tup [RLd rc.1, natD rc.2] := by
  unfold prsD
  rw [List.zip_map, List.map_map]
  rfl
theorem back_take : ∀ (l : List (Row × Nat)) (f : Row), BackOk l f → ∀ (i : Nat) (rc : Row × Nat), l[i]? = some rc → BackOk [rc] ((l.take i).foldl backStep f) := by
  intro l
  induction l with
  | nil => intro f _ i rc e; cases e
  | cons r t ih =>
    intro f h i rc e
    cases i with
    | zero => cases e; exact ⟨h.1, trivial⟩
    | succ i => exact ih _ h.2 i rc e
theorem withVal_rect {forms : Mat} {values : Row} {wd : Nat} (h : ∀ r ∈ forms, r.length = wd) (hv : values.length = forms.length) : Rect (withVal forms values) forms.length (wd + 1) := by
  unfold withVal
  refine ⟨by rw [List.length_zipWith, hv, Nat.min_self], fun r hr => ?_⟩
  obtain ⟨i, hi, e⟩ := List.mem_iff_getElem.mp hr
  rw [List.getElem_zipWith] at e
  rw [← e, List.length_append, h _ (List.getElem_mem _)]
  rfl
theorem bod_list_with : Bod C (t_list_with K C CN) 11 S_list_with := bod_pG fun ds μ d ⟨forms, values, e, hO, hd⟩ Γ hΓ => by
  subst e hd
  have hR := withVal_rect hO.wd hO.vl
  have n0 := hO.n0
  have n1 := hO.n1
  have w1 := hO.w1
  refine ag_seq (as_asg (ae_call (aa1 (AF.e (af_mapY ((withVal forms values).map RLd) (ai_zip (aa2 (ae_var rfl) (ae_var rfl))) (by unfold withVal; rw [List.length_map, List.length_zipWith, prsD_length, List.length_map, List.length_map]) (by rw [prsD_length, List.length_map]; omega) fun i x y hx hy => ?_))) (pS.mk ⟨withVal forms values, _, _, rfl, hR, n0, n1, by omega, hO.st, rfl⟩)) (ag_tup rfl (ags_cons ag_name (ags_cons ag_name (ags_cons ag_name ags_nil)))) ?_)
  · obtain ⟨x1, x2, e1, e2, rfl⟩ := prsD_zip_get hx
    obtain ⟨t, ht, rfl⟩ := map_rat_get e2
    rw [List.getElem?_map] at e1
    cases e : forms[i]? with
    | none => rw [e] at e1; cases e1
    | some r =>
      rw [e] at e1
      cases e1
      unfold withVal at hy
      rw [List.getElem?_map, List.getElem?_zipWith, e, ht] at hy
      cases hy
      have hr := hO.wd r (List.mem_of_getElem? e)
      exact ⟨_, _, ag_tup rfl (ags_cons ag_name (ags_cons ag_name ags_nil)), by simp, at_yes, (ae_op (ae_var rfl) (AF.e (af_lst (aa1 (ae_var rfl)) (Nat.le_of_ble_eq_true rfl))) (add_l (by rw [List.length_map, hr]; show _ + 1 ≤ 100000; omega))).is (by show D.lst (r.map D.rat ++ [D.rat t]) = .lst ((r ++ [t]).map D.rat); rw [List.map_append]; rfl)⟩
  have hst := hO.back
  unfold listWith
  have hw0 : ((withVal forms values).getD 0 []).length = (forms.getD 0 []).length + 1 := hR.row n0
  rw [hw0]
  obtain ⟨hRs, hcs⟩ := stepsN_facts hR ((forms.getD 0 []).length + 1)
  generalize stepsN (withVal forms values) ((forms.getD 0 []).length + 1) = st at hst hRs hcs ⊢
  obtain ⟨L, cols, sg⟩ := st
  dsimp only at hst hRs hcs ⊢
  refine ag_seq (as_own (ds := (List.replicate (forms.getD 0 []).length (0 : Rat)).map D.rat) (af_mapY _ (ai_seqL (ae_op (ae_var rfl) ae_int (ix_l (RMd_at (i := 0) n0)))) (by simp) (by rw [List.length_map]; omega) fun i x y hx hy => ?_) fun p hp => ?_)
  · rw [List.getElem?_map] at hy
    cases e : (List.replicate (forms.getD 0 []).length (0 : Rat))[i]? with
    | none => rw [e] at hy; cases hy
    | some z =>
      rw [e] at hy
      cases hy
      rw [List.getElem?_replicate] at e
      split at e
      · cases e
        exact ⟨_, _, ag_name, by simp, at_yes, ae_one 0⟩
      · cases e
  refine ag_seq (as_for (fun i ρ' μ' => μ' = (p, (((L.zip cols).reverse.take i).foldl backStep (List.replicate (forms.getD 0 []).length 0)).map D.rat) :: μ ∧ ρ'.length = 11 ∧ ρ'[2]? = some (some (.ptr p)) ∧ (((L.zip cols).reverse.take i).foldl backStep (List.replicate (forms.getD 0 []).length 0)).length = (forms.getD 0 []).length)
    (ai_seqL (AF.e (af_rev (AF.e (af_listZip (aa2 (ae_var rfl) (ae_var rfl)) (by rw [List.length_map, hRs.1]; omega)))))) ⟨rfl, rfl, rfl, by simp⟩ (fun i d ρ' μ' hd hP => ?_) fun ρ' μ' hP => ?_)
  · obtain ⟨rfl, hl, r2, hfl⟩ := hP
    rw [prs_zip, ← List.map_reverse, List.getElem?_map] at hd
    cases e : (L.zip cols).reverse[i]? with
    | none => rw [e] at hd; cases hd
    | some rc =>
      rw [e] at hd
      cases hd
      obtain ⟨⟨s1, s2, s3, s4, s5, s6, s7, s8, s9⟩, _⟩ := back_take _ _ hst i rc e
      have hrl : rc.1.length = (forms.getD 0 []).length + 1 := by
        have hm := List.mem_of_getElem? e
        rw [List.mem_reverse] at hm
        exact hRs.2 _ (List.of_mem_zip hm).1
      rw [List.take_succ, e, Option.toList_some, List.foldl_append]
      generalize hF : ((L.zip cols).reverse.take i).foldl backStep (List.replicate (forms.getD 0 []).length 0) = F at hfl s2 s3 s4 s7 ⊢
      show ∃ ρ2 js, AG C _ (.tup [RLd rc.1, natD rc.2]) ρ' js ρ2 ∧ _
      have r2' : ((ρ'.set 6 (some (RLd rc.1))).set 7 (some (natD rc.2)))[2]? = some (some (.ptr p)) := get_set_ne (by decide) (get_set_ne (by decide) r2)
      have r6 : ((ρ'.set 6 (some (RLd rc.1))).set 7 (some (natD rc.2)))[6]? = some (some (RLd rc.1)) := get_set_ne (by decide) (get_set_eq (by omega))
      have r7 : ((ρ'.set 6 (some (RLd rc.1))).set 7 (some (natD rc.2)))[7]? = some (some (natD rc.2)) := get_set_eq (by rw [List.length_set]; omega)
      have rl : ((ρ'.set 6 (some (RLd rc.1))).set 7 (some (natD rc.2))).length = 11 := by rw [List.length_set, List.length_set]; exact hl
      refine ⟨_, _, ag_tup rfl (ags_cons ag_name (ags_cons ag_name ags_nil)), ?_⟩
      generalize (ρ'.set 6 (some (RLd rc.1))).set 7 (some (natD rc.2)) = ρ2 at r2' r6 r7 rl
      have hm : (p, F.map D.rat) ∈ (p, F.map D.rat) :: μ := List.mem_cons_self ..
      have hw : AE C (tcR (SpO C CN S_weighed) E0 (tCons (tSl (rSlL K) (tVar 6) tNoPart (tPart (tUn (rNeg C CN) (tC (.int 1))))) (tCons (tVar 2) tNil))) ρ2 ((p, F.map D.rat) :: μ) (.rat (dot (rc.1.take (rc.1.length - 1)) F)) ((p, F.map D.rat) :: μ) :=
        ae_lend (p := p) (es := F.map D.rat) (aa2 ((AF.e (af_slice (ae_var r6) ao_none (ao_some (ae_un ae_int neg_i)))).is (d' := RLd (rc.1.take (rc.1.length - 1))) (congrArg D.lst cut_last)) (ae_var r2')) hm ⟨rc.1.take (rc.1.length - 1), F, by
          show [unb p _ (RLd _), unb p (F.map D.rat) (.ptr p)] = _
          rw [unb_self]; rfl, by rw [List.length_take]; omega, s2, rfl⟩ rfl
      refine as_item (ae_over (ae_op (ae_op (ae_var r6) (ae_un ae_int neg_i) (ix_l (RLd_last s9))) hw (sub_q s1 s3)) (ae_op (ae_var r6) (ae_var r7) (ix_l (RLd_at s8))) s4 s6 s5) (ae_var r2') (ae_var r7) hm (by rw [List.length_map]; exact ixN_nat s7) ⟨?_, rl, r2', ?_⟩
      · rw [setM_head hp, ← List.map_set]
        rfl
      · show (backStep F rc).length = _
        unfold backStep
        rw [List.length_set]
        exact hfl
  · obtain ⟨rfl, hl, r2, hfl⟩ := hP
    have e1 : (prsD (L.map RLd) (cols.map natD)).reverse.length = (L.zip cols).reverse.length := by rw [prs_zip, List.length_reverse, List.length_reverse, List.length_map]
    rw [e1, List.take_length]
    exact ag_frz (by rw [hΓ]; exact hp) (AS.toG (as_ret (ae_var (frz_self r2)) ev))
theorem sgn_gt : decide ((0 : Int) < sgn q) = decide (0 < q) := by
  unfold sgn
  by_cases h : 0 < q
  · rw [if_pos h, decide_eq_true h]; rfl
  · rw [if_neg h, decide_eq_false h]
    split <;> rfl
theorem bod_above_in : Bod C (t_above_in K C CN) 11 S_above_in := bod_pG fun ds μ d ⟨A, k, e, hS, hk, hsl, hL, hd⟩ Γ hΓ => by
  subst e hd
  refine ag_seq (as_set (ae_call (aa1 (ae_var rfl)) (pS.mk ⟨A, k, rfl, hS, hk, rfl⟩)) ?_)
  generalize sqLoop k A = s at hsl hL ⊢
  refine ag_seq (as_set (AF.e (af_mapY ((formsL s).map RLd) (ai_seqL (ae_var rfl)) (by unfold formsL; simp) (by rw [List.length_map]; omega) fun i x y hx hy => ?_)) ?_)
  · rw [List.getElem?_map] at hx
    cases e : s[i]? with
    | none => rw [e] at hx; cases hx
    | some t =>
      rw [e] at hx
      cases hx
      unfold formsL at hy
      rw [List.getElem?_map, List.getElem?_map, e] at hy
      cases hy
      exact ⟨_, _, ag_tup rfl (ags_cons ag_name (ags_cons ag_name ags_nil)), by simp, at_yes, ae_var rfl⟩
  refine ag_seq (as_set (d := .lst ((aboveL s).map natD)) ((AF.e (af_filter natD (fun i => decide (0 < (s.getD i (0, [])).1)) (ai_enum (aa1 (ae_var rfl))) (by rw [enuD_length, List.length_map]; omega) fun i dd hdd => ?_)).is (by rw [enuD_length, List.length_map]; rfl)) ?_)
  · obtain ⟨x, hx, rfl⟩ := enuD_get hdd
    rw [List.getElem?_map] at hx
    cases e : s[i]? with
    | none => rw [e] at hx; cases hx
    | some t =>
      rw [e] at hx
      cases hx
      rw [getDn e]
      exact ⟨_, _, ag_tup rfl (ags_cons ag_name (ags_cons ag_name ags_nil)), by simp, at_test ((ae_op (ae_sign (ae_op (ae_var (d := sqD t) rfl) ae_int (ix_t (d := .rat t.1) rfl))) ae_int a2_gt).is (by rw [sgn_gt])), fun _ => ae_var rfl⟩
  refine ag_seq (as_own (af_lst aa_nil (Nat.le_of_ble_eq_true rfl)) fun p hp => ?_)
  have hA : (aboveL s).length ≤ 100 := by
    unfold aboveL
    have := List.length_filter_le (fun i => decide (0 < (s.getD i (0, [])).1)) (List.range s.length)
    rw [List.length_range] at this
    omega
  refine ag_seq (as_for (fun i ρ' μ' => μ' = (p, (((aboveL s).take 1).take i).map fun j => RLd (listWith (formsL s) (unitR j s.length))) :: μ ∧ ρ'.length = 11 ∧ ρ'[3]? = some (some (RMd (formsL s))) ∧ ρ'[5]? = some (some (.ptr p)))
    (ai_seqL ((AF.e (af_slice (ae_var rfl) ao_none (ao_some (ae_var rfl)))).is (d' := .lst (((aboveL s).take 1).map natD)) (by rw [cut_one, List.map_take]))) ⟨rfl, rfl, rfl, rfl⟩ (fun i d ρ' μ' hd hP => ?_) fun ρ' μ' hP => ?_)
  · obtain ⟨rfl, hl, r3, r5⟩ := hP
    rw [List.getElem?_map] at hd
    cases e : ((aboveL s).take 1)[i]? with
    | none => rw [e] at hd; cases hd
    | some j =>
      rw [e] at hd
      cases hd
      have hi0 : i = 0 := by
        have := (List.getElem?_eq_some_iff.mp e).1
        rw [List.length_take] at this
        omega
      subst hi0
      have hj : (aboveL s).head? = some j := by
        rw [List.getElem?_take] at e
        rw [List.head?_eq_getElem?]
        simpa using e
      have hO := hL j hj
      have q3 : (ρ'.set 6 (some (D.int (j : Nat))))[3]? = some (some (RMd (formsL s))) := get_set_ne (by decide) r3
      have q5 : (ρ'.set 6 (some (D.int (j : Nat))))[5]? = some (some (.ptr p)) := get_set_ne (by decide) r5
      have q6 : (ρ'.set 6 (some (D.int (j : Nat))))[6]? = some (some (D.int (j : Nat))) := get_set_eq (by omega)
      have ql : (ρ'.set 6 (some (D.int (j : Nat)))).length = 11 := by rw [List.length_set]; exact hl
      refine ⟨_, _, ag_name, ?_⟩
      show AS C _ (ρ'.set 6 (some (D.int (j : Nat)))) _ _
      generalize ρ'.set 6 (some (D.int (j : Nat))) = ρ2 at q3 q5 q6 ql
      refine as_append (ae_var q5) (ae_call (aa2 (ae_var q3) (AF.e (af_mapY ((unitR j s.length).map D.rat) (ai_range1 (n := s.length) (aa1 ((ae_cb (aa1 (ae_var q3)) ac_len_l).is (by unfold formsL; simp))) (by omega)) (by unfold unitR; rw [rngD_length]; simp) (by rw [rngD_length]; omega) fun o x y hx hy => ?_))) (pS.mk ⟨formsL s, unitR j s.length, rfl, hO, rfl⟩)) (List.mem_cons_self ..) (by rw [List.length_map]; simp) ⟨?_, ql, q3, q5⟩
      · obtain ⟨ho, rfl⟩ := rng_get hx
        unfold unitR at hy
        rw [List.getElem?_map, List.getElem?_map, List.getElem?_range ho] at hy
        cases hy
        rw [Int.zero_add]
        refine ⟨_, _, ag_name, by simp, at_yes, ?_⟩
        have t1 : ((wipeA ρ2 [10]).set 10 (some (D.int (o : Nat))))[10]? = some (some (D.int (o : Nat))) := get_set_eq (by show 10 < (ρ2.set 10 none).length; rw [List.length_set]; omega)
        have t2 : ((wipeA ρ2 [10]).set 10 (some (D.int (o : Nat))))[6]? = some (some (D.int (j : Nat))) := get_set_ne (by decide) (get_set_ne (by decide) q6)
        refine ae_if (b := decide (o = j)) (at_test ((ae_op (ae_var t1) (ae_var t2) (eq_s rfl)).is ?_)) (fun z => (ae_one 1).is ?_) (fun z => (ae_one 0).is ?_)
        · show D.bl (decide ((o : Int) = (j : Int))) = _
          rw [show decide ((o : Int) = (j : Int)) = decide (o = j) from decide_eq_decide.mpr ⟨fun h => by omega, fun h => by rw [h]⟩]
        · show D.rat _ = D.rat (if o = j then 1 else 0)
          rw [if_pos (of_decide_eq_true z)]; rfl
        · show D.rat _ = D.rat (if o = j then 1 else 0)
          rw [if_neg (of_decide_eq_false z)]; rfl
      · rw [setM_head hp]
        have : ((aboveL s).take 1).take (0 + 1) = [j] := by
          rw [List.take_take]
          show (aboveL s).take 1 = [j]
          cases hx : aboveL s with
          | nil => rw [hx] at hj; cases hj
          | cons a t => rw [hx] at hj; cases hj; rfl
        rw [this]
        rfl
  · obtain ⟨rfl, hl, r3, r5⟩ := hP
    refine ag_frz (by rw [hΓ]; exact hp) (AS.toG (as_ret (ae_var (frz_self r5)) ?_))
    rw [List.length_map, List.take_length]
    have : optL (aboveF s) = .lst (((aboveL s).take 1).map fun j => RLd (listWith (formsL s) (unitR j s.length))) := by
      unfold aboveF
      cases aboveL s <;> rfl
    rw [this]
    exact ev
theorem bod_level_in : Bod C (t_level_in K C CN) 5 S_level_in := fun ds μ r μ' ⟨hμ, A, w, k, e, hO, hr⟩ hd Γ hΓ => by
  subst e hμ
  have so : Sm (1 : Rat) := sm_int (i := 1) (by decide)
  refine AS.toG ?_
  refine as_seq (as_set (ae_call (aa2 (ae_var rfl) (ae_var rfl)) (pS.mk ⟨A, w, rfl, hO.n, hO.rows, rfl⟩)) ?_)
  refine as_seq (as_set (ae_call (aa2 (ae_var rfl) (ae_var rfl)) (pS.mk ⟨w, mv A w, rfl, hO.wl, hO.ml, rfl⟩)) ?_)
  refine as_seq (as_set (ae_call (aa2 (ae_call (aa3 (ae_var rfl) (ae_over (ae_one 1) (ae_var rfl) so hO.sw hO.nz) (ae_var rfl)) (pS.mk ⟨A, _, mv A w, rfl, hO.ls, rfl⟩)) ae_int) (pS.mk ⟨restM A w, k, rfl, hO.sq, hO.k20, hO.sl, hO.ab, rfl⟩)) ?_)
  have hv := hO.v
  unfold levelV at hr
  cases ha : aboveF (sqLoop k (restM A w)) with
  | none =>
    rw [ha] at hr
    subst hr
    exact as_seq (as_ifT (at_test (ae_op (ae_var (d := .lst []) rfl) (AF.e (af_lst aa_nil (Nat.le_of_ble_eq_true rfl))) eq_e)) (as_ret ae_non ⟨.inl rfl, List.Sublist.refl _⟩))
  | some v =>
    rw [ha] at hr
    subst hr
    obtain ⟨h1, h2, h3, h4⟩ := hv v ha
    refine as_seq (as_ifF (at_test (ae_op (ae_var (d := .lst [RLd v]) rfl) (AF.e (af_lst aa_nil (Nat.le_of_ble_eq_true rfl))) eq_e)) (as_next ?_))
    have hx : ∀ ρ : Sto, ρ[4]? = some (some (.lst [RLd v])) → AE C (tOp (rIx K) (tVar 4) (tC (.int 0))) ρ μ' (RLd v) μ' := fun ρ h => ae_op (ae_var h) ae_int (ix_l rfl)
    have hml : (mv A w).length ≤ 1000 := by unfold mv; rw [List.length_map]; exact hO.n
    exact as_retF (af_call (aa3 (hx _ rfl) (ae_var rfl) (ae_over (ae_call (aa2 (ae_var rfl) (hx _ rfl)) (pS.mk ⟨mv A w, v, rfl, hml, h2, rfl⟩)) (ae_var rfl) h3 hO.sw hO.nz)) ⟨rfl, v, w, _, rfl, h1, h4, rfl⟩) ⟨.inl rfl, List.Sublist.refl _⟩
end
end OC
set_option maxHeartbeats 4000000
/-! OcE: defs that may raise. -/
namespace OC
open PySem PySem.Spec PyProof.Rows L2

/-! ### rules -/
theorem pmk_own0 {X : Cx} {C : Addr} {bmB : List Value} {B newId initId : String} {x : Str} {p pos : Pos} (F : ExcBaseFacts B newId initId bmB) (q : PySem.W.excIn X.K C bmB newId = true) (gC : X.mg x = some (.ref C)) (kC : PySem.W.keepIn X.K (.ref C) = true) (r : Raises X (.ref C)) (hg : Gl X x)
    (hdb : (x == ("__debug__" : Str)) = false := by decide) : PMk X (.Call (.Name x p) [] [] pos) (fun _ H Q => Q (.ref C) none H) := by
  intro pins s σ H Q I h
  refine wpAny_Call_Name_kw (ld_glob I hg gC ?_ hdb)
  refine PySem.W.callWith_K0 I.kIn kC ?_
  show wpAny _ _ (call (.ref C) []) _ _ _
  obtain ⟨bm, N, nm, qn, bs, hdct, sn, sub, ab, col, dd, k0, k1, k2, k3, k5, mN, hC, hN, hni, T⟩ := exc_obj I.kIn q
  refine wpAny_call_exc_subT F T hC hN hni (fun h' e hm => ?_) (Nat.zero_le _)
  exact mk_of I hm r h (I.hok.gone hm.new)
def tRaiseN (CN : Addr) (XE : XK) : TS := fun _ _ H => XE (.ref CN) none H
theorem ps_raiseN {X : Cx} {XE : XK} {p pos pos' : Pos} (T : Tx X.K X.mg) (hc : X.calm = true) (hg : Gl X "NotAbove") (tk : L2.Takes X (fun cls d _ H => XE cls d H)) (i : Nat) (hi : gloN[i]? = some "NotAbove") : PS X (.Raise (some (.Call (.Name "NotAbove" p) [] [] pos)) none pos') (tRaiseN (cN X.K) XE) :=
  ps_raise hc tk (pmk_own0 PySem.F.excBase_RuntimeError T.eN (T.glo i _ hi) T.kN (raises_own T.sN T.tN) hg)
theorem px {X : Cx} {XE : XK} (tk : L2.Takes X (fun cls d _ H => XE cls d H)) : Passes (L2.CX X.prog X.w) X XE := passes_call tk fun _ _ _ _ h => h
section
variable {X : Cx} {CX : CXT} {k : Nat} {f : Addr} {fd : FuncData} {ps ks : List Str} {sp : Sp} {E : XK} {x : Str} {q pos : Pos} {kws : List Keyword} {tk : TA}
/-- f(k = v, ..), the keywords in the parameters' order from behind -/
def tcKR (sp : Sp) (E : XK) (tk : TA) : TE := fun σ H Q => tk σ H fun zs H2 => sp zs.reverse H2 Q E
theorem pe_cKR (F : FnOk X.prog X.w X.K X.mg X.base CX k f fd ps sp) (hr : Room k X.A) (hg : Gl X x) (hm : X.mg x = some (.ref f)) (hk : PySem.W.keepIn X.K (.ref f) = true) (hb : KBinds X.K fd ps ks (fun _ ws => ws.reverse) (fun _ zs => zs.reverse)) (hx : Passes CX X E)
    (hkw : PK X kws tk) (hall : (backToKw pos (keywordEach kws X.env)).all (·.1.isSome) = true := by rfl) (hks : (backToKw pos (keywordEach kws X.env)).filterMap (·.1) = ks := by rfl)
    (hdb : (x == ("__debug__" : Str)) = false := by decide) (hpl : ((backTo pos (starEach [] X.env)).any (·.1) || (backToKw pos (keywordEach kws X.env)).any (·.1.isNone)) = false := by rfl) :
    PE X (.Call (.Name x q) [] kws pos) (tcKR sp E tk) := by
  refine ⟨fun pins s σ H Q I h => ?_⟩
  refine wpAny_Call_Name_kw (ld_glob I hg hm ?_ hdb)
  refine PySem.W.callWith_KW0 (h₀ := X.base) I.ok.mod.kin hk hall ?_ hpl
  refine thn (hkw.run pos pins s σ H _ I h) fun ws s2 ⟨zs, H2, I2, rz, q2⟩ => ⟨I2.kIn, ?_⟩
  rw [hks]
  exact run_fnk (us := []) (vs := []) F hr hb hx I2 .nil rz q2
end
/-! ### readings that let the error out -/
section
variable {C CN : Addr} {K : Frg} {mg : Str → Option Value} {ρ ρ1 ρ2 : Sto} {μ μ1 μ2 μ3 : Mu} {te tf ta tb tc : TE} {tt : TT} {tr : TA} {x y z d d' : D} {ds es fs : List D} {S : Sc} {E : AEn} {g : TG} {XE : XK} {Γ : Gam}
def AX (C CN : Addr) (XE : XK) (te : TE) (ρ : Sto) (μ : Mu) (μ' : Mu) : Prop := dom μ' = dom μ ∧ ∀ σ B H, RS C B ρ σ → Ok C μ B H → (∀ B' H', Gr (dom μ) B H B' H' → Ok C μ' B' H' → XE (.ref CN) none H') → ∀ Q, te σ H Q
def AXA (C CN : Addr) (XE : XK) (ta : TA) (ρ : Sto) (μ : Mu) (μ' : Mu) : Prop := dom μ' = dom μ ∧ ∀ σ B H, RS C B ρ σ → Ok C μ B H → (∀ B' H', Gr (dom μ) B H B' H' → Ok C μ' B' H' → XE (.ref CN) none H') → ∀ Q, ta σ H Q
theorem ax_call (ha : AA C tr ρ μ ds μ1) (hS : S ds μ1 .err μ2) (hm : dom μ2 = dom μ1 := by rfl) : AX C CN XE (tcR (SpO C CN S) XE tr) ρ μ μ2 := ⟨hm.trans ha.1, fun σ B H rs ok he Q => ha.2 σ B H rs ok _ fun vs B1 H1 g1 ok1 r1 => ⟨ds, μ1, B1, .err, μ2, r1, ok1, hS, hm, fun B' H' g ok' => he B' H' (g1.trans (g.dm ha.1)) ok'⟩⟩
theorem axa_cons2 (ha : AE C ta ρ μ x μ1) (hr : AXA C CN XE tr ρ μ1 μ2) : AXA C CN XE (tCons ta tr) ρ μ μ2 := ⟨hr.1.trans ha.1, fun σ B H rs ok he Q => ha.2 σ B H rs ok _ fun v B1 H1 g1 ok1 r1 => hr.2 σ B1 H1 (rs.mono g1.bb) ok1 (fun B' H' g ok' => he B' H' (g1.trans (g.dm ha.1)) ok') _⟩
theorem axa_cons1 (ha : AX C CN XE ta ρ μ μ1) : AXA C CN XE (tCons ta tr) ρ μ μ1 := ⟨ha.1, fun σ B H rs ok he Q => ha.2 σ B H rs ok he _⟩
theorem ax_args {sp : Sp} {XE' : XK} (ha : AXA C CN XE tr ρ μ μ1) : AX C CN XE (tcR sp XE' tr) ρ μ μ1 := ⟨ha.1, fun σ B H rs ok he Q => ha.2 σ B H rs ok he _⟩
theorem ag_err {B H : Hp} (hΓ : Γ.er = fun H' => XE (.ref CN) none H') {Dn : Ends} (f : Fol C Γ E Dn) (gx : Gx Γ μ B H) (hd : dom μ1 = dom μ) (h : E.er μ1) : ∀ B' H', Gr (dom μ) B H B' H' → Ok C μ1 B' H' → XE (.ref CN) none H' := fun B' H' g ok' => by
  have := f.er μ1 B' H' h ok' (gx.step hd g)
  rw [hΓ] at this
  exact this
theorem ag_retX (hΓ : Γ.er = fun H' => XE (.ref CN) none H') (h : AX C CN XE te ρ μ μ1) (he : E.er μ1) : ASg C Γ (tRet te) ρ μ E := fun σ B H Dn rs ok gx f => h.2 σ B H rs ok (ag_err hΓ f gx h.1 he) _
theorem ag_asgX (hΓ : Γ.er = fun H' => XE (.ref CN) none H') (h : AX C CN XE te ρ μ μ1) (he : E.er μ1) : ASg C Γ (tAsg te g) ρ μ E := fun σ B H Dn rs ok gx f => h.2 σ B H rs ok (ag_err hΓ f gx h.1 he) _
theorem ag_raise (hΓ : Γ.er = fun H' => XE (.ref CN) none H') (he : E.er μ) : ASg C Γ (tRaiseN CN XE) ρ μ E := fun σ B H Dn rs ok gx f => by
  have := f.er μ B H he ok gx
  rw [hΓ] at this
  exact this
theorem ag_seq1 {t1 t2 : TS} (h : ASg C Γ t1 ρ μ { E with nx := fun _ _ => False }) : ASg C Γ (tSeq t1 t2) ρ μ E := fun σ B H Dn rs ok gx f =>
  h σ B H { Dn with nx := t2 Dn } rs ok gx ⟨fun ρ' μ' σ' B' H' z _ _ _ => z.elim, f.rt, f.bk, f.ct, f.er⟩
theorem ae_callKR (ha : AA C tr ρ μ ds μ1) (hS : S ds.reverse μ1 (.val d) μ2) (hm : dom μ2 = dom μ1 := by rfl) : AE C (tcKR (SpO C CN S) XE tr) ρ μ d μ2 :=
  ⟨hm.trans ha.1, fun σ B H rs ok Q q => ha.2 σ B H rs ok _ fun vs B1 H1 g1 ok1 r1 => ⟨ds.reverse, μ1, B1, .val d, μ2, r1.rev, ok1, hS, hm, fun v B' H' g ok' r => q v B' H' (g1.trans (g.dm ha.1)) ok' r⟩⟩
theorem af_callKR (ha : AA C tr ρ μ ds μ1) (hS : S ds.reverse μ1 (.fresh es) μ2) (hm : dom μ2 = dom μ1 := by rfl) : AF C (tcKR (SpO C CN S) XE tr) ρ μ es μ2 :=
  ⟨hm.trans ha.1, fun σ B H rs ok Q q => ha.2 σ B H rs ok _ fun vs B1 H1 g1 ok1 r1 => ⟨ds.reverse, μ1, B1, .fresh es, μ2, r1.rev, ok1, hS, hm, fun p vs B' H' g ok' hp h1 h2 h3 => q p vs B' H' (g1.trans (g.dm ha.1)) ok' (by
    cases z : H p with
    | none => rfl
    | some o =>
      obtain ⟨o', z'⟩ := g1.ds p o z
      rw [hp] at z'; cases z') h1 h2 h3⟩⟩
/-- a body that may raise keeps its promise -/
def BodX (C CN : Addr) (ts : XK → TS) (n : Nat) (S : Sc) : Prop := ∀ ds μ r μ', S ds μ r μ' → dom μ' = dom μ → ∀ (XE : XK) (Γ : Gam), Γ.dm = dom μ → Γ.er = (fun H' => XE (.ref CN) none H') →
  ASg C Γ (ts XE) (startA n ds) μ { nx := fun _ μ2 => r = .val .non ∧ μ'.Sublist μ2, rt := fun r2 μ2 => (r2 = r ∨ ∃ ds, r2 = .fresh ds ∧ r = .val (.lst ds)) ∧ μ'.Sublist μ2, er := fun μ2 => r = .err ∧ μ'.Sublist μ2 }
theorem BodX.go {N : List Str} {ts : XK → TS} {vs : List V} {H : Hp} {Q : VK} (hb : BodX C CN ts N.length S) (h : SpO C CN S vs H Q XE) : ts XE { nx := fun _ H' => Q .non H', rt := Q } (L2.start N vs) H :=
  Bod.to (N := N) (fun ds μ r μ' hS hd Γ hΓ he σ B H Dn rs ok gx f => hb ds μ r μ' hS hd XE Γ hΓ he σ B H Dn rs ok gx f) h
end
end OC
set_option maxHeartbeats 4000000
/-! OcX5: level, is_level: promises, readings, bodies. -/
namespace OC
open PySem PySem.Spec PyProof.Rows L2

/-! ### promises -/
/-- the form at the weights -/
def valF (A : Mat) (w : Row) : Rat := dot w (mv A w)
/-- what is given as weights -/
structure WtOk (A : Mat) (v : D) (ws : Row) : Prop where
  seq : ∃ xs, SeqD v xs ∧ Nms xs ws
  len : ws.length = A.length
  sm : ∀ q ∈ ws, Sm q
  pos : ∀ q ∈ ws, 0 < q
  n : A.length ≤ 1000
  rows : ∀ r ∈ A, r.length ≤ 1000 ∧ WOk r ws
  ml : WOk ws (mv A ws)
def S_told_weights : Sc := fun ds μ r μ' => μ' = μ ∧ ∃ A v ws, ds = [RMd A, v] ∧ WtOk A v ws ∧ ((0 < valF A ws ∧ r = .val (RLd ws)) ∨ (¬ 0 < valF A ws ∧ r = .err))
def S_level : Sc := fun ds μ r μ' => μ' = μ ∧ ∃ t v A ws k, ds = [t, v] ∧ TabOk t A ∧ WtOk A v ws ∧ ((0 < valF A ws ∧ LvOk A ws k ∧ r = retR (levelV A ws k)) ∨ (¬ 0 < valF A ws ∧ r = .err))
/-- what is given as a value, its numbers if it is so many -/
structure VlOk (A : Mat) (ws : Row) (v : D) : Prop where
  pl : plainD v = true
  it : ∀ x ∈ itemsD v, plainD x = true
  n : (itemsD v).length ≤ 1000
  q : numsB v A.length = true → ∃ qs, Nms (itemsD v) qs ∧ (∀ q ∈ qs, Sm q) ∧ qs.length ≤ 1000 ∧ (∀ r ∈ A, r.length ≤ 1000 ∧ WOk r qs) ∧ WOk ws (mv A qs) ∧ WOk qs (mv A qs)
/-- the numbers of a value -/
def numsD : List D → Row
  | [] => []
  | .rat q :: t => q :: numsD t
  | .int i :: t => (i : Rat) :: numsD t
  | _ :: t => numsD t
def looksB (A : Mat) (ws : Row) (v : D) : Bool := numsB v A.length && (decide (dot ws (mv A (numsD (itemsD v))) = 0) && decide (0 < dot (numsD (itemsD v)) (mv A (numsD (itemsD v)))))
def S_is_level : Sc := fun ds μ r μ' => μ' = μ ∧ ∃ t v u A ws, ds = [t, v, u] ∧ TabOk t A ∧ WtOk A v ws ∧ ((0 < valF A ws ∧ VlOk A ws u ∧ r = .val (.bl (looksB A ws u))) ∨ (¬ 0 < valF A ws ∧ r = .err))

abbrev N_told_weights : List Str := ["rows", "weights", "told", "number"]
def t_told_weights (K : Frg) (C CN : Addr) (XE : XK) : TS := (tSeq (tIfS (tOr (tNot (tB (tcR (SpO C CN S_are_numbers) E0 (tCons (tVar 1) (tCons (tCB (rLen K) (tCons (tVar 0) tNil)) tNil))))) (tNot (tB (tCB (rAll K) (tCons (tLc (iSeq K (tcR (SpO C CN S_ratios_of) E0 (tCons (tVar 1) tNil))) (gName 3) tYes (tOp rGtI (tPrR C (SpO C CN S_Rsign) E0 (tVar 3)) (tC (.int 0))) [3]) tNil))))) tNever tNext)
  (tSeq (tAsg (tcR (SpO C CN S_ratios_of) E0 (tCons (tVar 1) tNil)) (gName 2))
  (tSeq (tIfS (tTest (tOp rLeI (tPrR C (SpO C CN S_Rsign) E0 (tcR (SpO C CN S_value_in) E0 (tCons (tVar 0) (tCons (tVar 2) (tCons (tVar 2) tNil))))) (tC (.int 0)))) (tRaiseN CN XE) tNext)
  (tRet (tVar 2)))))

abbrev N_level : List Str := ["table", "weights", "rows"]
def t_level (K : Frg) (C CN : Addr) (XE : XK) : TS := (tSeq (tAsg (tcR (SpO C CN S_told_rows) E0 (tCons (tVar 0) tNil)) (gName 2))
  (tRet (tcR (SpO C CN S_level_in) E0 (tCons (tVar 2) (tCons (tcR (SpO C CN S_told_weights) XE (tCons (tVar 2) (tCons (tVar 1) tNil))) tNil)))))

abbrev N_is_level : List Str := ["table", "weights", "value", "rows", "told", "way"]
def t_is_level (K : Frg) (C CN : Addr) (XE : XK) : TS := (tSeq (tAsg (tcR (SpO C CN S_told_rows) E0 (tCons (tVar 0) tNil)) (gName 3))
  (tSeq (tAsg (tcR (SpO C CN S_told_weights) XE (tCons (tVar 3) (tCons (tVar 1) tNil))) (gName 4))
  (tSeq (tIfS (tNot (tB (tcR (SpO C CN S_are_numbers) E0 (tCons (tVar 2) (tCons (tCB (rLen K) (tCons (tVar 3) tNil)) tNil))))) (tRet (tC (.bl false))) tNext)
  (tSeq (tAsg (tcR (SpO C CN S_ratios_of) E0 (tCons (tVar 2) tNil)) (gName 5))
  (tRet (tAndV (tOp (rEqU K) (tPrR C (SpO C CN S_Rsign) E0 (tcR (SpO C CN S_value_in) E0 (tCons (tVar 3) (tCons (tVar 4) (tCons (tVar 5) tNil))))) (tC (.int 0))) (tOp rGtI (tPrR C (SpO C CN S_Rsign) E0 (tcR (SpO C CN S_value_in) E0 (tCons (tVar 3) (tCons (tVar 5) (tCons (tVar 5) tNil))))) (tC (.int 0)))))))))

/-! ### bodies -/
section
variable {C CN : Addr} {K : Frg} {mg : Str → Option Value} {ρ : Sto} {μ μ1 : Mu} {E : AEn} {x y d : D} {q : Rat} {te : TE} {tt : TT} {tr : TA} {wi : TI} {g : TG} {vs : List Nat} {xs ys ds es : List D} {qs : List Rat} {Γ : Gam}
theorem len_told_weights : ∀ ds μ r μ', S_told_weights ds μ r μ' → ds.length = 2 := fun ds μ r μ' ⟨_, A, v, ws, e, _⟩ => by rw [e]; rfl
theorem len_level : ∀ ds μ r μ', S_level ds μ r μ' → ds.length = 2 := fun ds μ r μ' ⟨_, t, v, A, ws, k, e, _⟩ => by rw [e]; rfl
theorem len_is_level : ∀ ds μ r μ', S_is_level ds μ r μ' → ds.length = 3 := fun ds μ r μ' ⟨_, t, v, u, A, ws, e, _⟩ => by rw [e]; rfl
theorem sgn_le : decide (sgn q ≤ 0) = !decide (0 < q) := by
  unfold sgn
  by_cases h : 0 < q
  · rw [if_pos h, decide_eq_true h]; rfl
  · rw [if_neg h, decide_eq_false h]
    split <;> rfl
theorem sgn_eq0 : decide (sgn q = 0) = decide (q = 0) := by
  unfold sgn
  by_cases h : 0 < q
  · rw [if_pos h, decide_eq_false (show ¬ q = 0 by grind)]; rfl
  · rw [if_neg h]
    by_cases h2 : q < 0
    · rw [if_pos h2, decide_eq_false (show ¬ q = 0 by grind)]; rfl
    · rw [if_neg h2, decide_eq_true (show q = 0 by grind)]; rfl
theorem WtOk.nums {A : Mat} {v : D} {ws : Row} (h : WtOk A v ws) : numsB v (A.map RLd).length = true := by
  obtain ⟨xs, h1, h2⟩ := h.seq
  unfold numsB
  rw [h1.isL, h1.items, h2.all, h2.length, h.len, List.length_map, decide_eq_true rfl]
  rfl
theorem bod_told_weights (T : Tx K mg) : BodX (cR K) (cN K) (t_told_weights K (cR K) (cN K)) 4 S_told_weights := fun ds μ r μ' ⟨hμ, A, v, ws, e, hW, hr⟩ hd XE Γ hΓ hΓe => by
  subst e
  subst hμ
  obtain ⟨xs, h1, h2⟩ := hW.seq
  have hl := hW.len
  have hn := hW.n
  refine ag_seq (as_ifF (at_or0 (at_not (b := true) (at_B ((ae_call (aa2 (ae_var rfl) (ae_cb (aa1 (ae_var rfl)) ac_len_l)) (pS.mk ⟨_, _, rfl, h1.plain, by rw [h1.items]; exact h2.plains, by rw [h1.items, h2.length]; omega, rfl⟩)).is (congrArg D.bl hW.nums))))
    (at_not (b := true) (at_B ((ae_cb (aa1 (AF.e (af_mapY ((ws.map fun _ => true).map D.bl) (ai_seqL (ae_call (aa1 (ae_var rfl)) (pS.mk ⟨v, xs, ws, rfl, h1, h2, hW.sm, by omega, rfl⟩))) (by simp) (by rw [List.length_map]; omega) fun i x y hx hy => ?_))) ac_all).is (by rw [List.all_map]; simp))))) (as_next ?_))
  · obtain ⟨q, hq, rfl⟩ := map_rat_get hx
    rw [List.getElem?_map, List.getElem?_map, hq] at hy
    cases hy
    exact ⟨_, _, ag_name, by simp, at_yes, (ae_op (ae_sign (ae_var rfl)) ae_int a2_gt).is (by rw [sgn_gt, decide_eq_true (hW.pos q (List.mem_of_getElem? hq))])⟩
  refine ag_seq (as_set (ae_call (aa1 (ae_var rfl)) (pS.mk ⟨v, xs, ws, rfl, h1, h2, hW.sm, by omega, rfl⟩)) ?_)
  have ht : ∀ ρ : Sto, ρ[0]? = some (some (RMd A)) → ρ[2]? = some (some (RLd ws)) → AT (cR K) (tTest (tOp rLeI (tPrR (cR K) (SpO (cR K) (cN K) S_Rsign) E0 (tcR (SpO (cR K) (cN K) S_value_in) E0 (tCons (tVar 0) (tCons (tVar 2) (tCons (tVar 2) tNil))))) (tC (.int 0)))) ρ μ' (!decide (0 < valF A ws)) μ' := fun ρ r0 r2 =>
    at_test ((ae_op (ae_sign (ae_call (aa3 (ae_var r0) (ae_var r2) (ae_var r2)) (pS.mk ⟨A, ws, ws, rfl, hn, by omega, hW.rows, hW.ml, rfl⟩))) ae_int a2_le).is (by rw [sgn_le]; rfl))
  rcases hr with ⟨hp, rfl⟩ | ⟨hp, rfl⟩
  · exact ag_seq (as_ifF ((ht _ rfl rfl).is (by rw [decide_eq_true hp]; rfl)) (as_next (AS.toG (as_ret (ae_var rfl) ⟨.inl rfl, List.Sublist.refl _⟩))))
  · exact ag_seq1 (ag_if (b := true) ((ht _ rfl rfl).is (by rw [decide_eq_false hp]; rfl)) (fun _ => ag_raise hΓe ⟨rfl, List.Sublist.refl _⟩) fun z => by cases z)
theorem TabOk.len {t : D} {A : Mat} (h : TabOk t A) : A.length ≤ 20 := h.n2
theorem bod_level (T : Tx K mg) : BodX (cR K) (cN K) (t_level K (cR K) (cN K)) 3 S_level := fun ds μ r μ' ⟨hμ, t, v, A, ws, k, e, hT, hW, hr⟩ hd XE Γ hΓ hΓe => by
  subst e
  subst hμ
  refine ag_seq (as_set (ae_call (aa1 (ae_var rfl)) (pS.mk ⟨t, A, rfl, hT, rfl⟩)) ?_)
  rcases hr with ⟨hp, hL, rfl⟩ | ⟨hp, rfl⟩
  · cases hl : levelV A ws k with
    | none => exact AS.toG (as_ret (ae_call (aa2 (ae_var rfl) (ae_call (aa2 (ae_var rfl) (ae_var rfl)) ⟨rfl, A, v, ws, rfl, hW, .inl ⟨hp, rfl⟩⟩)) ⟨rfl, A, ws, k, rfl, hL, by rw [hl]; rfl⟩) ⟨.inl rfl, List.Sublist.refl _⟩)
    | some q => exact AS.toG (as_retF (af_call (aa2 (ae_var rfl) (ae_call (aa2 (ae_var rfl) (ae_var rfl)) ⟨rfl, A, v, ws, rfl, hW, .inl ⟨hp, rfl⟩⟩)) ⟨rfl, A, ws, k, rfl, hL, by rw [hl]; rfl⟩) ⟨.inl rfl, List.Sublist.refl _⟩)
  · exact ag_retX hΓe (ax_args (axa_cons2 (ae_var rfl) (axa_cons1 (ax_call (aa2 (ae_var rfl) (ae_var rfl)) (μ2 := μ') ⟨rfl, A, v, ws, rfl, hW, .inr ⟨hp, rfl⟩⟩)))) ⟨rfl, List.Sublist.refl _⟩
theorem numsD_of (h : Nms xs qs) : numsD xs = qs := by
  induction h with
  | nil => rfl
  | cons h t ih =>
    cases h with
    | rat _ => exact congrArg _ ih
    | int i => exact congrArg _ ih
theorem bod_is_level (T : Tx K mg) : BodX (cR K) (cN K) (t_is_level K (cR K) (cN K)) 6 S_is_level := fun ds μ r μ' ⟨hμ, t, v, u, A, ws, e, hT, hW, hr⟩ hd XE Γ hΓ hΓe => by
  subst e
  subst hμ
  refine ag_seq (as_set (ae_call (aa1 (ae_var rfl)) (pS.mk ⟨t, A, rfl, hT, rfl⟩)) ?_)
  rcases hr with ⟨hp, hV, rfl⟩ | ⟨hp, rfl⟩
  · refine ag_seq (as_set (ae_call (aa2 (ae_var rfl) (ae_var rfl)) ⟨rfl, A, v, ws, rfl, hW, .inl ⟨hp, rfl⟩⟩) ?_)
    have hc : ∀ ρ : Sto, ρ[2]? = some (some u) → ρ[3]? = some (some (RMd A)) → AE (cR K) (tcR (SpO (cR K) (cN K) S_are_numbers) E0 (tCons (tVar 2) (tCons (tCB (rLen K) (tCons (tVar 3) tNil)) tNil))) ρ μ' (.bl (numsB u A.length)) μ' := fun ρ r2 r3 =>
      (ae_call (aa2 (ae_var r2) (ae_cb (aa1 (ae_var r3)) ac_len_l)) (pS.mk ⟨_, _, rfl, hV.pl, hV.it, hV.n, rfl⟩)).is (by rw [List.length_map])
    have hm : A.length ≤ 1000 := hW.n
    have hwl := hW.len
    unfold looksB
    cases hb : numsB u A.length with
    | false =>
      rw [hb] at hc
      exact ag_seq1 (AS.toG (as_ifT (at_not (b := false) (at_B (hc _ rfl rfl))) (as_ret ae_bl ⟨.inl rfl, List.Sublist.refl _⟩)))
    | true =>
      rw [hb] at hc
      obtain ⟨qs, q1, q2, q3, q4, q5, q6⟩ := hV.q hb
      have hseq : SeqD u (itemsD u) := by
        unfold numsB at hb
        rw [Bool.and_eq_true] at hb
        cases u with
        | lst xs => exact .lst xs
        | tup xs => exact .tup xs
        | _ => cases hb.1
      rw [numsD_of q1]
      refine ag_seq (as_ifF (at_not (b := true) (at_B (hc _ rfl rfl))) (as_next ?_))
      refine ag_seq (as_set (ae_call (aa1 (ae_var rfl)) (pS.mk ⟨u, itemsD u, qs, rfl, hseq, q1, q2, q3, rfl⟩)) ?_)
      refine AS.toG (as_ret (ae_and (b := decide (dot ws (mv A qs) = 0)) (c := decide (0 < dot qs (mv A qs))) ((ae_op (ae_sign (ae_call (aa3 (ae_var rfl) (ae_var rfl) (ae_var rfl)) (pS.mk ⟨A, ws, qs, rfl, hm, by omega, q4, q5, rfl⟩))) ae_int (eq_s rfl)).is (congrArg D.bl sgn_eq0)) fun _ => (ae_op (ae_sign (ae_call (aa3 (ae_var rfl) (ae_var rfl) (ae_var rfl)) (pS.mk ⟨A, qs, qs, rfl, hm, q3, q4, q6, rfl⟩))) ae_int a2_gt).is (congrArg D.bl sgn_gt)) ⟨.inl rfl, List.Sublist.refl _⟩)
  · exact ag_seq1 (ag_asgX hΓe (ax_call (aa2 (ae_var rfl) (ae_var rfl)) (μ2 := μ') ⟨rfl, A, v, ws, rfl, hW, .inr ⟨hp, rfl⟩⟩) ⟨rfl, List.Sublist.refl _⟩)
end
end OC
set_option maxHeartbeats 4000000
/-! OcY3: the defs keep their promises. -/
namespace OC
open PySem PySem.Spec PyProof.Rows L2
section
variable {P : Program} {w : World} {K : Frg} {mg : Str → Option Value} {base : Heap}
theorem sc_steps_in : FnScope N_steps_in ["rows"] (defScope st_steps_in) := ⟨rfl, rfl, rfl, by decide +kernel, rfl, by decide +kernel, by decide +kernel⟩
theorem ok_steps_in (T : Tx K mg) : FnR P w K mg base CX0 6 (aF "steps_in" K) (SpO (cR K) (cN K) S_steps_in) := by
  obtain ⟨fd, F⟩ := T.def_ 19 df_steps_in rfl
  have b : Binds K fd ["rows"] [] := F.bindsN fun _ _ _ _ _ _ us hl => match us, hl with | [_], _ => rfl
  refine fnr_of (F.ok sc_steps_in (SpO.len len_steps_in) fun cdv A outer s H vs Q E hr h => ⟨t_steps_in K (cR K) (cN K), PSs.nox ?_, Bod.go (N := N_steps_in) (by first | exact bod_steps_in T | exact bod_steps_in) h⟩) b
  exact (pss_cons (ps_par3 (i := 3) (j := 4) (l := 5) rfl sc_steps_in.nd rfl rfl rfl (by decide) (by decide) (by decide) rfl rfl rfl (pa_cons (pe_callTy call_list_of rfl (T.free 3 _ rfl) bt_list (pa_cons (pv 0) pa_nil)) (pa_cons (pe_lst pa_nil) (pa_cons pe_int pa_nil))) rfl)
  (pss_cons (ps_set (i := 1) sc_steps_in.nd rfl (by first | exact Or.inl rfl | exact Or.inr rfl) (pe_ifExp (pt_cmpR (op_NeU T (ok_R__eq__ T) (hr.mono (by decide))) (pv 0) (pe_lst pa_nil) (nomark _)) (pe_callB (call_len) rfl (T.free 5 _ rfl) bt_len (pa_cons (pe_ix ix_seq (pv 0) pe_int (fun _ _ => rfl)) pa_nil)) pe_int))
  (pss_cons (ps_for PassesOwn.never rfl (pi_range1 rfl (T.free 10 _ rfl) (pa_cons (pv 1) pa_nil)) (pg_name (i := 2) sc_steps_in.nd rfl (by first | exact Or.inl rfl | exact Or.inr rfl)) (pss_cons (ps_set (i := 6) sc_steps_in.nd rfl (by first | exact Or.inl rfl | exact Or.inr rfl) (pe_callB (call_len) rfl (T.free 5 _ rfl) bt_len (pa_cons (pv 4) pa_nil)))
  (pss_cons (ps_set (i := 7) sc_steps_in.nd rfl (by first | exact Or.inl rfl | exact Or.inr rfl) (pe_cR (ok_pivot_at T) (hr.mono (by decide)) rfl (T.glo 18 _ rfl) (T.kf 18 _ rfl) pz (pa_cons (pv 3) (pa_cons (pv 6) (pa_cons (pv 2) pa_nil)))))
  (pss_one (ps_if (pt_cmpR (op_notN) (pv 7) pe_non (nomark _)) (pss_cons (ps_if (pt_cmpR (op_NeU T (ok_R__eq__ T) (hr.mono (by decide))) (pv 7) (pv 6) (nomark _)) (pss_one (ps_asg (pe_tup (pa_cons (pe_ix ix_seq (pv 3) (pv 7) (fun _ _ => rfl)) (pa_cons (pe_ix ix_seq (pv 3) (pv 6) (fun _ _ => rfl)) (pa_cons (pe_op (op_Sub T (ok_R__sub__ T) (hr.mono (by decide))) pe_int (pv 5)) pa_nil)))) (pg_tup rfl (pgs_cons (pg_sub (pv 3) (pv 6) set_list) (pgs_cons (pg_sub (pv 3) (pv 7) set_list) (pgs_cons (pg_name (i := 5) sc_steps_in.nd rfl (by first | exact Or.inl rfl | exact Or.inr rfl)) pgs_nil)))))) pss_nil)
  (pss_cons (ps_set (i := 8) sc_steps_in.nd rfl (by first | exact Or.inl rfl | exact Or.inr rfl) (pe_ix ix_seq (pv 3) (pv 6) (fun _ _ => rfl)))
  (pss_cons (ps_for PassesOwn.never rfl (pi_range2 rfl (T.free 10 _ rfl) (pa_cons (pe_op (op_Add T (ok_R__add__ T) (hr.mono (by decide))) (pv 6) pe_int) (pa_cons (pe_callB (call_len) rfl (T.free 5 _ rfl) bt_len (pa_cons (pv 3) pa_nil)) pa_nil))) (pg_name (i := 9) sc_steps_in.nd rfl (by first | exact Or.inl rfl | exact Or.inr rfl)) (pss_one (ps_if (pt_cmpR (op_NeU T (ok_R__eq__ T) (hr.mono (by decide))) (pe_propR (pe_ix ix_seq (pe_ix ix_seq (pv 3) (pv 9) (fun _ _ => rfl)) (pv 2) (fun _ _ => rfl)) T.cls (T.prop 2 _ rfl) (ok_Rsign T) (hr.mono (by decide)) pz) pe_int (nomark _)) (pss_one (ps_asg (pe_cR (ok_lessened T) (hr.mono (by decide)) rfl (T.glo 17 _ rfl) (T.kf 17 _ rfl) pz (pa_cons (pe_ix ix_seq (pv 3) (pv 9) (fun _ _ => rfl)) (pa_cons (pv 8) (pa_cons (pe_methR (pe_ix ix_seq (pe_ix ix_seq (pv 3) (pv 9) (fun _ _ => rfl)) (pv 2) (fun _ _ => rfl)) T.cls (T.meth 7 _ rfl) (ok_Rover T) (hr.mono (by decide)) pz (pa_cons (pe_ix ix_seq (pv 8) (pv 2) (fun _ _ => rfl)) pa_nil)) pa_nil)))) (pg_sub (pv 3) (pv 9) set_list))) pss_nil)))
  (pss_one (ps_expr (pe_bm PySem.F.plainAttrs_list PySem.F.slot_list_append PySem.F.type_list_append mt_append (pv 4) (pa_cons (pv 2) pa_nil))))))) pss_nil)))))
  (pss_one (ps_ret (pe_tup (pa_cons (pv 3) (pa_cons (pv 4) (pa_cons (pv 5) pa_nil)))))))))

theorem sc_squares_in : FnScope N_squares_in ["rows"] (defScope st_squares_in) := ⟨rfl, rfl, rfl, by decide +kernel, rfl, by decide +kernel, by decide +kernel⟩
theorem ok_squares_in (T : Tx K mg) : FnR P w K mg base CX0 7 (aF "squares_in" K) (SpO (cR K) (cN K) S_squares_in) := by
  obtain ⟨fd, F⟩ := T.def_ 24 df_squares_in rfl
  have b : Binds K fd ["rows"] [] := F.bindsN fun _ _ _ _ _ _ us hl => match us, hl with | [_], _ => rfl
  refine fnr_of (F.ok sc_squares_in (SpO.len len_squares_in) fun cdv A outer s H vs Q E hr h => ⟨t_squares_in K (cR K) (cN K), PSs.nox ?_, Bod.go (N := N_squares_in) (by first | exact bod_squares_in T | exact bod_squares_in) h⟩) b
  exact (pss_cons (ps_par (i := 1) (j := 2) rfl sc_squares_in.nd rfl rfl (by decide) rfl rfl (pa_cons (pe_lst pa_nil) (pa_cons (pe_cR (ok_next_squares T) (hr.mono (by decide)) rfl (T.glo 23 _ rfl) (T.kf 23 _ rfl) pz (pa_cons (pv 0) pa_nil)) pa_nil)) rfl)
  (pss_cons (ps_while PassesOwn.never (pt_cmpR (op_NeU T (ok_R__eq__ T) (hr.mono (by decide))) (pv 2) (pe_lst pa_nil) (nomark _)) (pss_cons (ps_for PassesOwn.never rfl (pi_seq (pv 2)) (pg_tup rfl (pgs_cons (pg_name (i := 3) sc_squares_in.nd rfl (by first | exact Or.inl rfl | exact Or.inr rfl)) (pgs_cons (pg_name (i := 4) sc_squares_in.nd rfl (by first | exact Or.inl rfl | exact Or.inr rfl)) pgs_nil))) (pss_one (ps_set (i := 0) sc_squares_in.nd rfl (by first | exact Or.inl rfl | exact Or.inr rfl) (pe_cR (ok_less_square T) (hr.mono (by decide)) rfl (T.glo 22 _ rfl) (T.kf 22 _ rfl) pz (pa_cons (pv 0) (pa_cons (pv 3) (pa_cons (pv 4) pa_nil)))))))
  (pss_cons (ps_expr (pe_bm PySem.F.plainAttrs_list PySem.F.slot_list_extend PySem.F.type_list_extend mt_extend (pv 1) (pa_cons (pv 2) pa_nil)))
  (pss_one (ps_set (i := 2) sc_squares_in.nd rfl (by first | exact Or.inl rfl | exact Or.inr rfl) (pe_cR (ok_next_squares T) (hr.mono (by decide)) rfl (T.glo 23 _ rfl) (T.kf 23 _ rfl) pz (pa_cons (pv 0) pa_nil)))))))
  (pss_one (ps_ret (pv 1)))))

end
end OC
set_option maxHeartbeats 4000000
/-! OcZ: list(zip(a, b)). -/
namespace OC
open PySem PySem.Spec PyProof.Rows L2

theorem zip_no_len : typeLookup (.type "zip") "__len__" = pure none := am_miss_of_fast (by decide +kernel)
theorem zip_no_hint : typeLookup (.type "zip") "__length_hint__" = pure none := am_miss_of_fast (by decide +kernel)
/-- a zip between two of its items, a list at S beside it -/
structure ZSt (h : Heap) (S z TI TO i1 i2 l1 l2 : Addr) (xs ys : Array Value) (i : Nat) : Prop where
  ti : IsPair h TI (.ref i1) (.ref i2)
  h1 : h.IsListIter i1 l1 i
  h2 : h.IsListIter i2 l2 i
  k1 : h.IsList l1 xs
  k2 : h.IsList l2 ys
  to_ : ∃ o, h.get? TO = some o
  zo : ∃ o, h.get? z = some o
  zz : (IsZip h z TI TO .none ∧ ∃ a b, IsPair h TO a b) ∨ ∃ T f oT, IsZipHeld h z TI TO T f ∧ h.get? T = some oT ∧ T ≠ z ∧ T ≠ i1 ∧ T ≠ i2 ∧ T ≠ S
theorem ZSt.off {h h' : Heap} {S z TI TO i1 i2 l1 l2 : Addr} {xs ys : Array Value} {i : Nat} (st : ZSt h S z TI TO i1 i2 l1 l2 xs ys i) (hS : S ∉ [z, TI, TO, i1, i2, l1, l2])
    (k : ∀ b o, b ≠ S → h.get? b = some o → h'.get? b = some o) : ZSt h' S z TI TO i1 i2 l1 l2 xs ys i := by
  simp only [List.mem_cons, List.not_mem_nil, or_false, not_or] at hS
  obtain ⟨n1, n2, n3, n4, n5, n6, n7⟩ := hS
  refine ⟨k _ _ (Ne.symm n2) st.ti, st.h1.at fun o e => k _ o (Ne.symm n4) e, st.h2.at fun o e => k _ o (Ne.symm n5) e, st.k1.at fun o e => k _ o (Ne.symm n6) e, st.k2.at fun o e => k _ o (Ne.symm n7) e, st.to_.elim fun o e => ⟨o, k _ o (Ne.symm n3) e⟩, st.zo.elim fun o e => ⟨o, k _ o (Ne.symm n1) e⟩, ?_⟩
  rcases st.zz with ⟨hz, a, b, hTO⟩ | ⟨T, f, oT, hz, hT, r1, r2, r3, r4⟩
  · exact .inl ⟨k _ _ (Ne.symm n1) hz, a, b, k _ _ (Ne.symm n3) hTO⟩
  · exact .inr ⟨T, f, oT, k _ _ (Ne.symm n1) hz, k _ _ r4 hT, r1, r2, r3, r4⟩
section
variable {prog : Program} {w : World} {A : Around}
/-- list.extend's loop over a zip -/
theorem loop_zip (hh : A.handled = none) {R : Result → Shared → Prop} {z TI TO i1 i2 l1 l2 S : Addr} (D : ZipApart z TI TO i1 i2 l1 l2) {xs ys : Array Value} (res : Value) (hS : S ∉ [z, TI, TO, i1, i2, l1, l2]) (hn : min xs.size ys.size ≤ 1000) :
    ∀ (k i : Nat) (s : Shared) (acc : Array Value) (c : Nat) (Ts : List Addr), min xs.size ys.size - i = k → i ≤ min xs.size ys.size → ZSt s.heap S z TI TO i1 i2 l1 l2 xs ys i →
    s.heap.get? S = some { cls := .type "list", dict := none, data := .seq acc c, slots := #[] } → acc.toList = Ts.map Value.ref → Ts.length = i →
    (∀ (h' : Heap) (tk : Nat) (acc' : Array Value) (c' : Nat) (Us : List Addr), (∀ b o, b ≠ S → b ≠ z → b ≠ TO → b ≠ i1 → b ≠ i2 → s.heap.get? b = some o → h'.get? b = some o) → h'.get? S = some { cls := .type "list", dict := none, data := .seq acc' c', slots := #[] } → acc'.toList = (Ts ++ Us).map Value.ref → Us.length = k →
      Us.Nodup → (∀ (j : Nat) (T : Addr), Us[j]? = some T → s.heap.objs.size ≤ T ∧ T ≠ S ∧ ∃ x y, xs[i + j]? = some x ∧ ys[i + j]? = some y ∧ IsPair h' T x y) → R (.ok (.ret res)) { s with heap := h', toks := tk }) →
    codeAny (model prog w) A (.builtin "list.extend.loop" ⟨[.ref S, .ref z, res], []⟩) R s := by
  have hS0 := hS
  simp only [List.mem_cons, List.not_mem_nil, or_false, not_or] at hS
  obtain ⟨n1, n2, n3, n4, n5, n6, n7⟩ := hS
  intro k
  induction k with
  | zero =>
    intro i s acc c Ts hk hi st hSh hacc hTs hR
    have hin : i = min xs.size ys.size := by omega
    have hend : xs[i]? = none ∨ ys[i]? = none := by
      rcases Nat.le_total xs.size ys.size with h | h
      · exact .inl (Array.getElem?_eq_none (by omega))
      · exact .inr (Array.getElem?_eq_none (by omega))
    refine codeAny_builtin F.entry_extend_loop ?_
    rw [Around.under_plainId F.plain_extend_loop _]
    show wpAny _ A.in1 (pyNext (.ref z) >>= _) _ _ s
    refine wpAny_bind ?_
    have fin : ∀ h', (∀ b o, b ≠ z → b ≠ TO → b ≠ i1 → b ≠ i2 → s.heap.get? b = some o → h'.get? b = some o) → R (.ok (.ret res)) { s with heap := h' } := fun h' hk' =>
      hR h' s.toks acc c [] (fun b o b1 b2 b3 b4 b5 e => hk' b o b2 b3 b4 b5 e) (hk' S _ n1 n3 n4 n5 hSh) (by rw [List.append_nil]; exact hacc) rfl List.nodup_nil fun j T e => by cases e
    rcases st.zz with ⟨hz, a, b, hTO⟩ | ⟨T, f, oT, hz, hT, r1, r2, r3, r4⟩
    · exact wpAny_pyNext_zip_end hh D hz st.ti hTO st.h1 st.h2 st.k1 st.k2 hend fun h' hk' => wpAny_pure (fin h' hk')
    · exact wpAny_pyNext_zip_end_held hh D hz hT st.ti st.h1 st.h2 st.k1 st.k2 hend fun h' hk' => wpAny_pure (fin h' fun b o b1 b2 b3 b4 e => hk' b o b1 b3 b4 e)
  | succ k ih =>
    intro i s acc c Ts hk hi st hSh hacc hTs hR
    have hix : i < xs.size := by omega
    have hiy : i < ys.size := by omega
    have ex := Array.getElem?_eq_getElem hix
    have ey := Array.getElem?_eq_getElem hiy
    have lt : ∀ {c o}, s.heap.get? c = some o → s.heap.objs.size ≠ c := fun e => Nat.ne_of_gt (Heap.lt_size e)
    have m1 : s.heap.objs.size ≠ i1 := let ⟨_, e, _⟩ := st.h1; lt e
    have m2 : s.heap.objs.size ≠ i2 := let ⟨_, e, _⟩ := st.h2; lt e
    have mz : s.heap.objs.size ≠ z := let ⟨_, e⟩ := st.zo; lt e
    have mTO : s.heap.objs.size ≠ TO := let ⟨_, e⟩ := st.to_; lt e
    have mS : s.heap.objs.size ≠ S := lt hSh
    have hasz : acc.size ≤ sizeLine := by
      have e1 : acc.toList.length = acc.size := by simp
      rw [hacc, List.length_map, hTs] at e1
      rw [← e1]
      exact Nat.le_trans (show i ≤ 1000 by omega) (by decide)
    refine codeAny_builtin F.entry_extend_loop ?_
    rw [Around.under_plainId F.plain_extend_loop _]
    show wpAny _ A.in1 (pyNext (.ref z) >>= _) _ _ s
    refine wpAny_bind ?_
    -- one more tuple
    have go : ∀ h', ZSt h' S z TI TO i1 i2 l1 l2 xs ys (i + 1) → IsPair h' s.heap.objs.size xs[i] ys[i] → h'.objs.size = s.heap.objs.size + 1 →
        (∀ b o, b ≠ z → b ≠ TO → b ≠ i1 → b ≠ i2 → s.heap.get? b = some o → h'.get? b = some o) →
        wpAny (model prog w) A.in1 (updateSeq S (·.push (.ref s.heap.objs.size)) >>= fun _ => again (.builtin "list.extend.loop" ⟨[.ref S, .ref z, res], []⟩)) (fun fin s' => match fin with | .done f => R (.ok f) s' | .again c' => c'.quiet = true ∧ codeAny (model prog w) A c' R s') (fun e s' => R (.error e) s') { s with heap := h' } := by
      intro h' st' hP hsz hk'
      have hS' := hk' S _ n1 n3 n4 n5 hSh
      refine wpAny_bind (wpAny_updateSeq hS' rfl (wpAny_pure ⟨plainId_quiet F.plain_extend_loop _, ?_⟩) hasz (by show (acc.push _).size ≤ sizeLine + 1; rw [Array.size_push]; omega))
      have off : ∀ b o, b ≠ S → h'.get? b = some o → (h'.update S (Obj.mapSeq (·.push (.ref s.heap.objs.size)))).get? b = some o := fun b o hb e => (Heap.get?_update_other _ _ (Ne.symm hb)).trans e
      have hsz2 : (h'.update S (Obj.mapSeq (·.push (.ref s.heap.objs.size)))).objs.size = s.heap.objs.size + 1 := by rw [← hsz]; exact Heap.size_update ..
      refine ih (i + 1) _ (acc.push (.ref s.heap.objs.size)) _ (Ts ++ [s.heap.objs.size]) (by omega) (by omega) (st'.off hS0 off) (Heap.get?_update_self _ hS' rfl) (by rw [Array.toList_push, hacc, List.map_append]; rfl) (by rw [List.length_append, hTs]; rfl)
        fun h'' tk acc' c' Us b1 b2 b3 b4 b5 b6 => ?_
      have hP2 : IsPair h'' s.heap.objs.size xs[i] ys[i] := b1 _ _ mS mz mTO m1 m2 (off _ _ mS hP)
      refine hR h'' tk acc' c' (s.heap.objs.size :: Us) (fun b o c1 c2 c3 c4 c5 e => b1 b o c1 c2 c3 c4 c5 (off b o c1 (hk' b o c2 c3 c4 c5 e))) b2 (by rw [b3, List.append_assoc]; rfl) (by rw [List.length_cons, b4]) (List.nodup_cons.mpr ⟨fun z' => ?_, b5⟩) fun j T e => ?_
      · obtain ⟨j, hj, e⟩ := List.mem_iff_getElem.mp z'
        obtain ⟨q2, _⟩ := b6 j s.heap.objs.size (by rw [List.getElem?_eq_getElem hj, e])
        have q2' : (h'.update S (Obj.mapSeq (·.push (.ref s.heap.objs.size)))).objs.size ≤ s.heap.objs.size := q2
        rw [hsz2] at q2'
        exact absurd q2' (Nat.not_succ_le_self _)
      · cases j with
        | zero =>
          cases e
          exact ⟨Nat.le_refl _, mS, xs[i], ys[i], ex, ey, hP2⟩
        | succ j =>
          obtain ⟨q2, q3, x, y, q4, q5, q6⟩ := b6 j T e
          have q2' : (h'.update S (Obj.mapSeq (·.push (.ref s.heap.objs.size)))).objs.size ≤ T := q2
          rw [hsz2] at q2'
          exact ⟨Nat.le_of_succ_le q2', q3, x, y, by rw [show i + (j + 1) = i + 1 + j by omega]; exact q4, by rw [show i + (j + 1) = i + 1 + j by omega]; exact q5, q6⟩
    rcases st.zz with ⟨hz, a, b, hTO⟩ | ⟨T, f, oT, hz, hT, r1, r2, r3, r4⟩
    · refine wpAny_pyNext_zip_item D hz st.ti hTO st.h1 st.h2 st.k1 st.k2 ex ey fun h' a1 a2 a3 a4 a5 a6 hk' => ?_
      exact go h' ⟨hk' _ _ D.TIz D.TITO D.TIi1 D.TIi2 st.ti, a3, a4, st.k1.at fun o e => hk' _ o D.l1z D.l1TO D.l1i1 D.l1i2 e, st.k2.at fun o e => hk' _ o D.l2z D.l2TO D.l2i1 D.l2i2 e, ⟨_, a2⟩, ⟨_, a1⟩, .inr ⟨s.heap.objs.size, false, _, a1, a5, mz, m1, m2, mS⟩⟩ a5 a6 hk'
    · refine wpAny_pyNext_zip_item_held D hz hT st.ti st.h1 st.h2 st.k1 st.k2 ex ey fun h' a1 a3 a4 a5 a6 hk' => ?_
      exact go h' ⟨hk' _ _ D.TIz D.TIi1 D.TIi2 st.ti, a3, a4, st.k1.at fun o e => hk' _ o D.l1z D.l1i1 D.l1i2 e, st.k2.at fun o e => hk' _ o D.l2z D.l2i1 D.l2i2 e, st.to_.elim fun o e => ⟨o, hk' _ o D.TOz D.TOi1 D.TOi2 e⟩, ⟨_, a1⟩, .inr ⟨T, true, oT, a1, hk' _ _ r1 r2 r3 hT, r1, r2, r3, r4⟩⟩ a5 a6 fun b o b1 b2 b3 b4 e => hk' b o b1 b3 b4 e
/-- list(a zip) -/
theorem call_listZip (hh : A.handled = none) {E : Value → Shared → Prop} {Q : Value → Shared → Prop} {s : Shared} {z TI TO i1 i2 l1 l2 : Addr} (D : ZipApart z TI TO i1 i2 l1 l2) {xs ys : Array Value} (hn : min xs.size ys.size ≤ 1000)
    (hz : IsZip s.heap z TI TO .none) (hTI : IsPair s.heap TI (.ref i1) (.ref i2)) {a b : Value} (hTO : IsPair s.heap TO a b) (h1 : s.heap.IsListIter i1 l1 0) (h2 : s.heap.IsListIter i2 l2 0) (k1 : s.heap.IsList l1 xs) (k2 : s.heap.IsList l2 ys)
    (hQ : ∀ (h' : Heap) (tk : Nat) (acc' : Array Value) (c' : Nat) (Us : List Addr), (∀ b o, b ≠ z → b ≠ TO → b ≠ i1 → b ≠ i2 → s.heap.get? b = some o → h'.get? b = some o) → h'.get? s.heap.objs.size = some { cls := .type "list", dict := none, data := .seq acc' c', slots := #[] } → acc'.toList = Us.map Value.ref → Us.length = min xs.size ys.size →
      Us.Nodup → (∀ (j : Nat) (T : Addr), Us[j]? = some T → s.heap.objs.size < T ∧ ∃ x y, xs[j]? = some x ∧ ys[j]? = some y ∧ IsPair h' T x y) → Q (.ref s.heap.objs.size) { s with heap := h', toks := tk }) :
    wpAny (model prog w) A (call (.type "list") [.ref z]) Q E s := by
  refine callType_codes (Q₁ := fun obj s₁ => obj = .ref s.heap.objs.size ∧ s₁ = { s with heap := s.heap.push { cls := .type "list", data := .seq #[] } }) F.called_list (F.typeCall_list_1 _) F.entry_list_init
    (code_list_new _ ⟨rfl, rfl⟩) fun obj s₁ h₁ => ?_
  obtain ⟨rfl, rfl⟩ := h₁
  have hS : (s.heap.push { cls := .type "list", data := .seq #[] }).get? s.heap.objs.size = some { cls := .type "list", data := .seq #[] } := Heap.get?_push_size _ rfl
  refine ⟨⟨_, hS, rfl⟩, F.args_list_init_2 _ _, ?_⟩
  have lt : ∀ {c o}, s.heap.get? c = some o → s.heap.objs.size ≠ c := fun e => Nat.ne_of_gt (Heap.lt_size e)
  have nz : s.heap.objs.size ≠ z := lt hz
  have nS : s.heap.objs.size ∉ [z, TI, TO, i1, i2, l1, l2] := by
    simp only [List.mem_cons, List.not_mem_nil, or_false, not_or]
    obtain ⟨_, e1, _⟩ := h1
    obtain ⟨_, e2, _⟩ := h2
    obtain ⟨_, e3, _⟩ := k1
    obtain ⟨_, e4, _⟩ := k2
    exact ⟨nz, lt hTI, lt hTO, lt e1, lt e2, lt e3, lt e4⟩
  have st0 : ZSt s.heap s.heap.objs.size z TI TO i1 i2 l1 l2 xs ys 0 := ⟨hTI, h1, h2, k1, k2, ⟨_, hTO⟩, ⟨_, hz⟩, .inl ⟨hz, a, b, hTO⟩⟩
  have hT : ∀ h' : Heap, (∀ b o, b ≠ s.heap.objs.size → s.heap.get? b = some o → h'.get? b = some o) → ∀ tk, Shared.TypeIs { s with heap := h', toks := tk } (.ref z) "zip" := fun h' k tk => ⟨_, k _ _ (Ne.symm nz) hz, rfl⟩
  have off0 : ∀ b o, b ≠ s.heap.objs.size → s.heap.get? b = some o → (s.heap.push { cls := .type "list", data := .seq #[] }).get? b = some o := fun b o _ e => Heap.get?_push_of_some _ e
  generalize hG : s.heap.push { cls := .type "list", data := .seq #[] } = G at hS off0 ⊢
  have hGs : G.objs.size = s.heap.objs.size + 1 := by rw [← hG]; exact Heap.size_push ..
  show wpAny _ _ (do let old ← Builtin.List.listItems (.ref s.heap.objs.size); Builtin.List.listUpdate (.ref s.heap.objs.size) (fun _ => #[]); letGo old.toList.reverse; Builtin.List.listExtendWith (.ref s.heap.objs.size) (.ref z) .none) _ _ _
  refine wpAny_bind ?_
  unfold Builtin.List.listItems
  refine wpAny_bind (wpAny_seqItems hS rfl (wpAny_pure ?_))
  show wpAny _ _ (updateSeq s.heap.objs.size (fun _ => #[]) >>= fun _ => letGo (#[] : Array Value).toList.reverse >>= fun _ => Builtin.List.listExtendWith (.ref s.heap.objs.size) (.ref z) .none) _ _ _
  refine wpAny_bind (wpAny_updateSeq hS rfl ?_)
  have hS₂ := Heap.get?_update_self (Obj.mapSeq (fun _ => (#[] : Array Value))) hS rfl
  have off1 : ∀ b o, b ≠ s.heap.objs.size → s.heap.get? b = some o → (G.update s.heap.objs.size (Obj.mapSeq (fun _ => (#[] : Array Value)))).get? b = some o := fun b o hb e => (Heap.get?_update_other _ _ (Ne.symm hb)).trans (off0 b o hb e)
  have hGs1 : (G.update s.heap.objs.size (Obj.mapSeq (fun _ => (#[] : Array Value)))).objs.size = s.heap.objs.size + 1 := by rw [← hGs]; exact Heap.size_update ..
  refine wpAny_bind (wpAny_letGo ?_)
  unfold Builtin.List.listExtendWith
  refine wpAny_bind (wpAny_typeOf (hT _ off1 _) ?_)
  have q1 : Builtin.List.listSameRef (.ref s.heap.objs.size) (.ref z) = false := by simp [Builtin.List.listSameRef, nz]
  have q2 : (Value.type "zip" == Value.type "list") = false := by decide
  have q3 : (Value.type "zip" == Value.type "tuple") = false := by decide
  simp only [q1, q2, q3, Bool.or_false, Bool.false_eq_true, if_false]
  refine wpAny_bind (wpAny_pyIter_zip (off1 _ _ (Ne.symm nz) hz) ?_)
  refine wpAny_bind (wpAny_holding ?_)
  unfold Builtin.List.listLengthHint
  refine wpAny_bind (wpAny_specialOf (hT _ off1 _) zip_no_len ?_)
  show wpAny _ _ (specialOf (Value.ref z) (Str.ofString "__length_hint__") >>= _) _ _ _
  refine wpAny_bind (wpAny_specialOf (hT _ off1 _) zip_no_hint ?_)
  refine wpAny_pure ?_
  show wpAny _ _ (rule "list.extend.makes-room" >>= fun _ => Builtin.List.listTouch (.ref s.heap.objs.size) >>= fun _ =>
    again (.builtin "list.extend.loop" ⟨[.ref s.heap.objs.size, .ref z, .none], []⟩)) _ _ _
  refine wpAny_bind (wpAny_rule ?_)
  refine wpAny_bind ?_
  show wpAny _ _ (updateSeq s.heap.objs.size (·.push .none) >>= fun _ => updateSeq s.heap.objs.size (·.pop)) _ _ _
  refine wpAny_bind (wpAny_updateSeq hS₂ rfl ?_)
  have hS₃ := Heap.get?_update_self (Obj.mapSeq (·.push Value.none)) hS₂ rfl
  refine wpAny_updateSeq (hz := by seq_fits) hS₃ rfl ?_
  have hS₄ := Heap.get?_update_self (Obj.mapSeq (·.pop)) hS₃ rfl
  generalize hG4 : (((G.update s.heap.objs.size (Obj.mapSeq (fun _ => (#[] : Array Value)))).update s.heap.objs.size (Obj.mapSeq (·.push Value.none))).update s.heap.objs.size (Obj.mapSeq (·.pop))) = G4 at hS₄ ⊢
  have off4 : ∀ b o, b ≠ s.heap.objs.size → s.heap.get? b = some o → G4.get? b = some o := fun b o hb e => by rw [← hG4]; exact (Heap.get?_update_other _ _ (Ne.symm hb)).trans ((Heap.get?_update_other _ _ (Ne.symm hb)).trans (off1 b o hb e))
  have hGs4 : G4.objs.size = s.heap.objs.size + 1 := by rw [← hG4, ← hGs1]; exact (Heap.size_update ..).trans (Heap.size_update ..)
  refine wpAny_pure ⟨plainId_quiet F.plain_extend_loop _, loop_zip (A := A.in1) hh D .none nS hn _ 0 _ _ _ [] rfl (Nat.zero_le _) (st0.off nS off4) hS₄ rfl rfl fun h' tk acc' c' Us b1 b2 b3 b4 b5 b6 => ?_⟩
  refine ⟨rfl, hQ h' tk acc' c' Us (fun b o c2 c3 c4 c5 e => b1 b o (Ne.symm (lt e)) c2 c3 c4 c5 (off4 b o (Ne.symm (lt e)) e)) b2 b3 b4 b5 fun j T e => ?_⟩
  obtain ⟨r2, r3, x, y, r4, r5, r6⟩ := b6 j T e
  have r2' : G4.objs.size ≤ T := r2
  rw [hGs4] at r2'
  rw [Nat.zero_add] at r4 r5
  exact ⟨r2', x, y, r4, r5, r6⟩
end
/-! ### as a rule -/
/-- pairs tracked at their addresses -/
def putP : Hp → List Addr → List (V × V) → Hp
  | H, a :: as, p :: ps => putP (upd H a (.tup [p.1, p.2])) as ps
  | H, _, _ => H
theorem putP_off {b : Addr} : ∀ (as : List Addr) (ps : List (V × V)) (H : Hp), b ∉ as → putP H as ps b = H b
  | [], _, _, _ => rfl
  | _ :: _, [], _, _ => rfl
  | a :: as, p :: ps, H, h => by
    show putP (upd H a (.tup [p.1, p.2])) as ps b = H b
    rw [putP_off as ps _ (fun z => h (List.mem_cons_of_mem _ z)), upd_ne (fun z => h (by rw [z]; exact List.mem_cons_self))]
theorem putP_at : ∀ (as : List Addr) (ps : List (V × V)) (H : Hp), as.length = ps.length → as.Nodup → ∀ (j : Nat) (a : Addr), as[j]? = some a → ∃ p, ps[j]? = some p ∧ putP H as ps a = some (.tup [p.1, p.2])
  | [], _, _, _, _, j, a, e => by cases e
  | _ :: _, [], _, h, _, _, _, _ => by cases h
  | a :: as, p :: ps, H, h, hn, 0, b, e => by
    cases e
    exact ⟨p, rfl, by rw [show putP H (a :: as) (p :: ps) = putP (upd H a (.tup [p.1, p.2])) as ps from rfl, putP_off as ps _ (List.nodup_cons.mp hn).1, upd_same]⟩
  | a :: as, p :: ps, H, h, hn, j + 1, b, e => putP_at as ps (upd H a (.tup [p.1, p.2])) (Nat.succ.inj h) (List.nodup_cons.mp hn).2 j b e
section
variable {X : Cx} {e1 e2 : Expr} {t : TA} {p p2 pos pos2 : Pos}
theorem zip_laid {pins : List (Addr × Obj)} {σ : L2.St} {H : Hp} {s : Shared} {h' : Heap} {S tk : Nat} {xs ys : List V} {us ws : List Value} {acc : Array Value} {c : Nat} {as : List Addr} (I : Inv X pins σ H s) (hz : min xs.length ys.length ≤ 1000) (rx : Vals xs us) (ry : Vals ys ws) (hS0 : s.heap.objs.size ≤ S)
    (hk : ∀ b o, s.heap.get? b = some o → h'.get? b = some o) (hS : h'.get? S = some { cls := .type "list", dict := none, data := .seq acc c, slots := #[] }) (hacc : acc.toList = as.map Value.ref) (hl : as.length = min xs.length ys.length) (nd : as.Nodup)
    (hT : ∀ (j : Nat) (T : Addr), as[j]? = some T → S < T ∧ ∃ x y, us[j]? = some x ∧ ws[j]? = some y ∧ IsPair h' T x y) :
    ∃ H' : Hp, (∀ b o, H b = some o → H' b = some o) ∧ H S = none ∧ S ∉ as ∧ H' S = some (.lst (as.map V.ref)) ∧ (∀ (i : Nat) (t : Addr), as[i]? = some t → H t = none ∧ ∃ x y, xs[i]? = some x ∧ ys[i]? = some y ∧ H' t = some (.tup [x, y])) ∧ Inv X pins σ H' { s with heap := h', toks := tk } := by
  have up : ∀ t ∈ as, S < t := fun t ht => by
    obtain ⟨i, hi, e⟩ := List.mem_iff_getElem.mp ht
    exact (hT i t (by rw [List.getElem?_eq_getElem hi, e])).1
  have hSn : S ∉ as := fun z => Nat.lt_irrefl _ (up _ z)
  have new : ∀ t ∈ as, H t = none := fun t ht => I.hok.fresh (Nat.le_of_lt (Nat.lt_of_le_of_lt hS0 (up t ht)))
  have newS : H S = none := I.hok.fresh hS0
  have hzl : (xs.zip ys).length = as.length := by rw [List.length_zip, hl]
  have atP := putP_at as (xs.zip ys) (upd H S (.lst (as.map V.ref))) hzl.symm nd
  have off : ∀ b, b ∉ as → b ≠ S → putP (upd H S (.lst (as.map V.ref))) as (xs.zip ys) b = H b := fun b h1 h2 => by rw [putP_off as _ _ h1, upd_ne h2]
  have low : ∀ b o, s.heap.get? b = some o → b ∉ as ∧ b ≠ S := fun b o e => ⟨fun z => absurd (Heap.lt_size e) (Nat.not_lt.mpr (Nat.le_of_lt (Nat.lt_of_le_of_lt hS0 (up b z)))), Nat.ne_of_lt (Nat.lt_of_lt_of_le (Heap.lt_size e) hS0)⟩
  have kp : ∀ b u, H b = some u → (putP (upd H S (.lst (as.map V.ref))) as (xs.zip ys)) b = some u := fun b u e => by
    rw [off b (fun z => by rw [new b z] at e; cases e) (fun z => by rw [z, newS] at e; cases e)]
    exact e
  have eS : putP (upd H S (.lst (as.map V.ref))) as (xs.zip ys) S = some (.lst (as.map V.ref)) := by rw [putP_off as _ _ hSn, upd_same]
  refine ⟨putP (upd H S (.lst (as.map V.ref))) as (xs.zip ys), kp, newS, hSn, eS, fun i t e => ?_, ?_⟩
  · obtain ⟨q, e1, e2⟩ := atP i t e
    obtain ⟨e3, e4⟩ := List.getElem?_zip_eq_some.mp e1
    exact ⟨new t (List.mem_of_getElem? e), q.1, q.2, e3, e4, e2⟩
  refine I.call' (ch := []) rfl ⟨fun b o q _ _ _ => hk b o q, fun b o q _ _ _ => ⟨o.slots, hk b o q⟩, fun b o q n _ => ?_, fun b o q _ => ⟨o, hk b o q⟩, fun b xs q => kp b _ q, fun b o u q => kp b _ q, fun b ps q => ⟨#[], by rw [kp b _ q]; simp⟩⟩ (fun b u q => ?_) I.bare fun b z => by simp at z
  · obtain ⟨z1, z2⟩ := low b o q
    rw [off b z1 z2]
    exact n
  · by_cases hb : b ∈ as
    · obtain ⟨j, hj, e0⟩ := List.mem_iff_getElem.mp hb
      have e1 : as[j]? = some b := by rw [List.getElem?_eq_getElem hj, e0]
      obtain ⟨pk, f1, f2⟩ := atP j b e1
      rw [f2] at q
      cases q
      obtain ⟨g1, g2⟩ := List.getElem?_zip_eq_some.mp f1
      obtain ⟨_, x, y, k1, k2, k3⟩ := hT j b e1
      obtain ⟨x', m1, m2⟩ := LiI.paired_get rx g1
      obtain ⟨y', m3, m4⟩ := LiI.paired_get ry g2
      rw [k1] at m1
      rw [k2] at m3
      cases m1
      cases m3
      exact ⟨by show 2 ≤ sizeLine; decide, [x, y], .cons m2 (.cons m4 .nil), ⟨_, k3, rfl, _, rfl⟩⟩
    · by_cases hb2 : b = S
      · rw [hb2] at q ⊢
        rw [eS] at q
        cases q
        refine ⟨by rw [List.length_map, hl]; exact Nat.le_trans hz (by decide), acc.toList, c, by rw [hacc]; exact LiI.vals_refs as, ?_⟩
        rw [Array.toArray_toList]
        exact hS
      · rw [off b hb hb2] at q
        exact (I.hok b u q).stay (fun d v _ y => hk d v y) (fun d y => kp d _ y) fun d xs y => kp d _ y
/-- list(zip(a, b)) -/
theorem pe_listZip (hc : X.calm = true) (hg : Gl X "list") (hm : X.mg "list" = none) (hv : bootBuiltins "list" = some (.type "list")) (hg2 : Gl X "zip") (hm2 : X.mg "zip" = none) (ha : PA X [e1, e2] t)
    (hs2 : starEach [e1, e2] X.env = (false, eval e1 X.env) :: starEach [e2] X.env := by rfl) (hpl2 : (backTo pos2 (starEach [e2] X.env)).any (·.1) = false := by rfl)
    (hs : starEach [.Call (.Name "zip" p2) [e1, e2] [] pos2] X.env = (false, eval (.Call (.Name "zip" p2) [e1, e2] [] pos2) X.env) :: starEach [] X.env := by rfl) :
    PE X (.Call (.Name "list" p) [.Call (.Name "zip" p2) [e1, e2] [] pos2] [] pos) (tListZip X.K t) := by
  refine ⟨fun pins s σ H Q I hq => ?_⟩
  refine wpAny_Call_Name_kw (ld_blt I hg hm hv ?_)
  refine PyProof.Rows.callWith_type1 ?_ hs rfl
  rw [hs]
  show wpAny _ _ (spliced ((false, eval (.Call (.Name "zip" p2) [e1, e2] [] pos2) X.env) :: backTo pos (starEach [] X.env))) _ _ s
  refine Calls.spliced_cons ?_
  refine wpAny_Call_Name_kw (ld_blt I hg2 hm2 PyProof.Rows.boot_zip (PyProof.Rows.callWith_type1 (thn (ha.run pos2 pins s σ H _ I hq) fun us s1 ⟨vs, H1, I1, r1, q1⟩ => ?_) hs2 hpl2))
  obtain ⟨a, b, xs, ys, ex, hqx, hqy, hlen, q⟩ := q1
  subst ex
  cases r1 with
  | cons r rr =>
    cases rr with
    | cons r' rr =>
      cases rr
      cases r
      cases r'
      obtain ⟨its, rv, p1, _⟩ := I1.list hqx
      obtain ⟨its2, rv2, p2', _⟩ := I1.list hqy
      have la : a < s1.heap.objs.size := p1.lt
      have lb : b < s1.heap.objs.size := p2'.lt
      refine call_zip_2 p1.isList p2'.isList fun h' hz hTI hTO h1 h2 hsz hk => ?_
      have I2 : Inv X pins σ H1 { s1 with heap := h' } := I1.kept (t' := s1.toks) hk
      refine Calls.spliced_nil ?_
      have hmin : min its.toArray.size its2.toArray.size = min xs.length ys.length := by rw [List.size_toArray, List.size_toArray, ← rv.length, ← rv2.length]
      have D := PySem.W.ktu_apart s1.heap.objs.size a b la lb
      refine call_listZip (I1.ok.hd hc) D (by rw [hmin]; omega) hz hTI hTO h1 h2 (p1.isList.at fun o e => hk _ o e) (p2'.isList.at fun o e => hk _ o e) fun h2' tk acc c Us b1 b2 b3 b4 b5 b6 => ?_
      have kk : ∀ c o, s1.heap.get? c = some o → h2'.get? c = some o := fun c o e => by
        have l : c < s1.heap.objs.size := Heap.lt_size e
        exact b1 c o (Nat.ne_of_lt (Nat.lt_of_lt_of_le l (Nat.le_add_right _ _))) (Nat.ne_of_lt (Nat.lt_of_lt_of_le l (Nat.le_add_right _ _))) (Nat.ne_of_lt l) (Nat.ne_of_lt (Nat.lt_of_lt_of_le l (Nat.le_add_right _ _))) (hk c o e)
      have hS0 : s1.heap.objs.size ≤ h'.objs.size := by rw [hsz]; omega
      obtain ⟨H', k1, k2, k3, k4, k5, J⟩ := zip_laid (tk := tk) (S := h'.objs.size) (as := Us) I1 (show min xs.length ys.length ≤ 1000 by omega) rv rv2 hS0 kk b2 b3 (b4.trans hmin) b5 fun j T e => by
        obtain ⟨r1, x, y, r2, r3, r4⟩ := b6 j T e
        exact ⟨r1, x, y, by simpa using r2, by simpa using r3, r4⟩
      exact ⟨.ref _, H', J, rfl, q _ Us H' k1 k2 k4 (b4.trans hmin) k3 k5⟩
end
end OC
set_option maxHeartbeats 4000000
/-! OcY4: the defs keep their promises. -/
namespace OC
open PySem PySem.Spec PyProof.Rows L2
section
variable {P : Program} {w : World} {K : Frg} {mg : Str → Option Value} {base : Heap}
theorem ok_lessF (T : Tx K mg) : FnR P w K mg base CX0 5 (aF "lessened" K) (SpO (cR K) (cN K) S_lessF) := by
  obtain ⟨fd, F⟩ := T.def_ 17 df_lessened rfl
  have b : Binds K fd ["row", "other", "number"] [] := F.bindsN fun _ _ _ _ _ _ us hl => match us, hl with | [_, _, _], _ => rfl
  refine fnr_of (F.ok sc_lessened (SpO.len len_lessF) fun cdv A outer s H vs Q E hr h => ⟨t_lessened K (cR K) (cN K), PSs.nox ?_, Bod.go (N := N_lessened) (by first | exact bod_lessF T | exact bod_lessF) h⟩) b
  exact (pss_one (ps_ret (pe_lc (own := [("one", 3), ("two", 4)]) (wi := (iZip K (tCons (tVar 0) (tCons (tVar 1) tNil)))) (g := (gTup K 2 (gCons (gName 3) (gCons (gName 4) gNil)))) (tt := tYes) (te := (tOp (rSub (cR K) (cN K)) (tVar 3) (tOp (rMul (cR K) (cN K)) (tVar 4) (tVar 2)))) rfl sc_lessened.nd (pi_zip rfl (T.free 8 _ rfl) (pa_cons (pv 0) (pa_cons (pv 1) pa_nil))) (blkOk_by (by kernel_rfl)) (fun _ _ _ _ _ => (pg_tup rfl (pgs_cons (pg_name (i := 3) sc_lessened.nd rfl (by first | exact Or.inl rfl | exact Or.inr rfl)) (pgs_cons (pg_name (i := 4) sc_lessened.nd rfl (by first | exact Or.inl rfl | exact Or.inr rfl)) pgs_nil)))) (fun _ _ _ _ _ => pts_nil) (fun _ _ _ _ _ => (pe_op (op_Sub T (ok_R__sub__ T) (hr.mono (by decide))) (pv 3) (pe_op (op_Mul T (ok_R__mul__ T) (ok_R__rmul__ T) (hr.mono (by decide))) (pv 4) (pv 2)))))))

theorem sc_list_with : FnScope N_list_with ["forms", "values"] (defScope st_list_with) := ⟨rfl, rfl, rfl, by decide +kernel, rfl, by decide +kernel, by decide +kernel⟩
theorem ok_list_with (T : Tx K mg) : FnR P w K mg base CX0 7 (aF "list_with" K) (SpO (cR K) (cN K) S_list_with) := by
  obtain ⟨fd, F⟩ := T.def_ 25 df_list_with rfl
  have b : Binds K fd ["forms", "values"] [] := F.bindsN fun _ _ _ _ _ _ us hl => match us, hl with | [_, _], _ => rfl
  refine fnr_of (F.ok sc_list_with (SpO.len len_list_with) fun cdv A outer s H vs Q E hr h => ⟨t_list_with K (cR K) (cN K), PSs.nox ?_, Bod.go (N := N_list_with) (by first | exact bod_list_with T | exact bod_list_with) h⟩) b
  exact (pss_cons (ps_asg (pe_cR (ok_steps_in T) (hr.mono (by decide)) rfl (T.glo 19 _ rfl) (T.kf 19 _ rfl) pz (pa_cons (pe_lc (own := [("form", 9), ("value", 10)]) (wi := (iZip K (tCons (tVar 0) (tCons (tVar 1) tNil)))) (g := (gTup K 2 (gCons (gName 9) (gCons (gName 10) gNil)))) (tt := tYes) (te := (tOp (rAdd (cR K) (cN K)) (tVar 9) (tLst (tCons (tVar 10) tNil)))) rfl sc_list_with.nd (pi_zip rfl (T.free 8 _ rfl) (pa_cons (pv 0) (pa_cons (pv 1) pa_nil))) (blkOk_by (by kernel_rfl)) (fun _ _ _ _ _ => (pg_tup rfl (pgs_cons (pg_name (i := 9) sc_list_with.nd rfl (by first | exact Or.inl rfl | exact Or.inr rfl)) (pgs_cons (pg_name (i := 10) sc_list_with.nd rfl (by first | exact Or.inl rfl | exact Or.inr rfl)) pgs_nil)))) (fun _ _ _ _ _ => pts_nil) (fun _ _ _ _ _ => (pe_op (op_Add T (ok_R__add__ T) (hr.mono (by decide))) (pv 9) (pe_lst (pa_cons (pv 10) pa_nil))))) pa_nil)) (pg_tup rfl (pgs_cons (pg_name (i := 3) sc_list_with.nd rfl (by first | exact Or.inl rfl | exact Or.inr rfl)) (pgs_cons (pg_name (i := 4) sc_list_with.nd rfl (by first | exact Or.inl rfl | exact Or.inr rfl)) (pgs_cons (pg_name (i := 5) sc_list_with.nd rfl (by first | exact Or.inl rfl | exact Or.inr rfl)) pgs_nil)))))
  (pss_cons (ps_setLc (i := 2) (own := [("part", 8)]) (wi := (iSeq K (tOp (rIx K) (tVar 0) (tC (.int 0))))) (g := (gName 8)) (tt := tYes) (te := (StX.tMakeR (cR K) (spIni (cR K) [.int 1]) E0 (tCons (tC (.int 0)) tNil))) rfl sc_list_with.nd rfl rfl (sw_true rfl rfl rfl (by kernel_rfl)) (pi_seq (pe_ix ix_seq (pv 0) pe_int (fun _ _ => rfl))) (blkOk_by (by kernel_rfl)) (fun _ _ _ _ _ => (pg_name (i := 8) sc_list_with.nd rfl (by first | exact Or.inl rfl | exact Or.inr rfl))) (fun _ _ _ _ _ => pts_nil) (fun _ _ _ _ _ => (StX.pe_makeR T.mk_ (ok_R__init__1 T) (hr.mono (by decide)) rfl (T.glo 62 _ rfl) pz (pa_cons pe_int pa_nil))))
  (pss_cons (ps_for PassesOwn.never rfl (pi_seq (pe_revL (pe_listZip rfl rfl (T.free 3 _ rfl) bt_list rfl (T.free 8 _ rfl) (pa_cons (pv 3) (pa_cons (pv 4) pa_nil))))) (pg_tup rfl (pgs_cons (pg_name (i := 6) sc_list_with.nd rfl (by first | exact Or.inl rfl | exact Or.inr rfl)) (pgs_cons (pg_name (i := 7) sc_list_with.nd rfl (by first | exact Or.inl rfl | exact Or.inr rfl)) pgs_nil))) (pss_one (ps_asg (pe_methR (pe_op (op_Sub T (ok_R__sub__ T) (hr.mono (by decide))) (pe_ix ix_seq (pv 6) (pe_un (un_Neg T (ok_R__neg__ T) (hr.mono (by decide))) pe_int) (fun _ _ => rfl)) (pe_cR (ok_weighed T) (hr.mono (by decide)) rfl (T.glo 9 _ rfl) (T.kf 9 _ rfl) pz (pa_cons (pe_slice sl_list (pv 6) po_none (po_some (pe_un (un_Neg T (ok_R__neg__ T) (hr.mono (by decide))) pe_int))) (pa_cons (pv 2) pa_nil)))) T.cls (T.meth 7 _ rfl) (ok_Rover T) (hr.mono (by decide)) pz (pa_cons (pe_ix ix_seq (pv 6) (pv 7) (fun _ _ => rfl)) pa_nil)) (pg_sub (pv 2) (pv 7) set_list))))
  (pss_one (ps_ret (pv 2))))))

theorem sc_above_in : FnScope N_above_in ["rows", "most"] (defScope st_above_in) := ⟨rfl, rfl, rfl, by decide +kernel, rfl, by decide +kernel, by decide +kernel⟩
theorem ok_above_in (T : Tx K mg) : FnR P w K mg base CX0 8 (aF "above_in" K) (SpO (cR K) (cN K) S_above_in) := by
  obtain ⟨fd, F⟩ := T.def_ 26 df_above_in rfl
  have b : Binds K fd ["rows", "most"] [] := F.bindsN fun _ _ _ _ _ _ us hl => match us, hl with | [_, _], _ => rfl
  refine fnr_of (F.ok sc_above_in (SpO.len len_above_in) fun cdv A outer s H vs Q E hr h => ⟨t_above_in K (cR K) (cN K), PSs.nox ?_, Bod.go (N := N_above_in) (by first | exact bod_above_in T | exact bod_above_in) h⟩) b
  exact (pss_cons (ps_set (i := 2) sc_above_in.nd rfl (by first | exact Or.inl rfl | exact Or.inr rfl) (pe_cR (ok_squares_in T) (hr.mono (by decide)) rfl (T.glo 24 _ rfl) (T.kf 24 _ rfl) pz (pa_cons (pv 0) pa_nil)))
  (pss_cons (ps_setLc (i := 3) (own := [("number", 7), ("form", 8)]) (wi := (iSeq K (tVar 2))) (g := (gTup K 2 (gCons (gName 7) (gCons (gName 8) gNil)))) (tt := tYes) (te := (tVar 8)) rfl sc_above_in.nd rfl rfl (sw_true rfl rfl rfl (by kernel_rfl)) (pi_seq (pv 2)) (blkOk_by (by kernel_rfl)) (fun _ _ _ _ _ => (pg_tup rfl (pgs_cons (pg_name (i := 7) sc_above_in.nd rfl (by first | exact Or.inl rfl | exact Or.inr rfl)) (pgs_cons (pg_name (i := 8) sc_above_in.nd rfl (by first | exact Or.inl rfl | exact Or.inr rfl)) pgs_nil)))) (fun _ _ _ _ _ => pts_nil) (fun _ _ _ _ _ => (pv 8)))
  (pss_cons (ps_setLc (i := 4) (own := [("place", 6), ("square", 9)]) (wi := (iEnum K (tCons (tVar 2) tNil))) (g := (gTup K 2 (gCons (gName 6) (gCons (gName 9) gNil)))) (tt := (tTest (tOp rGtI (tPrR (cR K) (SpO (cR K) (cN K) S_Rsign) E0 (tOp (rIx K) (tVar 9) (tC (.int 0)))) (tC (.int 0))))) (te := (tVar 6)) rfl sc_above_in.nd rfl rfl (sw_true rfl rfl rfl (by kernel_rfl)) (pi_enum rfl (T.free 9 _ rfl) (pa_cons (pv 2) pa_nil)) (blkOk_by (by kernel_rfl)) (fun _ _ _ _ _ => (pg_tup rfl (pgs_cons (pg_name (i := 6) sc_above_in.nd rfl (by first | exact Or.inl rfl | exact Or.inr rfl)) (pgs_cons (pg_name (i := 9) sc_above_in.nd rfl (by first | exact Or.inl rfl | exact Or.inr rfl)) pgs_nil)))) (fun _ _ _ _ _ => (pts_one (pt_cmpR (op_gt) (pe_propR (pe_ix ix_seq (pv 9) pe_int (fun _ _ => rfl)) T.cls (T.prop 2 _ rfl) (ok_Rsign T) (hr.mono (by decide)) pz) pe_int (nomark _)))) (fun _ _ _ _ _ => (pv 6)))
  (pss_cons (ps_set (i := 5) sc_above_in.nd rfl (by first | exact Or.inl rfl | exact Or.inr rfl) (pe_lst pa_nil))
  (pss_cons (ps_for PassesOwn.never rfl (pi_seq (pe_slice sl_list (pv 4) po_none (po_some (pv 1)))) (pg_name (i := 6) sc_above_in.nd rfl (by first | exact Or.inl rfl | exact Or.inr rfl)) (pss_one (ps_expr (pe_bm PySem.F.plainAttrs_list PySem.F.slot_list_append PySem.F.type_list_append mt_append (pv 5) (pa_cons (pe_cR (ok_list_with T) (hr.mono (by decide)) rfl (T.glo 25 _ rfl) (T.kf 25 _ rfl) pz (pa_cons (pv 3) (pa_cons (pe_lc (own := [("other", 10)]) (wi := (iRng1 (tCons (tCB (rLen K) (tCons (tVar 3) tNil)) tNil))) (g := (gName 10)) (tt := tYes) (te := (tIf (tTest (tOp (rEqU K) (tVar 10) (tVar 6))) (StX.tMakeR (cR K) (spIni (cR K) [.int 1]) E0 (tCons (tC (.int 1)) tNil)) (StX.tMakeR (cR K) (spIni (cR K) [.int 1]) E0 (tCons (tC (.int 0)) tNil)))) rfl sc_above_in.nd (pi_range1 rfl (T.free 10 _ rfl) (pa_cons (pe_callB (call_len) rfl (T.free 5 _ rfl) bt_len (pa_cons (pv 3) pa_nil)) pa_nil)) (blkOk_by (by kernel_rfl)) (fun _ _ _ _ _ => (pg_name (i := 10) sc_above_in.nd rfl (by first | exact Or.inl rfl | exact Or.inr rfl))) (fun _ _ _ _ _ => pts_nil) (fun _ _ _ _ _ => (pe_ifExp (pt_cmpR (op_EqU hr) (pv 10) (pv 6) (nomark _)) (StX.pe_makeR T.mk_ (ok_R__init__1 T) (hr.mono (by decide)) rfl (T.glo 62 _ rfl) pz (pa_cons pe_int pa_nil)) (StX.pe_makeR T.mk_ (ok_R__init__1 T) (hr.mono (by decide)) rfl (T.glo 62 _ rfl) pz (pa_cons pe_int pa_nil))))) pa_nil))) pa_nil)))))
  (pss_one (ps_ret (pv 5))))))))

theorem sc_level_in : FnScope N_level_in ["rows", "weights"] (defScope st_level_in) := ⟨rfl, rfl, rfl, by decide +kernel, rfl, by decide +kernel, by decide +kernel⟩
theorem ok_level_in (T : Tx K mg) : FnR P w K mg base CX0 9 (aF "level_in" K) (SpO (cR K) (cN K) S_level_in) := by
  obtain ⟨fd, F⟩ := T.def_ 27 df_level_in rfl
  have b : Binds K fd ["rows", "weights"] [] := F.bindsN fun _ _ _ _ _ _ us hl => match us, hl with | [_, _], _ => rfl
  refine fnr_of (F.ok sc_level_in (SpO.len len_level_in) fun cdv A outer s H vs Q E hr h => ⟨t_level_in K (cR K) (cN K), PSs.nox ?_, Bod.go (N := N_level_in) (by first | exact bod_level_in T | exact bod_level_in) h⟩) b
  exact (pss_cons (ps_set (i := 2) sc_level_in.nd rfl (by first | exact Or.inl rfl | exact Or.inr rfl) (pe_cR (ok_made_by T) (hr.mono (by decide)) rfl (T.glo 15 _ rfl) (T.kf 15 _ rfl) pz (pa_cons (pv 0) (pa_cons (pv 1) pa_nil))))
  (pss_cons (ps_set (i := 3) sc_level_in.nd rfl (by first | exact Or.inl rfl | exact Or.inr rfl) (pe_cR (ok_weighed T) (hr.mono (by decide)) rfl (T.glo 9 _ rfl) (T.kf 9 _ rfl) pz (pa_cons (pv 1) (pa_cons (pv 2) pa_nil))))
  (pss_cons (ps_set (i := 4) sc_level_in.nd rfl (by first | exact Or.inl rfl | exact Or.inr rfl) (pe_cR (ok_above_in T) (hr.mono (by decide)) rfl (T.glo 26 _ rfl) (T.kf 26 _ rfl) pz (pa_cons (pe_cR (ok_less_square T) (hr.mono (by decide)) rfl (T.glo 22 _ rfl) (T.kf 22 _ rfl) pz (pa_cons (pv 0) (pa_cons (pe_methR (StX.pe_makeR T.mk_ (ok_R__init__1 T) (hr.mono (by decide)) rfl (T.glo 62 _ rfl) pz (pa_cons pe_int pa_nil)) T.cls (T.meth 7 _ rfl) (ok_Rover T) (hr.mono (by decide)) pz (pa_cons (pv 3) pa_nil)) (pa_cons (pv 2) pa_nil)))) (pa_cons pe_int pa_nil))))
  (pss_cons (ps_if (pt_cmpR (op_EqU hr) (pv 4) (pe_lst pa_nil) (nomark _)) (pss_one (ps_ret pe_non)) pss_nil)
  (pss_one (ps_ret (pe_cR (ok_lessF T) (hr.mono (by decide)) rfl (T.glo 17 _ rfl) (T.kf 17 _ rfl) pz (pa_cons (pe_ix ix_seq (pv 4) pe_int (fun _ _ => rfl)) (pa_cons (pv 1) (pa_cons (pe_methR (pe_cR (ok_weighed T) (hr.mono (by decide)) rfl (T.glo 9 _ rfl) (T.kf 9 _ rfl) pz (pa_cons (pv 2) (pa_cons (pe_ix ix_seq (pv 4) pe_int (fun _ _ => rfl)) pa_nil))) T.cls (T.meth 7 _ rfl) (ok_Rover T) (hr.mono (by decide)) pz (pa_cons (pv 3) pa_nil)) pa_nil))))))))))

end
end OC
set_option maxHeartbeats 4000000
/-! OcY5: the defs keep their promises. -/
namespace OC
open PySem PySem.Spec PyProof.Rows L2
section
variable {P : Program} {w : World} {K : Frg} {mg : Str → Option Value} {base : Heap}
theorem sc_told_weights : FnScope N_told_weights ["rows", "weights"] (defScope st_told_weights) := ⟨rfl, rfl, rfl, by decide +kernel, rfl, by decide +kernel, by decide +kernel⟩
theorem okF_told_weights (T : Tx K mg) : ∃ fd, FnOk P w K mg base (L2.CX P w) 9 (aF "told_weights" K) fd ["rows", "weights"] (SpO (cR K) (cN K) S_told_weights) ∧ Binds K fd ["rows", "weights"] [] ∧ FunD K df_told_weights.name df_told_weights.qual df_told_weights.params df_told_weights.body df_told_weights.scope (df_told_weights.dvs K) (df_told_weights.kws K) (df_told_weights.at_ K) fd := by
  obtain ⟨fd, F⟩ := T.def_ 28 df_told_weights rfl
  have b : Binds K fd ["rows", "weights"] [] := F.bindsN fun _ _ _ _ _ _ us hl => match us, hl with | [_, _], _ => rfl
  refine ⟨fd, ?_, b, F⟩
  obtain ⟨oc, od, dV, kV, doc, pm, an, cdv, ct, osl, rfl, lk, hcd, _, _⟩ := F.ex
  refine fn_of lk hcd sc_told_weights (SpO.len len_told_weights) fun A outer s H vs Q E hr h => ⟨t_told_weights K (cR K) (cN K) E, ?_, BodX.go (N := N_told_weights) (bod_told_weights T) h⟩
  exact (pss_cons (ps_if (PW.pt (pw_or (pt_not (pt_val (pe_cR (ok_are_numbers T) (hr.mono (by decide)) rfl (T.glo 10 _ rfl) (T.kf 10 _ rfl) pz (pa_cons (pv 1) (pa_cons (pe_callB (call_len) rfl (T.free 5 _ rfl) bt_len (pa_cons (pv 0) pa_nil)) pa_nil))))) (pw_or1 (pt_not (pt_val (pe_callB (cr_all rfl) rfl (T.free 6 _ rfl) bt_all (pa_cons (pe_lc (own := [("number", 3)]) (wi := (iSeq K (tcR (SpO (cR K) (cN K) S_ratios_of) E0 (tCons (tVar 1) tNil)))) (g := (gName 3)) (tt := tYes) (te := (tOp rGtI (tPrR (cR K) (SpO (cR K) (cN K) S_Rsign) E0 (tVar 3)) (tC (.int 0)))) rfl sc_told_weights.nd (pi_seq (pe_cR (ok_ratios_of T) (hr.mono (by decide)) rfl (T.glo 13 _ rfl) (T.kf 13 _ rfl) pz (pa_cons (pv 1) pa_nil))) (blkOk_by (by kernel_rfl)) (fun _ _ _ _ _ => (pg_name (i := 3) sc_told_weights.nd rfl (by first | exact Or.inl rfl | exact Or.inr rfl))) (fun _ _ _ _ _ => pts_nil) (fun _ _ _ _ _ => (pe_cmpR (op_gt) (pe_propR (pv 3) T.cls (T.prop 2 _ rfl) (ok_Rsign T) (hr.mono (by decide)) pz) pe_int (nomark _)))) pa_nil))))))) (pss_one ps_never) pss_nil)
  (pss_cons (ps_set (i := 2) sc_told_weights.nd rfl (by first | exact Or.inl rfl | exact Or.inr rfl) (pe_cR (ok_ratios_of T) (hr.mono (by decide)) rfl (T.glo 13 _ rfl) (T.kf 13 _ rfl) pz (pa_cons (pv 1) pa_nil)))
  (pss_cons (ps_if (pt_cmpR (op_le) (pe_propR (pe_cR (ok_value_in T) (hr.mono (by decide)) rfl (T.glo 16 _ rfl) (T.kf 16 _ rfl) pz (pa_cons (pv 0) (pa_cons (pv 2) (pa_cons (pv 2) pa_nil)))) T.cls (T.prop 2 _ rfl) (ok_Rsign T) (hr.mono (by decide)) pz) pe_int (nomark _)) (pss_one (ps_raiseN T rfl rfl (L2.takes_of rfl rfl rfl rfl) 61 rfl)) pss_nil)
  (pss_one (ps_ret (pv 2))))))
theorem ok_told_weights (T : Tx K mg) : FnR P w K mg base (L2.CX P w) 9 (aF "told_weights" K) (SpO (cR K) (cN K) S_told_weights) := by
  obtain ⟨fd, F, b, _⟩ := okF_told_weights (P := P) (w := w) (base := base) T
  exact fnr_of F b

theorem sc_level : FnScope N_level ["table", "weights"] (defScope st_level) := ⟨rfl, rfl, rfl, by decide +kernel, rfl, by decide +kernel, by decide +kernel⟩
theorem okF_level (T : Tx K mg) : ∃ fd, FnOk P w K mg base (L2.CX P w) 10 (aF "level" K) fd ["table", "weights"] (SpO (cR K) (cN K) S_level) ∧ Binds K fd ["table", "weights"] [] ∧ FunD K df_level.name df_level.qual df_level.params df_level.body df_level.scope (df_level.dvs K) (df_level.kws K) (df_level.at_ K) fd := by
  obtain ⟨fd, F⟩ := T.def_ 29 df_level rfl
  have b : Binds K fd ["table", "weights"] [] := F.bindsN fun _ _ _ _ _ _ us hl => match us, hl with | [_, _], _ => rfl
  refine ⟨fd, ?_, b, F⟩
  obtain ⟨oc, od, dV, kV, doc, pm, an, cdv, ct, osl, rfl, lk, hcd, _, _⟩ := F.ex
  refine fn_of lk hcd sc_level (SpO.len len_level) fun A outer s H vs Q E hr h => ⟨t_level K (cR K) (cN K) E, ?_, BodX.go (N := N_level) (bod_level T) h⟩
  exact (pss_cons (ps_set (i := 2) sc_level.nd rfl (by first | exact Or.inl rfl | exact Or.inr rfl) (pe_cR (ok_told_rows T) (hr.mono (by decide)) rfl (T.glo 14 _ rfl) (T.kf 14 _ rfl) pz (pa_cons (pv 0) pa_nil)))
  (pss_one (ps_ret (pe_cR (ok_level_in T) (hr.mono (by decide)) rfl (T.glo 27 _ rfl) (T.kf 27 _ rfl) pz (pa_cons (pv 2) (pa_cons (pe_cR (ok_told_weights T) (hr.mono (by decide)) rfl (T.glo 28 _ rfl) (T.kf 28 _ rfl) (px (L2.takes_of rfl rfl rfl rfl)) (pa_cons (pv 2) (pa_cons (pv 1) pa_nil))) pa_nil))))))
theorem ok_level (T : Tx K mg) : FnR P w K mg base (L2.CX P w) 10 (aF "level" K) (SpO (cR K) (cN K) S_level) := by
  obtain ⟨fd, F, b, _⟩ := okF_level (P := P) (w := w) (base := base) T
  exact fnr_of F b

theorem sc_is_level : FnScope N_is_level ["table", "weights", "value"] (defScope st_is_level) := ⟨rfl, rfl, rfl, by decide +kernel, rfl, by decide +kernel, by decide +kernel⟩
theorem okF_is_level (T : Tx K mg) : ∃ fd, FnOk P w K mg base (L2.CX P w) 10 (aF "is_level" K) fd ["table", "weights", "value"] (SpO (cR K) (cN K) S_is_level) ∧ Binds K fd ["table", "weights", "value"] [] ∧ FunD K df_is_level.name df_is_level.qual df_is_level.params df_is_level.body df_is_level.scope (df_is_level.dvs K) (df_is_level.kws K) (df_is_level.at_ K) fd := by
  obtain ⟨fd, F⟩ := T.def_ 30 df_is_level rfl
  have b : Binds K fd ["table", "weights", "value"] [] := F.bindsN fun _ _ _ _ _ _ us hl => match us, hl with | [_, _, _], _ => rfl
  refine ⟨fd, ?_, b, F⟩
  obtain ⟨oc, od, dV, kV, doc, pm, an, cdv, ct, osl, rfl, lk, hcd, _, _⟩ := F.ex
  refine fn_of lk hcd sc_is_level (SpO.len len_is_level) fun A outer s H vs Q E hr h => ⟨t_is_level K (cR K) (cN K) E, ?_, BodX.go (N := N_is_level) (bod_is_level T) h⟩
  exact (pss_cons (ps_set (i := 3) sc_is_level.nd rfl (by first | exact Or.inl rfl | exact Or.inr rfl) (pe_cR (ok_told_rows T) (hr.mono (by decide)) rfl (T.glo 14 _ rfl) (T.kf 14 _ rfl) pz (pa_cons (pv 0) pa_nil)))
  (pss_cons (ps_set (i := 4) sc_is_level.nd rfl (by first | exact Or.inl rfl | exact Or.inr rfl) (pe_cR (ok_told_weights T) (hr.mono (by decide)) rfl (T.glo 28 _ rfl) (T.kf 28 _ rfl) (px (L2.takes_of rfl rfl rfl rfl)) (pa_cons (pv 3) (pa_cons (pv 1) pa_nil))))
  (pss_cons (ps_if (pt_not (pt_val (pe_cR (ok_are_numbers T) (hr.mono (by decide)) rfl (T.glo 10 _ rfl) (T.kf 10 _ rfl) pz (pa_cons (pv 2) (pa_cons (pe_callB (call_len) rfl (T.free 5 _ rfl) bt_len (pa_cons (pv 3) pa_nil)) pa_nil))))) (pss_one (ps_ret pe_bl)) pss_nil)
  (pss_cons (ps_set (i := 5) sc_is_level.nd rfl (by first | exact Or.inl rfl | exact Or.inr rfl) (pe_cR (ok_ratios_of T) (hr.mono (by decide)) rfl (T.glo 13 _ rfl) (T.kf 13 _ rfl) pz (pa_cons (pv 2) pa_nil)))
  (pss_one (ps_ret (pe_and (pe_cmpR (op_EqU hr) (pe_propR (pe_cR (ok_value_in T) (hr.mono (by decide)) rfl (T.glo 16 _ rfl) (T.kf 16 _ rfl) pz (pa_cons (pv 3) (pa_cons (pv 4) (pa_cons (pv 5) pa_nil)))) T.cls (T.prop 2 _ rfl) (ok_Rsign T) (hr.mono (by decide)) pz) pe_int (nomark _)) (pe_one (pe_cmpR (op_gt) (pe_propR (pe_cR (ok_value_in T) (hr.mono (by decide)) rfl (T.glo 16 _ rfl) (T.kf 16 _ rfl) pz (pa_cons (pv 3) (pa_cons (pv 5) (pa_cons (pv 5) pa_nil)))) T.cls (T.prop 2 _ rfl) (ok_Rsign T) (hr.mono (by decide)) pz) pe_int (nomark _))))))))))
theorem ok_is_level (T : Tx K mg) : FnR P w K mg base (L2.CX P w) 10 (aF "is_level" K) (SpO (cR K) (cN K) S_is_level) := by
  obtain ⟨fd, F, b, _⟩ := okF_is_level (P := P) (w := w) (base := base) T
  exact fnr_of F b

end
end OC
set_option maxHeartbeats 4000000
/-! OcX6: digits, repr: promises, readings, bodies. -/
namespace OC
open PySem PySem.Spec PyProof.Rows L2

/-! ### promises -/
abbrev PARTi : Int := 10 ^ 60
def joinS (ys : List Str) : Str := ys.foldl (· ++ ·) Str.empty
def digLoop : Nat → Int → Str → Int × Str
  | 0, l, t => (l, t)
  | k + 1, l, t => if PARTi ≤ l then digLoop k (l.fdiv PARTi) (joinS [cutS (toString (l % PARTi + PARTi) : String) (some 1) none, t]) else (l, t)
def digS (i : Int) : Str := joinS [if i < 0 then "-" else "", (toString (digLoop 30 (i.natAbs : Nat) "").1 : String), (digLoop 30 (i.natAbs : Nat) "").2]
def S_digits_of : Sc := pS fun ds d => ∃ i : Int, ds = [.int i] ∧ i.natAbs < 2 ^ 4490 ∧ d = .str (digS i)
def reprQ (q : Rat) : Str := joinS ["Ratio(", digS q.num, ", ", digS (q.den : Int), ")"]
def S_R__repr__ : Sc := pS fun ds d => ∃ q : Rat, ds = [.rat q] ∧ Sm q ∧ d = .str (reprQ q)
/-! ### readings -/
def tJoin (ts : List TE) : TE := fun σ H Q => tJs ts Str.empty σ H fun out H1 => Q (.str out) H1
abbrev N_digits_of : List Str := ["number", "sign", "left", "told", "part"]
def t_digits_of (K : Frg) (C CN : Addr) : TS := (tSeq (tPar 2 3 (tCons (tIf (tTest (tOp rGeI (tVar 0) (tC (.int 0)))) (tVar 0) (tOp rSubI (tC (.int 0)) (tVar 0))) (tCons (tC (.str "")) tNil)))
  (tSeq (tWhile (tTest (tOp rGeI (tVar 2) (tC (.int PARTi)))) (tSeq (tAsg (tOp rAddI (tOp rModP (tCB rInt1 (tCons (tVar 2) tNil)) (tC (.int PARTi))) (tC (.int PARTi))) (gName 4))
  (tSeq (tAsg (tJoin [(tFmt (tSl rSlS (tCB rStrI (tCons (tVar 4) tNil)) (tPart (tC (.int 1))) tNoPart)), (tFmt (tVar 3))]) (gName 3))
  (tAsg (tOp rDivQ (tVar 2) (tC (.int PARTi))) (gName 2)))))
  (tSeq (tAsg (tIf (tTest (tOp rLtI (tVar 0) (tC (.int 0)))) (tC (.str "-")) (tC (.str ""))) (gName 1))
  (tRet (tJoin [(tFmt (tVar 1)), (tFmt (tVar 2)), (tFmt (tVar 3))])))))

abbrev N_R__repr__ : List Str := ["self"]
def t_R__repr__ (K : Frg) (C CN : Addr) : TS := (tRet (tJoin [(tC (.str "Ratio(")), (tFmt (tcR (SpO C CN S_digits_of) E0 (tCons (tFld K (tVar 0) "own_top") tNil))), (tC (.str ", ")), (tFmt (tcR (SpO C CN S_digits_of) E0 (tCons (tFld K (tVar 0) "own_bottom") tNil))), (tC (.str ")"))]))

/-! ### bodies -/
section
variable {C CN : Addr} {K : Frg} {mg : Str → Option Value} {ρ : Sto} {μ μ1 : Mu} {E : AEn} {x y d : D} {q : Rat} {te : TE} {tt : TT} {tr : TA} {i : Int} {z : Str}
theorem len_digits_of : ∀ ds μ r μ', S_digits_of ds μ r μ' → ds.length = 1 := len1 fun ds d ⟨x, e, _⟩ => by rw [e]; rfl
theorem len_R__repr__ : ∀ ds μ r μ', S_R__repr__ ds μ r μ' → ds.length = 1 := len1 fun ds d ⟨x, e, _⟩ => by rw [e]; rfl
theorem ae_fmtS (h : AE C te ρ μ (.str z) μ) (hz : z.length ≤ 1000000) : AE C (tFmt te) ρ μ (.str z) μ := ⟨rfl, fun σ B H rs ok Q k => h.2 σ B H rs ok _ fun v B1 H1 g1 ok1 r1 => .inl ⟨z, r1, Nat.le_trans hz (by decide), k _ B1 H1 g1 ok1 rfl⟩⟩
theorem ae_fmtI (h : AE C te ρ μ (.int i) μ) (hz : i.natAbs.log2 < 1920) : AE C (tFmt te) ρ μ (.str (toString i : String)) μ := ⟨rfl, fun σ B H rs ok Q k => h.2 σ B H rs ok _ fun v B1 H1 g1 ok1 r1 => .inr ⟨i, r1, hz, k _ B1 H1 g1 ok1 rfl⟩⟩
/-- the parts of an f-string -/
inductive AJ (C : Addr) (ρ : Sto) (μ : Mu) : List TE → List Str → Prop where
  | nil : AJ C ρ μ [] []
  | cons {t : TE} {ts : List TE} {z : Str} {zs : List Str} (h : AE C t ρ μ (.str z) μ) (g : AJ C ρ μ ts zs) : AJ C ρ μ (t :: ts) (z :: zs)
def lenS (ys : List Str) : Nat := (ys.map Str.length).sum
theorem joins_len : ∀ (ys : List Str) (acc : Str), (ys.foldl (· ++ ·) acc).length = acc.length + lenS ys
  | [], acc => rfl
  | y :: ys, acc => by
    show (ys.foldl (· ++ ·) (acc ++ y)).length = _
    rw [joins_len ys, strLen_append]
    unfold lenS
    rw [List.map_cons, List.sum_cons]
    omega
theorem joinS_len (ys : List Str) : (joinS ys).length = lenS ys := by
  unfold joinS
  rw [joins_len]
  show 0 + _ = _
  omega
theorem tJs_of {ts : List TE} {zs : List Str} (h : AJ C ρ μ ts zs) : ∀ (acc : Str) (σ : L2.St) (B H : Hp), RS C B ρ σ → Ok C μ B H → acc.length + lenS zs ≤ 1000000 → ∀ Q : Str → Hp → Prop, (∀ B' H', Gr (dom μ) B H B' H' → Ok C μ B' H' → Q (zs.foldl (· ++ ·) acc) H') → tJs ts acc σ H Q := by
  induction h with
  | nil => exact fun acc σ B H rs ok hl Q k => k B H (Gr.refl _ _ _) ok
  | @cons t ts z zs h g ih =>
    intro acc σ B H rs ok hl Q k
    have e : lenS (z :: zs) = z.length + lenS zs := by unfold lenS; rw [List.map_cons, List.sum_cons]
    refine h.2 σ B H rs ok _ fun v B1 H1 g1 ok1 r1 => ⟨z, r1, ?_, ih (acc ++ z) σ B1 H1 (rs.mono g1.bb) ok1 (by rw [strLen_append]; omega) Q fun B' H' g' ok' => k B' H' (g1.trans g') ok'⟩
    rw [strLen_append]
    exact Nat.le_trans (show acc.length + z.length ≤ 1000000 by omega) (by decide)
theorem ae_join {ts : List TE} {zs : List Str} (h : AJ C ρ μ ts zs) (hl : lenS zs ≤ 1000000) : AE C (tJoin ts) ρ μ (.str (joinS zs)) μ := ⟨rfl, fun σ B H rs ok Q k => tJs_of h Str.empty σ B H rs ok (by show 0 + _ ≤ _; omega) _ fun B' H' g ok' => k _ B' H' g ok' rfl⟩
theorem cutS_len (z : Str) (lo hi : Option Int) : (cutS z lo hi).length ≤ z.length := by
  unfold cutS
  show (List.toArray _).size ≤ z.cps.size
  rw [List.size_toArray, List.length_take, List.length_drop, Array.length_toList]
  omega
theorem ae_sliceS {tl th : TO} {lo hi : Option Int} (h : AE C te ρ μ (.str z) μ) (hl : AO C tl ρ μ lo) (hh : AO C th ρ μ hi) (hz : z.length ≤ 1000000) : AE C (tSl rSlS te tl th) ρ μ (.str (cutS z lo hi)) μ :=
  ⟨rfl, fun σ B H rs ok Q k => h.2 σ B H rs ok _ fun v B1 H1 g1 ok1 r1 => hl σ B1 H1 (rs.mono g1.bb) ok1 _ fun B2 H2 g2 ok2 => hh σ B2 H2 (rs.mono (g1.bb.trans g2.bb)) ok2 _ fun B3 H3 g3 ok3 =>
    ⟨z, r1, Nat.le_trans hz (by decide), k _ B3 H3 ((g1.trans g2).trans g3) ok3 rfl⟩⟩
theorem lg_part {l : Int} (h0 : 0 ≤ l) (h : l < PARTi * 2) : l.natAbs.log2 < 1920 := by
  have : l.natAbs < 2 ^ 201 := Nat.lt_of_lt_of_le (show l.natAbs < 2 * 10 ^ 60 by have : PARTi = 10 ^ 60 := rfl; omega) (by decide)
  exact Nat.lt_of_lt_of_le (log2_pos (by decide) this) (by decide)
theorem txt_len {l : Int} (h : l.natAbs.log2 < 1920) : (Str.ofString (toString l)).length ≤ 1921 := int_text_len_1921 h
theorem bod_digits_of : Bod C (t_digits_of K C CN) 5 S_digits_of := bod_pS fun ds μ d ⟨i, e, hi, hd⟩ => by
  subst e hd
  refine as_seq (as_par (x := .int (i.natAbs : Nat)) (y := .str "") (aa2 ?_ ae_str) ?_)
  · refine ae_if (b := decide (0 ≤ i)) (at_test (ae_op (ae_var rfl) ae_int a2_ge)) (fun z => (ae_var rfl).is ?_) (fun z => (ae_op ae_int (ae_var rfl) a2_subI).is ?_)
    · have := of_decide_eq_true z
      exact congrArg D.int (by omega)
    · have := of_decide_eq_false z
      exact congrArg D.int (by omega)
  refine as_seq (as_while (fun m ρ' μ' => μ' = μ ∧ ρ'.length = 5 ∧ ρ'[0]? = some (some (.int i)) ∧ ∃ (l : Int) (t : Str), ρ'[2]? = some (some (.int l)) ∧ ρ'[3]? = some (some (.str t)) ∧ 0 ≤ l ∧ l.natAbs < 2 ^ (199 * m + 199) ∧ m ≤ 30 ∧ t.length + 1921 * m ≤ 1921 * 30 ∧ digLoop m l t = digLoop 30 (i.natAbs : Nat) "") 30 ⟨rfl, rfl, rfl, _, _, rfl, rfl, by omega, Nat.lt_of_lt_of_le (by rw [Int.natAbs_natCast]; exact hi) (Nat.pow_le_pow_right (by decide) (by decide)), Nat.le_refl _, by show 0 + _ ≤ _; omega, rfl⟩ ?_)
  rintro m ρ' μ' ⟨rfl, hl, r0, l, t, r1, r2, h0, hb, hm, ht, hf⟩
  refine ⟨_, _, at_test (ae_op (ae_var r1) ae_int a2_ge), fun hz => ?_, fun hz => ?_⟩
  · have hz' : PARTi ≤ l := of_decide_eq_true hz
    have hP : PARTi = 10 ^ 60 := rfl
    cases m with
    | zero =>
      exfalso
      have h2 : (2 : Nat) ^ (199 * 0 + 199) ≤ 10 ^ 60 := by decide
      omega
    | succ m =>
      have hm0 : 0 ≤ l % PARTi := Int.emod_nonneg _ (by omega)
      have hm1 : l % PARTi < PARTi := Int.emod_lt_of_pos _ (by omega)
      have lp : (l % PARTi + PARTi).natAbs.log2 < 1920 := lg_part (by omega) (by omega)
      have tl := txt_len lp
      have cl := cutS_len (toString (l % PARTi + PARTi) : String) (some 1) none
      refine as_seq (as_set (ae_op (ae_op (ae_cb (aa1 (ae_var r1)) ac_int) ae_int (a2_modP (by omega))) ae_int a2_addI) ?_)
      have s1 := get_set_ne (i := 4) (x := some (D.int (l % PARTi + PARTi))) (by decide) r1
      have s2 := get_set_ne (i := 4) (x := some (D.int (l % PARTi + PARTi))) (by decide) r2
      have s0 := get_set_ne (i := 4) (x := some (D.int (l % PARTi + PARTi))) (by decide) r0
      have s3 : (ρ'.set 4 (some (D.int (l % PARTi + PARTi))))[4]? = some (some (.int (l % PARTi + PARTi))) := get_set_eq (by omega)
      have sl : (ρ'.set 4 (some (D.int (l % PARTi + PARTi)))).length = 5 := by rw [List.length_set]; exact hl
      generalize ρ'.set 4 (some (D.int (l % PARTi + PARTi))) = ρ2 at s0 s1 s2 s3 sl
      refine as_seq (as_set (d := .str (joinS [cutS (toString (l % PARTi + PARTi) : String) (some 1) none, t])) (ae_join (.cons (ae_fmtS (ae_sliceS (ae_cb (aa1 (ae_var s3)) (ac_strI lp)) (ao_some ae_int) ao_none (by omega)) (by omega)) (.cons (ae_fmtS (ae_var s2) (by omega)) .nil)) ?_) ?_)
      · unfold lenS
        simp only [List.map_cons, List.map_nil, List.sum_cons, List.sum_nil]
        omega
      refine as_set (ae_op (ae_var (get_set_ne (by decide) s1)) ae_int (a2_divQ (by omega) (by decide))) ⟨m, Nat.lt_succ_self _, rfl, by rw [List.length_set, List.length_set]; exact sl, get_set_ne (by decide) (get_set_ne (by decide) s0), l.fdiv PARTi, _, get_set_eq (by rw [List.length_set]; omega), get_set_ne (by decide) (get_set_eq (by omega)), ?_, ?_, by omega, ?_, ?_⟩
      · rw [Int.fdiv_eq_ediv_of_nonneg _ (by omega)]; exact Int.ediv_nonneg h0 (by omega)
      · rw [Int.fdiv_eq_ediv_of_nonneg _ (by omega)]
        have e1 : (l / PARTi).natAbs = l.natAbs / 10 ^ 60 := by
          have : l = (l.natAbs : Int) := by omega
          rw [this, hP, show (10 : Int) ^ 60 = ((10 ^ 60 : Nat) : Int) by norm_cast, ← Int.natCast_ediv, Int.natAbs_natCast, Int.natAbs_natCast]
        rw [e1]
        refine Nat.div_lt_of_lt_mul (Nat.lt_of_lt_of_le hb ?_)
        rw [show 199 * (m + 1) + 199 = 199 + (199 * m + 199) by omega, Nat.pow_add]
        exact Nat.mul_le_mul_right _ (by decide)
      · rw [joinS_len]
        unfold lenS
        simp only [List.map_cons, List.map_nil, List.sum_cons, List.sum_nil]
        omega
      · rw [← hf]
        show _ = if PARTi ≤ l then _ else _
        rw [if_pos hz']
  · have hz' : ¬ PARTi ≤ l := of_decide_eq_false hz
    have e : digLoop m l t = (l, t) := by
      cases m with
      | zero => rfl
      | succ m =>
        show (if PARTi ≤ l then _ else _) = _
        rw [if_neg hz']
    rw [e] at hf
    have lp : l.natAbs.log2 < 1920 := lg_part h0 (by omega)
    have tl := txt_len lp
    refine as_seq (as_set (d := .str (if i < 0 then "-" else "")) (ae_if (b := decide (i < 0)) (at_test (ae_op (ae_var r0) ae_int a2_lt)) (fun z => ae_str.is (by rw [if_pos (of_decide_eq_true z)])) (fun z => ae_str.is (by rw [if_neg (of_decide_eq_false z)]))) ?_)
    have sgl : (if i < 0 then ("-" : Str) else "").length ≤ 1 := by split <;> decide
    refine as_ret (ae_join (.cons (ae_fmtS (ae_var (get_set_eq (by omega))) (by omega)) (.cons (ae_fmtI (ae_var (get_set_ne (by decide) r1)) lp) (.cons (ae_fmtS (ae_var (get_set_ne (by decide) r2)) (by omega)) .nil))) ?_) ?_
    · unfold lenS
      simp only [List.map_cons, List.map_nil, List.sum_cons, List.sum_nil]
      omega
    · unfold digS
      rw [← hf]
      exact ev
theorem digLoop_len : ∀ (m : Nat) (l : Int) (t : Str), 0 ≤ l → (digLoop m l t).2.length ≤ t.length + 1921 * m
  | 0, l, t, _ => Nat.le_refl _
  | m + 1, l, t, h0 => by
    show (if PARTi ≤ l then digLoop m (l.fdiv PARTi) (joinS [cutS (toString (l % PARTi + PARTi) : String) (some 1) none, t]) else (l, t)).2.length ≤ _
    have hP : PARTi = 10 ^ 60 := rfl
    by_cases hz : PARTi ≤ l
    · rw [if_pos hz]
      have hm0 : 0 ≤ l % PARTi := Int.emod_nonneg _ (by omega)
      have hm1 : l % PARTi < PARTi := Int.emod_lt_of_pos _ (by omega)
      have tl := txt_len (lg_part (l := l % PARTi + PARTi) (by omega) (by omega))
      have cl := cutS_len (toString (l % PARTi + PARTi) : String) (some 1) none
      have := digLoop_len m (l.fdiv PARTi) (joinS [cutS (toString (l % PARTi + PARTi) : String) (some 1) none, t]) (by rw [Int.fdiv_eq_ediv_of_nonneg _ (by omega)]; exact Int.ediv_nonneg h0 (by omega))
      rw [joinS_len] at this
      unfold lenS at this
      simp only [List.map_cons, List.map_nil, List.sum_cons, List.sum_nil] at this
      omega
    · rw [if_neg hz]
      show t.length ≤ _
      omega
theorem digLoop_small : ∀ (m : Nat) (l : Int) (t : Str), 0 ≤ l → l.natAbs < 2 ^ (199 * m + 199) → 0 ≤ (digLoop m l t).1 ∧ (digLoop m l t).1 < PARTi * 2
  | 0, l, t, h0, h => by
    have hP : PARTi = 10 ^ 60 := rfl
    have h2 : (2 : Nat) ^ (199 * 0 + 199) ≤ 10 ^ 60 := by decide
    show 0 ≤ l ∧ l < _
    omega
  | m + 1, l, t, h0, h => by
    show 0 ≤ (if PARTi ≤ l then digLoop m (l.fdiv PARTi) (joinS [cutS (toString (l % PARTi + PARTi) : String) (some 1) none, t]) else (l, t)).1 ∧ (if PARTi ≤ l then digLoop m (l.fdiv PARTi) (joinS [cutS (toString (l % PARTi + PARTi) : String) (some 1) none, t]) else (l, t)).1 < _
    have hP : PARTi = 10 ^ 60 := rfl
    by_cases hz : PARTi ≤ l
    · rw [if_pos hz]
      refine digLoop_small m _ _ (by rw [Int.fdiv_eq_ediv_of_nonneg _ (by omega)]; exact Int.ediv_nonneg h0 (by omega)) ?_
      rw [Int.fdiv_eq_ediv_of_nonneg _ (by omega)]
      have e1 : (l / PARTi).natAbs = l.natAbs / 10 ^ 60 := by
        have : l = (l.natAbs : Int) := by omega
        rw [this, hP, show (10 : Int) ^ 60 = ((10 ^ 60 : Nat) : Int) by norm_cast, ← Int.natCast_ediv, Int.natAbs_natCast, Int.natAbs_natCast]
      rw [e1]
      refine Nat.div_lt_of_lt_mul (Nat.lt_of_lt_of_le h ?_)
      rw [show 199 * (m + 1) + 199 = 199 + (199 * m + 199) by omega, Nat.pow_add]
      exact Nat.mul_le_mul_right _ (by decide)
    · rw [if_neg hz]
      show 0 ≤ l ∧ l < _
      omega
theorem digS_len (h : i.natAbs < 2 ^ 4490) : (digS i).length ≤ 60000 := by
  have h1 := digLoop_len 30 (i.natAbs : Nat) "" (by omega)
  obtain ⟨h2, h3⟩ := digLoop_small 30 (i.natAbs : Nat) "" (by omega) (by rw [Int.natAbs_natCast]; exact Nat.lt_of_lt_of_le h (Nat.pow_le_pow_right (by decide) (by decide)))
  have h4 := txt_len (lg_part h2 h3)
  have sgl : (if i < 0 then ("-" : Str) else "").length ≤ 1 := by split <;> decide
  have h0 : (("" : String) : Str).length = 0 := rfl
  unfold digS
  rw [joinS_len]
  unfold lenS
  simp only [List.map_cons, List.map_nil, List.sum_cons, List.sum_nil]
  rw [h0] at h1
  omega
theorem reprQ_len (h : Sm q) : (reprQ q).length ≤ 130000 := by
  have h1 := digS_len h.n
  have h2 := digS_len (i := (q.den : Int)) (by rw [Int.natAbs_natCast]; exact h.d)
  have e1 : ("Ratio(" : Str).length = 6 := rfl
  have e2 : (", " : Str).length = 2 := rfl
  have e3 : (")" : Str).length = 1 := rfl
  unfold reprQ
  rw [joinS_len]
  unfold lenS
  simp only [List.map_cons, List.map_nil, List.sum_cons, List.sum_nil]
  omega
theorem bod_R__repr__ (T : Tx K mg) : Bod (cR K) (t_R__repr__ K (cR K) (cN K)) 1 S_R__repr__ := bod_pS fun ds μ d ⟨q, e, hq, hd⟩ => by
  subst e hd
  have h1 := digS_len hq.n
  have h2 := digS_len (i := (q.den : Int)) (by rw [Int.natAbs_natCast]; exact hq.d)
  refine as_ret (ae_join (.cons ae_str (.cons (ae_fmtS (ae_call (aa1 (ae_fldT T.cls T.nt (ae_var rfl))) (pS.mk ⟨q.num, rfl, hq.n, rfl⟩)) (by omega)) (.cons ae_str (.cons (ae_fmtS (ae_call (aa1 (ae_fldB T.cls T.nb (ae_var rfl))) (pS.mk ⟨(q.den : Int), rfl, by rw [Int.natAbs_natCast]; exact hq.d, rfl⟩)) (by omega)) (.cons ae_str .nil))))) ?_) ev
  have e1 : ("Ratio(" : Str).length = 6 := rfl
  have e2 : (", " : Str).length = 2 := rfl
  have e3 : (")" : Str).length = 1 := rfl
  unfold lenS
  simp only [List.map_cons, List.map_nil, List.sum_cons, List.sum_nil]
  omega
end
end OC
set_option maxHeartbeats 4000000
/-! OcY6: the defs keep their promises. -/
namespace OC
open PySem PySem.Spec PyProof.Rows L2
section
variable {P : Program} {w : World} {K : Frg} {mg : Str → Option Value} {base : Heap}
theorem sc_digits_of : FnScope N_digits_of ["number"] (defScope st_digits_of) := ⟨rfl, rfl, rfl, by decide +kernel, rfl, by decide +kernel, by decide +kernel⟩
theorem ok_digits_of (T : Tx K mg) : FnR P w K mg base CX0 1 (aF "digits_of" K) (SpO (cR K) (cN K) S_digits_of) := by
  obtain ⟨fd, F⟩ := T.def_ 2 df_digits_of rfl
  have b : Binds K fd ["number"] [] := F.bindsN fun _ _ _ _ _ _ us hl => match us, hl with | [_], _ => rfl
  refine fnr_of (F.ok sc_digits_of (SpO.len len_digits_of) fun cdv A outer s H vs Q E hr h => ⟨t_digits_of K (cR K) (cN K), PSs.nox ?_, Bod.go (N := N_digits_of) (by first | exact bod_digits_of T | exact bod_digits_of) h⟩) b
  exact (pss_cons (ps_par (i := 2) (j := 3) rfl sc_digits_of.nd rfl rfl (by decide) rfl rfl (pa_cons (pe_ifExp (pt_cmpR (op_ge) (pv 0) pe_int (nomark _)) (pv 0) (pe_op op_sub pe_int (pv 0))) (pa_cons pe_str pa_nil)) rfl)
  (pss_cons (ps_while PassesOwn.never (pt_cmpR (op_ge) (pv 2) (pe_glob rfl T.part.choose_spec ⟨_, rfl⟩) (nomark _)) (pss_cons (ps_set (i := 4) sc_digits_of.nd rfl (by first | exact Or.inl rfl | exact Or.inr rfl) (pe_op op_add (pe_op op_mod (pe_callTy call_int1 rfl (T.free 1 _ rfl) bt_int (pa_cons (pv 2) pa_nil)) (pe_glob rfl T.part.choose_spec ⟨_, rfl⟩)) (pe_glob rfl T.part.choose_spec ⟨_, rfl⟩)))
  (pss_cons (ps_set (i := 3) sc_digits_of.nd rfl (by first | exact Or.inl rfl | exact Or.inr rfl) (pe_joined (PJ.cons (pe_fmt (pe_slice sl_str (pe_callTy call_str_int rfl (T.free 11 _ rfl) bt_str (pa_cons (pv 4) pa_nil)) (po_some pe_int) po_none)) (PJ.cons (pe_fmt (pv 3)) PJ.nil))))
  (pss_one (ps_set (i := 2) sc_digits_of.nd rfl (by first | exact Or.inl rfl | exact Or.inr rfl) (pe_op op_fdivQ (pv 2) (pe_glob rfl T.part.choose_spec ⟨_, rfl⟩)))))))
  (pss_cons (ps_set (i := 1) sc_digits_of.nd rfl (by first | exact Or.inl rfl | exact Or.inr rfl) (pe_ifExp (pt_cmpR (op_lt) (pv 0) pe_int (nomark _)) pe_str pe_str))
  (pss_one (ps_ret (pe_joined (PJ.cons (pe_fmt (pv 1)) (PJ.cons (pe_fmt (pv 2)) (PJ.cons (pe_fmt (pv 3)) PJ.nil)))))))))

theorem sc_R__repr__ : FnScope N_R__repr__ ["self"] (defScope st_R__repr__) := ⟨rfl, rfl, rfl, by decide +kernel, rfl, by decide +kernel, by decide +kernel⟩
theorem ok_R__repr__ (T : Tx K mg) : FnR P w K mg base CX0 2 (aM "__repr__" K) (SpO (cR K) (cN K) S_R__repr__) := by
  obtain ⟨fd, F⟩ := T.def_ 70 df_R__repr__ rfl
  have b : Binds K fd ["self"] [] := F.bindsN fun _ _ _ _ _ _ us hl => match us, hl with | [_], _ => rfl
  refine fnr_of (F.ok sc_R__repr__ (SpO.len len_R__repr__) fun cdv A outer s H vs Q E hr h => ⟨t_R__repr__ K (cR K) (cN K), PSs.nox ?_, Bod.go (N := N_R__repr__) (by first | exact bod_R__repr__ T | exact bod_R__repr__) h⟩) b
  exact (pss_one (ps_ret (pe_joined (PJ.cons pe_str (PJ.cons (pe_fmt (pe_cR (ok_digits_of T) (hr.mono (by decide)) rfl (T.glo 2 _ rfl) (T.kf 2 _ rfl) pz (pa_cons (pe_fld (pv 0) rfl) pa_nil))) (PJ.cons pe_str (PJ.cons (pe_fmt (pe_cR (ok_digits_of T) (hr.mono (by decide)) rfl (T.glo 2 _ rfl) (T.kf 2 _ rfl) pz (pa_cons (pe_fld (pv 0) rfl) pa_nil))) (PJ.cons pe_str PJ.nil))))))))

end
end OC
set_option maxHeartbeats 4000000
/-! OcM2: the law's own draws, plain. -/
namespace OC
abbrev Pot := Int × Int
def PotOk (t : Pot) : Prop := 0 ≤ t.1 ∧ 0 ≤ t.2 ∧ t.2 < 4294967296
def stir (c : Int) : Int := (c * 39373 + 20089) % 2147483563
def draw (t : Pot) (n : Int) : Int × Pot := if 0 < t.1 then (t.1 % n, (t.1 / n, t.2)) else (((stir t.2 * stir t.2) % 2147483477).fdiv 23 % n, (t.1, stir t.2))
theorem stir_ok (c : Int) : 0 ≤ stir c ∧ stir c < 2147483563 := ⟨Int.emod_nonneg _ (by decide), Int.emod_lt_of_pos _ (by decide)⟩
theorem draw_ok {t : Pot} {n : Int} (h : PotOk t) (hn : 0 < n) : 0 ≤ (draw t n).1 ∧ (draw t n).1 < n ∧ PotOk (draw t n).2 := by
  unfold draw
  by_cases z : 0 < t.1
  · rw [if_pos z]
    exact ⟨Int.emod_nonneg _ (by omega), Int.emod_lt_of_pos _ hn, Int.ediv_nonneg h.1 (by omega), h.2⟩
  · rw [if_neg z]
    have := stir_ok t.2
    exact ⟨Int.emod_nonneg _ (by omega), Int.emod_lt_of_pos _ hn, h.1, this.1, by show stir t.2 < _; omega⟩
/-- n turns, one behind the other -/
def iterS {α : Type} (f : Pot → α × Pot) : Nat → Pot → List α × Pot
  | 0, t => ([], t)
  | n + 1, t => ((iterS f n t).1 ++ [(f (iterS f n t).2).1], (f (iterS f n t).2).2)
theorem iterS_length {α : Type} (f : Pot → α × Pot) (t : Pot) : ∀ n, (iterS f n t).1.length = n
  | 0 => rfl
  | n + 1 => by
    show ((iterS f n t).1 ++ [_]).length = _
    rw [List.length_append, iterS_length f t n]
    rfl
theorem iterS_ok {α : Type} {f : Pot → α × Pot} {P : α → Prop} (hf : ∀ t, PotOk t → P (f t).1 ∧ PotOk (f t).2) {t : Pot} (h : PotOk t) : ∀ n, (∀ a ∈ (iterS f n t).1, P a) ∧ PotOk (iterS f n t).2
  | 0 => ⟨fun a ha => (nomatch ha), h⟩
  | n + 1 => by
    obtain ⟨h1, h2⟩ := iterS_ok hf h n
    obtain ⟨h3, h4⟩ := hf _ h2
    refine ⟨fun a ha => ?_, h4⟩
    rcases List.mem_append.mp ha with z | z
    · exact h1 a z
    · rw [List.mem_singleton.mp z]; exact h3
/-- a list's items, one behind the other -/
def mapS {α β : Type} (f : α → Pot → β × Pot) : List α → Pot → List β × Pot
  | [], t => ([], t)
  | a :: l, t => ((f a t).1 :: (mapS f l (f a t).2).1, (mapS f l (f a t).2).2)
def someD : List Int := [1, 1, 1, 1, 2, 3]
def smallF (m : Int) (t : Pot) : Rat × Pot :=
  (Rat.divInt ((draw t (2 * m + 1)).1 - m) (someD.getD ((draw (draw t (2 * m + 1)).2 6).1).toNat 1), (draw (draw t (2 * m + 1)).2 6).2)
def wayF (n : Nat) (m : Int) (t : Pot) : Row × Pot := iterS (smallF m) n t
def potF (ns : List Int) (k : Nat) : Pot :=
  let c : Int := if (k : Int) < ns.length then (ns.getD k 0).natAbs else 449 * k + 149
  (if c - 10 ^ 18 > 0 then c - 10 ^ 18 else 0, (c % 2147483549 * 40189 + 1019 * k + 109) % 2147483563 + 1)
theorem potF_ok (ns : List Int) (k : Nat) : PotOk (potF ns k) := by
  unfold potF
  refine ⟨by dsimp only; split <;> omega, ?_, ?_⟩
  · have := Int.emod_nonneg ((if (k : Int) < ns.length then ((ns.getD k 0).natAbs : Int) else 449 * k + 149) % 2147483549 * 40189 + 1019 * k + 109) (show (2147483563 : Int) ≠ 0 by decide)
    dsimp only
    omega
  · have := Int.emod_lt_of_pos ((if (k : Int) < ns.length then ((ns.getD k 0).natAbs : Int) else 449 * k + 149) % 2147483549 * 40189 + 1019 * k + 109) (show (0 : Int) < 2147483563 by decide)
    dsimp only
    omega
def moreF (A : Mat) (c : Rat) (f : List Int) : Mat := (List.range A.length).map fun i => (List.range A.length).map fun j => ent A i j + c * (f.getD i 0 : Int) * (f.getD j 0 : Int)
end OC
namespace OC
/-! ### minors -/
def choS (m : Nat) (found : List (List Nat)) (k : Nat) : List (List Nat) := found ++ (found.filter fun l => decide (l.length < m)).map fun l => l ++ [k]
def choL (n m : Nat) : List (List Nat) := (List.range n).foldl (choS m) [[]]
def choF (n m : Nat) : List (List Nat) := (choL n m).filter fun l => decide (l.length = m)
def minorM (A : Mat) (i : Nat) : Mat := (A.drop 1).map fun r => r.take i ++ r.drop (i + 1)
def sgI (i : Nat) : Int := if i % 2 = 0 then 1 else -1
def detT (D : Mat → Rat) (A : Mat) (i : Nat) : Rat := if ent A 0 i ≠ 0 then D (minorM A i) * ent A 0 i * (sgI i : Int) else 0
def detP (D : Mat → Rat) (A : Mat) : Nat → Rat
  | 0 => 0
  | k + 1 => detP D A k + detT D A k
def detF : Nat → Mat → Rat
  | 0, _ => 1
  | n + 1, A => detP (detF n) A (A.getD 0 []).length
def DetOk : Nat → Mat → Prop
  | 0, _ => True
  | n + 1, A => ∀ i, i < (A.getD 0 []).length → Sm (ent A 0 i) ∧ Sm (detP (detF n) A i) ∧ (ent A 0 i ≠ 0 → DetOk n (minorM A i) ∧ Sm (detF n (minorM A i)) ∧ Sm (detF n (minorM A i) * ent A 0 i) ∧ Sm (detF n (minorM A i) * ent A 0 i * (sgI i : Int)))
def subM (A : Mat) (ps : List Nat) : Mat := ps.map fun i => ps.map fun j => ent A i j
def minF (A : Mat) (ps : List Nat) : Rat := detF ps.length (subM A ps)
def sumsT (A : Mat) (m : Nat) : List Rat := (choF A.length m).map (minF A)
def sumsF (A : Mat) : List Rat := (List.range (A.length + 1)).map fun m => sumR (sumsT A m)
def nzS (l : List Rat) : List Int := (l.filter fun q => decide (q ≠ 0)).map sgn
def chgI (l : List Int) : Nat := ((l.zip (l.drop 1)).filter fun p => decide (p.1 ≠ p.2)).length
def changesF (l : List Rat) : Nat := chgI (nzS l)
def altR (l : List Rat) : List Rat := l.mapIdx fun i q => if i % 2 = 0 then q else -q
def aboveN (A : Mat) : Nat := changesF (altR (sumsF A))
def belowN (A : Mat) : Nat := changesF (sumsF A)
theorem choL_succ (n m : Nat) : choL (n + 1) m = choS m (choL n m) n := by
  unfold choL
  rw [List.range_succ, List.foldl_append]
  rfl
theorem choL_length (m : Nat) : ∀ n, (choL n m).length ≤ 2 ^ n
  | 0 => Nat.le_refl _
  | n + 1 => by
    rw [choL_succ]
    unfold choS
    rw [List.length_append, List.length_map]
    have h1 := choL_length m n
    have h2 := List.length_filter_le (fun l => decide (l.length < m)) (choL n m)
    rw [Nat.pow_succ]
    omega
theorem choL_item (m : Nat) : ∀ n, ∀ l ∈ choL n m, l.length ≤ n ∧ l.length ≤ m ∧ ∀ i ∈ l, i < n
  | 0 => fun l hl => by
    have : l = [] := by simpa [choL] using hl
    rw [this]
    exact ⟨Nat.le_refl _, Nat.zero_le _, fun i hi => nomatch hi⟩
  | n + 1 => fun l hl => by
    rw [choL_succ] at hl
    unfold choS at hl
    rcases List.mem_append.mp hl with z | z
    · obtain ⟨h1, h2, h3⟩ := choL_item m n l z
      exact ⟨by omega, h2, fun i hi => Nat.lt_succ_of_lt (h3 i hi)⟩
    · obtain ⟨l0, h0, rfl⟩ := List.mem_map.mp z
      obtain ⟨h4, h5⟩ := List.mem_filter.mp h0
      obtain ⟨h1, h2, h3⟩ := choL_item m n l0 h4
      have h6 : l0.length < m := of_decide_eq_true h5
      refine ⟨by rw [List.length_append]; show l0.length + 1 ≤ n + 1; omega, by rw [List.length_append]; exact h6, fun i hi => ?_⟩
      rcases List.mem_append.mp hi with w | w
      · exact Nat.lt_succ_of_lt (h3 i w)
      · rw [List.mem_singleton.mp w]; exact Nat.lt_succ_self _
end OC
set_option maxHeartbeats 4000000
/-! OcX7: the law, draws: promises, readings, bodies. -/
namespace OC
open PySem PySem.Spec PyProof.Rows L2

/-! ### promises -/
def potD (t : Pot) : List D := [.int t.1, .int t.2]
def pP (f : List D → Pot → D → Pot → Prop) : Sc := fun ds μ r μ' => ∃ p ts t d t', ds = .ptr p :: ts ∧ (p, potD t) ∈ μ ∧ PotOk t ∧ f ts t d t' ∧ r = .val d ∧ μ' = setM μ p (potD t')
def S__law_pot (K : Frg) : Sc := fun ds μ r μ' => μ' = μ ∧ ∃ (ns : List Int) (k : Nat), ds = [.scr K ns, .int k] ∧ k ≤ 100 ∧ ns.length ≤ 1000 ∧ r = .fresh (potD (potF ns k))
def S__law_draw : Sc := pP fun ts t d t' => ∃ n : Int, ts = [.int n] ∧ 0 < n ∧ n < 1000000 ∧ d = .int (draw t n).1 ∧ t' = (draw t n).2
def S__law_pick : Sc := pP fun ts t d t' => ∃ (xs : List D) (x : D), ts = [.lst xs] ∧ 0 < xs.length ∧ xs.length < 1000000 ∧ xs[(draw t xs.length).1.toNat]? = some x ∧ d = x ∧ t' = (draw t xs.length).2
def S__law_small : Sc := pP fun ts t d t' => ∃ m : Int, ts = [.int m] ∧ 0 ≤ m ∧ m ≤ 1000 ∧ d = .rat (smallF m t).1 ∧ t' = (smallF m t).2
def intsD (f : List Int) : D := .lst (f.map D.int)
/-- what the sum asks -/
def MoreOk (A : Mat) (c : Rat) (f : List Int) : Prop := ∀ i j, i < A.length → j < A.length → Sm (ent A i j) ∧ Sm (c * (f.getD i 0 : Int)) ∧ Sm (c * (f.getD i 0 : Int) * (f.getD j 0 : Int)) ∧ Sm ((f.getD i 0 : Int) : Rat)
def S__law_more : Sc := pS fun ds d => ∃ (A : Mat) (c : Rat) (f : List Int), ds = [RMd A, .rat c, intsD f] ∧ SqM A ∧ A.length ≤ 100 ∧ f.length = A.length ∧ Sm c ∧ MoreOk A c f ∧ d = RMd (moreF A c f)
def S__law_is_number : Sc := pS fun ds d => ∃ x, ds = [x] ∧ plainD x = true ∧ d = .bl (isN x)
def S__law_is_list : Sc := pS fun ds d => ∃ v m, ds = [v, .int m] ∧ plainD v = true ∧ (∀ x ∈ itemsD v, plainD x = true) ∧ (itemsD v).length ≤ 1000 ∧ d = .bl (numsB v m)
/-- a sum over places: rows, a place for each -/
def rowT (A : Mat) (y : Row) (i : Nat) : List Rat := (List.range A.length).map fun j => ent A i j * y.getD j 0
def formT (A : Mat) (x y : Row) : List Rat := (List.range A.length).map fun i => sumR (rowT A y i) * x.getD i 0
def formF (A : Mat) (x y : Row) : Rat := sumR (formT A x y)
structure FormOk (A : Mat) (x y : Row) : Prop where
  sq : SqM A
  n : A.length ≤ 100
  xl : x.length = A.length
  yl : y.length = A.length
  sA : SmM A
  sx : ∀ q ∈ x, Sm q
  sy : ∀ q ∈ y, Sm q
  rows : ∀ i, i < A.length → SmS (rowT A y i)
  all : SmS (formT A x y)
/-- a list of numbers, given anyhow -/
def S__law_form : Sc := pS fun ds d => ∃ (A : Mat) (x y : Row) (xs ys : List D) (u v : D), ds = [RMd A, u, v] ∧ SeqD u xs ∧ SeqD v ys ∧ Nms xs x ∧ Nms ys y ∧ FormOk A x y ∧ d = .rat (formF A x y)
def lookF (A : Mat) (w : Row) (v : D) : Bool := numsB v A.length && (decide (formF A w (numsD (itemsD v)) = 0) && decide (0 < formF A (numsD (itemsD v)) (numsD (itemsD v))))
structure LookOk (A : Mat) (w : Row) (v : D) : Prop where
  pl : plainD v = true
  it : ∀ x ∈ itemsD v, plainD x = true
  n : (itemsD v).length ≤ 1000
  q : numsB v A.length = true → ∃ qs, Nms (itemsD v) qs ∧ FormOk A w qs ∧ FormOk A qs qs
def S__law_looks : Sc := pS fun ds d => ∃ (A : Mat) (w : Row) (v : D), ds = [RMd A, RLd w, v] ∧ LookOk A w v ∧ d = .bl (lookF A w v)
def withoutF (A : Mat) (w v : Row) : Row := lessR v w (formF A w v / formF A w w)
def S__law_without : Sc := pS fun ds d => ∃ (A : Mat) (w v : Row), ds = [RMd A, RLd w, RLd v] ∧ FormOk A w v ∧ FormOk A w w ∧ Sm (formF A w v) ∧ Sm (formF A w w) ∧ formF A w w ≠ 0 ∧ LOk v w (formF A w v / formF A w w) ∧ d = RLd (withoutF A w v)

abbrev N__law_pot : List Str := ["_law_script", "_law_k", "_law_cell"]
def t__law_pot (K : Frg) (C CN : Addr) : TS := (tSeq (tAsg (tIf (tTest (tOp rLtI (tVar 1) (tCB (rLen K) (tCons (tVar 0) tNil)))) (tCB rAbs (tCons (tOp (rIx K) (tVar 0) (tVar 1)) tNil)) (tOp rAddI (tOp rMulI (tC (.int 449)) (tVar 1)) (tC (.int 149)))) (gName 2))
  (tRet (tLst (tCons (tCB rMax2 (tCons (tC (.int 0)) (tCons (tOp rSubI (tVar 2) (tOp rPowP (tC (.int 10)) (tC (.int 18)))) tNil))) (tCons (tOp rAddI (tOp rModP (tCB rInt1 (tCons (tOp rAddI (tOp rAddI (tOp rMulI (tOp rModP (tCB rInt1 (tCons (tVar 2) tNil)) (tC (.int 2147483549))) (tC (.int 40189))) (tOp rMulI (tC (.int 1019)) (tVar 1))) (tC (.int 109))) tNil)) (tC (.int 2147483563))) (tC (.int 1))) tNil)))))

abbrev N__law_draw : List Str := ["_law_pot_here", "_law_size", "_law_digit"]
def t__law_draw (K : Frg) (C CN : Addr) : TS := (tSeq (tIfS (tTest (tOp rGtI (tOp (rIx K) (tVar 0) (tC (.int 0))) (tC (.int 0)))) (tSeq (tAsg (tCB rDivmod (tCons (tOp (rIx K) (tVar 0) (tC (.int 0))) (tCons (tVar 1) tNil))) (gTup K 2 (gCons (gSub (tVar 0) (tC (.int 0)) rSetL) (gCons (gName 2) gNil))))
  (tRet (tVar 2))) tNext)
  (tSeq (tAsg (tOp rModP (tCB rInt1 (tCons (tOp rAddI (tOp rMulI (tOp (rIx K) (tVar 0) (tC (.int 1))) (tC (.int 39373))) (tC (.int 20089))) tNil)) (tC (.int 2147483563))) (gSub (tVar 0) (tC (.int 1)) rSetL))
  (tRet (tOp rModP (tCB rInt1 (tCons (tOp rDivQ (tOp rModP (tCB rInt1 (tCons (tOp rMulI (tOp (rIx K) (tVar 0) (tC (.int 1))) (tOp (rIx K) (tVar 0) (tC (.int 1)))) tNil)) (tC (.int 2147483477))) (tC (.int 23))) tNil)) (tVar 1)))))

abbrev N__law_pick : List Str := ["_law_pot_here", "_law_some"]
def t__law_pick (K : Frg) (C CN : Addr) : TS := (tRet (tOp (rIx K) (tVar 1) (tcR (SpO C CN S__law_draw) E0 (tCons (tVar 0) (tCons (tCB (rLen K) (tCons (tVar 1) tNil)) tNil)))))

abbrev N__law_small : List Str := ["_law_pot_here", "_law_most"]
def t__law_small (K : Frg) (C CN : Addr) : TS := (tRet (StX.tMakeR C (spIni C []) E0 (tCons (tOp (rSub C CN) (tcR (SpO C CN S__law_draw) E0 (tCons (tVar 0) (tCons (tOp (rAdd C CN) (tOp (rMul C CN) (tC (.int 2)) (tVar 1)) (tC (.int 1))) tNil))) (tVar 1)) (tCons (tcR (SpO C CN S__law_pick) E0 (tCons (tVar 0) (tCons (tLst (tCons (tC (.int 1)) (tCons (tC (.int 1)) (tCons (tC (.int 1)) (tCons (tC (.int 1)) (tCons (tC (.int 2)) (tCons (tC (.int 3)) tNil))))))) tNil))) tNil))))

abbrev N__law_more : List Str := ["_law_rows", "_law_number", "_law_form_here", "_law_i", "_law_j"]
def t__law_more (K : Frg) (C CN : Addr) : TS := (tRet (tLc (iRng1 (tCons (tCB (rLen K) (tCons (tVar 0) tNil)) tNil)) (gName 3) tYes (tLc (iRng1 (tCons (tCB (rLen K) (tCons (tVar 0) tNil)) tNil)) (gName 4) tYes (tOp (rAdd C CN) (tOp (rIx K) (tOp (rIx K) (tVar 0) (tVar 3)) (tVar 4)) (tOp (rMul C CN) (tOp (rMul C CN) (tVar 1) (tOp (rIx K) (tVar 2) (tVar 3))) (tOp (rIx K) (tVar 2) (tVar 4)))) [4]) [3]))

abbrev N__law_is_number : List Str := ["_law_value"]
def t__law_is_number (K : Frg) (C CN : Addr) : TS := (tRet (tOrV (tCB (rIsi K) (tCons (tVar 0) (tCons (tC (.ref C)) tNil))) (tAndV (tCB (rIsi K) (tCons (tVar 0) (tCons (tC (.ty "int")) tNil))) (tNotV (tCB (rIsi K) (tCons (tVar 0) (tCons (tC (.ty "bool")) tNil)))))))

abbrev N__law_is_list : List Str := ["_law_value", "_law_size", "_law_one"]
def t__law_is_list (K : Frg) (C CN : Addr) : TS := (tRet (tAndV (tCB (rIsiT K) (tCons (tVar 0) (tCons (tTup (tCons (tC (.ty "list")) (tCons (tC (.ty "tuple")) tNil))) tNil))) (tAndV (tOp (rEqU K) (tCB (rLen K) (tCons (tVar 0) tNil)) (tVar 1)) (tOp (rEqU K) (tLc (iSeq K (tVar 0)) (gName 2) (tNot (tB (tcR (SpO C CN S__law_is_number) E0 (tCons (tVar 2) tNil)))) (tVar 2) [2]) (tLst tNil)))))

abbrev N__law_form : List Str := ["_law_rows", "_law_first", "_law_second", "_law_size", "_law_i", "_law_j"]
def t__law_form (K : Frg) (C CN : Addr) : TS := (tSeq (tAsg (tCB (rLen K) (tCons (tVar 0) tNil)) (gName 3))
  (tRet (ClX.tCMeth C (SpO C CN S_Rtotal) E0 (tC (.ref C)) (tCons (tLc (iRng1 (tCons (tVar 3) tNil)) (gName 4) tYes (tOp (rMul C CN) (ClX.tCMeth C (SpO C CN S_Rtotal) E0 (tC (.ref C)) (tCons (tLc (iRng1 (tCons (tVar 3) tNil)) (gName 5) tYes (tOp (rMul C CN) (tOp (rIx K) (tOp (rIx K) (tVar 0) (tVar 4)) (tVar 5)) (tOp (rIx K) (tVar 2) (tVar 5))) [5]) tNil)) (tOp (rIx K) (tVar 1) (tVar 4))) [4]) tNil))))

abbrev N__law_looks : List Str := ["_law_rows", "_law_weights", "_law_value"]
def t__law_looks (K : Frg) (C CN : Addr) : TS := (tSeq (tIfS (tNot (tB (tcR (SpO C CN S__law_is_list) E0 (tCons (tVar 2) (tCons (tCB (rLen K) (tCons (tVar 0) tNil)) tNil))))) (tRet (tC (.bl false))) tNext)
  (tRet (tAndV (tOp (rEqU K) (tPrR C (SpO C CN S_Rsign) E0 (tcR (SpO C CN S__law_form) E0 (tCons (tVar 0) (tCons (tVar 1) (tCons (tVar 2) tNil))))) (tC (.int 0))) (tOp rGtI (tPrR C (SpO C CN S_Rsign) E0 (tcR (SpO C CN S__law_form) E0 (tCons (tVar 0) (tCons (tVar 2) (tCons (tVar 2) tNil))))) (tC (.int 0))))))

abbrev N__law_without : List Str := ["_law_rows", "_law_weights", "_law_way", "_law_times", "_law_one", "_law_weight"]
def t__law_without (K : Frg) (C CN : Addr) : TS := (tSeq (tAsg (tMethR C "over" (SpO C CN S_Rover) E0 (tcR (SpO C CN S__law_form) E0 (tCons (tVar 0) (tCons (tVar 1) (tCons (tVar 2) tNil)))) (tCons (tcR (SpO C CN S__law_form) E0 (tCons (tVar 0) (tCons (tVar 1) (tCons (tVar 1) tNil)))) tNil)) (gName 3))
  (tRet (tLc (iZip K (tCons (tVar 2) (tCons (tVar 1) tNil))) (gTup K 2 (gCons (gName 4) (gCons (gName 5) gNil))) tYes (tOp (rSub C CN) (tVar 4) (tOp (rMul C CN) (tVar 3) (tVar 5))) [4, 5])))

/-! ### bodies -/
section
variable {C CN : Addr} {K : Frg} {mg : Str → Option Value} {ρ : Sto} {μ μ1 : Mu} {E : AEn} {x y d : D} {q : Rat} {te : TE} {tt : TT} {tr : TA} {wi : TI} {g : TG} {vs : List Nat} {xs ys ds es : List D} {qs : List Rat} {Γ : Gam} {p : Addr} {t : Pot}
theorem len2P {f : List D → Pot → D → Pot → Prop} (h : ∀ ts t d t', f ts t d t' → ts.length = 1) : ∀ ds μ r μ', pP f ds μ r μ' → ds.length = 2 := fun ds μ r μ' ⟨p, ts, t, d, t', e, _, _, hf, _⟩ => by rw [e, List.length_cons, h _ _ _ _ hf]
theorem len__law_pot : ∀ ds μ r μ', S__law_pot K ds μ r μ' → ds.length = 2 := fun ds μ r μ' ⟨_, ns, k, e, _⟩ => by rw [e]; rfl
theorem len__law_draw : ∀ ds μ r μ', S__law_draw ds μ r μ' → ds.length = 2 := len2P fun ts t d t' ⟨n, e, _⟩ => by rw [e]; rfl
theorem len__law_pick : ∀ ds μ r μ', S__law_pick ds μ r μ' → ds.length = 2 := len2P fun ts t d t' ⟨n, x, e, _⟩ => by rw [e]; rfl
theorem len__law_small : ∀ ds μ r μ', S__law_small ds μ r μ' → ds.length = 2 := len2P fun ts t d t' ⟨n, e, _⟩ => by rw [e]; rfl
theorem len__law_more : ∀ ds μ r μ', S__law_more ds μ r μ' → ds.length = 3 := len1 fun ds d ⟨x, y, z, e, _⟩ => by rw [e]; rfl
theorem len__law_is_number : ∀ ds μ r μ', S__law_is_number ds μ r μ' → ds.length = 1 := len1 fun ds d ⟨x, e, _⟩ => by rw [e]; rfl
theorem len__law_is_list : ∀ ds μ r μ', S__law_is_list ds μ r μ' → ds.length = 2 := len1 fun ds d ⟨x, y, e, _⟩ => by rw [e]; rfl
theorem len__law_form : ∀ ds μ r μ', S__law_form ds μ r μ' → ds.length = 3 := len1 fun ds d ⟨A, x, y, xs, ys, u, v, e, _⟩ => by rw [e]; rfl
theorem len__law_looks : ∀ ds μ r μ', S__law_looks ds μ r μ' → ds.length = 3 := len1 fun ds d ⟨x, y, z, e, _⟩ => by rw [e]; rfl
theorem len__law_without : ∀ ds μ r μ', S__law_without ds μ r μ' → ds.length = 3 := len1 fun ds d ⟨x, y, z, e, _⟩ => by rw [e]; rfl
/-- how a body with a pot keeps its promise -/
theorem bod_pP {ts : TS} {n : Nat} {f : List D → Pot → D → Pot → Prop} (h : ∀ p xs t d t' μ, f xs t d t' → (p, potD t) ∈ μ → PotOk t → AS C ts (startA n (.ptr p :: xs)) μ { nx := fun _ μ2 => d = .non ∧ (setM μ p (potD t')).Sublist μ2, rt := fun r2 μ2 => (r2 = .val d ∨ ∃ ds, r2 = .fresh ds ∧ d = .lst ds) ∧ (setM μ p (potD t')).Sublist μ2, er := fun _ => False }) : Bod C ts n (pP f) := fun ds μ r μ' hS hd Γ hΓ => by
  obtain ⟨p, xs, t, d, t', rfl, hm, ht, hf, rfl, rfl⟩ := hS
  intro σ B H Dn rs ok gx fo
  refine h p xs t d t' μ hf hm ht Γ σ B H Dn rs ok gx ⟨?_, ?_, fun _ _ _ _ _ z => z.elim, fun _ _ _ _ _ z => z.elim, fun _ _ _ z => z.elim⟩
  · rintro ρ μ2 σ B H ⟨rfl, hs⟩; exact fo.nx _ _ _ _ _ ⟨rfl, hs⟩
  · rintro r2 μ2 v B H ⟨rfl | ⟨es, rfl, rfl⟩, hs⟩
    · exact fo.rt _ _ _ _ _ ⟨.inl rfl, hs⟩
    · exact fo.rt _ _ _ _ _ ⟨.inr ⟨es, rfl, rfl⟩, hs⟩
theorem mem_setM {p : Addr} {ds es : List D} : ∀ {μ : Mu}, (p, ds) ∈ μ → (p, es) ∈ setM μ p es := fun {μ} h => List.mem_map.mpr ⟨(p, ds), h, if_pos rfl⟩
theorem setM_setM {p : Addr} {ds es : List D} (μ : Mu) : setM (setM μ p ds) p es = setM μ p es := by
  unfold setM
  rw [List.map_map]
  refine List.map_congr_left fun e _ => ?_
  show (if (if e.1 = p then (p, ds) else e).1 = p then (p, es) else if e.1 = p then (p, ds) else e) = _
  by_cases h : e.1 = p
  · rw [if_pos h, if_pos h, if_pos rfl]
  · rw [if_neg h, if_neg h]
theorem cw {i j : Int} (h1 : i.natAbs < 2 ^ 400000) (h2 : j.natAbs < 2 ^ 400000) : CMulW i j := wide_mul h1 h2 (by decide) (by decide) (by decide)
theorem cw64 {i j : Int} (h1 : -(2 ^ 64) < i ∧ i < 2 ^ 64) (h2 : -(2 ^ 64) < j ∧ j < 2 ^ 64) : CMulW i j := wide_mul (a := 65) (b := 65) (by omega) (by omega) (by decide) (by decide) (by decide)
theorem bod__law_pot : Bod C (t__law_pot K C CN) 3 (S__law_pot K) := fun ds μ r μ' ⟨hμ, ns, k, e, hk, hn, hr⟩ hd Γ hΓ => by
  subst e hμ hr
  refine AS.toG (as_seq (as_set (μ1 := μ') (d := .int (if (k : Int) < ns.length then ((ns.getD k 0).natAbs : Int) else 449 * k + 149)) (ae_if (b := decide ((k : Int) < (ns.length : Nat))) (at_test (ae_op (ae_var rfl) (ae_cb (aa1 (ae_var rfl)) ac_len_s) a2_lt)) (fun z => ?_) (fun z => ?_)) ?_))
  · have z' := of_decide_eq_true z
    have hkn : k < ns.length := by omega
    refine (ae_cb (aa1 (ae_op (ae_var rfl) (ae_var rfl) (ix_s (n := ns.getD k 0) (atI_nat (get_of hkn))))) ac_abs).is ?_
    rw [abs_ite, if_pos z']
  · have z' := of_decide_eq_false z
    refine (ae_op (ae_op ae_int (ae_var rfl) (a2_mulI (cw64 (by decide) (by omega)))) ae_int a2_addI).is ?_
    rw [if_neg z']
  generalize hc : (if (k : Int) < ns.length then ((ns.getD k 0).natAbs : Int) else 449 * k + 149) = c
  have hm := Int.emod_lt_of_pos c (show (0 : Int) < 2147483549 by decide)
  have hm0 := Int.emod_nonneg c (show (2147483549 : Int) ≠ 0 by decide)
  refine as_retF (af_lst (aa2 (ae_cb (aa2 ae_int (ae_op (ae_var rfl) (ae_op ae_int ae_int (a2_powP ⟨by decide, by decide, by decide⟩)) a2_subI)) ac_max) (ae_op (ae_op (ae_cb (aa1 (ae_op (ae_op (ae_op (ae_op (ae_cb (aa1 (ae_var rfl)) ac_int) ae_int (a2_modP (by decide))) ae_int (a2_mulI (cw64 (by omega) (by decide)))) (ae_op ae_int (ae_var rfl) (a2_mulI (cw64 (by decide) (by omega)))) a2_addI) ae_int a2_addI)) ac_int) ae_int (a2_modP (by decide))) ae_int a2_addI)) (Nat.le_of_ble_eq_true rfl)) ?_
  refine ⟨.inl ?_, List.Sublist.refl _⟩
  unfold potD potF
  rw [hc]
  rfl
theorem bod__law_draw : Bod C (t__law_draw K C CN) 3 S__law_draw := bod_pP fun p xs t d t' μ ⟨n, e, hn, hn2, hd, ht'⟩ hm ht => by
  subst e hd ht'
  obtain ⟨t1, t2⟩ := t
  obtain ⟨h1, h2, h3⟩ := ht
  dsimp only at h1 h2 h3
  have i0 : ∀ {ρ : Sto}, ρ[0]? = some (some (.ptr p)) → AE C (tOp (rIx K) (tVar 0) (tC (.int 0))) ρ μ (.int t1) μ := fun h => ae_op (ae_var h) ae_int (ix_o hm rfl)
  refine as_seq (as_if (at_test (ae_op (i0 rfl) ae_int a2_gt)) (fun z => ?_) fun z => as_next ?_)
  · have z' : 0 < t1 := of_decide_eq_true z
    refine as_seq (as_asgH (ae_cb (aa2 (i0 rfl) (ae_var rfl)) (ac_divmod ⟨hn, by omega⟩)) (ah_tup rfl (ahs_cons (ah_sub (k := 0) (ae_var rfl) ae_int hm rfl) (ahs_cons ah_name ahs_nil))) (as_ret (ae_var rfl) ?_))
    show (Ret.val (D.int (t1 % n)) = Ret.val (D.int (draw (t1, t2) n).1) ∨ _) ∧ _
    unfold draw
    rw [if_pos z']
    exact ⟨.inl rfl, List.Sublist.refl _⟩
  · have z' : ¬ 0 < t1 := of_decide_eq_false z
    have i1 : ∀ {ρ : Sto}, ρ[0]? = some (some (.ptr p)) → AE C (tOp (rIx K) (tVar 0) (tC (.int 1))) ρ μ (.int t2) μ := fun h => ae_op (ae_var h) ae_int (ix_o hm rfl)
    refine as_seq (as_item (j := 1) (ae_op (ae_cb (aa1 (ae_op (ae_op (i1 rfl) ae_int (a2_mulI (cw64 (by omega) (by decide)))) ae_int a2_addI)) ac_int) ae_int (a2_modP (by decide))) (ae_var rfl) ae_int hm rfl ?_)
    have hm2 : (p, [D.int t1, D.int (stir t2)]) ∈ setM μ p [D.int t1, D.int (stir t2)] := mem_setM hm
    have so := stir_ok t2
    have i2 : ∀ {ρ : Sto}, ρ[0]? = some (some (.ptr p)) → AE C (tOp (rIx K) (tVar 0) (tC (.int 1))) ρ (setM μ p [D.int t1, D.int (stir t2)]) (.int (stir t2)) (setM μ p [D.int t1, D.int (stir t2)]) := fun h => ae_op (ae_var h) ae_int (ix_o hm2 rfl)
    show AS C _ _ (setM μ p [D.int t1, D.int (stir t2)]) _
    refine as_ret (ae_op (ae_cb (aa1 (ae_op (ae_op (ae_cb (aa1 (ae_op (i2 rfl) (i2 rfl) (a2_mulI (cw64 (by omega) (by omega))))) ac_int) ae_int (a2_modP (by decide))) ae_int (a2_divQ (by decide) (by decide)))) ac_int) (ae_var rfl) (a2_modP hn)) ?_
    unfold draw
    rw [if_neg z']
    exact ⟨.inl rfl, List.Sublist.refl _⟩
theorem bod__law_pick : Bod C (t__law_pick K C CN) 2 S__law_pick := bod_pP fun p ts t d t' μ ⟨xs, x, e, h1, h2, hx, hd, ht'⟩ hm ht => by
  subst e hd ht'
  obtain ⟨k1, k2, _⟩ := draw_ok (n := (xs.length : Nat)) ht (by omega)
  refine as_ret (ae_op (ae_var rfl) (ae_call (μ2 := setM μ p (potD (draw t xs.length).2)) (aa2 (ae_var rfl) (ae_cb (aa1 (ae_var rfl)) ac_len_l)) ⟨p, _, t, _, _, rfl, hm, ht, ⟨(xs.length : Nat), rfl, by omega, by omega, rfl, rfl⟩, rfl, rfl⟩ (dom_setM _ _ _)) (ix_l (d := d) ?_)) ⟨.inl rfl, List.Sublist.refl _⟩
  rw [show (draw t (xs.length : Nat)).1 = (((draw t (xs.length : Nat)).1.toNat : Nat) : Int) by omega]
  exact atI_nat hx
theorem bod__law_small : Bod C (t__law_small K C CN) 2 S__law_small := bod_pP fun p ts t d t' μ ⟨m, e, h1, h2, hd, ht'⟩ hm ht => by
  subst e hd ht'
  obtain ⟨k1, k2, k3⟩ := draw_ok (n := 2 * m + 1) ht (by omega)
  obtain ⟨l1, l2, l3⟩ := draw_ok (n := 6) k3 (by decide)
  have hm2 : (p, potD (draw t (2 * m + 1)).2) ∈ setM μ p (potD (draw t (2 * m + 1)).2) := mem_setM hm
  have hb : ∃ b : Int, (someD.map D.int)[(draw (draw t (2 * m + 1)).2 6).1.toNat]? = some (.int b) ∧ someD.getD (draw (draw t (2 * m + 1)).2 6).1.toNat 1 = b ∧ 0 < b ∧ b < 4 := by
    generalize hz : (draw (draw t (2 * m + 1)).2 6).1.toNat = z
    have hz6 : z < 6 := by omega
    clear hz l1 l2
    match z, hz6 with
    | 0, _ => exact ⟨1, rfl, rfl, by decide, by decide⟩
    | 1, _ => exact ⟨1, rfl, rfl, by decide, by decide⟩
    | 2, _ => exact ⟨1, rfl, rfl, by decide, by decide⟩
    | 3, _ => exact ⟨1, rfl, rfl, by decide, by decide⟩
    | 4, _ => exact ⟨2, rfl, rfl, by decide, by decide⟩
    | 5, _ => exact ⟨3, rfl, rfl, by decide, by decide⟩
    | n + 6, h => omega
  obtain ⟨b, e1, e2, e3, e4⟩ := hb
  have hS : S__law_pick [.ptr p, .lst (someD.map D.int)] (setM μ p (potD (draw t (2 * m + 1)).2)) (.val (.int b)) (setM μ p (potD (draw (draw t (2 * m + 1)).2 6).2)) := ⟨p, _, _, _, _, rfl, hm2, k3, ⟨someD.map D.int, .int b, rfl, by decide, by decide, e1, rfl, rfl⟩, rfl, (setM_setM _).symm⟩
  refine as_ret (μ1 := setM μ p (potD (smallF m t).2)) (d := .rat (smallF m t).1) ((ae_make2 (t := (draw t (2 * m + 1)).1 - m) (b := b) (aa_cons (ae_op (ae_call (μ2 := setM μ p (potD (draw t (2 * m + 1)).2)) (aa2 (ae_var rfl) (ae_op (ae_op ae_int (ae_var rfl) (mul_i (cw64 (by decide) (by omega)))) ae_int add_i)) ⟨p, _, t, _, _, rfl, hm, ht, ⟨2 * m + 1, rfl, by omega, by omega, rfl, rfl⟩, rfl, rfl⟩ (dom_setM _ _ _)) (ae_var rfl) sub_i)
    (aa_cons (ae_call (aa2 (ae_var rfl) (AF.e (af_lst (aa_cons ae_int (aa_cons ae_int (aa_cons ae_int (aa_cons ae_int (aa_cons ae_int (aa_cons ae_int aa_nil)))))) (by show 6 ≤ 100000; decide)))) hS (by rw [dom_setM, dom_setM])) aa_nil)) (by omega) ?_ ?_).is ?_) ⟨.inl rfl, List.Sublist.refl _⟩
  · exact Nat.lt_of_lt_of_le (log2_pos (a := 64) (by decide) (show ((draw t (2 * m + 1)).1 - m).natAbs < 2 ^ 64 by omega)) (by decide)
  · exact Nat.lt_of_lt_of_le (log2_pos (a := 64) (by decide) (show b.natAbs < 2 ^ 64 by omega)) (by decide)
  · unfold smallF
    rw [e2]
theorem intsD_at {f : List Int} {j : Nat} (h : j < f.length) : atI (f.map D.int) (j : Int) = some (.int (f.getD j 0)) := atI_nat (by rw [List.getElem?_map, get_of h]; rfl)
theorem bod__law_more : Bod C (t__law_more K C CN) 5 S__law_more := bod_pS fun ds μ d ⟨A, c, f, e, h1, h2, h3, h4, h5, hd⟩ => by
  subst e hd
  refine as_retF (af_mapY ((moreF A c f).map RLd) (ai_range1 (n := A.length) (aa1 ((ae_cb (aa1 (ae_var rfl)) ac_len_l).is (by rw [List.length_map]))) (by omega)) (by unfold moreF; rw [rngD_length]; simp) (by rw [rngD_length]; omega) fun i x y hx hy => ?_) evF
  obtain ⟨hi, rfl⟩ := rng_get hx
  unfold moreF at hy
  rw [List.getElem?_map, List.getElem?_map, List.getElem?_range hi] at hy
  cases hy
  rw [Int.zero_add]
  refine ⟨_, _, ag_name, by simp, at_yes, AF.e (af_mapY (((List.range A.length).map fun j => ent A i j + c * (f.getD i 0 : Int) * (f.getD j 0 : Int)).map D.rat) (ai_range1 (n := A.length) (aa1 ((ae_cb (aa1 (ae_var rfl)) ac_len_l).is (by rw [List.length_map]))) (by omega)) (by rw [rngD_length]; simp) (by rw [rngD_length]; omega) fun j x y hx hy => ?_)⟩
  obtain ⟨hj, rfl⟩ := rng_get hx
  rw [List.getElem?_map, List.getElem?_map, List.getElem?_range hj] at hy
  cases hy
  rw [Int.zero_add]
  obtain ⟨s1, s2, s3, s4⟩ := h5 i j hi hj
  obtain ⟨_, _, _, s5⟩ := h5 j i hj hi
  exact ⟨_, _, ag_name, by simp, at_yes, ae_op (ents h1 hi hj (ae_var rfl) (ae_var rfl) (ae_var rfl)) (ae_op (ae_op (ae_var rfl) (ae_op (ae_var rfl) (ae_var rfl) (ix_l (intsD_at (by omega)))) (mul_t h4 s4)) (ae_op (ae_var rfl) (ae_var rfl) (ix_l (intsD_at (by omega)))) (mul_t s2 s5)) (add_q s1 s3)⟩
theorem bod__law_is_number (T : Tx K mg) : Bod (cR K) (t__law_is_number K (cR K) (cN K)) 1 S__law_is_number := bod_pS fun ds μ d ⟨x, e, hx, hd⟩ => by
  subst e hd
  refine as_ret (ae_or (b := isR x) (c := isD x "int" && !isD x "bool") (ae_cb (aa2 (ae_var rfl) ae_ptr) (ac_isiR T hx)) fun _ => ae_and (ae_cb (aa2 (ae_var rfl) ae_ty) (ac_isi T (by simp) hx)) fun _ => ae_not (ae_cb (aa2 (ae_var rfl) ae_ty) (ac_isi T (by simp) hx))) ?_
  have e : (isR x || (isD x "int" && !isD x "bool")) = isN x := by cases x <;> first | rfl | (cases hx; done)
  rw [e]
  exact ev
theorem bod__law_is_list (T : Tx K mg) : Bod (cR K) (t__law_is_list K (cR K) (cN K)) 3 S__law_is_list := bod_pS fun ds μ d ⟨v, m, e, h1, h2, h3, hd⟩ => by
  subst e hd
  have c1 : ∀ ρ : Sto, ρ[0]? = some (some v) → AE (cR K) (tCB (rIsiT K) (tCons (tVar 0) (tCons (tTup (tCons (tC (.ty "list")) (tCons (tC (.ty "tuple")) tNil))) tNil))) ρ μ (.bl (isL v)) μ := fun ρ hr => ae_cb (aa2 (ae_var hr) (ae_tup (aa2 ae_ty ae_ty) (Nat.le_of_ble_eq_true rfl))) (ac_isiT T h1)
  refine as_ret (d := .bl (numsB v m)) ?_ ev
  unfold numsB
  cases hL : isL v with
  | false => exact (ae_and0 ((c1 _ rfl).is (by rw [hL]))).is rfl
  | true =>
    have hs : SeqD v (itemsD v) := by
      cases v with
      | lst xs => exact .lst xs
      | tup xs => exact .tup xs
      | _ => cases hL
    refine ae_and1 ((c1 _ rfl).is (by rw [hL])) (ae_and (c := (itemsD v).all isN) ((ae_op (ae_cb (aa1 (ae_var rfl)) (ac_len hs)) (ae_var rfl) (eq_s rfl)).is rfl) fun _ => ?_)
    refine (ae_op (AF.e (af_filter (fun i => (itemsD v).getD i .non) (fun i => !isN ((itemsD v).getD i .non)) (ai_seq hs (ae_var rfl)) (by omega) fun i x hx => ?_)) (AF.e (af_lst aa_nil (Nat.le_of_ble_eq_true rfl))) eq_e).is ?_
    · rw [getDn hx]
      exact ⟨_, _, ag_name, by simp, at_not (at_B (ae_call (aa1 (ae_var rfl)) (pS.mk ⟨_, rfl, h2 x (List.mem_of_getElem? hx), rfl⟩))), fun _ => ae_var rfl⟩
    · refine congrArg D.bl ?_
      rw [Bool.eq_iff_iff, List.isEmpty_iff, List.map_eq_nil_iff, List.filter_eq_nil_iff, List.all_eq_true]
      constructor
      · intro h x hx
        obtain ⟨i, hi, e⟩ := List.mem_iff_getElem.mp hx
        have := h i (List.mem_range.mpr hi)
        rw [getDn (List.getElem?_eq_getElem hi), e] at this
        simpa using this
      · intro h i hi
        have hi' := List.mem_range.mp hi
        rw [getDn (List.getElem?_eq_getElem hi'), h _ (List.getElem_mem hi')]
        simp
theorem ae_tot {ta : TE} (h : AE C te ρ μ (RLd qs) μ) (hl : qs.length ≤ 1000) (hs : SmS qs) : AE C (ClX.tCMeth C (SpO C CN S_Rtotal) E0 (tC (.ref C)) (tCons te tNil)) ρ μ (.rat (sumR qs)) μ := ae_cmeth ae_ptr (aa1 h) (pS.mk ⟨C, qs, rfl, hl, hs, rfl⟩)
theorem nm_ix {v : D} {ti : TE} {i : Nat} (hs : SeqD v xs) (hn : Nms xs qs) (hi : i < qs.length) (h : AE C te ρ μ v μ) (h1 : AE C ti ρ μ (.int (i : Nat)) μ) : ∃ z, Nm z (qs.getD i 0) ∧ AE C (tOp (rIx K) te ti) ρ μ z μ := by
  have hi' : i < xs.length := by rw [hn.length]; exact hi
  obtain ⟨q, hq, hz⟩ := hn.get (List.getElem?_eq_getElem hi')
  rw [getDn hq]
  have ha : atI xs (i : Int) = some xs[i] := atI_nat (List.getElem?_eq_getElem hi')
  cases hs with
  | lst _ => exact ⟨_, hz, ae_op h h1 (ix_l ha)⟩
  | tup _ => exact ⟨_, hz, ae_op h h1 (ix_t ha)⟩
theorem mul_nm {z : D} {p q : Rat} (h : Nm z q) (h1 : Sm p) (h2 : Sm q) : A2 C (rMul C CN) μ (.rat p) z (.rat (p * q)) μ := by
  cases h with
  | rat _ => exact mul_q h1 h2
  | int i => exact mul_t h1 h2
theorem bod__law_form : Bod C (t__law_form K C CN) 6 S__law_form := bod_pS fun ds μ d ⟨A, x, y, xs, ys, u, v, e, hu, hv, hx, hy, hO, hd⟩ => by
  subst e hd
  have hn := hO.n
  refine as_seq (as_set (d := .int (A.length : Nat)) ((ae_cb (aa1 (ae_var rfl)) ac_len_l).is (by rw [List.length_map])) ?_)
  refine as_ret (ae_tot (ta := tVar 0) (qs := formT A x y) (AF.e (af_mapY ((formT A x y).map D.rat) (ai_range1 (n := A.length) (aa1 (ae_var rfl)) (by omega)) (by unfold formT; rw [rngD_length]; simp) (by rw [rngD_length]; omega) fun i w1 w2 h1 h2 => ?_)) (by unfold formT; rw [List.length_map, List.length_range]; omega) hO.all) ev
  obtain ⟨hi, rfl⟩ := rng_get h1
  unfold formT at h2
  rw [List.getElem?_map, List.getElem?_map, List.getElem?_range hi] at h2
  cases h2
  rw [Int.zero_add]
  have hxi : i < x.length := by rw [hO.xl]; exact hi
  refine ⟨_, _, ag_name, by simp, at_yes, ?_⟩
  obtain ⟨z, hz, hze⟩ := nm_ix (K := K) (C := C) (ρ := ((wipeA [some (RMd A), some u, some v, some (D.int (A.length : Nat)), none, none] [4]).set 4 (some (D.int (i : Nat))))) (μ := μ) (te := tVar 1) (ti := tVar 4) hu hx hxi (ae_var rfl) (ae_var rfl)
  have hsm : Sm (sumR (rowT A y i)) := by
    have := (hO.rows i hi).2 (rowT A y i).length
    rwa [List.take_length] at this
  refine ae_op (ae_tot (ta := tVar 0) (qs := rowT A y i) (AF.e (af_mapY ((rowT A y i).map D.rat) (ai_range1 (n := A.length) (aa1 (ae_var rfl)) (by omega)) (by unfold rowT; rw [rngD_length]; simp) (by rw [rngD_length]; omega) fun j w1 w2 h1 h2 => ?_)) (by unfold rowT; rw [List.length_map, List.length_range]; omega) (hO.rows i hi)) hze (mul_nm hz hsm (hO.sx _ (mem_getD hxi)))
  obtain ⟨hj, rfl⟩ := rng_get h1
  unfold rowT at h2
  rw [List.getElem?_map, List.getElem?_map, List.getElem?_range hj] at h2
  cases h2
  rw [Int.zero_add]
  have hyj : j < y.length := by rw [hO.yl]; exact hj
  refine ⟨_, _, ag_name, by simp, at_yes, ?_⟩
  obtain ⟨z2, hz2, hze2⟩ := nm_ix (K := K) (C := C) (ρ := ((wipeA ((wipeA [some (RMd A), some u, some v, some (D.int (A.length : Nat)), none, none] [4]).set 4 (some (D.int (i : Nat)))) [5]).set 5 (some (D.int (j : Nat))))) (μ := μ) (te := tVar 2) (ti := tVar 5) hv hy hyj (ae_var rfl) (ae_var rfl)
  exact ae_op (ents hO.sq hi hj (ae_var rfl) (ae_var rfl) (ae_var rfl)) hze2 (mul_nm hz2 (hO.sA.e hO.sq hi hj) (hO.sy _ (mem_getD hyj)))
theorem Nms.of (r : Row) : Nms (r.map D.rat) r := by
  induction r with
  | nil => exact .nil
  | cons q r ih => exact .cons (.rat q) ih
theorem bod__law_looks : Bod C (t__law_looks K C CN) 3 S__law_looks := bod_pS fun ds μ d ⟨A, w, v, e, hO, hd⟩ => by
  subst e hd
  have hc : ∀ ρ : Sto, ρ[0]? = some (some (RMd A)) → ρ[2]? = some (some v) → AE C (tcR (SpO C CN S__law_is_list) E0 (tCons (tVar 2) (tCons (tCB (rLen K) (tCons (tVar 0) tNil)) tNil))) ρ μ (.bl (numsB v A.length)) μ := fun ρ r0 r2 =>
    (ae_call (aa2 (ae_var r2) (ae_cb (aa1 (ae_var r0)) ac_len_l)) (pS.mk ⟨_, _, rfl, hO.pl, hO.it, hO.n, rfl⟩)).is (by rw [List.length_map])
  unfold lookF
  cases hb : numsB v A.length with
  | false =>
    rw [hb] at hc
    exact as_seq (as_ifT (at_not (b := false) (at_B (hc _ rfl rfl))) (as_ret ae_bl ev))
  | true =>
    rw [hb] at hc
    obtain ⟨qs, q1, f1, f2⟩ := hO.q hb
    have hseq : SeqD v (itemsD v) := by
      unfold numsB at hb
      rw [Bool.and_eq_true] at hb
      cases v with
      | lst xs => exact .lst xs
      | tup xs => exact .tup xs
      | _ => cases hb.1
    rw [numsD_of q1]
    refine as_seq (as_ifF (at_not (b := true) (at_B (hc _ rfl rfl))) (as_next ?_))
    refine as_ret (ae_and (b := decide (formF A w qs = 0)) (c := decide (0 < formF A qs qs)) ((ae_op (ae_sign (ae_call (aa3 (ae_var rfl) (ae_var rfl) (ae_var rfl)) (pS.mk ⟨A, w, qs, _, _, _, _, rfl, .lst _, hseq, .of w, q1, f1, rfl⟩))) ae_int (eq_s rfl)).is (congrArg D.bl sgn_eq0)) fun _ => (ae_op (ae_sign (ae_call (aa3 (ae_var rfl) (ae_var rfl) (ae_var rfl)) (pS.mk ⟨A, qs, qs, _, _, _, _, rfl, hseq, hseq, q1, q1, f2, rfl⟩))) ae_int a2_gt).is (congrArg D.bl sgn_gt)) ev
theorem bod__law_without : Bod C (t__law_without K C CN) 6 S__law_without := bod_pS fun ds μ d ⟨A, w, v, e, f1, f2, s1, s2, hz, ⟨l1, l2, l3, l4⟩, hd⟩ => by
  subst e hd
  refine as_seq (as_set (ae_over (ae_call (aa3 (ae_var rfl) (ae_var rfl) (ae_var rfl)) (pS.mk ⟨A, w, v, _, _, _, _, rfl, .lst _, .lst _, .of w, .of v, f1, rfl⟩)) (ae_call (aa3 (ae_var rfl) (ae_var rfl) (ae_var rfl)) (pS.mk ⟨A, w, w, _, _, _, _, rfl, .lst _, .lst _, .of w, .of w, f2, rfl⟩)) s1 s2 hz) ?_)
  refine as_retF (af_mapY ((withoutF A w v).map D.rat) (ai_zip (aa2 (ae_var rfl) (ae_var rfl))) (by unfold withoutF lessR; exact zip_len) (by rw [prsD_length, List.length_map]; have := f1.yl; have := f1.n; omega) fun i x y hx hy => ?_) evF
  unfold withoutF lessR at hy
  obtain ⟨s, t, hs, ht, rfl, rfl⟩ := zip_get hx hy
  refine ⟨_, _, ag_tup rfl (ags_cons ag_name (ags_cons ag_name ags_nil)), by simp, at_yes, (ae_op (ae_var rfl) (ae_op (ae_var rfl) (ae_var rfl) (mul_q l1 (l3 t ht))) (sub_q (l2 s hs) (by rw [Rat.mul_comm]; exact l4 t ht))).is ?_⟩
  rw [Rat.mul_comm]
end
end OC
set_option maxHeartbeats 4000000
/-! OcX8: the law, minors: promises, readings, bodies. -/
namespace OC
open PySem PySem.Spec PyProof.Rows L2

/-! ### promises -/
abbrev natsD (l : List Nat) : D := .lst (l.map natD)
def S__law_choices : Sc := pS fun ds d => ∃ n m : Nat, ds = [natD n, natD m] ∧ n ≤ 4 ∧ m ≤ 100 ∧ d = .lst ((choF n m).map natsD)
def S_detN (n : Nat) : Sc := pS fun ds d => ∃ A : Mat, ds = [RMd A] ∧ SqM A ∧ A.length ≤ n ∧ A.length ≤ 100 ∧ DetOk A.length A ∧ d = .rat (detF A.length A)
def SD : Nat → Sc
  | 0 => fun _ _ _ _ => False
  | n + 1 => S_detN n
def S__law_determinant : Sc := S_detN 4
def S__law_minor : Sc := pS fun ds d => ∃ (A : Mat) (ps : List Nat), ds = [RMd A, natsD ps] ∧ SqM A ∧ (∀ i ∈ ps, i < A.length) ∧ ps.length ≤ 4 ∧ DetOk ps.length (subM A ps) ∧ d = .rat (minF A ps)
structure SumsOk (A : Mat) : Prop where
  sq : SqM A
  n : A.length ≤ 4
  det : ∀ m ps, ps ∈ choF A.length m → DetOk ps.length (subM A ps)
  sm : ∀ m, m ≤ A.length → SmS (sumsT A m)
def S__law_sums : Sc := pS fun ds d => ∃ A : Mat, ds = [RMd A] ∧ SumsOk A ∧ d = RLd (sumsF A)
def S__law_changes : Sc := pS fun ds d => ∃ l : List Rat, ds = [RLd l] ∧ l.length ≤ 1000 ∧ d = natD (changesF l)
def S__law_signs : Sc := pS fun ds d => ∃ A : Mat, ds = [RMd A] ∧ SumsOk A ∧ (∀ q ∈ sumsF A, Sm q) ∧ d = .tup [natD (aboveN A), natD (belowN A), .int ((A.length : Int) - aboveN A - belowN A)]

abbrev N__law_choices : List Str := ["_law_many", "_law_some", "_law_found", "_law_number", "_law_one"]
def t__law_choices (K : Frg) (C CN : Addr) : TS := (tSeq (tAsg (tLst (tCons (tLst tNil) tNil)) (gName 2))
  (tSeq (tFor (iRng1 (tCons (tVar 0) tNil)) (gName 3) (tAsg (tOp (rAdd C CN) (tVar 2) (tLc (iSeq K (tVar 2)) (gName 4) (tTest (tOp rLtI (tCB (rLen K) (tCons (tVar 4) tNil)) (tVar 1))) (tOp (rAdd C CN) (tVar 4) (tLst (tCons (tVar 3) tNil))) [4])) (gName 2)))
  (tRet (tLc (iSeq K (tVar 2)) (gName 4) (tTest (tOp (rEqU K) (tCB (rLen K) (tCons (tVar 4) tNil)) (tVar 1))) (tVar 4) [4]))))

abbrev N__law_determinant : List Str := ["_law_rows", "_law_found", "_law_sign", "_law_at", "_law_entry", "_law_row"]
def t__law_determinant (K : Frg) (C CN : Addr) (SX : Sc) : TS := (tSeq (tIfS (tTest (tOp (rEqU K) (tCB (rLen K) (tCons (tVar 0) tNil)) (tC (.int 0)))) (tRet (StX.tMakeR C (spIni C [.int 1]) E0 (tCons (tC (.int 1)) tNil))) tNext)
  (tSeq (tPar 1 2 (tCons (StX.tMakeR C (spIni C [.int 1]) E0 (tCons (tC (.int 0)) tNil)) (tCons (tC (.int 1)) tNil)))
  (tSeq (tFor (iEnum K (tCons (tOp (rIx K) (tVar 0) (tC (.int 0))) tNil)) (gTup K 2 (gCons (gName 3) (gCons (gName 4) gNil))) (tSeq (tIfS (tTest (tOp (rNeU C CN K) (tPrR C (SpO C CN S_Rsign) E0 (tVar 4)) (tC (.int 0)))) (tAsg (tOp (rAdd C CN) (tVar 1) (tOp (rMul C CN) (tOp (rMul C CN) (tcR (SpO C CN SX) E0 (tCons (tLc (iSeq K (tSl (rSlL K) (tVar 0) (tPart (tC (.int 1))) tNoPart)) (gName 5) tYes (tOp (rAdd C CN) (tSl (rSlL K) (tVar 5) tNoPart (tPart (tVar 3))) (tSl (rSlL K) (tVar 5) (tPart (tOp (rAdd C CN) (tVar 3) (tC (.int 1)))) tNoPart)) [5]) tNil)) (tVar 4)) (tVar 2))) (gName 1)) tNext)
  (tAsg (tOp (rSub C CN) (tC (.int 0)) (tVar 2)) (gName 2))))
  (tRet (tVar 1)))))

abbrev N__law_minor : List Str := ["_law_rows", "_law_places", "_law_i", "_law_j"]
def t__law_minor (K : Frg) (C CN : Addr) : TS := (tRet (tcR (SpO C CN S__law_determinant) E0 (tCons (tLc (iSeq K (tVar 1)) (gName 2) tYes (tLc (iSeq K (tVar 1)) (gName 3) tYes (tOp (rIx K) (tOp (rIx K) (tVar 0) (tVar 2)) (tVar 3)) [3]) [2]) tNil)))

abbrev N__law_sums : List Str := ["_law_rows", "_law_found", "_law_many", "_law_places"]
def t__law_sums (K : Frg) (C CN : Addr) : TS := (tSeq (tAsg (tLst tNil) (gName 1))
  (tSeq (tFor (iRng1 (tCons (tOp (rAdd C CN) (tCB (rLen K) (tCons (tVar 0) tNil)) (tC (.int 1))) tNil)) (gName 2) (tDrop (tBM K "list" rAppend (tVar 1) (tCons (ClX.tCMeth C (SpO C CN S_Rtotal) E0 (tC (.ref C)) (tCons (tLc (iSeq K (tcR (SpO C CN S__law_choices) E0 (tCons (tCB (rLen K) (tCons (tVar 0) tNil)) (tCons (tVar 2) tNil)))) (gName 3) tYes (tcR (SpO C CN S__law_minor) E0 (tCons (tVar 0) (tCons (tVar 3) tNil))) [3]) tNil)) tNil))))
  (tRet (tVar 1))))

abbrev N__law_changes : List Str := ["_law_numbers", "_law_left", "_law_one", "_law_other"]
def t__law_changes (K : Frg) (C CN : Addr) : TS := (tSeq (tAsg (tLc (iSeq K (tVar 0)) (gName 2) (tTest (tOp rNe (tPrR C (SpO C CN S_Rsign) E0 (tVar 2)) (tC (.int 0)))) (tPrR C (SpO C CN S_Rsign) E0 (tVar 2)) [2]) (gName 1))
  (tRet (tCB (rLen K) (tCons (tLc (iZip K (tCons (tVar 1) (tCons (tSl (rSlL K) (tVar 1) (tPart (tC (.int 1))) tNoPart) tNil))) (gTup K 2 (gCons (gName 2) (gCons (gName 3) gNil))) (tTest (tOp rNe (tVar 2) (tVar 3))) (tC (.int 1)) [2, 3]) tNil))))

abbrev N__law_signs : List Str := ["_law_rows", "_law_sums_here", "_law_above", "_law_below", "_law_many", "_law_one"]
def t__law_signs (K : Frg) (C CN : Addr) : TS := (tSeq (tAsg (tcR (SpO C CN S__law_sums) E0 (tCons (tVar 0) tNil)) (gName 1))
  (tSeq (tAsg (tcR (SpO C CN S__law_changes) E0 (tCons (tLc (iEnum K (tCons (tVar 1) tNil)) (gTup K 2 (gCons (gName 4) (gCons (gName 5) gNil))) tYes (tIf (tTest (tOp (rEqU K) (tOp rModP (tCB rInt1 (tCons (tVar 4) tNil)) (tC (.int 2))) (tC (.int 0)))) (tVar 5) (tUn (rNeg C CN) (tVar 5))) [4, 5]) tNil)) (gName 2))
  (tSeq (tAsg (tcR (SpO C CN S__law_changes) E0 (tCons (tVar 1) tNil)) (gName 3))
  (tRet (tTup (tCons (tVar 2) (tCons (tVar 3) (tCons (tOp (rSub C CN) (tOp (rSub C CN) (tCB (rLen K) (tCons (tVar 0) tNil)) (tVar 2)) (tVar 3)) tNil))))))))

/-! ### bodies -/
section
variable {C CN : Addr} {K : Frg} {mg : Str → Option Value} {ρ : Sto} {μ μ1 : Mu} {E : AEn} {x y d : D} {q : Rat} {te : TE} {tt : TT} {tr : TA} {wi : TI} {g : TG} {vs : List Nat} {xs ys ds es : List D} {qs : List Rat} {Γ : Gam} {p : Addr} {t : Pot}
theorem len__law_choices : ∀ ds μ r μ', S__law_choices ds μ r μ' → ds.length = 2 := len1 fun ds d ⟨x, y, e, _⟩ => by rw [e]; rfl
theorem len_detN (n : Nat) : ∀ ds μ r μ', S_detN n ds μ r μ' → ds.length = 1 := len1 fun ds d ⟨x, e, _⟩ => by rw [e]; rfl
theorem len__law_minor : ∀ ds μ r μ', S__law_minor ds μ r μ' → ds.length = 2 := len1 fun ds d ⟨x, y, e, _⟩ => by rw [e]; rfl
theorem len__law_sums : ∀ ds μ r μ', S__law_sums ds μ r μ' → ds.length = 1 := len1 fun ds d ⟨x, e, _⟩ => by rw [e]; rfl
theorem len__law_changes : ∀ ds μ r μ', S__law_changes ds μ r μ' → ds.length = 1 := len1 fun ds d ⟨x, e, _⟩ => by rw [e]; rfl
theorem len__law_signs : ∀ ds μ r μ', S__law_signs ds μ r μ' → ds.length = 1 := len1 fun ds d ⟨x, e, _⟩ => by rw [e]; rfl
theorem cut_take {l : List D} {k : Nat} : cutD l none (some (k : Int)) = l.take k := by
  unfold cutD
  rw [HT.sIx_none, HT.sIx_nat, List.drop_zero, Nat.sub_zero]
  by_cases h : k ≤ l.length
  · rw [Nat.min_eq_left h]
  · rw [Nat.min_eq_right (by omega), List.take_length, List.take_of_length_le (by omega)]
theorem cut_drop {l : List D} {k : Nat} : cutD l (some (k : Int)) none = l.drop k := by
  unfold cutD
  rw [HT.sIx_none, HT.sIx_nat]
  by_cases h : k ≤ l.length
  · rw [Nat.min_eq_left h, List.take_of_length_le (by rw [List.length_drop]; exact Nat.le_refl _)]
  · rw [Nat.min_eq_right (by omega), List.drop_length, List.drop_eq_nil_of_le (by omega), List.take_nil]
/-- a filter comprehension over a known list -/
theorem af_pick {α : Type} {l : List α} {f g' : α → D} {b : α → Bool} {js : List Nat} (hi : AI C wi ρ μ (l.map f) μ1) (hlen : l.length ≤ 100000)
    (hs : ∀ a ∈ l, ∃ ρ2 js, AG C g (f a) (wipeA ρ vs) js ρ2 ∧ (∀ j ∈ js, j ∈ vs) ∧ AT C tt ρ2 μ1 (b a) μ1 ∧ (b a = true → AE C te ρ2 μ1 (g' a) μ1)) : AF C (tLc wi g tt te vs) ρ μ ((l.filter b).map g') μ1 := by
  by_cases hne : l = []
  · subst hne
    exact (af_filter (fun _ => D.non) (fun _ => false) hi (by simp) fun i d hd => by cases hd).is rfl
  have a0 : α := l.head hne
  have key : ∀ i a, l[i]? = some a → l.getD i a0 = a := fun i a h => getDn h
  refine (af_filter (fun i => g' (l.getD i a0)) (fun i => b (l.getD i a0)) hi (by rw [List.length_map]; exact hlen) fun i d hd => ?_).is ?_
  · rw [List.getElem?_map] at hd
    cases e : l[i]? with
    | none => rw [e] at hd; cases hd
    | some a =>
      rw [e] at hd
      cases hd
      rw [key i a e]
      exact hs a (List.mem_of_getElem? e)
  · rw [List.length_map]
    have e1 : l = (List.range l.length).map fun i => l.getD i a0 := by
      refine List.ext_getElem (by simp) fun i h1 h2 => ?_
      rw [List.getElem_map, List.getElem_range]
      exact (getDn (List.getElem?_eq_getElem h1)).symm
    conv => rhs; rw [e1]
    rw [List.filter_map, List.map_map]
    rfl
theorem bod__law_choices : Bod C (t__law_choices K C CN) 5 S__law_choices := bod_pS fun ds μ d ⟨n, m, e, hn, hm, hd⟩ => by
  subst e hd
  refine as_seq (as_set (d := .lst ((choL 0 m).map natsD)) (AF.e (af_lst (aa1 (AF.e (af_lst aa_nil (Nat.le_of_ble_eq_true rfl)))) (Nat.le_of_ble_eq_true rfl))) ?_)
  have bnd : ∀ k, k ≤ 4 → (choL k m).length ≤ 16 := fun k hk => Nat.le_trans (choL_length m k) (Nat.pow_le_pow_right (by decide) hk)
  have hlt : ∀ (l : List Nat) (ρ : Sto) (i : Nat), ρ[4]? = some (some (natsD l)) → ρ[1]? = some (some (natD m)) → AT C (tTest (tOp rLtI (tCB (rLen K) (tCons (tVar 4) tNil)) (tVar 1))) ρ μ (decide (l.length < m)) μ := fun l ρ i h4 h1 =>
    at_test ((ae_op (ae_cb (aa1 (ae_var h4)) ac_len_l) (ae_var h1) a2_lt).is (by rw [List.length_map]; exact congrArg D.bl (decide_eq_decide.mpr (by omega))))
  refine as_seq (as_for (fun k ρ' μ' => μ' = μ ∧ ρ'.length = 5 ∧ ρ'[1]? = some (some (natD m)) ∧ ρ'[2]? = some (some (.lst ((choL k m).map natsD)))) (ai_range1 (n := n) (aa1 (ae_var rfl)) (by omega)) ⟨rfl, rfl, rfl, rfl⟩ (fun k dd ρ' μ' hp hP => ?_) fun ρ' μ' hP => ?_)
  · obtain ⟨rfl, hl, r1, r2⟩ := hP
    obtain ⟨hk, rfl⟩ := rng_get hp
    rw [Int.zero_add]
    have s1 := get_set_ne (i := 3) (x := some (D.int (k : Nat))) (by decide) r1
    have s2 := get_set_ne (i := 3) (x := some (D.int (k : Nat))) (by decide) r2
    have s3 : (ρ'.set 3 (some (D.int (k : Nat))))[3]? = some (some (.int (k : Nat))) := get_set_eq (by omega)
    have sl : (ρ'.set 3 (some (D.int (k : Nat)))).length = 5 := by rw [List.length_set]; exact hl
    refine ⟨_, _, ag_name, ?_⟩
    generalize ρ'.set 3 (some (D.int (k : Nat))) = ρ2 at s1 s2 s3 sl
    have hb := bnd k (by omega)
    refine as_set (d := .lst ((choL (k + 1) m).map natsD)) ((ae_op (ae_var s2) (AF.e (af_pick (l := choL k m) (f := natsD) (b := fun l => decide (l.length < m)) (g' := fun l => natsD (l ++ [k])) (js := []) (ai_seqL (ae_var s2)) (by omega) fun l hl' => ?_)) (add_l ?_)).is ?_) ⟨rfl, by rw [List.length_set]; exact sl, get_set_ne (by decide) s1, get_set_eq (by omega)⟩
    · have u4 : ((wipeA ρ2 [4]).set 4 (some (natsD l)))[4]? = some (some (natsD l)) := get_set_eq (by show 4 < (ρ2.set 4 none).length; rw [List.length_set]; omega)
      have u1 : ((wipeA ρ2 [4]).set 4 (some (natsD l)))[1]? = some (some (natD m)) := get_set_ne (by decide) (get_set_ne (by decide) s1)
      have u3 : ((wipeA ρ2 [4]).set 4 (some (natsD l)))[3]? = some (some (.int (k : Nat))) := get_set_ne (by decide) (get_set_ne (by decide) s3)
      have hll := (choL_item m k l hl').1
      exact ⟨_, _, ag_name, by simp, hlt l _ 0 u4 u1, fun _ => (ae_op (ae_var u4) (AF.e (af_lst (aa1 (ae_var u3)) (Nat.le_of_ble_eq_true rfl))) (add_l (by rw [List.length_map]; show _ + 1 ≤ 100000; omega))).is (by unfold natsD; rw [List.map_append]; rfl)⟩
    · rw [List.length_map, List.length_map]
      have := List.length_filter_le (fun l => decide (l.length < m)) (choL k m)
      omega
    · rw [choL_succ]
      unfold choS
      rw [List.map_append, List.map_map]
      rfl
  · obtain ⟨rfl, hl, r1, r2⟩ := hP
    rw [rngD_length] at r2
    refine as_retF (af_pick (l := choL n m) (f := natsD) (b := fun l => decide (l.length = m)) (g' := natsD) (js := []) (ai_seqL (ae_var r2)) (by have := bnd n hn; omega) fun l hl' => ?_) evF
    have u4 : ((wipeA ρ' [4]).set 4 (some (natsD l)))[4]? = some (some (natsD l)) := get_set_eq (by show 4 < (ρ'.set 4 none).length; rw [List.length_set]; omega)
    have u1 : ((wipeA ρ' [4]).set 4 (some (natsD l)))[1]? = some (some (natD m)) := get_set_ne (by decide) (get_set_ne (by decide) r1)
    exact ⟨_, _, ag_name, by simp, at_test ((ae_op (ae_cb (aa1 (ae_var u4)) ac_len_l) (ae_var u1) (eq_s rfl)).is (by rw [List.length_map]; exact congrArg D.bl (decide_eq_decide.mpr (by omega)))), fun _ => ae_var u4⟩
theorem sgI_succ (i : Nat) : 0 - sgI i = sgI (i + 1) := by
  unfold sgI
  rcases Nat.mod_two_eq_zero_or_one i with h | h
  · rw [if_pos h, if_neg (by omega)]; rfl
  · rw [if_neg (by omega), if_pos (by omega)]; rfl
theorem sgI_sm (i : Nat) : Sm ((sgI i : Int) : Rat) := sm_int (by unfold sgI; split <;> decide)
theorem minorM_sq {A : Mat} (h : SqM A) {i n : Nat} (hn : A.length = n + 1) (hi : i < n + 1) : SqM (minorM A i) ∧ (minorM A i).length = n := by
  have hl : (minorM A i).length = n := by unfold minorM; rw [List.length_map, List.length_drop, hn]; omega
  refine ⟨fun r hr => ?_, hl⟩
  rw [hl]
  unfold minorM at hr
  obtain ⟨r0, h0, rfl⟩ := List.mem_map.mp hr
  have := h r0 (List.mem_of_mem_drop h0)
  rw [List.length_append, List.length_take, List.length_drop, this, hn]
  omega
theorem bod_det (n : Nat) : Bod C (t__law_determinant K C CN (SD n)) 6 (S_detN n) := bod_pS fun ds μ d ⟨A, e, hq, hn, h100, hO, hd⟩ => by
  subst e hd
  have hc : AE C (tOp (rEqU K) (tCB (rLen K) (tCons (tVar 0) tNil)) (tC (.int 0))) (startA 6 [RMd A]) μ (.bl (decide (A.length = 0))) μ := (ae_op (ae_cb (aa1 (ae_var rfl)) ac_len_l) ae_int (eq_s rfl)).is (by rw [List.length_map]; exact congrArg D.bl (decide_eq_decide.mpr (by omega)))
  cases hk : A.length with
  | zero =>
    rw [hk] at hc
    exact as_seq (as_ifT (at_test hc) (as_ret (ae_one 1) ev))
  | succ k =>
    rw [hk] at hc hO
    obtain ⟨m, rfl⟩ : ∃ m, n = m + 1 := ⟨n - 1, by omega⟩
    have hr0 : (A.getD 0 []).length = k + 1 := by rw [hq _ (row_mem (by omega)), hk]
    refine as_seq (as_ifF (at_test hc) (as_next ?_))
    refine as_seq (as_par (aa2 (ae_one 0) ae_int) ?_)
    refine as_seq (as_for (fun i ρ' μ' => μ' = μ ∧ ρ'.length = 6 ∧ ρ'[0]? = some (some (RMd A)) ∧ ρ'[1]? = some (some (.rat (detP (detF k) A i))) ∧ ρ'[2]? = some (some (.int (sgI i)))) (ai_enum (aa1 (ae_op (ae_var rfl) ae_int (ix_l (RMd_at (i := 0) (by omega)))))) ⟨rfl, rfl, rfl, rfl, rfl⟩ (fun i dd ρ' μ' hp hP => ?_) fun ρ' μ' hP => ?_)
    · obtain ⟨rfl, hl, r0, r1, r2⟩ := hP
      obtain ⟨z, hz, rfl⟩ := enuD_get hp
      obtain ⟨q0, hq0, rfl⟩ := map_rat_get hz
      have hi : i < (A.getD 0 []).length := (List.getElem?_eq_some_iff.mp hq0).1
      have he : q0 = ent A 0 i := by unfold ent; rw [getDn hq0]
      subst he
      obtain ⟨o1, o2, o3⟩ := hO i hi
      refine ⟨_, _, ag_tup rfl (ags_cons ag_name (ags_cons ag_name ags_nil)), ?_⟩
      have s0 : ((ρ'.set 3 (some (D.int (i : Nat)))).set 4 (some (.rat (ent A 0 i))))[0]? = some (some (RMd A)) := get_set_ne (by decide) (get_set_ne (by decide) r0)
      have s1 : ((ρ'.set 3 (some (D.int (i : Nat)))).set 4 (some (.rat (ent A 0 i))))[1]? = some (some (.rat (detP (detF k) A i))) := get_set_ne (by decide) (get_set_ne (by decide) r1)
      have s2 : ((ρ'.set 3 (some (D.int (i : Nat)))).set 4 (some (.rat (ent A 0 i))))[2]? = some (some (.int (sgI i))) := get_set_ne (by decide) (get_set_ne (by decide) r2)
      have s3 : ((ρ'.set 3 (some (D.int (i : Nat)))).set 4 (some (.rat (ent A 0 i))))[3]? = some (some (.int (i : Nat))) := get_set_ne (by decide) (get_set_eq (by omega))
      have s4 : ((ρ'.set 3 (some (D.int (i : Nat)))).set 4 (some (.rat (ent A 0 i))))[4]? = some (some (.rat (ent A 0 i))) := get_set_eq (by rw [List.length_set]; omega)
      have sl : ((ρ'.set 3 (some (D.int (i : Nat)))).set 4 (some (.rat (ent A 0 i)))).length = 6 := by rw [List.length_set, List.length_set]; exact hl
      generalize (ρ'.set 3 (some (D.int (i : Nat)))).set 4 (some (.rat (ent A 0 i))) = ρ2 at s0 s1 s2 s3 s4 sl
      refine as_seq (AS.imp (E' := { nx := fun ρ3 μ3 => μ3 = μ' ∧ ρ3.length = 6 ∧ ρ3[0]? = some (some (RMd A)) ∧ ρ3[1]? = some (some (.rat (detP (detF k) A (i + 1)))) ∧ ρ3[2]? = some (some (.int (sgI i))), rt := fun _ _ => False }) ?_ (fun ρ3 μ3 hP3 => ?_) (fun _ _ z => z.elim) (fun _ _ z => z.elim) (fun _ _ z => z.elim) fun _ z => z.elim)
      · refine as_if (ae_nz (ae_var s4)) (fun z => ?_) (fun z => as_next ⟨rfl, sl, s0, ?_, s2⟩)
        · have z' : ent A 0 i ≠ 0 := of_decide_eq_true z
          obtain ⟨o4, o5, o6, o7⟩ := o3 z'
          obtain ⟨m1, m2⟩ := minorM_sq hq hk (i := i) (by omega)
          have hrow : ∀ r ∈ A, r.length ≤ 100 := fun r hr => by rw [hq r hr]; exact h100
          have hA1 : (A.drop 1).length = k := by rw [List.length_drop, hk]; omega
          have hcut : cutD (A.map RLd) (some 1) none = (A.drop 1).map RLd := by rw [List.map_drop]; exact cut_drop (k := 1)
          have hcall : AE C (tcR (SpO C CN (SD (m + 1))) E0 (tCons (tLc (iSeq K (tSl (rSlL K) (tVar 0) (tPart (tC (.int 1))) tNoPart)) (gName 5) tYes (tOp (rAdd C CN) (tSl (rSlL K) (tVar 5) tNoPart (tPart (tVar 3))) (tSl (rSlL K) (tVar 5) (tPart (tOp (rAdd C CN) (tVar 3) (tC (.int 1)))) tNoPart)) [5]) tNil)) ρ2 μ' (.rat (detF k (minorM A i))) μ' := by
            refine ae_call (aa1 (AF.e (af_mapY ((minorM A i).map RLd) (ai_seqL ((AF.e (af_slice (ae_var s0) (ao_some ae_int) ao_none)).is (d' := .lst ((A.drop 1).map RLd)) (by rw [hcut]))) (by rw [List.length_map, List.length_map]; unfold minorM; rw [List.length_map]) (by rw [List.length_map, hA1]; omega) fun j x y hx hy => ?_))) (S := S_detN m) (pS.mk ⟨minorM A i, rfl, m1, by omega, by omega, by rw [m2]; exact o4, by rw [m2]⟩)
            rw [List.getElem?_map] at hx
            unfold minorM at hy
            rw [List.getElem?_map, List.getElem?_map] at hy
            cases hr : (A.drop 1)[j]? with
            | none => rw [hr] at hx; cases hx
            | some r =>
              rw [hr] at hx hy
              cases hx
              cases hy
              have hrm : r ∈ A := List.mem_of_mem_drop (List.mem_of_getElem? hr)
              have hrl := hrow r hrm
              have u5 : ((wipeA ρ2 [5]).set 5 (some (RLd r)))[5]? = some (some (RLd r)) := get_set_eq (by show 5 < (ρ2.set 5 none).length; rw [List.length_set]; omega)
              have u3 : ((wipeA ρ2 [5]).set 5 (some (RLd r)))[3]? = some (some (.int (i : Nat))) := get_set_ne (by decide) (get_set_ne (by decide) s3)
              refine ⟨_, _, ag_name, by simp, at_yes, (ae_op (AF.e (af_slice (ae_var u5) ao_none (ao_some (ae_var u3)))) (AF.e (af_slice (ae_var u5) (ao_some (ae_op (ae_var u3) ae_int add_i)) ao_none)) (add_l ?_)).is ?_⟩
              · rw [show ((i : Nat) : Int) + 1 = ((i + 1 : Nat) : Int) from rfl, cut_take, cut_drop, List.length_take, List.length_drop, List.length_map]
                omega
              · rw [show ((i : Nat) : Int) + 1 = ((i + 1 : Nat) : Int) from rfl, cut_take, cut_drop]
                unfold RLd
                rw [List.map_append, List.map_take, List.map_drop]
          refine as_set (d := .rat (detP (detF k) A (i + 1))) ((ae_op (ae_var s1) (ae_op (ae_op hcall (ae_var s4) (mul_q (p := detF k (minorM A i)) o5 o1)) (ae_var s2) (mul_t (p := detF k (minorM A i) * ent A 0 i) o6 (sgI_sm i))) (add_q o2 o7)).is ?_) ⟨rfl, by rw [List.length_set]; exact sl, get_set_ne (by decide) s0, get_set_eq (by omega), get_set_ne (by decide) s2⟩
          show D.rat (detP (detF k) A i + detF k (minorM A i) * ent A 0 i * (sgI i : Int)) = D.rat (detP (detF k) A i + detT (detF k) A i)
          unfold detT
          rw [if_pos z']
        · have z' : ¬ ent A 0 i ≠ 0 := of_decide_eq_false z
          rw [s1]
          show some (some (D.rat (detP (detF k) A i))) = some (some (D.rat (detP (detF k) A i + detT (detF k) A i)))
          unfold detT
          rw [if_neg z', Rat.add_zero]
      · obtain ⟨rfl, zl, z0, z1, z2⟩ := hP3
        exact as_set ((ae_op ae_int (ae_var z2) sub_i).is (by rw [sgI_succ])) ⟨rfl, by rw [List.length_set]; exact zl, get_set_ne (by decide) z0, get_set_ne (by decide) z1, get_set_eq (by omega)⟩
    · obtain ⟨rfl, hl, r0, r1, r2⟩ := hP
      rw [enuD_length, List.length_map] at r1
      exact as_ret (ae_var r1) ev
theorem get_mapped {α : Type} {f : α → D} {l : List α} {i : Nat} {x : D} (h : (l.map f)[i]? = some x) : ∃ a, l[i]? = some a ∧ x = f a := by
  rw [List.getElem?_map] at h
  cases e : l[i]? with
  | none => rw [e] at h; cases h
  | some a => rw [e] at h; cases h; exact ⟨a, rfl, rfl⟩
theorem get_map2 {α : Type} {f : α → D} {l : List α} {i : Nat} {a : α} {y : D} (h : (l.map f)[i]? = some y) (e : l[i]? = some a) : y = f a := by
  rw [List.getElem?_map, e] at h; cases h; rfl
theorem subM_sq (A : Mat) (ps : List Nat) : SqM (subM A ps) := fun r hr => by
  unfold subM at hr ⊢
  obtain ⟨i, _, rfl⟩ := List.mem_map.mp hr
  rw [List.length_map, List.length_map]
theorem bod__law_minor : Bod C (t__law_minor K C CN) 4 S__law_minor := bod_pS fun ds μ d ⟨A, ps, e, hq, hps, h4, hO, hd⟩ => by
  subst e hd
  have hl : (subM A ps).length = ps.length := by unfold subM; rw [List.length_map]
  refine as_ret (ae_call (aa1 (AF.e (af_mapY ((subM A ps).map RLd) (ai_seqL (ae_var rfl)) (by rw [List.length_map, List.length_map, hl]) (by rw [List.length_map]; omega) fun j x y hx hy => ?_))) (S := S_detN 4) (pS.mk ⟨subM A ps, rfl, subM_sq A ps, by omega, by omega, by rw [hl]; exact hO, by unfold minF; rw [hl]⟩)) ev
  obtain ⟨i, hi, rfl⟩ := get_mapped hx
  unfold subM at hy
  rw [List.getElem?_map, List.getElem?_map, hi] at hy
  cases hy
  have hiA := hps i (List.mem_of_getElem? hi)
  refine ⟨_, _, ag_name, by simp, at_yes, AF.e (af_mapY ((ps.map fun j => ent A i j).map D.rat) (ai_seqL (ae_var rfl)) (by rw [List.length_map, List.length_map, List.length_map]) (by rw [List.length_map]; omega) fun j x y hx hy => ?_)⟩
  obtain ⟨j', hj, rfl⟩ := get_mapped hx
  rw [List.getElem?_map, List.getElem?_map, hj] at hy
  cases hy
  have hjA := hps j' (List.mem_of_getElem? hj)
  exact ⟨_, _, ag_name, by simp, at_yes, ents hq hiA hjA (ae_var rfl) (ae_var rfl) (ae_var rfl)⟩
theorem cho_item {n m : Nat} {ps : List Nat} (h : ps ∈ choF n m) : ps.length = m ∧ ps.length ≤ n ∧ ∀ i ∈ ps, i < n := by
  unfold choF at h
  obtain ⟨h1, h2⟩ := List.mem_filter.mp h
  obtain ⟨h3, h4, h5⟩ := choL_item m n ps h1
  exact ⟨of_decide_eq_true h2, h3, h5⟩
theorem cho_len {n m : Nat} (h : n ≤ 4) : (choF n m).length ≤ 16 := by
  unfold choF
  refine Nat.le_trans (List.length_filter_le _ _) (Nat.le_trans (choL_length m n) (Nat.pow_le_pow_right (by decide) h))
theorem bod__law_sums : Bod C (t__law_sums K C CN) 4 S__law_sums := bod_pG fun ds μ d ⟨A, e, hO, hd⟩ Γ hΓ => by
  subst e hd
  have h4 := hO.n
  refine ag_seq (as_own (af_lst aa_nil (Nat.le_of_ble_eq_true rfl)) fun p hp => ?_)
  refine ag_seq (as_for (fun m ρ' μ' => μ' = (p, ((List.range m).map fun m => sumR (sumsT A m)).map D.rat) :: μ ∧ ρ'.length = 4 ∧ ρ'[0]? = some (some (RMd A)) ∧ ρ'[1]? = some (some (.ptr p)))
    (ai_range1 (n := A.length + 1) (aa1 ((ae_op (ae_cb (aa1 (ae_var rfl)) ac_len_l) ae_int add_i).is (by rw [List.length_map]; rfl))) (by omega)) ⟨rfl, rfl, rfl, rfl⟩ (fun m dd ρ' μ' hp2 hP => ?_) fun ρ' μ' hP => ?_)
  · obtain ⟨rfl, hl, r0, r1⟩ := hP
    obtain ⟨hm, rfl⟩ := rng_get hp2
    rw [Int.zero_add]
    refine ⟨_, _, ag_name, ?_⟩
    have s0 := get_set_ne (i := 2) (x := some (D.int (m : Nat))) (by decide) r0
    have s1 := get_set_ne (i := 2) (x := some (D.int (m : Nat))) (by decide) r1
    have s2 : (ρ'.set 2 (some (D.int (m : Nat))))[2]? = some (some (.int (m : Nat))) := get_set_eq (by omega)
    have sl : (ρ'.set 2 (some (D.int (m : Nat)))).length = 4 := by rw [List.length_set]; exact hl
    generalize ρ'.set 2 (some (D.int (m : Nat))) = ρ2 at s0 s1 s2 sl
    have hcl := cho_len (m := m) h4
    refine as_append (ae_var s1) (ae_tot (ta := tVar 0) (qs := sumsT A m) (AF.e (af_mapY ((sumsT A m).map D.rat) (ai_seqL (ae_call (aa2 (ae_cb (aa1 (ae_var s0)) ac_len_l) (ae_var s2)) (pS.mk ⟨A.length, m, by rw [List.length_map], h4, by omega, rfl⟩))) (by unfold sumsT; rw [List.length_map, List.length_map, List.length_map]) (by rw [List.length_map]; omega) fun j x y hx hy => ?_)) (by unfold sumsT; rw [List.length_map]; omega) (hO.sm m (by omega))) (List.mem_cons_self ..) (by rw [List.length_map, List.length_map, List.length_range]; omega) ⟨?_, sl, s0, s1⟩
    · obtain ⟨ps, hps, rfl⟩ := get_mapped hx
      unfold sumsT at hy
      rw [List.getElem?_map, List.getElem?_map, hps] at hy
      cases hy
      have hmem := List.mem_of_getElem? hps
      obtain ⟨q1, q2, q3⟩ := cho_item hmem
      have u0 : ((wipeA ρ2 [3]).set 3 (some (natsD ps)))[0]? = some (some (RMd A)) := get_set_ne (by decide) (get_set_ne (by decide) s0)
      have u3 : ((wipeA ρ2 [3]).set 3 (some (natsD ps)))[3]? = some (some (natsD ps)) := get_set_eq (by show 3 < (ρ2.set 3 none).length; rw [List.length_set]; omega)
      exact ⟨_, _, ag_name, by simp, at_yes, ae_call (aa2 (ae_var u0) (ae_var u3)) (pS.mk ⟨A, ps, rfl, hO.sq, q3, by omega, hO.det m ps hmem, rfl⟩)⟩
    · rw [setM_head hp, List.range_succ, List.map_append, List.map_append]
      rfl
  · obtain ⟨rfl, hl, r0, r1⟩ := hP
    rw [rngD_length]
    exact ag_frz (by rw [hΓ]; exact hp) (AS.toG (as_ret (ae_var (frz_self r1)) ev))
theorem AI.is (h : AI C wi ρ μ xs μ1) (e : xs = ys) : AI C wi ρ μ ys μ1 := e ▸ h
theorem prsD_ints (xs ys : List Int) : prsD (xs.map D.int) (ys.map D.int) = (xs.zip ys).map fun p => .tup [.int p.1, .int p.2] := by
  unfold prsD
  rw [List.zip_map, List.map_map]
  rfl
theorem bod__law_changes : Bod C (t__law_changes K C CN) 4 S__law_changes := bod_pS fun ds μ d ⟨l, e, hl, hd⟩ => by
  subst e hd
  refine as_seq (as_set (d := .lst ((nzS l).map D.int)) ((AF.e (af_pick (l := l) (f := D.rat) (b := fun q => decide (q ≠ 0)) (g' := fun q => .int (sgn q)) (js := []) (ai_seqL (ae_var rfl)) (by omega) fun q hq => ?_)).is (by unfold nzS; rw [List.map_map]; rfl)) ?_)
  · exact ⟨_, _, ag_name, by simp, at_test ((ae_op (ae_sign (ae_var rfl)) ae_int (a2_neS rfl)).is (congrArg D.bl sgn_ne)), fun _ => ae_sign (ae_var rfl)⟩
  have hn : (nzS l).length ≤ 1000 := by
    unfold nzS
    rw [List.length_map]
    exact Nat.le_trans (List.length_filter_le _ _) hl
  have hz : ((nzS l).zip ((nzS l).drop 1)).length ≤ 1000 := by rw [List.length_zip]; omega
  refine as_ret ((ae_cb (aa1 (AF.e (af_pick (l := (nzS l).zip ((nzS l).drop 1)) (f := fun p => .tup [.int p.1, .int p.2]) (b := fun p => decide (p.1 ≠ p.2)) (g' := fun _ => .int 1) (js := []) ((ai_zip (ds := (nzS l).map D.int) (aa2 (ae_var rfl) (AF.e (af_slice (ae_var rfl) (ao_some ae_int) ao_none)))).is ?_) (by omega) fun p hp => ?_))) ac_len_l).is ?_) ev
  · rw [show (1 : Int) = ((1 : Nat) : Int) from rfl, cut_drop, ← List.map_drop, prsD_ints]
  · refine ⟨_, _, ag_tup rfl (ags_cons ag_name (ags_cons ag_name ags_nil)), by simp, at_test ((ae_op (ae_var rfl) (ae_var rfl) (a2_neS rfl)).is ?_), fun _ => ae_int⟩
    rw [int_eq, ← decide_not]
  · rw [List.length_map]
    rfl
theorem bod__law_signs : Bod C (t__law_signs K C CN) 6 S__law_signs := bod_pS fun ds μ d ⟨A, e, hO, hs, hd⟩ => by
  subst e hd
  have h4 := hO.n
  have hl : (sumsF A).length = A.length + 1 := by unfold sumsF; rw [List.length_map, List.length_range]
  refine as_seq (as_set (ae_call (aa1 (ae_var rfl)) (pS.mk ⟨A, rfl, hO, rfl⟩)) ?_)
  refine as_seq (as_set (d := natD (aboveN A)) (ae_call (aa1 (AF.e (af_mapY ((altR (sumsF A)).map D.rat) (ai_enum (aa1 (ae_var rfl))) ?_ (by rw [enuD_length, List.length_map]; omega) fun i x y hx hy => ?_))) (pS.mk ⟨altR (sumsF A), rfl, by unfold altR; rw [List.length_mapIdx]; omega, rfl⟩)) ?_)
  · unfold altR
    rw [enuD_length, List.length_map, List.length_map, List.length_mapIdx]
  · obtain ⟨z, hz, rfl⟩ := enuD_get hx
    obtain ⟨q, hq, rfl⟩ := map_rat_get hz
    have hq' := hs q (List.mem_of_getElem? hq)
    have hy' : y = .rat (if i % 2 = 0 then q else -q) := by
      refine get_map2 hy ?_
      unfold altR
      rw [List.getElem?_mapIdx, hq]
      rfl
    subst hy'
    refine ⟨_, _, ag_tup rfl (ags_cons ag_name (ags_cons ag_name ags_nil)), by simp, at_yes, ae_if (b := decide (i % 2 = 0)) (at_test ((ae_op (ae_op (ae_cb (aa1 (ae_var rfl)) ac_int) ae_int (a2_modP (by decide))) ae_int (eq_s rfl)).is ?_)) (fun z => ?_) fun z => ?_⟩
    · rw [int_eq]
      exact congrArg D.bl (decide_eq_decide.mpr (by omega))
    · rw [if_pos (of_decide_eq_true z)]
      exact ae_var rfl
    · rw [if_neg (of_decide_eq_false z)]
      exact ae_un (ae_var rfl) (neg_q hq')
  refine as_seq (as_set (d := natD (belowN A)) (ae_call (aa1 (ae_var rfl)) (pS.mk ⟨sumsF A, rfl, by omega, rfl⟩)) ?_)
  refine as_ret (ae_tup (aa_cons (ae_var rfl) (aa_cons (ae_var rfl) (aa_cons ((ae_op (ae_op (ae_cb (aa1 (ae_var rfl)) ac_len_l) (ae_var rfl) sub_i) (ae_var rfl) sub_i).is (by rw [List.length_map])) aa_nil))) (Nat.le_of_ble_eq_true rfl)) ev
end
end OC
set_option maxHeartbeats 4000000
/-! OcY7: the defs keep their promises. -/
namespace OC
open PySem PySem.Spec PyProof.Rows L2
section
variable {P : Program} {w : World} {K : Frg} {mg : Str → Option Value} {base : Heap}
theorem sc__law_pot : FnScope N__law_pot ["_law_script", "_law_k"] (defScope st__law_pot) := ⟨rfl, rfl, rfl, by decide +kernel, rfl, by decide +kernel, by decide +kernel⟩
theorem ok__law_pot (T : Tx K mg) : FnR P w K mg base CX0 1 (aF "_law_pot" K) (SpO (cR K) (cN K) (S__law_pot K)) := by
  obtain ⟨fd, F⟩ := T.def_ 31 df__law_pot rfl
  have b : Binds K fd ["_law_script", "_law_k"] [] := F.bindsN fun _ _ _ _ _ _ us hl => match us, hl with | [_, _], _ => rfl
  refine fnr_of (F.ok sc__law_pot (SpO.len len__law_pot) fun cdv A outer s H vs Q E hr h => ⟨t__law_pot K (cR K) (cN K), PSs.nox ?_, Bod.go (N := N__law_pot) (by first | exact bod__law_pot T | exact bod__law_pot) h⟩) b
  exact (pss_cons (ps_set (i := 2) sc__law_pot.nd rfl (by first | exact Or.inl rfl | exact Or.inr rfl) (pe_ifExp (pt_cmpR (op_lt) (pv 1) (pe_callB (call_len) rfl (T.free 5 _ rfl) bt_len (pa_cons (pv 0) pa_nil)) (nomark _)) (pe_callB (call_abs) rfl (T.free 7 _ rfl) bt_abs (pa_cons (pe_ix ix_seq (pv 0) (pv 1) (fun _ _ => rfl)) pa_nil)) (pe_op op_add (pe_op op_mulW pe_int (pv 1)) pe_int)))
  (pss_one (ps_ret (pe_lst (pa_cons (pe_callB (call_max2 rfl) rfl (T.free 14 _ rfl) bt_max (pa_cons pe_int (pa_cons (pe_op op_sub (pv 2) (pe_op op_pow pe_int pe_int)) pa_nil))) (pa_cons (pe_op op_add (pe_op op_mod (pe_callTy call_int1 rfl (T.free 1 _ rfl) bt_int (pa_cons (pe_op op_add (pe_op op_add (pe_op op_mulW (pe_op op_mod (pe_callTy call_int1 rfl (T.free 1 _ rfl) bt_int (pa_cons (pv 2) pa_nil)) pe_int) pe_int) (pe_op op_mulW pe_int (pv 1))) pe_int) pa_nil)) pe_int) pe_int) pa_nil))))))

theorem sc__law_draw : FnScope N__law_draw ["_law_pot_here", "_law_size"] (defScope st__law_draw) := ⟨rfl, rfl, rfl, by decide +kernel, rfl, by decide +kernel, by decide +kernel⟩
theorem ok__law_draw (T : Tx K mg) : FnR P w K mg base CX0 1 (aF "_law_draw" K) (SpO (cR K) (cN K) S__law_draw) := by
  obtain ⟨fd, F⟩ := T.def_ 32 df__law_draw rfl
  have b : Binds K fd ["_law_pot_here", "_law_size"] [] := F.bindsN fun _ _ _ _ _ _ us hl => match us, hl with | [_, _], _ => rfl
  refine fnr_of (F.ok sc__law_draw (SpO.len len__law_draw) fun cdv A outer s H vs Q E hr h => ⟨t__law_draw K (cR K) (cN K), PSs.nox ?_, Bod.go (N := N__law_draw) (by first | exact bod__law_draw T | exact bod__law_draw) h⟩) b
  exact (pss_cons (ps_if (pt_cmpR (op_gt) (pe_ix ix_seq (pv 0) pe_int (fun _ _ => rfl)) pe_int (nomark _)) (pss_cons (ps_asg (pe_callB (call_divmod) rfl (T.free 13 _ rfl) bt_divmod (pa_cons (pe_ix ix_seq (pv 0) pe_int (fun _ _ => rfl)) (pa_cons (pv 1) pa_nil))) (pg_tup rfl (pgs_cons (pg_sub (pv 0) pe_int set_list) (pgs_cons (pg_name (i := 2) sc__law_draw.nd rfl (by first | exact Or.inl rfl | exact Or.inr rfl)) pgs_nil))))
  (pss_one (ps_ret (pv 2)))) pss_nil)
  (pss_cons (ps_asg (pe_op op_mod (pe_callTy call_int1 rfl (T.free 1 _ rfl) bt_int (pa_cons (pe_op op_add (pe_op op_mulW (pe_ix ix_seq (pv 0) pe_int (fun _ _ => rfl)) pe_int) pe_int) pa_nil)) pe_int) (pg_sub (pv 0) pe_int set_list))
  (pss_one (ps_ret (pe_op op_mod (pe_callTy call_int1 rfl (T.free 1 _ rfl) bt_int (pa_cons (pe_op op_fdivQ (pe_op op_mod (pe_callTy call_int1 rfl (T.free 1 _ rfl) bt_int (pa_cons (pe_op op_mulW (pe_ix ix_seq (pv 0) pe_int (fun _ _ => rfl)) (pe_ix ix_seq (pv 0) pe_int (fun _ _ => rfl))) pa_nil)) pe_int) pe_int) pa_nil)) (pv 1))))))

theorem sc__law_pick : FnScope N__law_pick ["_law_pot_here", "_law_some"] (defScope st__law_pick) := ⟨rfl, rfl, rfl, by decide +kernel, rfl, by decide +kernel, by decide +kernel⟩
theorem ok__law_pick (T : Tx K mg) : FnR P w K mg base CX0 2 (aF "_law_pick" K) (SpO (cR K) (cN K) S__law_pick) := by
  obtain ⟨fd, F⟩ := T.def_ 33 df__law_pick rfl
  have b : Binds K fd ["_law_pot_here", "_law_some"] [] := F.bindsN fun _ _ _ _ _ _ us hl => match us, hl with | [_, _], _ => rfl
  refine fnr_of (F.ok sc__law_pick (SpO.len len__law_pick) fun cdv A outer s H vs Q E hr h => ⟨t__law_pick K (cR K) (cN K), PSs.nox ?_, Bod.go (N := N__law_pick) (by first | exact bod__law_pick T | exact bod__law_pick) h⟩) b
  exact (pss_one (ps_ret (pe_ix ix_seq (pv 1) (pe_cR (ok__law_draw T) (hr.mono (by decide)) rfl (T.glo 32 _ rfl) (T.kf 32 _ rfl) pz (pa_cons (pv 0) (pa_cons (pe_callB (call_len) rfl (T.free 5 _ rfl) bt_len (pa_cons (pv 1) pa_nil)) pa_nil))) (fun _ _ => rfl))))

theorem sc__law_small : FnScope N__law_small ["_law_pot_here", "_law_most"] (defScope st__law_small) := ⟨rfl, rfl, rfl, by decide +kernel, rfl, by decide +kernel, by decide +kernel⟩
theorem ok__law_small (T : Tx K mg) : FnR P w K mg base CX0 5 (aF "_law_small" K) (SpO (cR K) (cN K) S__law_small) := by
  obtain ⟨fd, F⟩ := T.def_ 34 df__law_small rfl
  have b : Binds K fd ["_law_pot_here", "_law_most"] [] := F.bindsN fun _ _ _ _ _ _ us hl => match us, hl with | [_, _], _ => rfl
  refine fnr_of (F.ok sc__law_small (SpO.len len__law_small) fun cdv A outer s H vs Q E hr h => ⟨t__law_small K (cR K) (cN K), PSs.nox ?_, Bod.go (N := N__law_small) (by first | exact bod__law_small T | exact bod__law_small) h⟩) b
  exact (pss_one (ps_ret (StX.pe_makeR T.mk_ (ok_R__init__2 T) (hr.mono (by decide)) rfl (T.glo 62 _ rfl) pz (pa_cons (pe_op (op_Sub T (ok_R__sub__ T) (hr.mono (by decide))) (pe_cR (ok__law_draw T) (hr.mono (by decide)) rfl (T.glo 32 _ rfl) (T.kf 32 _ rfl) pz (pa_cons (pv 0) (pa_cons (pe_op (op_Add T (ok_R__add__ T) (hr.mono (by decide))) (pe_op (op_Mul T (ok_R__mul__ T) (ok_R__rmul__ T) (hr.mono (by decide))) pe_int (pv 1)) pe_int) pa_nil))) (pv 1)) (pa_cons (pe_cR (ok__law_pick T) (hr.mono (by decide)) rfl (T.glo 33 _ rfl) (T.kf 33 _ rfl) pz (pa_cons (pv 0) (pa_cons (pe_lst (pa_cons pe_int (pa_cons pe_int (pa_cons pe_int (pa_cons pe_int (pa_cons pe_int (pa_cons pe_int pa_nil))))))) pa_nil))) pa_nil)))))

theorem sc__law_more : FnScope N__law_more ["_law_rows", "_law_number", "_law_form_here"] (defScope st__law_more) := ⟨rfl, rfl, rfl, by decide +kernel, rfl, by decide +kernel, by decide +kernel⟩
theorem ok__law_more (T : Tx K mg) : FnR P w K mg base CX0 5 (aF "_law_more" K) (SpO (cR K) (cN K) S__law_more) := by
  obtain ⟨fd, F⟩ := T.def_ 35 df__law_more rfl
  have b : Binds K fd ["_law_rows", "_law_number", "_law_form_here"] [] := F.bindsN fun _ _ _ _ _ _ us hl => match us, hl with | [_, _, _], _ => rfl
  refine fnr_of (F.ok sc__law_more (SpO.len len__law_more) fun cdv A outer s H vs Q E hr h => ⟨t__law_more K (cR K) (cN K), PSs.nox ?_, Bod.go (N := N__law_more) (by first | exact bod__law_more T | exact bod__law_more) h⟩) b
  exact (pss_one (ps_ret (pe_lc (own := [("_law_i", 3)]) (wi := (iRng1 (tCons (tCB (rLen K) (tCons (tVar 0) tNil)) tNil))) (g := (gName 3)) (tt := tYes) (te := (tLc (iRng1 (tCons (tCB (rLen K) (tCons (tVar 0) tNil)) tNil)) (gName 4) tYes (tOp (rAdd (cR K) (cN K)) (tOp (rIx K) (tOp (rIx K) (tVar 0) (tVar 3)) (tVar 4)) (tOp (rMul (cR K) (cN K)) (tOp (rMul (cR K) (cN K)) (tVar 1) (tOp (rIx K) (tVar 2) (tVar 3))) (tOp (rIx K) (tVar 2) (tVar 4)))) [4])) rfl sc__law_more.nd (pi_range1 rfl (T.free 10 _ rfl) (pa_cons (pe_callB (call_len) rfl (T.free 5 _ rfl) bt_len (pa_cons (pv 0) pa_nil)) pa_nil)) (blkOk_by (by kernel_rfl)) (fun _ _ _ _ _ => (pg_name (i := 3) sc__law_more.nd rfl (by first | exact Or.inl rfl | exact Or.inr rfl))) (fun _ _ _ _ _ => pts_nil) (fun _ _ _ _ _ => (pe_lc (own := [("_law_j", 4)]) (wi := (iRng1 (tCons (tCB (rLen K) (tCons (tVar 0) tNil)) tNil))) (g := (gName 4)) (tt := tYes) (te := (tOp (rAdd (cR K) (cN K)) (tOp (rIx K) (tOp (rIx K) (tVar 0) (tVar 3)) (tVar 4)) (tOp (rMul (cR K) (cN K)) (tOp (rMul (cR K) (cN K)) (tVar 1) (tOp (rIx K) (tVar 2) (tVar 3))) (tOp (rIx K) (tVar 2) (tVar 4))))) rfl sc__law_more.nd (pi_range1 rfl (T.free 10 _ rfl) (pa_cons (pe_callB (call_len) rfl (T.free 5 _ rfl) bt_len (pa_cons (pv 0) pa_nil)) pa_nil)) (blkOk_by (by kernel_rfl)) (fun _ _ _ _ _ => (pg_name (i := 4) sc__law_more.nd rfl (by first | exact Or.inl rfl | exact Or.inr rfl))) (fun _ _ _ _ _ => pts_nil) (fun _ _ _ _ _ => (pe_op (op_Add T (ok_R__add__ T) (hr.mono (by decide))) (pe_ix ix_seq (pe_ix ix_seq (pv 0) (pv 3) (fun _ _ => rfl)) (pv 4) (fun _ _ => rfl)) (pe_op (op_Mul T (ok_R__mul__ T) (ok_R__rmul__ T) (hr.mono (by decide))) (pe_op (op_Mul T (ok_R__mul__ T) (ok_R__rmul__ T) (hr.mono (by decide))) (pv 1) (pe_ix ix_seq (pv 2) (pv 3) (fun _ _ => rfl))) (pe_ix ix_seq (pv 2) (pv 4) (fun _ _ => rfl))))))))))

theorem sc__law_is_number : FnScope N__law_is_number ["_law_value"] (defScope st__law_is_number) := ⟨rfl, rfl, rfl, by decide +kernel, rfl, by decide +kernel, by decide +kernel⟩
theorem ok__law_is_number (T : Tx K mg) : FnR P w K mg base CX0 1 (aF "_law_is_number" K) (SpO (cR K) (cN K) S__law_is_number) := by
  obtain ⟨fd, F⟩ := T.def_ 45 df__law_is_number rfl
  have b : Binds K fd ["_law_value"] [] := F.bindsN fun _ _ _ _ _ _ us hl => match us, hl with | [_], _ => rfl
  refine fnr_of (F.ok sc__law_is_number (SpO.len len__law_is_number) fun cdv A outer s H vs Q E hr h => ⟨t__law_is_number K (cR K) (cN K), PSs.nox ?_, Bod.go (N := N__law_is_number) (by first | exact bod__law_is_number T | exact bod__law_is_number) h⟩) b
  exact (pss_one (ps_ret (pe_or (pe_callB call_isi rfl (T.free 0 _ rfl) bt_isinstance (pa_cons (pv 0) (pa_cons (pe_glob rfl (T.glo 62 _ rfl) rfl) pa_nil))) (pe_one (pe_and (pe_callB call_isi rfl (T.free 0 _ rfl) bt_isinstance (pa_cons (pv 0) (pa_cons (pe_bltn rfl (T.free 1 _ rfl) bt_int rfl) pa_nil))) (pe_one (pe_not (pe_callB call_isi rfl (T.free 0 _ rfl) bt_isinstance (pa_cons (pv 0) (pa_cons (pe_bltn rfl (T.free 2 _ rfl) bt_bool rfl) pa_nil))))))))))

theorem sc__law_is_list : FnScope N__law_is_list ["_law_value", "_law_size"] (defScope st__law_is_list) := ⟨rfl, rfl, rfl, by decide +kernel, rfl, by decide +kernel, by decide +kernel⟩
theorem ok__law_is_list (T : Tx K mg) : FnR P w K mg base CX0 2 (aF "_law_is_list" K) (SpO (cR K) (cN K) S__law_is_list) := by
  obtain ⟨fd, F⟩ := T.def_ 46 df__law_is_list rfl
  have b : Binds K fd ["_law_value", "_law_size"] [] := F.bindsN fun _ _ _ _ _ _ us hl => match us, hl with | [_, _], _ => rfl
  refine fnr_of (F.ok sc__law_is_list (SpO.len len__law_is_list) fun cdv A outer s H vs Q E hr h => ⟨t__law_is_list K (cR K) (cN K), PSs.nox ?_, Bod.go (N := N__law_is_list) (by first | exact bod__law_is_list T | exact bod__law_is_list) h⟩) b
  exact (pss_one (ps_ret (pe_and (pe_callB call_isiT rfl (T.free 0 _ rfl) bt_isinstance (pa_cons (pv 0) (pa_cons (pe_tup (pa_cons (pe_bltn rfl (T.free 3 _ rfl) bt_list rfl) (pa_cons (pe_bltn rfl (T.free 4 _ rfl) bt_tuple rfl) pa_nil))) pa_nil))) (pe_and (pe_cmpR (op_EqU hr) (pe_callB (call_len) rfl (T.free 5 _ rfl) bt_len (pa_cons (pv 0) pa_nil)) (pv 1) (nomark _)) (pe_one (pe_cmpR (op_EqU hr) (pe_lc (own := [("_law_one", 2)]) (wi := (iSeq K (tVar 0))) (g := (gName 2)) (tt := (tNot (tB (tcR (SpO (cR K) (cN K) S__law_is_number) E0 (tCons (tVar 2) tNil))))) (te := (tVar 2)) rfl sc__law_is_list.nd (pi_seq (pv 0)) (blkOk_by (by kernel_rfl)) (fun _ _ _ _ _ => (pg_name (i := 2) sc__law_is_list.nd rfl (by first | exact Or.inl rfl | exact Or.inr rfl))) (fun _ _ _ _ _ => (pts_one (pt_not (pt_val (pe_cR (ok__law_is_number T) (hr.mono (by decide)) rfl (T.glo 45 _ rfl) (T.kf 45 _ rfl) pz (pa_cons (pv 2) pa_nil)))))) (fun _ _ _ _ _ => (pv 2))) (pe_lst pa_nil) (nomark _)))))))

theorem sc__law_form : FnScope N__law_form ["_law_rows", "_law_first", "_law_second"] (defScope st__law_form) := ⟨rfl, rfl, rfl, by decide +kernel, rfl, by decide +kernel, by decide +kernel⟩
theorem ok__law_form (T : Tx K mg) : FnR P w K mg base CX0 7 (aF "_law_form" K) (SpO (cR K) (cN K) S__law_form) := by
  obtain ⟨fd, F⟩ := T.def_ 47 df__law_form rfl
  have b : Binds K fd ["_law_rows", "_law_first", "_law_second"] [] := F.bindsN fun _ _ _ _ _ _ us hl => match us, hl with | [_, _, _], _ => rfl
  refine fnr_of (F.ok sc__law_form (SpO.len len__law_form) fun cdv A outer s H vs Q E hr h => ⟨t__law_form K (cR K) (cN K), PSs.nox ?_, Bod.go (N := N__law_form) (by first | exact bod__law_form T | exact bod__law_form) h⟩) b
  exact (pss_cons (ps_set (i := 3) sc__law_form.nd rfl (by first | exact Or.inl rfl | exact Or.inr rfl) (pe_callB (call_len) rfl (T.free 5 _ rfl) bt_len (pa_cons (pv 0) pa_nil)))
  (pss_one (ps_ret (ClX.pe_cmeth (pe_glob rfl (T.glo 62 _ rfl) rfl) T.rd T.tot (ok_Rtotal T) (hr.mono (by decide)) pz (pa_cons (pe_lc (own := [("_law_i", 4)]) (wi := (iRng1 (tCons (tVar 3) tNil))) (g := (gName 4)) (tt := tYes) (te := (tOp (rMul (cR K) (cN K)) (ClX.tCMeth (cR K) (SpO (cR K) (cN K) S_Rtotal) E0 (tC (.ref (cR K))) (tCons (tLc (iRng1 (tCons (tVar 3) tNil)) (gName 5) tYes (tOp (rMul (cR K) (cN K)) (tOp (rIx K) (tOp (rIx K) (tVar 0) (tVar 4)) (tVar 5)) (tOp (rIx K) (tVar 2) (tVar 5))) [5]) tNil)) (tOp (rIx K) (tVar 1) (tVar 4)))) rfl sc__law_form.nd (pi_range1 rfl (T.free 10 _ rfl) (pa_cons (pv 3) pa_nil)) (blkOk_by (by kernel_rfl)) (fun _ _ _ _ _ => (pg_name (i := 4) sc__law_form.nd rfl (by first | exact Or.inl rfl | exact Or.inr rfl))) (fun _ _ _ _ _ => pts_nil) (fun _ _ _ _ _ => (pe_op (op_Mul T (ok_R__mul__ T) (ok_R__rmul__ T) (hr.mono (by decide))) (ClX.pe_cmeth (pe_glob rfl (T.glo 62 _ rfl) rfl) T.rd T.tot (ok_Rtotal T) (hr.mono (by decide)) pz (pa_cons (pe_lc (own := [("_law_j", 5)]) (wi := (iRng1 (tCons (tVar 3) tNil))) (g := (gName 5)) (tt := tYes) (te := (tOp (rMul (cR K) (cN K)) (tOp (rIx K) (tOp (rIx K) (tVar 0) (tVar 4)) (tVar 5)) (tOp (rIx K) (tVar 2) (tVar 5)))) rfl sc__law_form.nd (pi_range1 rfl (T.free 10 _ rfl) (pa_cons (pv 3) pa_nil)) (blkOk_by (by kernel_rfl)) (fun _ _ _ _ _ => (pg_name (i := 5) sc__law_form.nd rfl (by first | exact Or.inl rfl | exact Or.inr rfl))) (fun _ _ _ _ _ => pts_nil) (fun _ _ _ _ _ => (pe_op (op_Mul T (ok_R__mul__ T) (ok_R__rmul__ T) (hr.mono (by decide))) (pe_ix ix_seq (pe_ix ix_seq (pv 0) (pv 4) (fun _ _ => rfl)) (pv 5) (fun _ _ => rfl)) (pe_ix ix_seq (pv 2) (pv 5) (fun _ _ => rfl))))) pa_nil)) (pe_ix ix_seq (pv 1) (pv 4) (fun _ _ => rfl))))) pa_nil)))))

theorem sc__law_looks : FnScope N__law_looks ["_law_rows", "_law_weights", "_law_value"] (defScope st__law_looks) := ⟨rfl, rfl, rfl, by decide +kernel, rfl, by decide +kernel, by decide +kernel⟩
theorem ok__law_looks (T : Tx K mg) : FnR P w K mg base CX0 8 (aF "_law_looks" K) (SpO (cR K) (cN K) S__law_looks) := by
  obtain ⟨fd, F⟩ := T.def_ 48 df__law_looks rfl
  have b : Binds K fd ["_law_rows", "_law_weights", "_law_value"] [] := F.bindsN fun _ _ _ _ _ _ us hl => match us, hl with | [_, _, _], _ => rfl
  refine fnr_of (F.ok sc__law_looks (SpO.len len__law_looks) fun cdv A outer s H vs Q E hr h => ⟨t__law_looks K (cR K) (cN K), PSs.nox ?_, Bod.go (N := N__law_looks) (by first | exact bod__law_looks T | exact bod__law_looks) h⟩) b
  exact (pss_cons (ps_if (pt_not (pt_val (pe_cR (ok__law_is_list T) (hr.mono (by decide)) rfl (T.glo 46 _ rfl) (T.kf 46 _ rfl) pz (pa_cons (pv 2) (pa_cons (pe_callB (call_len) rfl (T.free 5 _ rfl) bt_len (pa_cons (pv 0) pa_nil)) pa_nil))))) (pss_one (ps_ret pe_bl)) pss_nil)
  (pss_one (ps_ret (pe_and (pe_cmpR (op_EqU hr) (pe_propR (pe_cR (ok__law_form T) (hr.mono (by decide)) rfl (T.glo 47 _ rfl) (T.kf 47 _ rfl) pz (pa_cons (pv 0) (pa_cons (pv 1) (pa_cons (pv 2) pa_nil)))) T.cls (T.prop 2 _ rfl) (ok_Rsign T) (hr.mono (by decide)) pz) pe_int (nomark _)) (pe_one (pe_cmpR (op_gt) (pe_propR (pe_cR (ok__law_form T) (hr.mono (by decide)) rfl (T.glo 47 _ rfl) (T.kf 47 _ rfl) pz (pa_cons (pv 0) (pa_cons (pv 2) (pa_cons (pv 2) pa_nil)))) T.cls (T.prop 2 _ rfl) (ok_Rsign T) (hr.mono (by decide)) pz) pe_int (nomark _)))))))

theorem sc__law_without : FnScope N__law_without ["_law_rows", "_law_weights", "_law_way"] (defScope st__law_without) := ⟨rfl, rfl, rfl, by decide +kernel, rfl, by decide +kernel, by decide +kernel⟩
theorem ok__law_without (T : Tx K mg) : FnR P w K mg base CX0 8 (aF "_law_without" K) (SpO (cR K) (cN K) S__law_without) := by
  obtain ⟨fd, F⟩ := T.def_ 49 df__law_without rfl
  have b : Binds K fd ["_law_rows", "_law_weights", "_law_way"] [] := F.bindsN fun _ _ _ _ _ _ us hl => match us, hl with | [_, _, _], _ => rfl
  refine fnr_of (F.ok sc__law_without (SpO.len len__law_without) fun cdv A outer s H vs Q E hr h => ⟨t__law_without K (cR K) (cN K), PSs.nox ?_, Bod.go (N := N__law_without) (by first | exact bod__law_without T | exact bod__law_without) h⟩) b
  exact (pss_cons (ps_set (i := 3) sc__law_without.nd rfl (by first | exact Or.inl rfl | exact Or.inr rfl) (pe_methR (pe_cR (ok__law_form T) (hr.mono (by decide)) rfl (T.glo 47 _ rfl) (T.kf 47 _ rfl) pz (pa_cons (pv 0) (pa_cons (pv 1) (pa_cons (pv 2) pa_nil)))) T.cls (T.meth 7 _ rfl) (ok_Rover T) (hr.mono (by decide)) pz (pa_cons (pe_cR (ok__law_form T) (hr.mono (by decide)) rfl (T.glo 47 _ rfl) (T.kf 47 _ rfl) pz (pa_cons (pv 0) (pa_cons (pv 1) (pa_cons (pv 1) pa_nil)))) pa_nil)))
  (pss_one (ps_ret (pe_lc (own := [("_law_one", 4), ("_law_weight", 5)]) (wi := (iZip K (tCons (tVar 2) (tCons (tVar 1) tNil)))) (g := (gTup K 2 (gCons (gName 4) (gCons (gName 5) gNil)))) (tt := tYes) (te := (tOp (rSub (cR K) (cN K)) (tVar 4) (tOp (rMul (cR K) (cN K)) (tVar 3) (tVar 5)))) rfl sc__law_without.nd (pi_zip rfl (T.free 8 _ rfl) (pa_cons (pv 2) (pa_cons (pv 1) pa_nil))) (blkOk_by (by kernel_rfl)) (fun _ _ _ _ _ => (pg_tup rfl (pgs_cons (pg_name (i := 4) sc__law_without.nd rfl (by first | exact Or.inl rfl | exact Or.inr rfl)) (pgs_cons (pg_name (i := 5) sc__law_without.nd rfl (by first | exact Or.inl rfl | exact Or.inr rfl)) pgs_nil)))) (fun _ _ _ _ _ => pts_nil) (fun _ _ _ _ _ => (pe_op (op_Sub T (ok_R__sub__ T) (hr.mono (by decide))) (pv 4) (pe_op (op_Mul T (ok_R__mul__ T) (ok_R__rmul__ T) (hr.mono (by decide))) (pv 3) (pv 5))))))))

end
end OC
set_option maxHeartbeats 4000000
/-! OcY8: the defs keep their promises. -/
namespace OC
open PySem PySem.Spec PyProof.Rows L2
section
variable {P : Program} {w : World} {K : Frg} {mg : Str → Option Value} {base : Heap}
theorem sc__law_choices : FnScope N__law_choices ["_law_many", "_law_some"] (defScope st__law_choices) := ⟨rfl, rfl, rfl, by decide +kernel, rfl, by decide +kernel, by decide +kernel⟩
theorem ok__law_choices (T : Tx K mg) : FnR P w K mg base CX0 5 (aF "_law_choices" K) (SpO (cR K) (cN K) S__law_choices) := by
  obtain ⟨fd, F⟩ := T.def_ 40 df__law_choices rfl
  have b : Binds K fd ["_law_many", "_law_some"] [] := F.bindsN fun _ _ _ _ _ _ us hl => match us, hl with | [_, _], _ => rfl
  refine fnr_of (F.ok sc__law_choices (SpO.len len__law_choices) fun cdv A outer s H vs Q E hr h => ⟨t__law_choices K (cR K) (cN K), PSs.nox ?_, Bod.go (N := N__law_choices) (by first | exact bod__law_choices T | exact bod__law_choices) h⟩) b
  exact (pss_cons (ps_set (i := 2) sc__law_choices.nd rfl (by first | exact Or.inl rfl | exact Or.inr rfl) (pe_lst (pa_cons (pe_lst pa_nil) pa_nil)))
  (pss_cons (ps_for PassesOwn.never rfl (pi_range1 rfl (T.free 10 _ rfl) (pa_cons (pv 0) pa_nil)) (pg_name (i := 3) sc__law_choices.nd rfl (by first | exact Or.inl rfl | exact Or.inr rfl)) (pss_one (ps_set (i := 2) sc__law_choices.nd rfl (by first | exact Or.inl rfl | exact Or.inr rfl) (pe_op (op_Add T (ok_R__add__ T) (hr.mono (by decide))) (pv 2) (pe_lc (own := [("_law_one", 4)]) (wi := (iSeq K (tVar 2))) (g := (gName 4)) (tt := (tTest (tOp rLtI (tCB (rLen K) (tCons (tVar 4) tNil)) (tVar 1)))) (te := (tOp (rAdd (cR K) (cN K)) (tVar 4) (tLst (tCons (tVar 3) tNil)))) rfl sc__law_choices.nd (pi_seq (pv 2)) (blkOk_by (by kernel_rfl)) (fun _ _ _ _ _ => (pg_name (i := 4) sc__law_choices.nd rfl (by first | exact Or.inl rfl | exact Or.inr rfl))) (fun _ _ _ _ _ => (pts_one (pt_cmpR (op_lt) (pe_callB (call_len) rfl (T.free 5 _ rfl) bt_len (pa_cons (pv 4) pa_nil)) (pv 1) (nomark _)))) (fun _ _ _ _ _ => (pe_op (op_Add T (ok_R__add__ T) (hr.mono (by decide))) (pv 4) (pe_lst (pa_cons (pv 3) pa_nil)))))))))
  (pss_one (ps_ret (pe_lc (own := [("_law_one", 4)]) (wi := (iSeq K (tVar 2))) (g := (gName 4)) (tt := (tTest (tOp (rEqU K) (tCB (rLen K) (tCons (tVar 4) tNil)) (tVar 1)))) (te := (tVar 4)) rfl sc__law_choices.nd (pi_seq (pv 2)) (blkOk_by (by kernel_rfl)) (fun _ _ _ _ _ => (pg_name (i := 4) sc__law_choices.nd rfl (by first | exact Or.inl rfl | exact Or.inr rfl))) (fun _ _ _ _ _ => (pts_one (pt_cmpR (op_EqU hr) (pe_callB (call_len) rfl (T.free 5 _ rfl) bt_len (pa_cons (pv 4) pa_nil)) (pv 1) (nomark _)))) (fun _ _ _ _ _ => (pv 4)))))))

theorem sc__law_determinant : FnScope N__law_determinant ["_law_rows"] (defScope st__law_determinant) := ⟨rfl, rfl, rfl, by decide +kernel, rfl, by decide +kernel, by decide +kernel⟩
theorem ok_detN (T : Tx K mg) : ∀ n, FnR P w K mg base CX0 (n + 4) (aF "_law_determinant" K) (SpO (cR K) (cN K) (SD n))
  | 0 => by
    obtain ⟨fd, F⟩ := T.def_ 39 df__law_determinant rfl
    have b : Binds K fd ["_law_rows"] [] := F.bindsN fun _ _ _ _ _ _ us hl => match us, hl with | [_], _ => rfl
    refine fnr_of (F.ok sc__law_determinant (SpO.len (S := SD 0) (fun _ _ _ _ z => z.elim)) fun cdv A outer s H vs Q E hr h => ?_) b
    obtain ⟨_, _, _, _, _, _, _, z, _⟩ := h
    exact z.elim
  | n + 1 => by
    have ih := ok_detN T n
    obtain ⟨fd, F⟩ := T.def_ 39 df__law_determinant rfl
    have b : Binds K fd ["_law_rows"] [] := F.bindsN fun _ _ _ _ _ _ us hl => match us, hl with | [_], _ => rfl
    refine fnr_of (F.ok sc__law_determinant (SpO.len (len_detN n)) fun cdv A outer s H vs Q E hr h => ⟨t__law_determinant K (cR K) (cN K) (SD n), PSs.nox ?_, Bod.go (N := N__law_determinant) (bod_det n) h⟩) b
    exact (pss_cons (ps_if (pt_cmpR (op_EqU hr) (pe_callB (call_len) rfl (T.free 5 _ rfl) bt_len (pa_cons (pv 0) pa_nil)) pe_int (nomark _)) (pss_one (ps_ret (StX.pe_makeR T.mk_ (ok_R__init__1 T) (hr.mono (by omega)) rfl (T.glo 62 _ rfl) pz (pa_cons pe_int pa_nil)))) pss_nil)
    (pss_cons (ps_par (i := 1) (j := 2) rfl sc__law_determinant.nd rfl rfl (by decide) rfl rfl (pa_cons (StX.pe_makeR T.mk_ (ok_R__init__1 T) (hr.mono (by omega)) rfl (T.glo 62 _ rfl) pz (pa_cons pe_int pa_nil)) (pa_cons pe_int pa_nil)) rfl)
    (pss_cons (ps_for PassesOwn.never rfl (pi_enum rfl (T.free 9 _ rfl) (pa_cons (pe_ix ix_seq (pv 0) pe_int (fun _ _ => rfl)) pa_nil)) (pg_tup rfl (pgs_cons (pg_name (i := 3) sc__law_determinant.nd rfl (by first | exact Or.inl rfl | exact Or.inr rfl)) (pgs_cons (pg_name (i := 4) sc__law_determinant.nd rfl (by first | exact Or.inl rfl | exact Or.inr rfl)) pgs_nil))) (pss_cons (ps_if (pt_cmpR (op_NeU T (ok_R__eq__ T) (hr.mono (by omega))) (pe_propR (pv 4) T.cls (T.prop 2 _ rfl) (ok_Rsign T) (hr.mono (by omega)) pz) pe_int (nomark _)) (pss_one (ps_set (i := 1) sc__law_determinant.nd rfl (by first | exact Or.inl rfl | exact Or.inr rfl) (pe_op (op_Add T (ok_R__add__ T) (hr.mono (by omega))) (pv 1) (pe_op (op_Mul T (ok_R__mul__ T) (ok_R__rmul__ T) (hr.mono (by omega))) (pe_op (op_Mul T (ok_R__mul__ T) (ok_R__rmul__ T) (hr.mono (by omega))) (pe_cR (ih) (hr.mono (by omega)) rfl (T.glo 39 _ rfl) (T.kf 39 _ rfl) pz (pa_cons (pe_lc (own := [("_law_row", 5)]) (wi := (iSeq K (tSl (rSlL K) (tVar 0) (tPart (tC (.int 1))) tNoPart))) (g := (gName 5)) (tt := tYes) (te := (tOp (rAdd (cR K) (cN K)) (tSl (rSlL K) (tVar 5) tNoPart (tPart (tVar 3))) (tSl (rSlL K) (tVar 5) (tPart (tOp (rAdd (cR K) (cN K)) (tVar 3) (tC (.int 1)))) tNoPart))) rfl sc__law_determinant.nd (pi_seq (pe_slice sl_list (pv 0) (po_some pe_int) po_none)) (blkOk_by (by kernel_rfl)) (fun _ _ _ _ _ => (pg_name (i := 5) sc__law_determinant.nd rfl (by first | exact Or.inl rfl | exact Or.inr rfl))) (fun _ _ _ _ _ => pts_nil) (fun _ _ _ _ _ => (pe_op (op_Add T (ok_R__add__ T) (hr.mono (by omega))) (pe_slice sl_list (pv 5) po_none (po_some (pv 3))) (pe_slice sl_list (pv 5) (po_some (pe_op (op_Add T (ok_R__add__ T) (hr.mono (by omega))) (pv 3) pe_int)) po_none)))) pa_nil)) (pv 4)) (pv 2))))) pss_nil)
    (pss_one (ps_set (i := 2) sc__law_determinant.nd rfl (by first | exact Or.inl rfl | exact Or.inr rfl) (pe_op (op_Sub T (ok_R__sub__ T) (hr.mono (by omega))) pe_int (pv 2))))))
    (pss_one (ps_ret (pv 1))))))
theorem ok__law_determinant (T : Tx K mg) : FnR P w K mg base CX0 9 (aF "_law_determinant" K) (SpO (cR K) (cN K) S__law_determinant) := ok_detN T 5

theorem sc__law_minor : FnScope N__law_minor ["_law_rows", "_law_places"] (defScope st__law_minor) := ⟨rfl, rfl, rfl, by decide +kernel, rfl, by decide +kernel, by decide +kernel⟩
theorem ok__law_minor (T : Tx K mg) : FnR P w K mg base CX0 10 (aF "_law_minor" K) (SpO (cR K) (cN K) S__law_minor) := by
  obtain ⟨fd, F⟩ := T.def_ 41 df__law_minor rfl
  have b : Binds K fd ["_law_rows", "_law_places"] [] := F.bindsN fun _ _ _ _ _ _ us hl => match us, hl with | [_, _], _ => rfl
  refine fnr_of (F.ok sc__law_minor (SpO.len len__law_minor) fun cdv A outer s H vs Q E hr h => ⟨t__law_minor K (cR K) (cN K), PSs.nox ?_, Bod.go (N := N__law_minor) (by first | exact bod__law_minor T | exact bod__law_minor) h⟩) b
  exact (pss_one (ps_ret (pe_cR (ok__law_determinant T) (hr.mono (by decide)) rfl (T.glo 39 _ rfl) (T.kf 39 _ rfl) pz (pa_cons (pe_lc (own := [("_law_i", 2)]) (wi := (iSeq K (tVar 1))) (g := (gName 2)) (tt := tYes) (te := (tLc (iSeq K (tVar 1)) (gName 3) tYes (tOp (rIx K) (tOp (rIx K) (tVar 0) (tVar 2)) (tVar 3)) [3])) rfl sc__law_minor.nd (pi_seq (pv 1)) (blkOk_by (by kernel_rfl)) (fun _ _ _ _ _ => (pg_name (i := 2) sc__law_minor.nd rfl (by first | exact Or.inl rfl | exact Or.inr rfl))) (fun _ _ _ _ _ => pts_nil) (fun _ _ _ _ _ => (pe_lc (own := [("_law_j", 3)]) (wi := (iSeq K (tVar 1))) (g := (gName 3)) (tt := tYes) (te := (tOp (rIx K) (tOp (rIx K) (tVar 0) (tVar 2)) (tVar 3))) rfl sc__law_minor.nd (pi_seq (pv 1)) (blkOk_by (by kernel_rfl)) (fun _ _ _ _ _ => (pg_name (i := 3) sc__law_minor.nd rfl (by first | exact Or.inl rfl | exact Or.inr rfl))) (fun _ _ _ _ _ => pts_nil) (fun _ _ _ _ _ => (pe_ix ix_seq (pe_ix ix_seq (pv 0) (pv 2) (fun _ _ => rfl)) (pv 3) (fun _ _ => rfl)))))) pa_nil))))

theorem sc__law_sums : FnScope N__law_sums ["_law_rows"] (defScope st__law_sums) := ⟨rfl, rfl, rfl, by decide +kernel, rfl, by decide +kernel, by decide +kernel⟩
theorem ok__law_sums (T : Tx K mg) : FnR P w K mg base CX0 11 (aF "_law_sums" K) (SpO (cR K) (cN K) S__law_sums) := by
  obtain ⟨fd, F⟩ := T.def_ 42 df__law_sums rfl
  have b : Binds K fd ["_law_rows"] [] := F.bindsN fun _ _ _ _ _ _ us hl => match us, hl with | [_], _ => rfl
  refine fnr_of (F.ok sc__law_sums (SpO.len len__law_sums) fun cdv A outer s H vs Q E hr h => ⟨t__law_sums K (cR K) (cN K), PSs.nox ?_, Bod.go (N := N__law_sums) (by first | exact bod__law_sums T | exact bod__law_sums) h⟩) b
  exact (pss_cons (ps_set (i := 1) sc__law_sums.nd rfl (by first | exact Or.inl rfl | exact Or.inr rfl) (pe_lst pa_nil))
  (pss_cons (ps_for PassesOwn.never rfl (pi_range1 rfl (T.free 10 _ rfl) (pa_cons (pe_op (op_Add T (ok_R__add__ T) (hr.mono (by decide))) (pe_callB (call_len) rfl (T.free 5 _ rfl) bt_len (pa_cons (pv 0) pa_nil)) pe_int) pa_nil)) (pg_name (i := 2) sc__law_sums.nd rfl (by first | exact Or.inl rfl | exact Or.inr rfl)) (pss_one (ps_expr (pe_bm PySem.F.plainAttrs_list PySem.F.slot_list_append PySem.F.type_list_append mt_append (pv 1) (pa_cons (ClX.pe_cmeth (pe_glob rfl (T.glo 62 _ rfl) rfl) T.rd T.tot (ok_Rtotal T) (hr.mono (by decide)) pz (pa_cons (pe_lc (own := [("_law_places", 3)]) (wi := (iSeq K (tcR (SpO (cR K) (cN K) S__law_choices) E0 (tCons (tCB (rLen K) (tCons (tVar 0) tNil)) (tCons (tVar 2) tNil))))) (g := (gName 3)) (tt := tYes) (te := (tcR (SpO (cR K) (cN K) S__law_minor) E0 (tCons (tVar 0) (tCons (tVar 3) tNil)))) rfl sc__law_sums.nd (pi_seq (pe_cR (ok__law_choices T) (hr.mono (by decide)) rfl (T.glo 40 _ rfl) (T.kf 40 _ rfl) pz (pa_cons (pe_callB (call_len) rfl (T.free 5 _ rfl) bt_len (pa_cons (pv 0) pa_nil)) (pa_cons (pv 2) pa_nil)))) (blkOk_by (by kernel_rfl)) (fun _ _ _ _ _ => (pg_name (i := 3) sc__law_sums.nd rfl (by first | exact Or.inl rfl | exact Or.inr rfl))) (fun _ _ _ _ _ => pts_nil) (fun _ _ _ _ _ => (pe_cR (ok__law_minor T) (hr.mono (by decide)) rfl (T.glo 41 _ rfl) (T.kf 41 _ rfl) pz (pa_cons (pv 0) (pa_cons (pv 3) pa_nil))))) pa_nil)) pa_nil)))))
  (pss_one (ps_ret (pv 1)))))

theorem sc__law_changes : FnScope N__law_changes ["_law_numbers"] (defScope st__law_changes) := ⟨rfl, rfl, rfl, by decide +kernel, rfl, by decide +kernel, by decide +kernel⟩
theorem ok__law_changes (T : Tx K mg) : FnR P w K mg base CX0 3 (aF "_law_changes" K) (SpO (cR K) (cN K) S__law_changes) := by
  obtain ⟨fd, F⟩ := T.def_ 43 df__law_changes rfl
  have b : Binds K fd ["_law_numbers"] [] := F.bindsN fun _ _ _ _ _ _ us hl => match us, hl with | [_], _ => rfl
  refine fnr_of (F.ok sc__law_changes (SpO.len len__law_changes) fun cdv A outer s H vs Q E hr h => ⟨t__law_changes K (cR K) (cN K), PSs.nox ?_, Bod.go (N := N__law_changes) (by first | exact bod__law_changes T | exact bod__law_changes) h⟩) b
  exact (pss_cons (ps_setLc (i := 1) (own := [("_law_one", 2)]) (wi := (iSeq K (tVar 0))) (g := (gName 2)) (tt := (tTest (tOp rNe (tPrR (cR K) (SpO (cR K) (cN K) S_Rsign) E0 (tVar 2)) (tC (.int 0))))) (te := (tPrR (cR K) (SpO (cR K) (cN K) S_Rsign) E0 (tVar 2))) rfl sc__law_changes.nd rfl rfl (sw_true rfl rfl rfl (by kernel_rfl)) (pi_seq (pv 0)) (blkOk_by (by kernel_rfl)) (fun _ _ _ _ _ => (pg_name (i := 2) sc__law_changes.nd rfl (by first | exact Or.inl rfl | exact Or.inr rfl))) (fun _ _ _ _ _ => (pts_one (pt_cmpR op_ne (pe_propR (pv 2) T.cls (T.prop 2 _ rfl) (ok_Rsign T) (hr.mono (by decide)) pz) pe_int (nomark _)))) (fun _ _ _ _ _ => (pe_propR (pv 2) T.cls (T.prop 2 _ rfl) (ok_Rsign T) (hr.mono (by decide)) pz)))
  (pss_one (ps_ret (pe_callB (call_len) rfl (T.free 5 _ rfl) bt_len (pa_cons (pe_lc (own := [("_law_one", 2), ("_law_other", 3)]) (wi := (iZip K (tCons (tVar 1) (tCons (tSl (rSlL K) (tVar 1) (tPart (tC (.int 1))) tNoPart) tNil)))) (g := (gTup K 2 (gCons (gName 2) (gCons (gName 3) gNil)))) (tt := (tTest (tOp rNe (tVar 2) (tVar 3)))) (te := (tC (.int 1))) rfl sc__law_changes.nd (pi_zip rfl (T.free 8 _ rfl) (pa_cons (pv 1) (pa_cons (pe_slice sl_list (pv 1) (po_some pe_int) po_none) pa_nil))) (blkOk_by (by kernel_rfl)) (fun _ _ _ _ _ => (pg_tup rfl (pgs_cons (pg_name (i := 2) sc__law_changes.nd rfl (by first | exact Or.inl rfl | exact Or.inr rfl)) (pgs_cons (pg_name (i := 3) sc__law_changes.nd rfl (by first | exact Or.inl rfl | exact Or.inr rfl)) pgs_nil)))) (fun _ _ _ _ _ => (pts_one (pt_cmpR op_ne (pv 2) (pv 3) (nomark _)))) (fun _ _ _ _ _ => pe_int)) pa_nil)))))

theorem sc__law_signs : FnScope N__law_signs ["_law_rows"] (defScope st__law_signs) := ⟨rfl, rfl, rfl, by decide +kernel, rfl, by decide +kernel, by decide +kernel⟩
theorem ok__law_signs (T : Tx K mg) : FnR P w K mg base CX0 12 (aF "_law_signs" K) (SpO (cR K) (cN K) S__law_signs) := by
  obtain ⟨fd, F⟩ := T.def_ 44 df__law_signs rfl
  have b : Binds K fd ["_law_rows"] [] := F.bindsN fun _ _ _ _ _ _ us hl => match us, hl with | [_], _ => rfl
  refine fnr_of (F.ok sc__law_signs (SpO.len len__law_signs) fun cdv A outer s H vs Q E hr h => ⟨t__law_signs K (cR K) (cN K), PSs.nox ?_, Bod.go (N := N__law_signs) (by first | exact bod__law_signs T | exact bod__law_signs) h⟩) b
  exact (pss_cons (ps_set (i := 1) sc__law_signs.nd rfl (by first | exact Or.inl rfl | exact Or.inr rfl) (pe_cR (ok__law_sums T) (hr.mono (by decide)) rfl (T.glo 42 _ rfl) (T.kf 42 _ rfl) pz (pa_cons (pv 0) pa_nil)))
  (pss_cons (ps_set (i := 2) sc__law_signs.nd rfl (by first | exact Or.inl rfl | exact Or.inr rfl) (pe_cR (ok__law_changes T) (hr.mono (by decide)) rfl (T.glo 43 _ rfl) (T.kf 43 _ rfl) pz (pa_cons (pe_lc (own := [("_law_many", 4), ("_law_one", 5)]) (wi := (iEnum K (tCons (tVar 1) tNil))) (g := (gTup K 2 (gCons (gName 4) (gCons (gName 5) gNil)))) (tt := tYes) (te := (tIf (tTest (tOp (rEqU K) (tOp rModP (tCB rInt1 (tCons (tVar 4) tNil)) (tC (.int 2))) (tC (.int 0)))) (tVar 5) (tUn (rNeg (cR K) (cN K)) (tVar 5)))) rfl sc__law_signs.nd (pi_enum rfl (T.free 9 _ rfl) (pa_cons (pv 1) pa_nil)) (blkOk_by (by kernel_rfl)) (fun _ _ _ _ _ => (pg_tup rfl (pgs_cons (pg_name (i := 4) sc__law_signs.nd rfl (by first | exact Or.inl rfl | exact Or.inr rfl)) (pgs_cons (pg_name (i := 5) sc__law_signs.nd rfl (by first | exact Or.inl rfl | exact Or.inr rfl)) pgs_nil)))) (fun _ _ _ _ _ => pts_nil) (fun _ _ _ _ _ => (pe_ifExp (pt_cmpR (op_EqU hr) (pe_op op_mod (pe_callTy call_int1 rfl (T.free 1 _ rfl) bt_int (pa_cons (pv 4) pa_nil)) pe_int) pe_int (nomark _)) (pv 5) (pe_un (un_Neg T (ok_R__neg__ T) (hr.mono (by decide))) (pv 5))))) pa_nil)))
  (pss_cons (ps_set (i := 3) sc__law_signs.nd rfl (by first | exact Or.inl rfl | exact Or.inr rfl) (pe_cR (ok__law_changes T) (hr.mono (by decide)) rfl (T.glo 43 _ rfl) (T.kf 43 _ rfl) pz (pa_cons (pv 1) pa_nil)))
  (pss_one (ps_ret (pe_tup (pa_cons (pv 2) (pa_cons (pv 3) (pa_cons (pe_op (op_Sub T (ok_R__sub__ T) (hr.mono (by decide))) (pe_op (op_Sub T (ok_R__sub__ T) (hr.mono (by decide))) (pe_callB (call_len) rfl (T.free 5 _ rfl) bt_len (pa_cons (pv 0) pa_nil)) (pv 2)) (pv 3)) pa_nil)))))))))

end
end OC
set_option maxHeartbeats 4000000
/-! OcN: a list of owned lists. -/
namespace OC
open PySem PySem.Spec PyProof.Rows L2

section
variable {C CN : Addr} {K : Frg} {mg : Str → Option Value} {ρ ρ1 ρ2 : Sto} {μ μ1 μ2 μ3 : Mu} {te tf ta tb tc : TE} {tt : TT} {tr : TA} {x y z d d' : D} {ds es fs : List D} {r r' : R2} {b c : Bool} {E : AEn} {g : TG} {Γ : Gam} {B H B' H' : Hp}
/-- the owned lists of a list of lists -/
def NM (P : Addr) (ps : List Addr) (rs : List (List D)) (μ : Mu) : Mu := (P, ps.map D.ptr) :: ((ps.zip rs).reverse ++ μ)
theorem AF.frames : ∀ ν : Mu, AF C te ρ μ ds μ1 → AF C te ρ (ν ++ μ) ds (ν ++ μ1)
  | [], h => h
  | (p, es) :: ν, h => (AF.frames ν h).frame
theorem Gr.less {l l' : List Addr} (g : Gr l' B H B' H') (h : ∀ a ∈ l', a ∈ l ∨ H a = none) : Gr l B H B' H' := ⟨g.bb, fun a o e n => g.hh a o e fun z => (h a z).elim n (fun w => by rw [w] at e; cases e), g.fr, g.ds⟩
theorem dom_zip {ps : List Addr} {rs : List (List D)} (h : ps.length = rs.length) : ∀ q, q ∈ dom ((ps.zip rs).reverse ++ μ) ↔ q ∈ ps ∨ q ∈ dom μ := fun q => by
  unfold dom
  rw [List.map_append, List.mem_append, List.map_reverse, List.mem_reverse, List.map_fst_zip (by omega)]
theorem as_nest {wi : TI} {vs : List Nat} {xs : List D} {i0 : Nat} (rows : Nat → List D) (hi : AI C wi ρ μ xs μ) (hlen : xs.length ≤ 100000)
    (hs : ∀ (i : Nat) (d : D), xs[i]? = some d → ∃ ρ2 js, AG C g d (wipeA ρ vs) js ρ2 ∧ (∀ j ∈ js, j ∈ vs) ∧ AF C te ρ2 μ (rows i) μ)
    (h : ∀ P ps, ps.length = xs.length → (P :: ps).Nodup → (∀ q ∈ P :: ps, q ∉ dom μ) → E.nx (ρ.set i0 (some (.ptr P))) (NM P ps ((List.range xs.length).map rows) μ)) :
    AS C (tAsg (tLc wi g tYes te vs) (gName i0)) ρ μ E := fun Γ σ B H Dn rs ok gx f => hi.2 σ B H rs ok _ fun J B1 H1 g1 ok1 wk L hL => by
  obtain ⟨G, Y, w, hG, hY⟩ := wk
  have hLB : B1 L = none := ok1.bh.free hL
  have nm : ∀ q, H1 q = none → q ∉ dom μ := fun q hq z => by
    obtain ⟨ds', hm⟩ := mem_dom z
    obtain ⟨_, vs', h2, _⟩ := ok1.own.mem hm
    rw [hq] at h2; cases h2
  have hLm := nm L hL
  refine lc_it w (fun i H' => ∃ B' ps, ps.length = i ∧ (L :: ps).Nodup ∧ (∀ q ∈ ps, H1 q = none) ∧ Gr (L :: dom μ) B1 (upd H1 L (.lst [])) B' H' ∧ Ok C (NM L ps ((List.range i).map rows) μ) B' H') ⟨B1, [], rfl, by simp, by simp, Gr.refl _ _ _, (ok1.newH hL).bh, ⟨hLB, hLm, [], upd_same, rfl⟩, (ok1.newH hL).own⟩
    (fun i H' _ ⟨B', ps, _, _, _, g', ok'⟩ => hG H' (g'.bb.trans ok'.bh)) (fun i x H' H2 hlt ⟨B', ps, hpl, hnd, hpf, g', ok'⟩ hy => ?_) fun H' ⟨B', ps, hpl, hnd, hpf, g', ok'⟩ => ?_
  · obtain ⟨B3, d, g3, s3, hd, hr⟩ := hY i x H' H2 hlt hy B' g'.bb ok'.bh
    obtain ⟨ρ2, js, hag, hjs, he⟩ := hs i d hd
    have ok3 : Ok C (NM L ps ((List.range i).map rows) μ) B3 H2 := ok'.grow g3 s3
    refine hag (L2.wipe σ vs) B3 H2 x ((rs.mono (g1.bb.trans (g'.bb.trans g3.bb))).wipe vs) s3 hr _ fun σ2 rs2 w2 => ⟨(w2 vs hjs).trans (wipe_idem σ vs vs fun v hv => hv), ?_⟩
    unfold tYes
    dsimp only
    rw [if_pos rfl]
    have hzl : ps.length = ((List.range i).map rows).length := by rw [List.length_map, List.length_range, hpl]
    have hf := AF.frames ((L, ps.map D.ptr) :: (ps.zip ((List.range i).map rows)).reverse) he
    refine hf.2 σ2 B3 H2 rs2 ok3 _ fun p us B5 H5 g5 ok5 hp hB5 h5 r5 => ?_
    have gg5 : Gr (L :: dom μ) B1 (upd H1 L (.lst [])) B5 H5 := by
      refine Gr.less (l' := L :: (dom ((ps.zip ((List.range i).map rows)).reverse ++ μ))) (((g'.trans (g3.weak _)).more fun a z => ?_).trans g5) fun a z => ?_
      · rcases List.mem_cons.mp z with z | z
        · rw [z]; exact List.mem_cons_self ..
        · exact List.mem_cons_of_mem _ ((dom_zip hzl a).mpr (.inr z))
      · rcases List.mem_cons.mp z with z | z
        · exact .inl (by rw [z]; exact List.mem_cons_self ..)
        · rcases (dom_zip hzl a).mp z with z | z
          · refine .inr ?_
            rw [upd_ne (fun e : a = L => (List.nodup_cons.mp hnd).1 (by rw [← e]; exact z))]
            exact hpf a z
          · exact .inl (List.mem_cons_of_mem _ z)
    have hpn : p ∉ dom (NM L ps ((List.range i).map rows) μ) := fun z => by
      obtain ⟨ds', hm⟩ := mem_dom z
      obtain ⟨_, vs', h2, _⟩ := ok3.own.mem hm
      rw [hp] at h2; cases h2
    have hpL : p ≠ L := fun e => hpn (by rw [e]; exact List.mem_cons_self ..)
    have hpps : p ∉ ps := fun e => hpn (List.mem_cons_of_mem _ ((dom_zip hzl p).mpr (.inl e)))
    have hp1 : H1 p = none := by
      cases z : H1 p with
      | none => rfl
      | some o =>
        obtain ⟨o', z'⟩ := ((g'.trans (g3.weak _))).ds p o (by rw [upd_ne hpL]; exact z)
        rw [hp] at z'; cases z'
    obtain ⟨⟨n1, n2, acc, n3, n4⟩, n5⟩ := ok5.own
    refine ⟨acc, n3, ?_, B5, ps ++ [p], by rw [List.length_append, hpl]; rfl, ?_, ?_, ?_, ?_⟩
    · rw [n4.length, List.length_map, hpl]
      exact Nat.lt_of_lt_of_le (show _ < 1000000 by omega) (by decide)
    · rw [← List.cons_append, List.nodup_append]
      refine ⟨hnd, by simp, fun a ha b hb => ?_⟩
      rw [List.mem_singleton.mp hb]
      rcases List.mem_cons.mp ha with z | z
      · rw [z]; exact Ne.symm hpL
      · exact fun e => hpps (e ▸ z)
    · intro q hq
      rcases List.mem_append.mp hq with z | z
      · exact hpf q z
      · rw [List.mem_singleton.mp z]; exact hp1
    · refine ⟨gg5.bb, fun a o h n => ?_, gg5.fr, fun a o h => ?_⟩
      · rw [upd_ne (show a ≠ L from fun z => n (by rw [z]; exact List.mem_cons_self ..))]
        exact gg5.hh a o h n
      · by_cases z : a = L
        · exact ⟨_, by rw [z]; exact upd_same⟩
        · obtain ⟨o', z'⟩ := gg5.ds a o h
          exact ⟨o', by rw [upd_ne z]; exact z'⟩
    · have e1 : NM L (ps ++ [p]) ((List.range (i + 1)).map rows) μ = (L, (ps ++ [p]).map D.ptr) :: (p, rows i) :: ((ps.zip ((List.range i).map rows)).reverse ++ μ) := by
        unfold NM
        rw [List.range_succ, List.map_append (l₁ := List.range i), List.zip_append hzl, List.reverse_append]
        rfl
      rw [e1]
      have n2' : L ∉ dom ((ps.zip ((List.range i).map rows)).reverse ++ μ) := n2
      refine ⟨Same.upd_right ok5.bh n1, ⟨n1, ?_, acc ++ [.ref p], upd_same, ?_⟩, ⟨hB5, fun z => hpn (List.mem_cons_of_mem _ z), us, by rw [upd_ne hpL]; exact h5, r5⟩, ?_⟩
      · intro z
        rcases List.mem_cons.mp z with z | z
        · exact hpL z.symm
        · exact n2' z
      · rw [List.map_append]
        exact n4.snoc (d := .ptr p) rfl
      · refine Own.to (Same.refl _) (fun q hq => ?_) (fun q ws hq h => ?_) n5
        · obtain ⟨ds', hm⟩ := mem_dom hq
          exact (n5.mem hm).1
        · rw [upd_ne (show q ≠ L from fun z => n2 (z ▸ hq))]
          exact h
  · obtain ⟨⟨n1, n2, acc, n3, n4⟩, n5⟩ := ok'.own
    have hH : ∀ q, H1 q = none → H q = none := fun q hq => by
      cases z : H q with
      | none => rfl
      | some o =>
        obtain ⟨o', z'⟩ := g1.ds q o z
        rw [hq] at z'; cases z'
    have gA : Gr (dom μ) B1 H1 B' H' := ⟨g'.bb, fun a o h n => g'.hh a o (by rw [upd_ne (ne_of_none h hL)]; exact h) (fun z => by
        rcases List.mem_cons.mp z with z | z
        · rw [z, hL] at h; cases h
        · exact n z), (fun a o h => by
      rcases g'.fr a o h with z | z
      · exact .inl z
      · by_cases e : a = L
        · rw [e] at h; rw [n1] at h; cases h
        · rw [upd_ne e] at z; exact .inr z), fun a o h => g'.ds a o (by rw [upd_ne (ne_of_none h hL)]; exact h)⟩
    have gx' := (gx.step rfl g1).step rfl gA
    have hzl : ps.length = ((List.range xs.length).map rows).length := by rw [List.length_map, List.length_range, hpl]
    refine f.nx _ _ _ B' H' (h L ps hpl hnd fun q hq => ?_) ((rs.mono (g1.bb.trans g'.bb)).set i0 rfl) ok' ⟨gx'.bb, gx'.hh, gx'.fr, gx'.ds, fun q hq => ?_⟩
    · rcases List.mem_cons.mp hq with z | z
      · rw [z]; exact hLm
      · exact nm q (hpf q z)
    · rcases List.mem_cons.mp hq with z | z
      · exact .inr (gx.free (hH q (by rw [z]; exact hL)))
      · rcases (dom_zip hzl q).mp z with z | z
        · exact .inr (gx.free (hH q (hpf q z)))
        · exact gx'.lo q z
/-! ### one of them changes, all of them stand -/
theorem nm_mem {P : Addr} {ps : List Addr} {rs : List (List D)} {k : Nat} {p : Addr} {r : List D} (hp : ps[k]? = some p) (hr : rs[k]? = some r) : (p, r) ∈ NM P ps rs μ :=
  List.mem_cons_of_mem _ (List.mem_append_left _ (List.mem_reverse.mpr (List.mem_of_getElem? (List.getElem?_zip_eq_some.mpr ⟨hp, hr⟩))))
theorem nm_head {P : Addr} {ps : List Addr} {rs : List (List D)} : (P, ps.map D.ptr) ∈ NM P ps rs μ := List.mem_cons_self ..
theorem setM_off {p : Addr} (h : p ∉ dom μ) : setM μ p ds = μ := by
  unfold setM
  have : ∀ e ∈ μ, (if e.1 = p then (p, ds) else e) = e := fun e he => if_neg (fun z : e.1 = p => h (by rw [← z]; exact dom_mem (ds := e.2) he))
  rw [List.map_congr_left this]
  simp
theorem setM_app {μ' : Mu} {p : Addr} : setM (μ ++ μ') p ds = setM μ p ds ++ setM μ' p ds := by unfold setM; rw [List.map_append]
theorem setM_rev {p : Addr} : setM μ.reverse p ds = (setM μ p ds).reverse := by unfold setM; rw [List.map_reverse]
theorem setM_zip {p : Addr} {r : List D} : ∀ {ps : List Addr} {rs : List (List D)} {k : Nat}, ps.Nodup → ps[k]? = some p → setM (ps.zip rs) p r = ps.zip (rs.set k r)
  | [], _, _, _, h => by cases h
  | q :: ps, [], k, _, h => by cases k <;> rfl
  | q :: ps, s :: rs, 0, hn, h => by
    cases h
    show (if (p, s).1 = p then (p, r) else (p, s)) :: setM (ps.zip rs) p r = (p, r) :: ps.zip rs
    rw [if_pos rfl, setM_off]
    intro z
    obtain ⟨ds', hm⟩ := mem_dom z
    exact (List.nodup_cons.mp hn).1 (List.of_mem_zip hm).1
  | q :: ps, s :: rs, k + 1, hn, h => by
    have hq : q ≠ p := fun e => (List.nodup_cons.mp hn).1 (by rw [e]; exact List.mem_of_getElem? (i := k) h)
    show (if (q, s).1 = p then (p, r) else (q, s)) :: setM (ps.zip rs) p r = (q, s) :: ps.zip (rs.set k r)
    rw [if_neg hq, setM_zip (k := k) (List.nodup_cons.mp hn).2 h]
theorem nm_set {P p : Addr} {ps : List Addr} {rs : List (List D)} {k : Nat} {r : List D} (hn : (P :: ps).Nodup) (hd : ∀ q ∈ P :: ps, q ∉ dom μ) (hp : ps[k]? = some p) : setM (NM P ps rs μ) p r = NM P ps (rs.set k r) μ := by
  have hm := List.mem_of_getElem? hp
  have hP : P ≠ p := fun e => (List.nodup_cons.mp hn).1 (e ▸ hm)
  unfold NM
  rw [setM_next hP, setM_app, setM_rev, setM_zip (List.nodup_cons.mp hn).2 hp, setM_off (hd p (List.mem_cons_of_mem _ hm))]
theorem Own.app_r : ∀ {ν : Mu}, Own C B H (ν ++ μ) → Own C B H μ
  | [], h => h
  | _ :: ν, h => Own.app_r (ν := ν) h.2
theorem Own.off : ∀ {ν : Mu}, Own C B H (ν ++ μ) → ∀ p ∈ dom ν, p ∉ dom μ
  | [], _, p, h => by cases h
  | (q, es) :: ν, h, p, hp => by
    rcases List.mem_cons.mp hp with z | z
    · intro w
      refine h.1.2.1 ?_
      show q ∈ dom (ν ++ μ)
      unfold dom
      rw [List.map_append]
      exact List.mem_append_right _ (by rw [show q = p from z.symm]; exact w)
    · exact Own.off (ν := ν) h.2 p z
/-- a name of a list of owned lists handed back: they change no more -/
theorem ag_retNest {P : Addr} {ps : List Addr} {rs : List (List D)} {i : Nat} (hl : ps.length = rs.length) (hv : ρ[i]? = some (some (.ptr P))) (hP : ∀ q ∈ P :: ps, q ∉ Γ.dm) (h : E.rt (.val (.lst (rs.map D.lst))) μ) : ASg C Γ (tRet (tVar i)) ρ (NM P ps rs μ) E := fun σ B H Dn rs' ok gx f => by
  obtain ⟨v, h1, h2⟩ := rs'.at_ i _ hv
  rw [show v = V.ref P from h2] at h1
  refine ⟨.ref P, h1, ?_⟩
  have hdm : ∀ q, q ∈ dom (NM P ps rs μ) ↔ q ∈ P :: ps ∨ q ∈ dom μ := fun q => by
    unfold NM
    show q ∈ P :: dom _ ↔ _
    rw [List.mem_cons, dom_zip hl, List.mem_cons, or_assoc]
  have hoff : ∀ q ∈ P :: ps, q ∉ dom μ := by
    intro q hq
    refine Own.off (ν := (P, ps.map D.ptr) :: (ps.zip rs).reverse) ok.own q ?_
    show q ∈ P :: dom _
    rcases List.mem_cons.mp hq with z | z
    · rw [z]; exact List.mem_cons_self ..
    · refine List.mem_cons_of_mem _ ?_
      unfold dom
      rw [List.map_reverse, List.mem_reverse, List.map_fst_zip (by omega)]
      exact z
  have hfree : ∀ q ∈ P :: ps, B q = none := fun q hq => by
    obtain ⟨ds', hm⟩ := mem_dom ((hdm q).mpr (.inl hq))
    exact (ok.own.mem hm).1
  have hz : ∀ q ∈ P :: ps, Γ.H0 q = none := fun q hq => by
    rcases gx.lo q ((hdm q).mpr (.inl hq)) with z | z
    · exact absurd z (hP q hq)
    · exact z
  let B' : Hp := fun a => if a ∈ P :: ps then H a else B a
  have s1 : Same B B' := fun a u e => by
    show (if a ∈ P :: ps then H a else B a) = _
    by_cases z : a ∈ P :: ps
    · rw [if_pos z]; exact ok.bh a u e
    · rw [if_neg z]; exact e
  have s2 : Same B' H := fun a u e => by
    have e' : (if a ∈ P :: ps then H a else B a) = some u := e
    by_cases z : a ∈ P :: ps
    · rw [if_pos z] at e'; exact e'
    · rw [if_neg z] at e'; exact ok.bh a u e'
  have at_ : ∀ q ∈ P :: ps, B' q = H q := fun q hq => if_pos hq
  have ok' : Ok C μ B' H := ⟨s2, (Own.app_r (ν := (P, ps.map D.ptr) :: (ps.zip rs).reverse) ok.own).to s1 (fun q hq => by
    show (if q ∈ P :: ps then H q else B q) = none
    rw [if_neg fun z => hoff q z hq]
    obtain ⟨ds', hm⟩ := mem_dom hq
    exact ((Own.app_r (ν := (P, ps.map D.ptr) :: (ps.zip rs).reverse) ok.own).mem hm).1) fun _ _ _ h => h⟩
  refine f.rt _ μ _ B' H h ok' ⟨gx.bb.trans s1, gx.hh, fun a o e => ?_, gx.ds, fun q hq => gx.lo q ((hdm q).mpr (.inr hq))⟩ ?_
  · have e' : (if a ∈ P :: ps then H a else B a) = some o := e
    by_cases z : a ∈ P :: ps
    · exact .inr (hz a z)
    · rw [if_neg z] at e'; exact gx.fr a o e'
  · obtain ⟨_, vs, hH, hr⟩ := ok.own.mem (nm_head (P := P) (ps := ps) (rs := rs) (μ := μ))
    refine ⟨P, vs, rfl, by rw [at_ P (List.mem_cons_self ..)]; exact hH, ?_⟩
    have go : ∀ (k : List Addr) (rk : List (List D)) (ws : List V), k.length = rk.length → (∀ q r, (q, r) ∈ k.zip rk → (q, r) ∈ ps.zip rs) → RepL C B (k.map D.ptr) ws → RepL C B' (rk.map D.lst) ws := by
      intro k
      induction k with
      | nil =>
        intro rk ws hk _ hw
        cases rk with
        | nil => exact hw
        | cons _ _ => cases hk
      | cons q k ih =>
        intro rk ws hk hsub hw
        cases rk with
        | nil => cases hk
        | cons r rk =>
          obtain ⟨v, ws', rfl, h1, h2⟩ := hw
          have hqm := hsub q r (List.mem_cons_self ..)
          have hqp : q ∈ P :: ps := List.mem_cons_of_mem _ (List.of_mem_zip hqm).1
          obtain ⟨_, us, hq, hu⟩ := ok.own.mem (p := q) (ds := r) (List.mem_cons_of_mem _ (List.mem_append_left _ (List.mem_reverse.mpr hqm)))
          refine ⟨v, ws', rfl, ⟨q, us, h1, by rw [at_ q hqp]; exact hq, hu.mono s1⟩, ih rk ws' (by simpa using hk) (fun q' r' hm => hsub q' r' (List.mem_cons_of_mem _ hm)) h2⟩
    exact go ps rs vs hl (fun q r h => h) hr
end
end OC
set_option maxHeartbeats 4000000
/-! OcM3: the law's tables, lists and values, plain. -/
namespace OC
open PySem PySem.Spec PyProof.Rows L2
/-! ### handed -/
def handS (q : Rat) (t : Pot) : D × Pot := if q.den = 1 then (if (draw t 2).1 = 0 then .int q.num else .rat q, (draw t 2).2) else (.rat q, t)
def eitherF (l : List D × Pot) : D × Pot := (if (draw l.2 4).1 = 0 then .tup l.1 else .lst l.1, (draw l.2 4).2)
def handF (r : Row) (t : Pot) : D × Pot := eitherF (mapS handS r t)
def givF (A : Mat) (t : Pot) : D × Pot := eitherF (mapS handF A t)
theorem mapS_snoc {α β : Type} (f : α → Pot → β × Pot) (a : α) : ∀ (l : List α) (t : Pot), mapS f (l ++ [a]) t = ((mapS f l t).1 ++ [(f a (mapS f l t).2).1], (f a (mapS f l t).2).2)
  | [], t => rfl
  | b :: l, t => by
    show ((f b t).1 :: (mapS f (l ++ [a]) (f b t).2).1, (mapS f (l ++ [a]) (f b t).2).2) = _
    rw [mapS_snoc f a l]
    rfl
theorem mapS_length {α β : Type} (f : α → Pot → β × Pot) : ∀ (l : List α) (t : Pot), (mapS f l t).1.length = l.length
  | [], t => rfl
  | b :: l, t => congrArg (· + 1) (mapS_length f l _)
theorem mapS_ok {α β : Type} {f : α → Pot → β × Pot} (hf : ∀ a t, PotOk t → PotOk (f a t).2) : ∀ (l : List α) (t : Pot), PotOk t → PotOk (mapS f l t).2
  | [], t, h => h
  | b :: l, t, h => mapS_ok hf l _ (hf b t h)
theorem handS_ok (q : Rat) (t : Pot) (h : PotOk t) : PotOk (handS q t).2 := by
  unfold handS
  split
  · exact (draw_ok h (by decide)).2.2
  · exact h
theorem eitherF_ok {l : List D × Pot} (h : PotOk l.2) : PotOk (eitherF l).2 := (draw_ok h (by decide)).2.2
theorem handF_ok (r : Row) (t : Pot) (h : PotOk t) : PotOk (handF r t).2 := eitherF_ok (mapS_ok handS_ok r t h)
theorem givF_ok (A : Mat) (t : Pot) (h : PotOk t) : PotOk (givF A t).2 := eitherF_ok (mapS_ok handF_ok A t h)
theorem smallF_ok {m : Int} {t : Pot} (h : PotOk t) (hm : 0 ≤ m) : PotOk (smallF m t).2 := (draw_ok (draw_ok h (show (0 : Int) < 2 * m + 1 by omega)).2.2 (by decide)).2.2
theorem iterS_pot {α : Type} {f : Pot → α × Pot} (hf : ∀ t, PotOk t → PotOk (f t).2) {t : Pot} (h : PotOk t) : ∀ n, PotOk (iterS f n t).2
  | 0 => h
  | n + 1 => hf _ (iterS_pot hf h n)
theorem wayF_ok {n : Nat} {m : Int} {t : Pot} (h : PotOk t) (hm : 0 ≤ m) : PotOk (wayF n m t).2 := iterS_pot (fun t h => smallF_ok h hm) h n
/-! ### tables -/
def zeroM (n : Nat) : Mat := (List.range n).map fun _ => (List.range n).map fun _ => (0 : Rat)
def offF (t : Pot) : Int × Pot := ((draw t 5).1 - 2, (draw t 5).2)
theorem offF_ok (t : Pot) (h : PotOk t) : PotOk (offF t).2 := (draw_ok h (by decide)).2.2
def moreS (n : Nat) (s : Mat × Pot) : Mat × Pot := (moreF s.1 (smallF 3 s.2).1 (iterS offF n (smallF 3 s.2).2).1, (iterS offF n (smallF 3 s.2).2).2)
def moreL (n : Nat) (t : Pot) : Nat → Mat × Pot
  | 0 => (zeroM n, t)
  | k + 1 => moreS n (moreL n t k)
/-- one entry, drawn -/
def one1 (way : Int) (t : Pot) : Rat × Pot := if way = 0 then smallF 6 t else (((draw t 5).1 : Rat), (draw t 5).2)
def one2 (way : Int) (s : Rat × Pot) : Rat × Pot := if way = 0 then (if (draw s.2 16).1 = 0 then Rat.divInt 99991 7 else s.1, (draw s.2 16).2) else s
def one3 (way : Int) (i j : Nat) (s : Rat × Pot) : Rat × Pot :=
  if way = 3 then (if 0 < (draw s.2 3).1 then 0 else s.1, (draw s.2 3).2) else (if way = 2 ∧ i = j then 0 else s.1, s.2)
def oneF (way : Int) (i j : Nat) (t : Pot) : Rat × Pot := one3 way i j (one2 way (one1 way t))
def put2 (A : Mat) (i j : Nat) (q : Rat) : Mat := (A.set i ((A.getD i []).set j q)).set j (((A.set i ((A.getD i []).set j q)).getD j []).set i q)
def entS (way : Int) (i : Nat) (s : Mat × Pot) (j : Nat) : Mat × Pot := (put2 s.1 i j (oneF way i j s.2).1, (oneF way i j s.2).2)
def rowS (way : Int) (i : Nat) (s : Mat × Pot) : Nat → Mat × Pot
  | 0 => s
  | j + 1 => entS way i (rowS way i s j) j
def rowsS (way : Int) (s : Mat × Pot) : Nat → Mat × Pot
  | 0 => s
  | i + 1 => rowS way i (rowsS way s i) (i + 1)
def tableF (n : Nat) (t : Pot) : Mat × Pot :=
  if (draw t 4).1 = 1 then moreL n (draw (draw t 4).2 (n + 1)).2 (draw (draw t 4).2 (n + 1)).1.toNat
  else rowsS (draw t 4).1 (zeroM n, (draw t 4).2) n
theorem one1_ok {way : Int} {t : Pot} (h : PotOk t) : PotOk (one1 way t).2 := by
  unfold one1
  split
  · exact smallF_ok h (by decide)
  · exact (draw_ok h (by decide)).2.2
theorem one2_ok {way : Int} {s : Rat × Pot} (h : PotOk s.2) : PotOk (one2 way s).2 := by
  unfold one2
  split
  · exact (draw_ok h (by decide)).2.2
  · exact h
theorem one3_ok {way : Int} {i j : Nat} {s : Rat × Pot} (h : PotOk s.2) : PotOk (one3 way i j s).2 := by
  unfold one3
  split
  · exact (draw_ok h (by decide)).2.2
  · exact h
theorem oneF_ok {way : Int} {i j : Nat} {t : Pot} (h : PotOk t) : PotOk (oneF way i j t).2 := one3_ok (one2_ok (one1_ok h))
/-- n rows of n -/
def SqN (n : Nat) (A : Mat) : Prop := A.length = n ∧ ∀ r ∈ A, r.length = n
theorem SqN.sq {n : Nat} {A : Mat} (h : SqN n A) : SqM A := fun r hr => by rw [h.2 r hr, h.1]
theorem SqN.row {n : Nat} {A : Mat} (h : SqN n A) {i : Nat} (hi : i < n) : (A.getD i []).length = n := by
  have hi' : i < A.length := by rw [h.1]; exact hi
  rw [List.getD_eq_getElem?_getD, List.getElem?_eq_getElem hi']
  exact h.2 _ (List.getElem_mem hi')
theorem zeroM_sq (n : Nat) : SqN n (zeroM n) := by
  unfold zeroM
  refine ⟨by simp, fun r hr => ?_⟩
  obtain ⟨_, _, rfl⟩ := List.mem_map.mp hr
  simp
theorem SqN.set {n : Nat} {A : Mat} (h : SqN n A) {i : Nat} {r : Row} (hr : r.length = n) : SqN n (A.set i r) := ⟨by rw [List.length_set]; exact h.1, fun s hs => by
  rcases List.mem_or_eq_of_mem_set hs with z | z
  · exact h.2 s z
  · rw [z]; exact hr⟩
theorem put2_sq {n : Nat} {A : Mat} (h : SqN n A) {i j : Nat} (hi : i < n) (hj : j < n) (q : Rat) : SqN n (put2 A i j q) := by
  have h1 : SqN n (A.set i ((A.getD i []).set j q)) := h.set (by rw [List.length_set]; exact h.row hi)
  exact h1.set (by rw [List.length_set]; exact h1.row hj)
theorem moreF_sq {n : Nat} {A : Mat} (h : SqN n A) (c : Rat) (f : List Int) : SqN n (moreF A c f) := by
  unfold moreF
  refine ⟨by simp [h.1], fun r hr => ?_⟩
  obtain ⟨_, _, rfl⟩ := List.mem_map.mp hr
  simp [h.1]
theorem moreL_sq (n : Nat) (t : Pot) : ∀ k, SqN n (moreL n t k).1
  | 0 => zeroM_sq n
  | k + 1 => moreF_sq (moreL_sq n t k) _ _
theorem moreS_ok {n : Nat} {s : Mat × Pot} (h : PotOk s.2) : PotOk (moreS n s).2 := iterS_pot offF_ok (smallF_ok h (by decide)) n
theorem moreL_ok {n : Nat} {t : Pot} (h : PotOk t) : ∀ k, PotOk (moreL n t k).2
  | 0 => h
  | k + 1 => moreS_ok (moreL_ok h k)
theorem rowS_ok {way : Int} {i : Nat} {s : Mat × Pot} (h : PotOk s.2) : ∀ j, PotOk (rowS way i s j).2
  | 0 => h
  | j + 1 => oneF_ok (rowS_ok h j)
theorem rowsS_ok {way : Int} {s : Mat × Pot} (h : PotOk s.2) : ∀ i, PotOk (rowsS way s i).2
  | 0 => h
  | i + 1 => rowS_ok (rowsS_ok h i) _
theorem rowS_sq {n : Nat} {way : Int} {i : Nat} {s : Mat × Pot} (h : SqN n s.1) (hi : i < n) : ∀ j, j ≤ n → SqN n (rowS way i s j).1
  | 0, _ => h
  | j + 1, hj => put2_sq (rowS_sq h hi j (by omega)) hi (by omega) _
theorem rowsS_sq {n : Nat} {way : Int} {s : Mat × Pot} (h : SqN n s.1) : ∀ i, i ≤ n → SqN n (rowsS way s i).1
  | 0, _ => h
  | i + 1, hi => rowS_sq (rowsS_sq h i (by omega)) (by omega) _ (by omega)
theorem tableF_sq (n : Nat) (t : Pot) : SqN n (tableF n t).1 := by
  unfold tableF
  split
  · exact moreL_sq n _ _
  · exact rowsS_sq (zeroM_sq n) n (Nat.le_refl _)
theorem tableF_ok {n : Nat} {t : Pot} (h : PotOk t) : PotOk (tableF n t).2 := by
  unfold tableF
  split
  · exact moreL_ok (draw_ok (draw_ok h (by decide)).2.2 (by omega)).2.2 _
  · exact rowsS_ok (draw_ok h (by decide)).2.2 n
/-! ### values -/
def waysF (A : Mat) (w : Row) (n : Nat) (s : List D × Pot) : List D × Pot := (s.1 ++ [RLd (wayF n 4 s.2).1, RLd (withoutF A w (wayF n 4 s.2).1)], (wayF n 4 s.2).2)
def waysL (A : Mat) (w : Row) (n : Nat) (s : List D × Pot) : Nat → List D × Pot
  | 0 => s
  | k + 1 => waysF A w n (waysL A w n s k)
def vals0 (w : Row) (n : Nat) : List D := [.non, .lst [], .str (Txt.mul "a" n), .dic, RLd w, .lst (List.replicate n (.int 0)), .lst (List.replicate (n + 1) (.int 0)), .lst (List.replicate n (.bl true))]
def timesD : List D := [.int (-1), .int 3, .rat (Rat.divInt 2 5)]
def timesQ : D → Rat
  | .int i => i
  | .rat q => q
  | _ => 0
def oddsD (v : Row) (a : Nat) : List D := [.non, .bl false, .str "0", .rat (v.getD a 0 + 1)]
def toldVals (v w : Row) (a : Nat) (c : Rat) : List D :=
  [RLd (v.map fun q => c * q), .tup (v.map D.rat), .lst (v.map D.rat ++ [.int 0]), RLd (v.drop 1), RLd (List.zipWith (· + ·) v w)] ++
  (oddsD v a).map fun o => .lst (((v.map D.rat).take a ++ [o]) ++ (v.map D.rat).drop (a + 1))
def valsF (A : Mat) (w : Row) (told : Option Row) (t : Pot) : List D × Pot :=
  match told with
  | none => waysL A w A.length (vals0 w A.length, t) 4
  | some v =>
    let s := waysL A w A.length (vals0 w A.length, t) 4
    let a := draw s.2 A.length
    let c := draw a.2 3
    (s.1 ++ toldVals v w a.1.toNat (timesQ (timesD.getD c.1.toNat .non)), c.2)
def SmQ (m : Int) (q : Rat) : Prop := ∃ a b : Int, -m ≤ a ∧ a ≤ m ∧ 1 ≤ b ∧ b ≤ 3 ∧ q = Rat.divInt a b
theorem smallF_smq {m : Int} {t : Pot} (h : PotOk t) (hm : 0 ≤ m) : SmQ m (smallF m t).1 := by
  obtain ⟨h1, h2, h3⟩ := draw_ok (n := 2 * m + 1) h (by omega)
  obtain ⟨h4, h5, _⟩ := draw_ok (n := 6) h3 (by decide)
  refine ⟨(draw t (2 * m + 1)).1 - m, someD.getD ((draw (draw t (2 * m + 1)).2 6).1).toNat 1, by omega, by omega, ?_, ?_, rfl⟩
  · generalize ((draw (draw t (2 * m + 1)).2 6).1).toNat = k
    match k with
    | 0 | 1 | 2 | 3 | 4 | 5 => decide
    | n + 6 => exact Int.le_refl _
  · generalize ((draw (draw t (2 * m + 1)).2 6).1).toNat = k
    match k with
    | 0 | 1 | 2 | 3 | 4 | 5 => decide
    | n + 6 => show (1 : Int) ≤ 3; decide
theorem wayF_len (n : Nat) (m : Int) (t : Pot) : (wayF n m t).1.length = n := iterS_length _ _ _
theorem wayF_smq {n : Nat} {m : Int} {t : Pot} (h : PotOk t) (hm : 0 ≤ m) : ∀ q ∈ (wayF n m t).1, SmQ m q := (iterS_ok (P := SmQ m) (fun t h => ⟨smallF_smq h hm, smallF_ok h hm⟩) h n).1
theorem waysL_ok {A : Mat} {w : Row} {n : Nat} {s : List D × Pot} (h : PotOk s.2) : ∀ k, PotOk (waysL A w n s k).2
  | 0 => h
  | k + 1 => wayF_ok (waysL_ok h k) (by decide)
/-! ### the bound -/
def brS (n : Nat) (t : Pot) : Nat → Pot
  | 0 => t
  | k + 1 => (wayF n 6 (brS n t k)).2
theorem brS_ok {n : Nat} {t : Pot} (h : PotOk t) : ∀ k, PotOk (brS n t k)
  | 0 => h
  | k + 1 => wayF_ok (brS_ok h k) (by decide)
end OC
set_option maxHeartbeats 4000000
/-! OcX9: the law, tables and lists: promises, readings, bodies. -/
namespace OC
open PySem PySem.Spec PyProof.Rows L2

/-! ### promises -/
def S__law_handed : Sc := pP fun ts t d t' => ∃ r : Row, ts = [RLd r] ∧ r.length ≤ 1000 ∧ d = (handF r t).1 ∧ t' = (handF r t).2
def S__law_given : Sc := pP fun ts t d t' => ∃ A : Mat, ts = [RMd A] ∧ A.length ≤ 1000 ∧ (∀ r ∈ A, r.length ≤ 1000) ∧ d = (givF A t).1 ∧ t' = (givF A t).2
/-- what the growing table asks -/
def GrowOk (n : Nat) : Prop := ∀ t k, PotOk t → k ≤ n → Sm (smallF 3 (moreL n t k).2).1 ∧ MoreOk (moreL n t k).1 (smallF 3 (moreL n t k).2).1 (iterS offF n (smallF 3 (moreL n t k).2).2).1
def S__law_table : Sc := pP fun ts t d t' => ∃ n : Nat, ts = [natD n] ∧ 0 < n ∧ n ≤ 4 ∧ GrowOk n ∧ d = RMd (tableF n t).1 ∧ t' = (tableF n t).2
/-- what taking the weights' part off asks -/
structure WtoOk (A : Mat) (w v : Row) : Prop where
  f1 : FormOk A w v
  f2 : FormOk A w w
  s1 : Sm (formF A w v)
  s2 : Sm (formF A w w)
  nz : formF A w w ≠ 0
  l : LOk v w (formF A w v / formF A w w)
structure ValsOk (A : Mat) (w : Row) (told : Option Row) : Prop where
  n0 : 0 < A.length
  n4 : A.length ≤ 4
  wl : w.length = A.length
  way : ∀ v : Row, v.length = A.length → (∀ q ∈ v, SmQ 4 q) → WtoOk A w v
  tl : ∀ v, told = some v → v.length = A.length ∧ (∀ q ∈ v, Sm q) ∧ (∀ q ∈ w, Sm q)
def S__law_values : Sc := pP fun ts t d t' => ∃ (A : Mat) (w : Row) (told : Option Row), ts = [RMd A, RLd w, optR told] ∧ ValsOk A w told ∧ d = .lst (valsF A w told t).1 ∧ t' = (valsF A w told t).2
structure BrOk (A : Mat) (w : Row) : Prop where
  n4 : A.length ≤ 4
  ww : FormOk A w w
  sw : Sm (formF A w w)
  way : ∀ v : Row, v.length = A.length → (∀ q ∈ v, SmQ 6 q) → FormOk A w v ∧ FormOk A v v ∧ Sm (formF A w v) ∧ Sm (formF A v v) ∧ Sm (formF A w v * formF A w v) ∧ Sm (formF A w w * formF A v v) ∧ ¬ formF A w v * formF A w v < formF A w w * formF A v v
def S__law_bound_right : Sc := pP fun ts t d t' => ∃ (A : Mat) (w : Row), ts = [RMd A, RLd w] ∧ BrOk A w ∧ d = .bl true ∧ t' = brS A.length t 3

abbrev N__law_handed : List Str := ["_law_pot_here", "_law_numbers", "_law_found", "_law_one"]
def t__law_handed (K : Frg) (C CN : Addr) : TS := (tSeq (tAsg (tLc (iSeq K (tVar 1)) (gName 3) tYes (tIf (tAnd (tTest (tOp (rEqU K) (tPrR C (SpO C CN S_Rbottom) E0 (tVar 3)) (tC (.int 1)))) (tTest (tOp (rEqU K) (tcR (SpO C CN S__law_draw) E0 (tCons (tVar 0) (tCons (tC (.int 2)) tNil))) (tC (.int 0))))) (tPrR C (SpO C CN S_Rtop) E0 (tVar 3)) (tVar 3)) [3]) (gName 2))
  (tRet (tIf (tTest (tOp (rEqU K) (tcR (SpO C CN S__law_draw) E0 (tCons (tVar 0) (tCons (tC (.int 4)) tNil))) (tC (.int 0)))) (tCB (rTupOf K) (tCons (tVar 2) tNil)) (tVar 2))))

abbrev N__law_given : List Str := ["_law_pot_here", "_law_rows", "_law_found", "_law_row"]
def t__law_given (K : Frg) (C CN : Addr) : TS := (tSeq (tAsg (tLc (iSeq K (tVar 1)) (gName 3) tYes (tcR (SpO C CN S__law_handed) E0 (tCons (tVar 0) (tCons (tVar 3) tNil))) [3]) (gName 2))
  (tRet (tIf (tTest (tOp (rEqU K) (tcR (SpO C CN S__law_draw) E0 (tCons (tVar 0) (tCons (tC (.int 4)) tNil))) (tC (.int 0)))) (tCB (rTupOf K) (tCons (tVar 2) tNil)) (tVar 2))))

abbrev N__law_table : List Str := ["_law_pot_here", "_law_size", "_law_way", "_law_rows", "_law_i", "_law_turn", "_law_j", "_law_one", "_law_place"]
def t__law_table (K : Frg) (C CN : Addr) : TS := (tSeq (tAsg (tcR (SpO C CN S__law_draw) E0 (tCons (tVar 0) (tCons (tC (.int 4)) tNil))) (gName 2))
  (tSeq (tAsg (tLc (iRng1 (tCons (tVar 1) tNil)) (gName 4) tYes (tLc (iRng1 (tCons (tVar 1) tNil)) (gName 6) tYes (StX.tMakeR C (spIni C [.int 1]) E0 (tCons (tC (.int 0)) tNil)) [6]) [4]) (gName 3))
  (tSeq (tIfS (tTest (tOp (rEqU K) (tVar 2) (tC (.int 1)))) (tSeq (tFor (iRng1 (tCons (tcR (SpO C CN S__law_draw) E0 (tCons (tVar 0) (tCons (tOp (rAdd C CN) (tVar 1) (tC (.int 1))) tNil))) tNil)) (gName 5) (tAsg (tcR (SpO C CN S__law_more) E0 (tCons (tVar 3) (tCons (tcR (SpO C CN S__law_small) E0 (tCons (tVar 0) (tCons (tC (.int 3)) tNil))) (tCons (tLc (iRng1 (tCons (tVar 1) tNil)) (gName 8) tYes (tOp (rSub C CN) (tcR (SpO C CN S__law_draw) E0 (tCons (tVar 0) (tCons (tC (.int 5)) tNil))) (tC (.int 2))) [8]) tNil)))) (gName 3)))
  (tRet (tVar 3))) tNext)
  (tSeq (tFor (iRng1 (tCons (tVar 1) tNil)) (gName 4) (tFor (iRng1 (tCons (tOp (rAdd C CN) (tVar 4) (tC (.int 1))) tNil)) (gName 6) (tSeq (tAsg (tIf (tTest (tOp (rEqU K) (tVar 2) (tC (.int 0)))) (tcR (SpO C CN S__law_small) E0 (tCons (tVar 0) (tCons (tC (.int 6)) tNil))) (StX.tMakeR C (spIni C [.int 1]) E0 (tCons (tcR (SpO C CN S__law_draw) E0 (tCons (tVar 0) (tCons (tC (.int 5)) tNil))) tNil))) (gName 7))
  (tSeq (tIfS (tAnd (tTest (tOp (rEqU K) (tVar 2) (tC (.int 0)))) (tTest (tOp (rEqU K) (tcR (SpO C CN S__law_draw) E0 (tCons (tVar 0) (tCons (tC (.int 16)) tNil))) (tC (.int 0))))) (tAsg (StX.tMakeR C (spIni C []) E0 (tCons (tC (.int 99991)) (tCons (tC (.int 7)) tNil))) (gName 7)) tNext)
  (tSeq (tIfS (tOr (tAnd (tTest (tOp (rEqU K) (tVar 2) (tC (.int 3)))) (tTest (tOp rGtI (tcR (SpO C CN S__law_draw) E0 (tCons (tVar 0) (tCons (tC (.int 3)) tNil))) (tC (.int 0))))) (tAnd (tTest (tOp (rEqU K) (tVar 2) (tC (.int 2)))) (tTest (tOp (rEqU K) (tVar 4) (tVar 6))))) (tAsg (StX.tMakeR C (spIni C [.int 1]) E0 (tCons (tC (.int 0)) tNil)) (gName 7)) tNext)
  (tAsg (tTup (tCons (tVar 7) (tCons (tVar 7) tNil))) (gTup K 2 (gCons (gSub (tOp (rIx K) (tVar 3) (tVar 4)) (tVar 6) rSetL) (gCons (gSub (tOp (rIx K) (tVar 3) (tVar 6)) (tVar 4) rSetL) gNil)))))))))
  (tRet (tVar 3))))))

abbrev N__law_values : List Str := ["_law_pot_here", "_law_rows", "_law_weights", "_law_told", "_law_size", "_law_found", "_law_turn", "_law_way", "_law_at", "_law_times", "_law_place", "_law_odd", "_law_one", "_law_weight"]
def t__law_values (K : Frg) (C CN : Addr) : TS := (tSeq (tAsg (tCB (rLen K) (tCons (tVar 1) tNil)) (gName 4))
  (tSeq (tAsg (tLst (tCons (tC .non) (tCons (tLst tNil) (tCons (tOp (rMul C CN) (tC (.str "a")) (tVar 4)) (tCons tDNewK (tCons (tVar 2) (tCons (tOp (rMul C CN) (tLst (tCons (tC (.int 0)) tNil)) (tVar 4)) (tCons (tOp (rMul C CN) (tLst (tCons (tC (.int 0)) tNil)) (tOp (rAdd C CN) (tVar 4) (tC (.int 1)))) (tCons (tOp (rMul C CN) (tLst (tCons (tC (.bl true)) tNil)) (tVar 4)) tNil))))))))) (gName 5))
  (tSeq (tFor (iRng1 (tCons (tC (.int 4)) tNil)) (gName 6) (tSeq (tAsg (tLc (iRng1 (tCons (tVar 4) tNil)) (gName 10) tYes (tcR (SpO C CN S__law_small) E0 (tCons (tVar 0) (tCons (tC (.int 4)) tNil))) [10]) (gName 7))
  (tDrop (tBM K "list" rExtend (tVar 5) (tCons (tLst (tCons (tVar 7) (tCons (tcR (SpO C CN S__law_without) E0 (tCons (tVar 1) (tCons (tVar 2) (tCons (tVar 7) tNil)))) tNil))) tNil)))))
  (tSeq (tIfS (tTest (tOp rNotN0 (tVar 3) (tC .non))) (tSeq (tAsg (tTup (tCons (tcR (SpO C CN S__law_draw) E0 (tCons (tVar 0) (tCons (tVar 4) tNil))) (tCons (tcR (SpO C CN S__law_pick) E0 (tCons (tVar 0) (tCons (tLst (tCons (tUn (rNeg C CN) (tC (.int 1))) (tCons (tC (.int 3)) (tCons (StX.tMakeR C (spIni C []) E0 (tCons (tC (.int 2)) (tCons (tC (.int 5)) tNil))) tNil)))) tNil))) tNil))) (gTup K 2 (gCons (gName 8) (gCons (gName 9) gNil))))
  (tSeq (tDrop (tBM K "list" rExtend (tVar 5) (tCons (tLst (tCons (tLc (iSeq K (tVar 3)) (gName 12) tYes (tOp (rMul C CN) (tVar 9) (tVar 12)) [12]) (tCons (tCB (rTupOf K) (tCons (tVar 3) tNil)) (tCons (tOp (rAdd C CN) (tVar 3) (tLst (tCons (tC (.int 0)) tNil))) (tCons (tSl (rSlL K) (tVar 3) (tPart (tC (.int 1))) tNoPart) (tCons (tLc (iZip K (tCons (tVar 3) (tCons (tVar 2) tNil))) (gTup K 2 (gCons (gName 12) (gCons (gName 13) gNil))) tYes (tOp (rAdd C CN) (tVar 12) (tVar 13)) [12, 13]) tNil)))))) tNil)))
  (tDrop (tBM K "list" rExtend (tVar 5) (tCons (tLc (iSeq K (tLst (tCons (tC .non) (tCons (tC (.bl false)) (tCons (tC (.str "0")) (tCons (tOp (rAdd C CN) (tOp (rIx K) (tVar 3) (tVar 8)) (tC (.int 1))) tNil)))))) (gName 11) tYes (tOp (rAdd C CN) (tOp (rAdd C CN) (tSl (rSlL K) (tVar 3) tNoPart (tPart (tVar 8))) (tLst (tCons (tVar 11) tNil))) (tSl (rSlL K) (tVar 3) (tPart (tOp (rAdd C CN) (tVar 8) (tC (.int 1)))) tNoPart)) [11]) tNil))))) tNext)
  (tRet (tVar 5))))))

abbrev N__law_bound_right : List Str := ["_law_pot_here", "_law_rows", "_law_weights", "_law_worth", "_law_turn", "_law_way", "_law_slope", "_law_place"]
def t__law_bound_right (K : Frg) (C CN : Addr) : TS := (tSeq (tAsg (tcR (SpO C CN S__law_form) E0 (tCons (tVar 1) (tCons (tVar 2) (tCons (tVar 2) tNil)))) (gName 3))
  (tSeq (tFor (iRng1 (tCons (tC (.int 3)) tNil)) (gName 4) (tSeq (tAsg (tLc (iRng1 (tCons (tCB (rLen K) (tCons (tVar 1) tNil)) tNil)) (gName 7) tYes (tcR (SpO C CN S__law_small) E0 (tCons (tVar 0) (tCons (tC (.int 6)) tNil))) [7]) (gName 5))
  (tSeq (tAsg (tcR (SpO C CN S__law_form) E0 (tCons (tVar 1) (tCons (tVar 2) (tCons (tVar 5) tNil)))) (gName 6))
  (tIfS (tB (tMethR C "is_below" (SpO C CN S_Ris_below) E0 (tOp (rMul C CN) (tVar 6) (tVar 6)) (tCons (tOp (rMul C CN) (tVar 3) (tcR (SpO C CN S__law_form) E0 (tCons (tVar 1) (tCons (tVar 5) (tCons (tVar 5) tNil))))) tNil))) (tRet (tC (.bl false))) tNext))))
  (tRet (tC (.bl true)))))

/-! ### bodies -/
section
variable {C CN : Addr} {K : Frg} {mg : Str → Option Value} {ρ ρ1 ρ2 : Sto} {μ μ1 : Mu} {E : AEn} {x y d : D} {q : Rat} {te tn ta : TE} {tt : TT} {tr : TA} {wi : TI} {g : TG} {vs : List Nat} {xs ys ds es : List D} {qs : List Rat} {Γ : Gam} {p : Addr} {t t1 t2 : Pot}
theorem len_pP {n : Nat} {f : List D → Pot → D → Pot → Prop} (h : ∀ ts t d t', f ts t d t' → ts.length = n) : ∀ ds μ r μ', pP f ds μ r μ' → ds.length = n + 1 := fun ds μ r μ' ⟨p, ts, t, d, t', e, _, _, hf, _⟩ => by rw [e, List.length_cons, h _ _ _ _ hf]
theorem len__law_handed : ∀ ds μ r μ', S__law_handed ds μ r μ' → ds.length = 2 := len_pP fun ts t d t' ⟨n, e, _⟩ => by rw [e]; rfl
theorem len__law_given : ∀ ds μ r μ', S__law_given ds μ r μ' → ds.length = 2 := len_pP fun ts t d t' ⟨n, e, _⟩ => by rw [e]; rfl
theorem len__law_table : ∀ ds μ r μ', S__law_table ds μ r μ' → ds.length = 2 := len_pP fun ts t d t' ⟨n, e, _⟩ => by rw [e]; rfl
theorem len__law_values : ∀ ds μ r μ', S__law_values ds μ r μ' → ds.length = 4 := len_pP fun ts t d t' ⟨A, w, o, e, _⟩ => by rw [e]; rfl
theorem len__law_bound_right : ∀ ds μ r μ', S__law_bound_right ds μ r μ' → ds.length = 3 := len_pP fun ts t d t' ⟨A, w, e, _⟩ => by rw [e]; rfl
/-- the pot at p stands at t -/
abbrev MP (μ : Mu) (p : Addr) (t : Pot) : Mu := setM μ p (potD t)
theorem MP_mem (h : p ∈ dom μ) : (p, potD t) ∈ MP μ p t := by
  obtain ⟨ds, hm⟩ := mem_dom h
  exact mem_setM hm
theorem MP_set : setM (MP μ p t1) p (potD t2) = MP μ p t2 := setM_setM μ
theorem Own.setM_eq {B H : Hp} : ∀ {μ : Mu}, Own C B H μ → (p, ds) ∈ μ → setM μ p ds = μ
  | [], _, h => by cases h
  | (q, es) :: μ, ⟨⟨_, hn, _⟩, h4⟩, hm => by
    by_cases e : q = p
    · subst e
      have : es = ds := by
        rcases List.mem_cons.mp hm with z | z
        · cases z; rfl
        · exact absurd (dom_mem z) hn
      rw [this, setM_head hn]
    · rw [setM_next e, Own.setM_eq h4 (by
        rcases List.mem_cons.mp hm with z | z
        · cases z; exact absurd rfl e
        · exact z)]
theorem ag_pot {ts : TS} (hm : (p, potD t) ∈ μ) (h : ASg C Γ ts ρ (MP μ p t) E) : ASg C Γ ts ρ μ E := fun σ B H Dn rs ok gx f => by
  have e : MP μ p t = μ := ok.own.setM_eq hm
  rw [e] at h
  exact h σ B H Dn rs ok gx f
/-- what a body with a pot ends in -/
abbrev EP (μ : Mu) (p : Addr) (d : D) (t' : Pot) : AEn := { nx := fun _ μ2 => d = .non ∧ (MP μ p t').Sublist μ2, rt := fun r2 μ2 => (r2 = .val d ∨ ∃ ds, r2 = .fresh ds ∧ d = .lst ds) ∧ (MP μ p t').Sublist μ2, er := fun _ => False }
theorem bod_pM {ts : TS} {n : Nat} {f : List D → Pot → D → Pot → Prop} (h : ∀ p xs t d t' μ, f xs t d t' → p ∈ dom μ → PotOk t → ∀ Γ : Gam, Γ.dm = dom μ → ASg C Γ ts (startA n (.ptr p :: xs)) (MP μ p t) (EP μ p d t')) : Bod C ts n (pP f) := fun ds μ r μ' hS hd Γ hΓ => by
  obtain ⟨p, xs, t, d, t', rfl, hm, ht, hf, rfl, rfl⟩ := hS
  intro σ B H Dn rs ok gx fo
  refine ag_pot hm (h p xs t d t' μ hf (dom_mem hm) ht Γ hΓ) σ B H Dn rs ok gx ⟨?_, ?_, fun _ _ _ _ _ z => z.elim, fun _ _ _ _ _ z => z.elim, fun _ _ _ z => z.elim⟩
  · rintro ρ μ2 σ B H ⟨rfl, hs⟩; exact fo.nx _ _ _ _ _ ⟨rfl, hs⟩
  · rintro r2 μ2 v B H ⟨rfl | ⟨es, rfl, rfl⟩, hs⟩
    · exact fo.rt _ _ _ _ _ ⟨.inl rfl, hs⟩
    · exact fo.rt _ _ _ _ _ ⟨.inr ⟨es, rfl, rfl⟩, hs⟩
theorem eP (h : t1 = t2 := by rfl) : (EP μ p d t2).rt (.val d) (MP μ p t1) := ⟨.inl rfl, by rw [h]; exact List.Sublist.refl _⟩
theorem ePF (h : t1 = t2 := by rfl) : (EP μ p (.lst ds) t2).rt (.fresh ds) (MP μ p t1) := ⟨.inr ⟨ds, rfl, rfl⟩, by rw [h]; exact List.Sublist.refl _⟩
/-- a call that moves the pot -/
theorem ae_callP {f : List D → Pot → D → Pot → Prop} (hd : p ∈ dom μ) (ht : PotOk t) (ha : AA C tr ρ (MP μ p t) (.ptr p :: ds) (MP μ p t)) (hf : f ds t d t1) : AE C (tcR (SpO C CN (pP f)) E0 tr) ρ (MP μ p t) d (MP μ p t1) :=
  ae_call ha ⟨p, ds, t, d, t1, rfl, MP_mem hd, ht, hf, rfl, MP_set.symm⟩ (by rw [dom_setM, dom_setM])
theorem ae_draw {n : Int} (hd : p ∈ dom μ) (ht : PotOk t) (h0 : ρ[0]? = some (some (.ptr p))) (hn : AE C tn ρ (MP μ p t) (.int n) (MP μ p t)) (h1 : 0 < n) (h2 : n < 1000000) : AE C (tcR (SpO C CN S__law_draw) E0 (tCons (tVar 0) (tCons tn tNil))) ρ (MP μ p t) (.int (draw t n).1) (MP μ p (draw t n).2) :=
  ae_callP hd ht (aa2 (ae_var h0) hn) ⟨n, rfl, h1, h2, rfl, rfl⟩
theorem ae_small {m : Int} (hd : p ∈ dom μ) (ht : PotOk t) (h0 : ρ[0]? = some (some (.ptr p))) (h1 : 0 ≤ m) (h2 : m ≤ 1000) : AE C (tcR (SpO C CN S__law_small) E0 (tCons (tVar 0) (tCons (tC (.int m)) tNil))) ρ (MP μ p t) (.rat (smallF m t).1) (MP μ p (smallF m t).2) :=
  ae_callP hd ht (aa2 (ae_var h0) ae_int) ⟨m, rfl, h1, h2, rfl, rfl⟩
/-- a list of draws -/
theorem af_iterM {α : Type} {f : Pot → α × Pot} (toD : α → D) {j n : Nat} (hf : ∀ t, PotOk t → PotOk (f t).2) (ht : PotOk t) (hi : AI C wi ρ (MP μ p t) (rngD 0 n) (MP μ p t)) (hn : n ≤ 100000)
    (hs : ∀ i t', i < n → PotOk t' → AE C te ((wipeA ρ [j]).set j (some (.int (i : Nat)))) (MP μ p t') (toD (f t').1) (MP μ p (f t').2)) : AF C (tLc wi (gName j) tYes te [j]) ρ (MP μ p t) ((iterS f n t).1.map toD) (MP μ p (iterS f n t).2) := by
  have := af_lc (C := C) (te := te) (tt := tYes) (g := gName j) (vs := [j]) (wi := wi) (ρ := ρ) (μ := MP μ p t) (xs := rngD 0 n) (fun i => MP μ p (iterS f i t).2) (fun i => (iterS f i t).1.map toD) hi rfl (by rw [rngD_length]; exact hn) fun i d hd => ?_
  · rw [rngD_length] at this
    exact this
  · obtain ⟨hin, rfl⟩ := rng_get hd
    rw [Int.zero_add]
    refine ⟨_, _, ag_name, by simp, true, _, at_yes, fun _ => ⟨toD (f (iterS f i t).2).1, hs i _ hin (iterS_pot hf ht i), ?_⟩, fun z => by cases z⟩
    show ((iterS f i t).1 ++ [(f (iterS f i t).2).1]).map toD = _
    rw [List.map_append]
    rfl
theorem af_mapM {α β : Type} {f : α → Pot → β × Pot} {src : α → D} (toD : β → D) {j : Nat} {l : List α} (hf : ∀ a t, PotOk t → PotOk (f a t).2) (ht : PotOk t) (hi : AI C wi ρ (MP μ p t) (l.map src) (MP μ p t)) (hn : l.length ≤ 100000)
    (hs : ∀ a ∈ l, ∀ t', PotOk t' → AE C te ((wipeA ρ [j]).set j (some (src a))) (MP μ p t') (toD (f a t').1) (MP μ p (f a t').2)) : AF C (tLc wi (gName j) tYes te [j]) ρ (MP μ p t) ((mapS f l t).1.map toD) (MP μ p (mapS f l t).2) := by
  have := af_lc (C := C) (te := te) (tt := tYes) (g := gName j) (vs := [j]) (wi := wi) (ρ := ρ) (μ := MP μ p t) (xs := l.map src) (fun i => MP μ p (mapS f (l.take i) t).2) (fun i => (mapS f (l.take i) t).1.map toD) hi rfl (by rw [List.length_map]; exact hn) fun i d hd => ?_
  · rw [List.length_map, List.take_length] at this
    exact this
  · obtain ⟨a, ha, rfl⟩ := get_mapped hd
    have ht' : l.take (i + 1) = l.take i ++ [a] := by rw [List.take_succ, ha]; rfl
    refine ⟨_, _, ag_name, by simp, true, _, at_yes, fun _ => ⟨toD (f a (mapS f (l.take i) t).2).1, ?_, ?_⟩, fun z => by cases z⟩
    · rw [ht', mapS_snoc]
      exact hs a (List.mem_of_getElem? ha) _ (mapS_ok hf _ t ht)
    · rw [ht', mapS_snoc, List.map_append]
      rfl
theorem startA_0 {n : Nat} (h : 0 < n) : (startA n (d :: ds))[0]? = some (some d) := by rfl
theorem den_one : decide ((q.den : Int) = 1) = decide (q.den = 1) := decide_eq_decide.mpr (by omega)
theorem as_either {l : List D} {t' : Pot} (hp : p ∈ dom μ) (ht : PotOk t) (h0 : ρ[0]? = some (some (.ptr p))) (h2 : ρ[2]? = some (some (.lst l))) (h1 : (eitherF (l, t)).1 = d) (h3 : (eitherF (l, t)).2 = t') : AS C (tRet (tIf (tTest (tOp (rEqU K) (tcR (SpO C CN S__law_draw) E0 (tCons (tVar 0) (tCons (tC (.int 4)) tNil))) (tC (.int 0)))) (tCB (rTupOf K) (tCons (tVar 2) tNil)) (tVar 2))) ρ (MP μ p t) (EP μ p d t') := by
  have h1' : (if (draw t 4).1 = 0 then D.tup l else D.lst l) = d := h1
  refine as_ret (ae_if (b := decide ((draw t 4).1 = 0)) (at_test ((ae_op (ae_draw hp ht h0 ae_int (by decide) (by decide)) ae_int (eq_s rfl)).is (by rw [int_eq]))) (fun z => ?_) fun z => ?_) (eP (h3 : (draw t 4).2 = t'))
  · rw [if_pos (of_decide_eq_true z)] at h1'
    exact (ae_cb (aa1 (ae_var h2)) ac_tupL).is h1'
  · rw [if_neg (of_decide_eq_false z)] at h1'
    exact (ae_var h2).is h1'
theorem bod__law_handed : Bod C (t__law_handed K C CN) 4 S__law_handed := bod_pM fun p ts t d t' μ ⟨r, e, hr, hd, ht'⟩ hp ht Γ hΓ => by
  subst e hd ht'
  refine AS.toG (as_seq (as_set (d := .lst (mapS handS r t).1) ((AF.e (af_mapM (f := handS) (src := D.rat) (fun x => x) (l := r) handS_ok ht (ai_seqL (ae_var rfl)) (by omega) fun q hq t' ht' => ?_)).is (by rw [List.map_id'])) ?_))
  · have h0 : ((wipeA (startA 4 [D.ptr p, RLd r]) [3]).set 3 (some (D.rat q)))[0]? = some (some (.ptr p)) := rfl
    have h3 : ((wipeA (startA 4 [D.ptr p, RLd r]) [3]).set 3 (some (D.rat q)))[3]? = some (some (.rat q)) := rfl
    have hb : AT C (tTest (tOp (rEqU K) (tPrR C (SpO C CN S_Rbottom) E0 (tVar 3)) (tC (.int 1)))) ((wipeA (startA 4 [D.ptr p, RLd r]) [3]).set 3 (some (D.rat q))) (MP μ p t') (decide (q.den = 1)) (MP μ p t') :=
      at_test ((ae_op (ae_prop (ae_var h3) (pS.mk ⟨q, rfl, rfl⟩)) ae_int (eq_s rfl)).is (by rw [int_eq, den_one]))
    have hdr : AT C (tTest (tOp (rEqU K) (tcR (SpO C CN S__law_draw) E0 (tCons (tVar 0) (tCons (tC (.int 2)) tNil))) (tC (.int 0)))) ((wipeA (startA 4 [D.ptr p, RLd r]) [3]).set 3 (some (D.rat q))) (MP μ p t') (decide ((draw t' 2).1 = 0)) (MP μ p (draw t' 2).2) :=
      at_test ((ae_op (ae_draw hp ht' h0 ae_int (by decide) (by decide)) ae_int (eq_s rfl)).is (by rw [int_eq]))
    unfold handS
    by_cases h1 : q.den = 1
    · rw [if_pos h1]
      rw [decide_eq_true h1] at hb
      refine ae_if (at_and1 hb hdr) (fun z => ?_) fun z => ?_
      · rw [if_pos (of_decide_eq_true z)]
        exact ae_prop (ae_var h3) (pS.mk ⟨q, rfl, rfl⟩)
      · rw [if_neg (of_decide_eq_false z)]
        exact ae_var h3
    · rw [if_neg h1]
      rw [decide_eq_false h1] at hb
      exact ae_ifF (at_and0 hb) (ae_var h3)
  · exact as_either hp (mapS_ok handS_ok r t ht) rfl rfl rfl rfl
theorem bod__law_given : Bod C (t__law_given K C CN) 4 S__law_given := bod_pM fun p ts t d t' μ ⟨A, e, hA, hr, hd, ht'⟩ hp ht Γ hΓ => by
  subst e hd ht'
  refine AS.toG (as_seq (as_set (d := .lst (mapS handF A t).1) ((AF.e (af_mapM (f := handF) (src := RLd) (fun x => x) (l := A) handF_ok ht (ai_seqL (ae_var rfl)) (by omega) fun r hrm t' ht' => ?_)).is (by rw [List.map_id'])) ?_))
  · exact ae_callP hp ht' (aa2 (ae_var rfl) (ae_var rfl)) ⟨r, rfl, hr r hrm, rfl, rfl⟩
  · exact as_either hp (mapS_ok handF_ok A t ht) rfl rfl rfl rfl
theorem bod__law_bound_right : Bod C (t__law_bound_right K C CN) 8 S__law_bound_right := bod_pM fun p ts t d t' μ ⟨A, w, e, hO, hd, ht'⟩ hp ht Γ hΓ => by
  subst e hd ht'
  have h4 := hO.n4
  refine AS.toG (as_seq (as_set (ae_call (aa3 (ae_var rfl) (ae_var rfl) (ae_var rfl)) (pS.mk ⟨A, w, w, _, _, _, _, rfl, .lst _, .lst _, .of w, .of w, hO.ww, rfl⟩)) ?_))
  refine as_seq (as_for (fun k ρ' μ' => μ' = MP μ p (brS A.length t k) ∧ ρ'.length = 8 ∧ ρ'[0]? = some (some (.ptr p)) ∧ ρ'[1]? = some (some (RMd A)) ∧ ρ'[2]? = some (some (RLd w)) ∧ ρ'[3]? = some (some (.rat (formF A w w)))) (ai_range1 (n := 3) (aa1 ae_int) (by decide)) ⟨rfl, rfl, rfl, rfl, rfl, rfl⟩ (fun k dd ρ' μ' hp2 hP => ?_) fun ρ' μ' hP => ?_)
  · obtain ⟨rfl, hl, r0, r1, r2, r3⟩ := hP
    obtain ⟨hk, rfl⟩ := rng_get hp2
    have htk := brS_ok (n := A.length) ht k
    refine ⟨_, _, ag_name, ?_⟩
    have s0 := get_set_ne (i := 4) (x := some (D.int (0 + (k : Nat)))) (by decide) r0
    have s1 := get_set_ne (i := 4) (x := some (D.int (0 + (k : Nat)))) (by decide) r1
    have s2 := get_set_ne (i := 4) (x := some (D.int (0 + (k : Nat)))) (by decide) r2
    have s3 := get_set_ne (i := 4) (x := some (D.int (0 + (k : Nat)))) (by decide) r3
    have sl : (ρ'.set 4 (some (D.int (0 + (k : Nat))))).length = 8 := by rw [List.length_set]; exact hl
    generalize ρ'.set 4 (some (D.int (0 + (k : Nat)))) = ρ2 at s0 s1 s2 s3 sl
    generalize hb : brS A.length t k = tk at htk
    refine as_seq (as_set (d := RLd (wayF A.length 6 tk).1) (μ1 := MP μ p (wayF A.length 6 tk).2) (AF.e (af_iterM (f := smallF 6) D.rat (n := A.length) (fun t h => smallF_ok h (by decide)) htk (ai_range1 (aa1 ((ae_cb (aa1 (ae_var s1)) ac_len_l).is (by rw [List.length_map]))) (by omega)) (by omega) fun i t' hi ht' => ?_)) ?_)
    · exact ae_small hp ht' (get_set_ne (by decide) (get_set_ne (by decide) s0)) (by decide) (by decide)
    have hsq := wayF_smq (n := A.length) (m := 6) htk (by decide)
    have hlen := wayF_len A.length 6 tk
    have hnx : brS A.length t (k + 1) = (wayF A.length 6 tk).2 := by rw [← hb]; rfl
    rw [hnx]
    generalize wayF A.length 6 tk = wt at hsq hlen
    obtain ⟨v, tk'⟩ := wt
    dsimp only at hsq hlen ⊢
    obtain ⟨f1, f2, b1, b2, b3, b4, b5⟩ := hO.way v hlen hsq
    have u0 := get_set_ne (i := 5) (x := some (RLd v)) (by decide) s0
    have u1 := get_set_ne (i := 5) (x := some (RLd v)) (by decide) s1
    have u2 := get_set_ne (i := 5) (x := some (RLd v)) (by decide) s2
    have u3 := get_set_ne (i := 5) (x := some (RLd v)) (by decide) s3
    have u5 : (ρ2.set 5 (some (RLd v)))[5]? = some (some (RLd v)) := get_set_eq (by omega)
    have ul : (ρ2.set 5 (some (RLd v))).length = 8 := by rw [List.length_set]; exact sl
    show AS C _ (ρ2.set 5 (some (RLd v))) _ _
    generalize ρ2.set 5 (some (RLd v)) = ρ3 at u0 u1 u2 u3 u5 ul
    refine as_seq (as_set (ae_call (aa3 (ae_var u1) (ae_var u2) (ae_var u5)) (pS.mk ⟨A, w, v, _, _, _, _, rfl, .lst _, .lst _, .of w, .of v, f1, rfl⟩)) ?_)
    have v0 := get_set_ne (i := 6) (x := some (D.rat (formF A w v))) (by decide) u0
    have v1 := get_set_ne (i := 6) (x := some (D.rat (formF A w v))) (by decide) u1
    have v2 := get_set_ne (i := 6) (x := some (D.rat (formF A w v))) (by decide) u2
    have v3 := get_set_ne (i := 6) (x := some (D.rat (formF A w v))) (by decide) u3
    have v5 := get_set_ne (i := 6) (x := some (D.rat (formF A w v))) (by decide) u5
    have v6 : (ρ3.set 6 (some (D.rat (formF A w v))))[6]? = some (some (.rat (formF A w v))) := get_set_eq (by omega)
    refine as_ifF (at_B ((ae_meth (ae_op (ae_var v6) (ae_var v6) (mul_q b1 b1)) (aa1 (ae_op (ae_var v3) (ae_call (aa3 (ae_var v1) (ae_var v5) (ae_var v5)) (pS.mk ⟨A, v, v, _, _, _, _, rfl, .lst _, .lst _, .of v, .of v, f2, rfl⟩)) (mul_q hO.sw b2))) (pS.mk ⟨_, _, _, rfl, .rat _, b3, b4, rfl⟩)).is (by rw [decide_eq_false b5]))) (as_next ⟨rfl, by rw [List.length_set]; exact ul, v0, v1, v2, v3⟩)
  · obtain ⟨rfl, hl, r0, r1, r2, r3⟩ := hP
    exact as_ret ae_bl eP
theorem waysL_len {A : Mat} {w : Row} {n : Nat} {s : List D × Pot} : ∀ k, (waysL A w n s k).1.length = s.1.length + 2 * k
  | 0 => rfl
  | k + 1 => by
    show ((waysL A w n s k).1 ++ [_, _]).length = _
    rw [List.length_append, waysL_len k]
    show _ + 2 = _
    omega
theorem mulOk_a {n : Nat} (h : n ≤ 4) : MulOk "a" (n : Int) := by
  unfold MulOk
  match n, h with
  | 0, _ => decide +kernel
  | 1, _ => decide +kernel
  | 2, _ => decide +kernel
  | 3, _ => decide +kernel
  | 4, _ => decide +kernel
  | n + 5, h => omega
theorem timesD_get {k : Nat} (h : k < 3) : timesD[k]? = some (timesD.getD k .non) ∧ ∀ q : Rat, Sm q → A2 C (rMul C CN) μ (timesD.getD k .non) (.rat q) (.rat (timesQ (timesD.getD k .non) * q)) μ := by
  match k, h with
  | 0, _ => exact ⟨rfl, fun q hq => by
    show A2 C (rMul C CN) μ (.int (-1)) (.rat q) (.rat (((-1 : Int) : Rat) * q)) μ
    rw [Rat.mul_comm]
    exact mul_r hq (sm_int (by decide))⟩
  | 1, _ => exact ⟨rfl, fun q hq => by
    show A2 C (rMul C CN) μ (.int 3) (.rat q) (.rat (((3 : Int) : Rat) * q)) μ
    rw [Rat.mul_comm]
    exact mul_r hq (sm_int (by decide))⟩
  | 2, _ => exact ⟨rfl, fun q hq => mul_q ⟨by show (2 : Nat) < _; decide, by show (5 : Nat) < _; decide⟩ hq⟩
  | n + 3, h => omega
theorem bod__law_values : Bod C (t__law_values K C CN) 14 S__law_values := bod_pM fun p ts t d t' μ ⟨A, w, told, e, hO, hd, ht'⟩ hp ht Γ hΓ => by
  subst e hd ht'
  have h0 := hO.n0
  have h4 := hO.n4
  refine ag_seq (as_set (d := .int (A.length : Nat)) ((ae_cb (aa1 (ae_var rfl)) ac_len_l).is (by rw [List.length_map])) ?_)
  refine ag_seq (as_own (ds := vals0 w A.length) (af_lst (aa_cons ae_non (aa_cons (AF.e (af_lst aa_nil (Nat.le_of_ble_eq_true rfl))) (aa_cons (ae_op ae_str (ae_var rfl) (mul_s (mulOk_a h4))) (aa_cons ae_dnew (aa_cons (ae_var rfl) (aa_cons ((ae_op (AF.e (af_lst (aa1 ae_int) (Nat.le_of_ble_eq_true rfl))) (ae_var rfl) (mul_l (by show 1 * A.length ≤ _; omega) (by omega))).is (congrArg D.lst List.flatten_replicate_singleton)) (aa_cons ((ae_op (AF.e (af_lst (aa1 ae_int) (Nat.le_of_ble_eq_true rfl))) (ae_op (ae_var rfl) ae_int add_i) (mul_l (n := A.length + 1) (by show 1 * (A.length + 1) ≤ _; omega) (by omega))).is (congrArg D.lst List.flatten_replicate_singleton)) (aa_cons ((ae_op (AF.e (af_lst (aa1 ae_bl) (Nat.le_of_ble_eq_true rfl))) (ae_var rfl) (mul_l (by show 1 * A.length ≤ _; omega) (by omega))).is (congrArg D.lst List.flatten_replicate_singleton)) aa_nil)))))))) (Nat.le_of_ble_eq_true rfl)) fun q hq => ?_)
  have hqm : q ∉ dom μ := by rw [dom_setM] at hq; exact hq
  have hqn : ∀ t, q ∉ dom (MP μ p t) := fun t => by rw [dom_setM]; exact hqm
  refine ag_seq (as_for (fun k ρ' μ' => μ' = (q, (waysL A w A.length (vals0 w A.length, t) k).1) :: MP μ p (waysL A w A.length (vals0 w A.length, t) k).2 ∧ ρ'.length = 14 ∧ ρ'[0]? = some (some (.ptr p)) ∧ ρ'[1]? = some (some (RMd A)) ∧ ρ'[2]? = some (some (RLd w)) ∧ ρ'[3]? = some (some (optR told)) ∧ ρ'[4]? = some (some (.int (A.length : Nat))) ∧ ρ'[5]? = some (some (.ptr q))) (ai_range1 (n := 4) (aa1 ae_int) (by decide)) ⟨rfl, rfl, rfl, rfl, rfl, rfl, rfl, rfl⟩ (fun k dd ρ' μ' hp2 hP => ?_) fun ρ' μ' hP => ?_)
  · obtain ⟨rfl, hl, r0, r1, r2, r3, r4, r5⟩ := hP
    obtain ⟨hk, rfl⟩ := rng_get hp2
    have htk := waysL_ok (A := A) (w := w) (n := A.length) (s := (vals0 w A.length, t)) ht k
    have hlk : (waysL A w A.length (vals0 w A.length, t) k).1.length = 8 + 2 * k := waysL_len k
    refine ⟨_, _, ag_name, ?_⟩
    have s0 := get_set_ne (i := 6) (x := some (D.int (0 + (k : Nat)))) (by decide) r0
    have s1 := get_set_ne (i := 6) (x := some (D.int (0 + (k : Nat)))) (by decide) r1
    have s2 := get_set_ne (i := 6) (x := some (D.int (0 + (k : Nat)))) (by decide) r2
    have s3 := get_set_ne (i := 6) (x := some (D.int (0 + (k : Nat)))) (by decide) r3
    have s4 := get_set_ne (i := 6) (x := some (D.int (0 + (k : Nat)))) (by decide) r4
    have s5 := get_set_ne (i := 6) (x := some (D.int (0 + (k : Nat)))) (by decide) r5
    have sl : (ρ'.set 6 (some (D.int (0 + (k : Nat))))).length = 14 := by rw [List.length_set]; exact hl
    generalize ρ'.set 6 (some (D.int (0 + (k : Nat)))) = ρ2 at s0 s1 s2 s3 s4 s5 sl
    show AS C _ ρ2 _ { nx := fun ρ' μ' => μ' = (q, (waysF A w A.length (waysL A w A.length (vals0 w A.length, t) k)).1) :: MP μ p (waysF A w A.length (waysL A w A.length (vals0 w A.length, t) k)).2 ∧ _, ct := fun ρ' μ' => μ' = (q, (waysF A w A.length (waysL A w A.length (vals0 w A.length, t) k)).1) :: MP μ p (waysF A w A.length (waysL A w A.length (vals0 w A.length, t) k)).2 ∧ _, rt := _, bk := _, er := _ }
    generalize waysL A w A.length (vals0 w A.length, t) k = st at htk hlk
    obtain ⟨found, tk⟩ := st
    dsimp only at htk hlk ⊢
    unfold waysF
    dsimp only
    refine as_seq (as_set (d := RLd (wayF A.length 4 tk).1) (μ1 := (q, found) :: MP μ p (wayF A.length 4 tk).2) ((AF.e (af_iterM (f := smallF 4) D.rat (n := A.length) (fun t h => smallF_ok h (by decide)) htk (ai_range1 (aa1 (ae_var s4)) (by omega)) (by omega) fun i t' hi ht' => ?_)).frame) ?_)
    · exact ae_small hp ht' (get_set_ne (by decide) (get_set_ne (by decide) s0)) (by decide) (by decide)
    have hsq := wayF_smq (n := A.length) (m := 4) htk (by decide)
    have hlen := wayF_len A.length 4 tk
    generalize wayF A.length 4 tk = wt at hsq hlen
    obtain ⟨v, tk'⟩ := wt
    dsimp only at hsq hlen ⊢
    have hW := hO.way v hlen hsq
    have u0 := get_set_ne (i := 7) (x := some (RLd v)) (by decide) s0
    have u1 := get_set_ne (i := 7) (x := some (RLd v)) (by decide) s1
    have u2 := get_set_ne (i := 7) (x := some (RLd v)) (by decide) s2
    have u3 := get_set_ne (i := 7) (x := some (RLd v)) (by decide) s3
    have u4 := get_set_ne (i := 7) (x := some (RLd v)) (by decide) s4
    have u5 := get_set_ne (i := 7) (x := some (RLd v)) (by decide) s5
    have u7 : (ρ2.set 7 (some (RLd v)))[7]? = some (some (RLd v)) := get_set_eq (by omega)
    have ul : (ρ2.set 7 (some (RLd v))).length = 14 := by rw [List.length_set]; exact sl
    generalize ρ2.set 7 (some (RLd v)) = ρ3 at u0 u1 u2 u3 u4 u5 u7 ul
    refine as_extend (ae_var u5) (AF.e (af_lst (aa2 (ae_var u7) (ae_call (aa3 (ae_var u1) (ae_var u2) (ae_var u7)) (pS.mk ⟨A, w, v, rfl, hW.f1, hW.f2, hW.s1, hW.s2, hW.nz, hW.l, rfl⟩))) (Nat.le_of_ble_eq_true rfl))) (List.mem_cons_self ..) (by show _ + 2 ≤ _; omega) ⟨?_, ul, u0, u1, u2, u3, u4, u5⟩
    rw [setM_head (hqn _)]
  · obtain ⟨rfl, hl, r0, r1, r2, r3, r4, r5⟩ := hP
    rw [rngD_length]
    have htk := waysL_ok (A := A) (w := w) (n := A.length) (s := (vals0 w A.length, t)) ht 4
    have hlk : (waysL A w A.length (vals0 w A.length, t) 4).1.length = 16 := waysL_len 4
    cases told with
    | none =>
      refine ag_seq (as_ifF (at_test (ae_op (ae_var r3) ae_non (a2_notN rfl))) (as_next ?_))
      exact ag_frz (by rw [hΓ]; exact hqm) (AS.toG (as_ret (ae_var (frz_self r5)) eP))
    | some v =>
      obtain ⟨hvl, hvs, hws⟩ := hO.tl v rfl
      have hwl := hO.wl
      unfold valsF
      dsimp only
      generalize waysL A w A.length (vals0 w A.length, t) 4 = st at htk hlk
      obtain ⟨found, tk⟩ := st
      dsimp only at htk hlk ⊢
      obtain ⟨a1, a2, a3⟩ := draw_ok (n := (A.length : Nat)) htk (by omega)
      obtain ⟨b1, b2, b3⟩ := draw_ok (n := 3) a3 (by decide)
      refine ag_seq (as_ifT (at_test (ae_op (ae_var r3) ae_non (a2_notN rfl))) ?_)
      obtain ⟨tg1, tg2⟩ := timesD_get (C := C) (CN := CN) (k := (draw (draw tk (A.length : Nat)).2 3).1.toNat) (μ := (q, found) :: MP μ p (draw (draw tk (A.length : Nat)).2 3).2) (by omega)
      refine as_seq (as_asg (d := .tup [.int (draw tk (A.length : Nat)).1, timesD.getD (draw (draw tk (A.length : Nat)).2 3).1.toNat .non]) (ae_tup (aa_cons (ae_draw hp htk r0 (ae_var r4) (by omega) (by omega)).frame (aa_cons (ae_callP (f := fun ts t d t' => ∃ (xs : List D) (x : D), ts = [.lst xs] ∧ 0 < xs.length ∧ xs.length < 1000000 ∧ xs[(draw t xs.length).1.toNat]? = some x ∧ d = x ∧ t' = (draw t xs.length).2) (ds := [.lst timesD]) hp a3 (aa2 (ae_var r0) (AF.e (af_lst (aa3 (ae_un ae_int neg_i) ae_int (ae_make2 (t := 2) (b := 5) (aa2 ae_int ae_int) (by decide) (by decide) (by decide))) (Nat.le_of_ble_eq_true rfl)))) ⟨timesD, _, rfl, by decide, by decide, tg1, rfl, rfl⟩).frame aa_nil)) (Nat.le_of_ble_eq_true rfl)) (ag_tup rfl (ags_cons ag_name (ags_cons ag_name ags_nil))) ?_)
      generalize timesD.getD (draw (draw tk (A.length : Nat)).2 3).1.toNat .non = c at tg2
      show AS C _ _ ((q, found) :: MP μ p (draw (draw tk (A.length : Nat)).2 3).2) _
      generalize (draw (draw tk (A.length : Nat)).2 3).2 = t2 at tg2 b3
      obtain ⟨a, ha⟩ : ∃ a : Nat, (draw tk (A.length : Nat)).1 = (a : Int) := ⟨(draw tk (A.length : Nat)).1.toNat, by omega⟩
      rw [ha] at a1 a2 ⊢
      rw [Int.toNat_natCast]
      have haL : a < v.length := by omega
      have s2 := get_set_ne (i := 9) (x := some c) (by decide) (get_set_ne (i := 8) (x := some (D.int (a : Nat))) (by decide) r2)
      have s3 := get_set_ne (i := 9) (x := some c) (by decide) (get_set_ne (i := 8) (x := some (D.int (a : Nat))) (by decide) r3)
      have s5 := get_set_ne (i := 9) (x := some c) (by decide) (get_set_ne (i := 8) (x := some (D.int (a : Nat))) (by decide) r5)
      have s8 : ((ρ'.set 8 (some (D.int (a : Nat)))).set 9 (some c))[8]? = some (some (.int (a : Nat))) := get_set_ne (by decide) (get_set_eq (by omega))
      have s9 : ((ρ'.set 8 (some (D.int (a : Nat)))).set 9 (some c))[9]? = some (some c) := get_set_eq (by rw [List.length_set]; omega)
      have sl : ((ρ'.set 8 (some (D.int (a : Nat)))).set 9 (some c)).length = 14 := by rw [List.length_set, List.length_set]; exact hl
      generalize (ρ'.set 8 (some (D.int (a : Nat)))).set 9 (some c) = ρ2 at s2 s3 s5 s8 s9 sl
      have hv1 : v.length ≤ 1000 := by omega
      refine as_seq (as_extend (es := [RLd (v.map fun q => timesQ c * q), .tup (v.map D.rat), .lst (v.map D.rat ++ [.int 0]), RLd (v.drop 1), RLd (List.zipWith (· + ·) v w)]) (ae_var s5) (AF.e (af_lst (aa_cons (AF.e (af_mapY ((v.map fun q => timesQ c * q).map D.rat) (ai_seqL (ae_var s3)) (by rw [List.length_map, List.length_map, List.length_map]) (by rw [List.length_map]; omega) fun i x y hx hy => ?_)) (aa_cons (ae_cb (aa1 (ae_var s3)) ac_tupL) (aa_cons (ae_op (ae_var s3) (AF.e (af_lst (aa1 ae_int) (Nat.le_of_ble_eq_true rfl))) (add_l (by rw [List.length_map]; show _ + 1 ≤ _; omega))) (aa_cons ((AF.e (af_slice (ae_var s3) (ao_some ae_int) ao_none)).is (by rw [show (1 : Int) = ((1 : Nat) : Int) from rfl, cut_drop]; show D.lst _ = D.lst ((v.drop 1).map D.rat); rw [List.map_drop])) (aa_cons (AF.e (af_mapY ((List.zipWith (· + ·) v w).map D.rat) (ai_zip (aa2 (ae_var s3) (ae_var s2))) zip_len (by rw [prsD_length, List.length_map, List.length_map]; omega) fun i x y hx hy => ?_)) aa_nil))))) (Nat.le_of_ble_eq_true rfl))) (List.mem_cons_self ..) (by show _ + 5 ≤ _; omega) ?_)
      · obtain ⟨z, hz, rfl⟩ := map_rat_get hx
        rw [List.getElem?_map, List.getElem?_map, hz] at hy
        cases hy
        exact ⟨_, _, ag_name, by simp, at_yes, ae_op (ae_var (get_set_ne (by decide) (get_set_ne (by decide) s9))) (ae_var (get_set_eq (by show 12 < (ρ2.set 12 none).length; rw [List.length_set]; omega))) (tg2 z (hvs z (List.mem_of_getElem? hz)))⟩
      · obtain ⟨s, u, hs, hu, rfl, rfl⟩ := zip_get hx hy
        exact ⟨_, _, ag_tup rfl (ags_cons ag_name (ags_cons ag_name ags_nil)), by simp, at_yes, ae_op (ae_var (get_set_ne (by decide) (get_set_eq (by show 12 < ((ρ2.set 13 none).set 12 none).length; rw [List.length_set, List.length_set]; omega)))) (ae_var (get_set_eq (by show 13 < (((ρ2.set 13 none).set 12 none).set 12 _).length; rw [List.length_set, List.length_set, List.length_set]; omega))) (add_q (hvs s hs) (hws u hu))⟩
      rw [setM_head (hqn _)]
      refine as_extend (es := (oddsD v a).map fun o => .lst (((v.map D.rat).take a ++ [o]) ++ (v.map D.rat).drop (a + 1))) (ae_var s5) (AF.e (af_mapY _ (ai_seqL (AF.e (af_lst (aa_cons ae_non (aa_cons ae_bl (aa_cons ae_str (aa_cons (ae_op (ae_op (ae_var s3) (ae_var s8) (ix_l (RLd_at haL))) ae_int (add_t (i := 1) (hvs _ (mem_getD haL)) (sm_int (by decide)))) aa_nil)))) (Nat.le_of_ble_eq_true rfl)))) (by rfl) (Nat.le_of_ble_eq_true rfl) fun i x y hx hy => ?_)) (List.mem_cons_self ..) (by show (found ++ [_, _, _, _, _]).length + 4 ≤ _; rw [List.length_append, hlk]; exact Nat.le_of_ble_eq_true rfl) ?_
      · have hx' : (oddsD v a)[i]? = some x := hx
        rw [List.getElem?_map, hx'] at hy
        cases hy
        have w3 : ((wipeA ρ2 [11]).set 11 (some x))[3]? = some (some (RLd v)) := get_set_ne (by decide) (get_set_ne (by decide) s3)
        have w8 : ((wipeA ρ2 [11]).set 11 (some x))[8]? = some (some (.int (a : Nat))) := get_set_ne (by decide) (get_set_ne (by decide) s8)
        have w11 : ((wipeA ρ2 [11]).set 11 (some x))[11]? = some (some x) := get_set_eq (by show 11 < (ρ2.set 11 none).length; rw [List.length_set]; omega)
        refine ⟨_, _, ag_name, by simp, at_yes, (ae_op (ae_op (AF.e (af_slice (ae_var w3) ao_none (ao_some (ae_var w8)))) (AF.e (af_lst (aa1 (ae_var w11)) (Nat.le_of_ble_eq_true rfl))) (add_l ?_)) (AF.e (af_slice (ae_var w3) (ao_some (ae_op (ae_var w8) ae_int add_i)) ao_none)) (add_l ?_)).is ?_⟩
        · rw [cut_take, List.length_take, List.length_map]
          show _ + 1 ≤ _
          omega
        · rw [show ((a : Nat) : Int) + 1 = ((a + 1 : Nat) : Int) from rfl, cut_take, cut_drop, List.length_append, List.length_take, List.length_drop, List.length_map]
          show _ + 1 + _ ≤ _
          omega
        · rw [show ((a : Nat) : Int) + 1 = ((a + 1 : Nat) : Int) from rfl, cut_take, cut_drop]
      rw [setM_head (hqn _)]
      refine ag_frz (by rw [hΓ]; exact hqm) (AS.toG (as_ret (ae_var (frz_self s5)) ⟨.inl ?_, List.Sublist.refl _⟩))
      unfold toldVals
      rw [← List.append_assoc]
/-! ### the table -/
abbrev RD (A : Mat) : List (List D) := A.map fun r => r.map D.rat
theorem AE.frames : ∀ ν : Mu, AE C te ρ μ d μ1 → AE C te ρ (ν ++ μ) d (ν ++ μ1)
  | [], h => h
  | (p, es) :: ν, h => (AE.frames ν h).frame
theorem AE.nm {P : Addr} {ps : List Addr} {rs : List (List D)} (h : AE C te ρ μ d μ1) : AE C te ρ (NM P ps rs μ) d (NM P ps rs μ1) := AE.frames ((P, ps.map D.ptr) :: (ps.zip rs).reverse) h
theorem RD_set {A : Mat} {i : Nat} {r : Row} : (RD A).set i (r.map D.rat) = RD (A.set i r) := by unfold RD; rw [List.map_set]
theorem RD_at {A : Mat} {i : Nat} (h : i < A.length) : (RD A)[i]? = some ((A.getD i []).map D.rat) := by unfold RD; rw [List.getElem?_map, get_of h]; rfl
theorem get_of' {l : List Addr} {k : Nat} (h : k < l.length) : l[k]? = some (l.getD k 0) := by
  rw [List.getD_eq_getElem?_getD, List.getElem?_eq_getElem h]
  rfl
theorem aa1' (h : AE C te ρ μ x μ1) : AA C (tCons te tNil) ρ μ [x] μ1 := aa_cons h aa_nil
theorem as_put {n : Nat} {P : Addr} {ps : List Addr} {A : Mat} {i j : Nat} (hA : SqN n A) (hpl : ps.length = n) (hnd : (P :: ps).Nodup) (hoff : ∀ q ∈ P :: ps, q ∉ dom μ) (hi : i < n) (hj : j < n) (r3 : ρ[3]? = some (some (.ptr P))) (r4 : ρ[4]? = some (some (.int (i : Nat)))) (r6 : ρ[6]? = some (some (.int (j : Nat)))) (r7 : ρ[7]? = some (some (.rat q)))
    (h : E.nx ρ (NM P ps (RD (put2 A i j q)) μ)) : AS C (tAsg (tTup (tCons (tVar 7) (tCons (tVar 7) tNil))) (gTup K 2 (gCons (gSub (tOp (rIx K) (tVar 3) (tVar 4)) (tVar 6) rSetL) (gCons (gSub (tOp (rIx K) (tVar 3) (tVar 6)) (tVar 4) rSetL) gNil)))) ρ (NM P ps (RD A) μ) E := by
  have pa : ∀ k, k < n → ps[k]? = some (ps.getD k 0) := fun k hk => get_of' (by omega)
  have ix : ∀ k, k < n → atI (ps.map D.ptr) (k : Int) = some (.ptr (ps.getD k 0)) := fun k hk => atI_nat (by rw [List.getElem?_map, pa k hk]; rfl)
  have h1 : SqN n (A.set i ((A.getD i []).set j q)) := hA.set (by rw [List.length_set]; exact hA.row hi)
  have e1 : setM (NM P ps (RD A) μ) (ps.getD i 0) (((A.getD i []).map D.rat).set j (.rat q)) = NM P ps (RD (A.set i ((A.getD i []).set j q))) μ := by
    rw [nm_set hnd hoff (pa i hi), ← RD_set, List.map_set]
  have e2 : setM (NM P ps (RD (A.set i ((A.getD i []).set j q))) μ) (ps.getD j 0) ((((A.set i ((A.getD i []).set j q)).getD j []).map D.rat).set i (.rat q)) = NM P ps (RD (put2 A i j q)) μ := by
    rw [nm_set hnd hoff (pa j hj)]
    unfold put2
    generalize A.set i ((A.getD i []).set j q) = A'
    rw [← RD_set, List.map_set]
  refine as_asgH (ae_tup (aa2 (ae_var r7) (ae_var r7)) (Nat.le_of_ble_eq_true rfl)) (ah_tup rfl (ahs_cons (ah_sub (ae_op (ae_var r3) (ae_var r4) (ix_o nm_head (ix i hi))) (ae_var r6) (nm_mem (pa i hi) (RD_at (by rw [hA.1]; exact hi))) (by rw [List.length_map, hA.row hi]; exact ixN_nat hj)) (by
    rw [e1]
    exact ahs_cons (ah_sub (ae_op (ae_var r3) (ae_var r6) (ix_o nm_head (ix j hj))) (ae_var r4) (nm_mem (pa j hj) (RD_at (by rw [h1.1]; exact hj))) (by rw [List.length_map, h1.row hj]; exact ixN_nat hi)) (by rw [e2]; exact ahs_nil)))) h
theorem table_one {n : Nat} {P : Addr} {ps : List Addr} {A : Mat} {i j : Nat} {way : Int} (hd : p ∈ dom μ) (ht : PotOk t) (hw : way = 0 ∨ way = 2 ∨ way = 3) (hA : SqN n A) (hpl : ps.length = n) (hnd : (P :: ps).Nodup) (hoff : ∀ q ∈ P :: ps, q ∉ dom μ) (hi : i < n) (hj : j < n) (hl : ρ.length = 9) (r0 : ρ[0]? = some (some (.ptr p))) (r2 : ρ[2]? = some (some (.int way))) (r3 : ρ[3]? = some (some (.ptr P))) (r4 : ρ[4]? = some (some (.int (i : Nat)))) (r6 : ρ[6]? = some (some (.int (j : Nat))))
    (h : ∀ ρ', ρ'.length = 9 → (∀ k, k ≠ 7 → ρ'[k]? = ρ[k]?) → E.nx ρ' (NM P ps (RD (entS way i (A, t) j).1) (MP μ p (entS way i (A, t) j).2))) :
    AS C (tSeq (tAsg (tIf (tTest (tOp (rEqU K) (tVar 2) (tC (.int 0)))) (tcR (SpO C CN S__law_small) E0 (tCons (tVar 0) (tCons (tC (.int 6)) tNil))) (StX.tMakeR C (spIni C [.int 1]) E0 (tCons (tcR (SpO C CN S__law_draw) E0 (tCons (tVar 0) (tCons (tC (.int 5)) tNil))) tNil))) (gName 7))
  (tSeq (tIfS (tAnd (tTest (tOp (rEqU K) (tVar 2) (tC (.int 0)))) (tTest (tOp (rEqU K) (tcR (SpO C CN S__law_draw) E0 (tCons (tVar 0) (tCons (tC (.int 16)) tNil))) (tC (.int 0))))) (tAsg (StX.tMakeR C (spIni C []) E0 (tCons (tC (.int 99991)) (tCons (tC (.int 7)) tNil))) (gName 7)) tNext)
  (tSeq (tIfS (tOr (tAnd (tTest (tOp (rEqU K) (tVar 2) (tC (.int 3)))) (tTest (tOp rGtI (tcR (SpO C CN S__law_draw) E0 (tCons (tVar 0) (tCons (tC (.int 3)) tNil))) (tC (.int 0))))) (tAnd (tTest (tOp (rEqU K) (tVar 2) (tC (.int 2)))) (tTest (tOp (rEqU K) (tVar 4) (tVar 6))))) (tAsg (StX.tMakeR C (spIni C [.int 1]) E0 (tCons (tC (.int 0)) tNil)) (gName 7)) tNext)
  (tAsg (tTup (tCons (tVar 7) (tCons (tVar 7) tNil))) (gTup K 2 (gCons (gSub (tOp (rIx K) (tVar 3) (tVar 4)) (tVar 6) rSetL) (gCons (gSub (tOp (rIx K) (tVar 3) (tVar 6)) (tVar 4) rSetL) gNil))))))) ρ (NM P ps (RD A) (MP μ p t)) E := by
  have hoffp : ∀ t, ∀ q ∈ P :: ps, q ∉ dom (MP μ p t) := fun t q hq => by rw [dom_setM]; exact hoff q hq
  have wt : ∀ {ρ : Sto} {m : Mu} (k : Int), ρ[2]? = some (some (.int way)) → AT C (tTest (tOp (rEqU K) (tVar 2) (tC (.int k)))) ρ m (decide (way = k)) m := fun k h2 => at_test ((ae_op (ae_var h2) ae_int (eq_s rfl)).is (by rw [int_eq]))
  -- first: one1
  refine as_seq (as_set (d := .rat (one1 way t).1) (μ1 := NM P ps (RD A) (MP μ p (one1 way t).2)) (ae_if (wt 0 r2) (fun z => ?_) fun z => ?_) ?_)
  · unfold one1
    rw [if_pos (of_decide_eq_true z)]
    exact (ae_small hd ht r0 (by decide) (by decide)).nm
  · unfold one1
    rw [if_neg (of_decide_eq_false z)]
    obtain ⟨d1, d2, _⟩ := draw_ok (n := 5) ht (by decide)
    exact ((ae_make1 (aa1' (ae_draw hd ht r0 ae_int (by decide) (by decide))) (Nat.lt_of_lt_of_le (log2_pos (a := 64) (by decide) (show ((draw t 5).1).natAbs < 2 ^ 64 by omega)) (by decide))).is (by rw [q_one])).nm
  have q2 := get_set_ne (i := 7) (x := some (D.rat (one1 way t).1)) (by decide) r2
  have q0 := get_set_ne (i := 7) (x := some (D.rat (one1 way t).1)) (by decide) r0
  have q3 := get_set_ne (i := 7) (x := some (D.rat (one1 way t).1)) (by decide) r3
  have q4 := get_set_ne (i := 7) (x := some (D.rat (one1 way t).1)) (by decide) r4
  have q6 := get_set_ne (i := 7) (x := some (D.rat (one1 way t).1)) (by decide) r6
  have q7 : (ρ.set 7 (some (D.rat (one1 way t).1)))[7]? = some (some (.rat (one1 way t).1)) := get_set_eq (by omega)
  have ql : (ρ.set 7 (some (D.rat (one1 way t).1))).length = 9 := by rw [List.length_set]; exact hl
  have qo : ∀ k, k ≠ 7 → (ρ.set 7 (some (D.rat (one1 way t).1)))[k]? = ρ[k]? := fun k hk => List.getElem?_set_ne (Ne.symm hk)
  have ho1 := one1_ok (way := way) ht
  have hent : (entS way i (A, t) j) = (put2 A i j (one3 way i j (one2 way (one1 way t))).1, (one3 way i j (one2 way (one1 way t))).2) := rfl
  rw [hent] at h
  generalize one1 way t = s1 at q2 q0 q3 q4 q6 q7 ql qo ho1 h ⊢
  generalize ρ.set 7 (some (D.rat s1.1)) = ρ1 at q2 q0 q3 q4 q6 q7 ql qo ⊢
  -- second: one2
  refine as_seq (AS.imp (E' := { nx := fun ρ' μ' => μ' = NM P ps (RD A) (MP μ p (one2 way s1).2) ∧ ρ'.length = 9 ∧ ρ'[7]? = some (some (.rat (one2 way s1).1)) ∧ ∀ k, k ≠ 7 → ρ'[k]? = ρ[k]?, rt := fun _ _ => False }) ?_ (fun ρ2 μ2 hP => ?_) (fun _ _ z => z.elim) (fun _ _ z => z.elim) (fun _ _ z => z.elim) fun _ z => z.elim)
  · unfold one2
    by_cases hz : way = 0
    · rw [if_pos hz]
      refine as_if (at_and1 ((wt 0 q2).is (decide_eq_true hz)) (at_test ((ae_op (ae_draw hd ho1 q0 ae_int (by decide) (by decide)).nm ae_int (eq_s rfl)).is (by rw [int_eq])))) (fun z => ?_) fun z => as_next ⟨rfl, ql, ?_, qo⟩
      · refine as_set (ae_make2 (aa2 ae_int ae_int) (by decide) (by decide) (by decide)) ⟨rfl, by rw [List.length_set]; exact ql, ?_, fun k hk => by rw [List.getElem?_set_ne (Ne.symm hk)]; exact qo k hk⟩
        rw [if_pos (of_decide_eq_true z)]
        exact get_set_eq (by omega)
      · rw [if_neg (of_decide_eq_false z)]
        exact q7
    · rw [if_neg hz]
      exact as_ifF (at_and0 ((wt 0 q2).is (decide_eq_false hz))) (as_next ⟨rfl, ql, q7, qo⟩)
  obtain ⟨rfl, zl, z7, zo⟩ := hP
  have ho2 := one2_ok (way := way) ho1
  generalize one2 way s1 = s2 at z7 ho2 h ⊢
  have z0 : ρ2[0]? = some (some (.ptr p)) := by rw [zo 0 (by decide)]; exact r0
  have z2 : ρ2[2]? = some (some (.int way)) := by rw [zo 2 (by decide)]; exact r2
  have z4 : ρ2[4]? = some (some (.int (i : Nat))) := by rw [zo 4 (by decide)]; exact r4
  have z6 : ρ2[6]? = some (some (.int (j : Nat))) := by rw [zo 6 (by decide)]; exact r6
  -- third: one3
  refine as_seq (AS.imp (E' := { nx := fun ρ' μ' => μ' = NM P ps (RD A) (MP μ p (one3 way i j s2).2) ∧ ρ'.length = 9 ∧ ρ'[7]? = some (some (.rat (one3 way i j s2).1)) ∧ ∀ k, k ≠ 7 → ρ'[k]? = ρ[k]?, rt := fun _ _ => False }) ?_ (fun ρ3 μ3 hP => ?_) (fun _ _ z => z.elim) (fun _ _ z => z.elim) (fun _ _ z => z.elim) fun _ z => z.elim)
  · have put0 : ∀ {m : Mu} {q : Rat}, q = 0 → AS C (tAsg (StX.tMakeR C (spIni C [.int 1]) E0 (tCons (tC (.int 0)) tNil)) (gName 7)) ρ2 m { nx := fun ρ' μ' => μ' = m ∧ ρ'.length = 9 ∧ ρ'[7]? = some (some (.rat q)) ∧ ∀ k, k ≠ 7 → ρ'[k]? = ρ[k]?, rt := fun _ _ => False } := fun hq =>
      as_set (ae_one 0) ⟨rfl, by rw [List.length_set]; exact zl, by rw [hq]; exact get_set_eq (by omega), fun k hk => by rw [List.getElem?_set_ne (Ne.symm hk)]; exact zo k hk⟩
    have hij : ∀ {m : Mu}, AT C (tTest (tOp (rEqU K) (tVar 4) (tVar 6))) ρ2 m (decide (i = j)) m := at_test ((ae_op (ae_var z4) (ae_var z6) (eq_s rfl)).is (by rw [int_eq]; exact congrArg D.bl (decide_eq_decide.mpr (by omega))))
    unfold one3
    by_cases h3 : way = 3
    · rw [if_pos h3]
      have hd3 := at_test (ae_op (AE.nm (P := P) (ps := ps) (rs := RD A) (ae_draw (C := C) (CN := CN) hd ho2 z0 ae_int (n := 3) (by decide) (by decide))) (ae_int (i := 0)) a2_gt)
      by_cases hg : 0 < (draw s2.2 3).1
      · exact as_ifT (at_or1 (at_and1 ((wt 3 z2).is (decide_eq_true h3)) (hd3.is (decide_eq_true hg)))) (put0 (by show (if 0 < _ then _ else _) = _; rw [if_pos hg]))
      · refine as_ifF (at_or0 (at_and1 ((wt 3 z2).is (decide_eq_true h3)) (hd3.is (decide_eq_false hg))) (at_and0 ((wt 2 z2).is (decide_eq_false (by omega))))) (as_next ⟨rfl, zl, ?_, zo⟩)
        show _ = some (some (D.rat (if 0 < _ then _ else _)))
        rw [if_neg hg]
        exact z7
    · rw [if_neg h3]
      have f3 := at_and0 (C := C) (tu := tTest (tOp rGtI (tcR (SpO C CN S__law_draw) E0 (tCons (tVar 0) (tCons (tC (.int 3)) tNil))) (tC (.int 0)))) ((wt (ρ := ρ2) (m := NM P ps (RD A) (MP μ p s2.2)) 3 z2).is (decide_eq_false h3))
      by_cases h2 : way = 2
      · by_cases he : i = j
        · exact as_ifT (at_or0 f3 (at_and1 ((wt 2 z2).is (decide_eq_true h2)) (hij.is (decide_eq_true he)))) (put0 (if_pos ⟨h2, he⟩))
        · refine as_ifF (at_or0 f3 (at_and1 ((wt 2 z2).is (decide_eq_true h2)) (hij.is (decide_eq_false he)))) (as_next ⟨rfl, zl, ?_, zo⟩)
          show _ = some (some (D.rat (if _ then _ else _)))
          rw [if_neg fun z => he z.2]
          exact z7
      · refine as_ifF (at_or0 f3 (at_and0 ((wt 2 z2).is (decide_eq_false h2)))) (as_next ⟨rfl, zl, ?_, zo⟩)
        show _ = some (some (D.rat (if _ then _ else _)))
        rw [if_neg fun z => h2 z.1]
        exact z7
  obtain ⟨rfl, wl, w7, wo⟩ := hP
  exact as_put hA hpl hnd (hoffp _) hi hj (by rw [wo 3 (by decide)]; exact r3) (by rw [wo 4 (by decide)]; exact r4) (by rw [wo 6 (by decide)]; exact r6) w7 (h _ wl wo)
theorem ae_zero {n : Nat} {μ : Mu} (hn : n ≤ 4) (h1 : ρ[1]? = some (some (natD n))) (hl : ρ.length = 9) : ∀ (i : Nat) (d : D), (rngD 0 n)[i]? = some d → ∃ ρ2 js, AG C (gName 4) d (wipeA ρ [4]) js ρ2 ∧ (∀ j ∈ js, j ∈ [4]) ∧ AF C (tLc (iRng1 (tCons (tVar 1) tNil)) (gName 6) tYes (StX.tMakeR C (spIni C [.int 1]) E0 (tCons (tC (.int 0)) tNil)) [6]) ρ2 μ (((List.range n).map fun _ => (0 : Rat)).map D.rat) μ := fun i d hd => by
  refine ⟨_, _, ag_name, by simp, ?_⟩
  refine af_mapY _ (ai_range1 (n := n) (aa1 (ae_var (get_set_ne (by decide) (get_set_ne (by decide) h1)))) (by omega)) (by rw [rngD_length]; simp) (by rw [rngD_length]; omega) fun k x y hx hy => ?_
  obtain ⟨hk, rfl⟩ := rng_get hx
  rw [List.getElem?_map, List.getElem?_map, List.getElem?_range hk] at hy
  cases hy
  exact ⟨_, _, ag_name, by simp, at_yes, ae_one 0⟩
theorem bod__law_table : Bod C (t__law_table K C CN) 9 S__law_table := bod_pM fun p ts t d t' μ ⟨n, e, h0, h4, hG, hd, ht'⟩ hp ht Γ hΓ => by
  subst e hd ht'
  obtain ⟨w1, w2, w3⟩ := draw_ok (n := 4) ht (by decide)
  refine ag_seq (as_set (ae_draw hp ht rfl ae_int (by decide) (by decide)) ?_)
  unfold tableF
  generalize hdr : draw t 4 = dr at w1 w2 w3
  obtain ⟨way, t1⟩ := dr
  dsimp only at w1 w2 w3 ⊢
  by_cases hw : way = 1
  · rw [if_pos hw]
    subst hw
    obtain ⟨a1, a2, a3⟩ := draw_ok (n := (n : Int) + 1) w3 (by omega)
    generalize hk : draw t1 ((n : Int) + 1) = dk at a1 a2 a3
    obtain ⟨kk, t2⟩ := dk
    dsimp only at a1 a2 a3 ⊢
    obtain ⟨m, rfl⟩ : ∃ m : Nat, kk = (m : Int) := ⟨kk.toNat, by omega⟩
    rw [Int.toNat_natCast]
    refine ag_seq (as_set (d := RMd (zeroM n)) (AF.e (af_mapY ((zeroM n).map RLd) (ai_range1 (n := n) (aa1 (ae_var rfl)) (by omega)) (by unfold zeroM; rw [rngD_length]; simp) (by rw [rngD_length]; omega) fun i x y hx hy => ?_)) ?_)
    · obtain ⟨ρ2, js, g1, g2, g3⟩ := ae_zero (C := C) (μ := MP μ p t1) (ρ := [some (.ptr p), some (natD n), some (.int 1), none, none, none, none, none, none]) h4 rfl rfl i x hx
      refine ⟨ρ2, js, g1, g2, at_yes, ?_⟩
      unfold zeroM at hy
      obtain ⟨hi, rfl⟩ := rng_get hx
      rw [List.getElem?_map, List.getElem?_map, List.getElem?_range hi] at hy
      cases hy
      exact AF.e g3
    refine AS.toG (as_seq (as_ifT (at_test ((ae_op (ae_var rfl) ae_int (eq_s rfl)).is rfl)) (as_seq (as_for (fun k ρ' μ' => μ' = MP μ p (moreL n t2 k).2 ∧ ρ'.length = 9 ∧ ρ'[0]? = some (some (.ptr p)) ∧ ρ'[1]? = some (some (natD n)) ∧ ρ'[3]? = some (some (RMd (moreL n t2 k).1)))
      (ai_range1 (n := m) (aa_cons ((ae_draw hp w3 rfl (ae_op (ae_var rfl) ae_int add_i) (by omega) (by omega)).is (d' := .int (m : Nat)) (by rw [hk])) aa_nil) (by omega)) ⟨by rw [hk]; rfl, rfl, rfl, rfl, rfl⟩ (fun k dd ρ' μ' hp2 hP => ?_) fun ρ' μ' hP => ?_))))
    · obtain ⟨rfl, hl, r0, r1, r3⟩ := hP
      obtain ⟨hkm, rfl⟩ := rng_get hp2
      have htk := moreL_ok (n := n) a3 k
      have hsq := moreL_sq n t2 k
      obtain ⟨g1, g2⟩ := hG t2 k a3 (by omega)
      show ∃ ρ2 js, _ ∧ AS C _ ρ2 _ { nx := fun ρ' μ' => μ' = MP μ p (moreS n (moreL n t2 k)).2 ∧ ρ'.length = 9 ∧ ρ'[0]? = some (some (.ptr p)) ∧ ρ'[1]? = some (some (natD n)) ∧ ρ'[3]? = some (some (RMd (moreS n (moreL n t2 k)).1)), ct := _, bk := _, rt := _, er := _ }
      generalize moreL n t2 k = st at htk hsq g1 g2 r3
      obtain ⟨A, tk⟩ := st
      dsimp only at htk hsq g1 g2 r3 ⊢
      unfold moreS
      dsimp only
      refine ⟨_, _, ag_name, ?_⟩
      have s0 := get_set_ne (i := 5) (x := some (D.int (0 + (k : Nat)))) (by decide) r0
      have s1 := get_set_ne (i := 5) (x := some (D.int (0 + (k : Nat)))) (by decide) r1
      have s3 := get_set_ne (i := 5) (x := some (D.int (0 + (k : Nat)))) (by decide) r3
      have sl : (ρ'.set 5 (some (D.int (0 + (k : Nat))))).length = 9 := by rw [List.length_set]; exact hl
      generalize ρ'.set 5 (some (D.int (0 + (k : Nat)))) = ρ2 at s0 s1 s3 sl
      have hts := smallF_ok (m := 3) htk (by decide)
      refine as_set (ae_call (aa_cons (ae_var s3) (aa_cons (ae_small hp htk s0 (by decide) (by decide)) (aa_cons (AF.e (af_iterM (f := offF) D.int (n := n) offF_ok hts (ai_range1 (aa1 (ae_var s1)) (by omega)) (by omega) fun i t' hi ht' => ?_)) aa_nil))) (pS.mk ⟨A, _, (iterS offF n (smallF 3 tk).2).1, rfl, hsq.sq, by rw [hsq.1]; omega, by rw [iterS_length, hsq.1], g1, g2, rfl⟩)) ⟨rfl, by rw [List.length_set]; exact sl, get_set_ne (by decide) s0, get_set_ne (by decide) s1, get_set_eq (by omega)⟩
      exact ae_op (ae_draw hp ht' (get_set_ne (by decide) (get_set_ne (by decide) s0)) ae_int (by decide) (by decide)) ae_int sub_i
    · obtain ⟨rfl, hl, r0, r1, r3⟩ := hP
      rw [rngD_length] at r3 ⊢
      exact as_ret (ae_var r3) eP
  · rw [if_neg hw]
    have hw' : way = 0 ∨ way = 2 ∨ way = 3 := by omega
    refine ag_seq (as_nest (fun _ => ((List.range n).map fun _ => (0 : Rat)).map D.rat) (ai_range1 (n := n) (aa1 (ae_var rfl)) (by omega)) (by rw [rngD_length]; omega) (ae_zero h4 rfl rfl) fun P ps hpl hnd hoff => ?_)
    rw [rngD_length] at hpl ⊢
    have hz : (List.range n).map (fun _ => ((List.range n).map fun _ => (0 : Rat)).map D.rat) = RD (zeroM n) := by unfold zeroM RD; simp [List.map_map, Function.comp_def]
    rw [hz]
    have hoff' : ∀ q ∈ P :: ps, q ∉ dom μ := fun q hq => by have := hoff q hq; rwa [dom_setM] at this
    refine ag_seq (as_ifF (at_test ((ae_op (ae_var rfl) ae_int (eq_s rfl)).is (by rw [int_eq, decide_eq_false hw]))) (as_next ?_))
    refine ag_seq (as_for (fun i ρ' μ' => μ' = NM P ps (RD (rowsS way (zeroM n, t1) i).1) (MP μ p (rowsS way (zeroM n, t1) i).2) ∧ ρ'.length = 9 ∧ ρ'[0]? = some (some (.ptr p)) ∧ ρ'[1]? = some (some (natD n)) ∧ ρ'[2]? = some (some (.int way)) ∧ ρ'[3]? = some (some (.ptr P))) (ai_range1 (n := n) (aa1 (ae_var rfl)) (by omega)) ⟨rfl, rfl, rfl, rfl, rfl, rfl⟩ (fun i dd ρ' μ' hp2 hP => ?_) fun ρ' μ' hP => ?_)
    · obtain ⟨rfl, hl, r0, r1, r2, r3⟩ := hP
      obtain ⟨hi, rfl⟩ := rng_get hp2
      have hti := rowsS_ok (way := way) (s := (zeroM n, t1)) w3 i
      have hsi := rowsS_sq (way := way) (s := (zeroM n, t1)) (zeroM_sq n) i (by omega)
      show ∃ ρ2 js, _ ∧ AS C _ ρ2 _ { nx := fun ρ' μ' => μ' = NM P ps (RD (rowS way i (rowsS way (zeroM n, t1) i) (i + 1)).1) (MP μ p (rowS way i (rowsS way (zeroM n, t1) i) (i + 1)).2) ∧ ρ'.length = 9 ∧ ρ'[0]? = some (some (.ptr p)) ∧ ρ'[1]? = some (some (natD n)) ∧ ρ'[2]? = some (some (.int way)) ∧ ρ'[3]? = some (some (.ptr P)), ct := _, bk := _, rt := _, er := _ }
      generalize rowsS way (zeroM n, t1) i = s at hti hsi
      rw [Int.zero_add]
      refine ⟨_, _, ag_name, ?_⟩
      have s0 := get_set_ne (i := 4) (x := some (D.int (i : Nat))) (by decide) r0
      have s1 := get_set_ne (i := 4) (x := some (D.int (i : Nat))) (by decide) r1
      have s2 := get_set_ne (i := 4) (x := some (D.int (i : Nat))) (by decide) r2
      have s3 := get_set_ne (i := 4) (x := some (D.int (i : Nat))) (by decide) r3
      have s4 : (ρ'.set 4 (some (D.int (i : Nat))))[4]? = some (some (.int (i : Nat))) := get_set_eq (by omega)
      have sl : (ρ'.set 4 (some (D.int (i : Nat)))).length = 9 := by rw [List.length_set]; exact hl
      generalize ρ'.set 4 (some (D.int (i : Nat))) = ρ2 at s0 s1 s2 s3 s4 sl
      refine as_for (fun j ρ' μ' => μ' = NM P ps (RD (rowS way i s j).1) (MP μ p (rowS way i s j).2) ∧ ρ'.length = 9 ∧ ρ'[0]? = some (some (.ptr p)) ∧ ρ'[1]? = some (some (natD n)) ∧ ρ'[2]? = some (some (.int way)) ∧ ρ'[3]? = some (some (.ptr P)) ∧ ρ'[4]? = some (some (.int (i : Nat)))) (ai_range1 (n := i + 1) (aa1 (ae_op (ae_var s4) ae_int add_i)) (by omega)) ⟨rfl, sl, s0, s1, s2, s3, s4⟩ (fun j dd ρ' μ' hp3 hP => ?_) fun ρ' μ' hP => ?_
      · obtain ⟨rfl, hl, r0, r1, r2, r3, r4⟩ := hP
        obtain ⟨hj, rfl⟩ := rng_get hp3
        rw [Int.zero_add]
        refine ⟨_, _, ag_name, ?_⟩
        have htj := rowS_ok (way := way) (i := i) hti j
        have hsj := rowS_sq (way := way) hsi hi j (by omega)
        refine table_one (n := n) hp htj hw' hsj hpl hnd hoff' hi (by omega) (by rw [List.length_set]; exact hl) (get_set_ne (by decide) r0) (get_set_ne (by decide) r2) (get_set_ne (by decide) r3) (get_set_ne (by decide) r4) (get_set_eq (by omega)) fun ρ4 h9 ho => ⟨rfl, h9, ?_, ?_, ?_, ?_, ?_⟩
        · rw [ho 0 (by decide)]; exact get_set_ne (by decide) r0
        · rw [ho 1 (by decide)]; exact get_set_ne (by decide) r1
        · rw [ho 2 (by decide)]; exact get_set_ne (by decide) r2
        · rw [ho 3 (by decide)]; exact get_set_ne (by decide) r3
        · rw [ho 4 (by decide)]; exact get_set_ne (by decide) r4
      · obtain ⟨rfl, hl, r0, r1, r2, r3, r4⟩ := hP
        rw [rngD_length]
        exact ⟨rfl, hl, r0, r1, r2, r3⟩
    · obtain ⟨rfl, hl, r0, r1, r2, r3⟩ := hP
      rw [rngD_length]
      have hsn := rowsS_sq (way := way) (s := (zeroM n, t1)) (zeroM_sq n) n (Nat.le_refl _)
      refine ag_retNest (rs := RD (rowsS way (zeroM n, t1) n).1) (by rw [List.length_map, hsn.1, hpl]) r3 (fun q hq => by rw [hΓ]; exact hoff' q hq) ⟨.inl ?_, List.Sublist.refl _⟩
      unfold RD
      rw [List.map_map]
      rfl
end
end OC
set_option maxHeartbeats 4000000
/-! OcY9: the defs keep their promises. -/
namespace OC
open PySem PySem.Spec PyProof.Rows L2
section
variable {P : Program} {w : World} {K : Frg} {mg : Str → Option Value} {base : Heap}
theorem sc__law_handed : FnScope N__law_handed ["_law_pot_here", "_law_numbers"] (defScope st__law_handed) := ⟨rfl, rfl, rfl, by decide +kernel, rfl, by decide +kernel, by decide +kernel⟩
theorem ok__law_handed (T : Tx K mg) : FnR P w K mg base CX0 3 (aF "_law_handed" K) (SpO (cR K) (cN K) S__law_handed) := by
  obtain ⟨fd, F⟩ := T.def_ 37 df__law_handed rfl
  have b : Binds K fd ["_law_pot_here", "_law_numbers"] [] := F.bindsN fun _ _ _ _ _ _ us hl => match us, hl with | [_, _], _ => rfl
  refine fnr_of (F.ok sc__law_handed (SpO.len len__law_handed) fun cdv A outer s H vs Q E hr h => ⟨t__law_handed K (cR K) (cN K), PSs.nox ?_, Bod.go (N := N__law_handed) (by first | exact bod__law_handed T | exact bod__law_handed) h⟩) b
  exact (pss_cons (ps_setLc (i := 2) (own := [("_law_one", 3)]) (wi := (iSeq K (tVar 1))) (g := (gName 3)) (tt := tYes) (te := (tIf (tAnd (tTest (tOp (rEqU K) (tPrR (cR K) (SpO (cR K) (cN K) S_Rbottom) E0 (tVar 3)) (tC (.int 1)))) (tTest (tOp (rEqU K) (tcR (SpO (cR K) (cN K) S__law_draw) E0 (tCons (tVar 0) (tCons (tC (.int 2)) tNil))) (tC (.int 0))))) (tPrR (cR K) (SpO (cR K) (cN K) S_Rtop) E0 (tVar 3)) (tVar 3))) rfl sc__law_handed.nd rfl rfl (sw_true rfl rfl rfl (by kernel_rfl)) (pi_seq (pv 1)) (blkOk_by (by kernel_rfl)) (fun _ _ _ _ _ => (pg_name (i := 3) sc__law_handed.nd rfl (by first | exact Or.inl rfl | exact Or.inr rfl))) (fun _ _ _ _ _ => pts_nil) (fun _ _ _ _ _ => (pe_ifExp (PW.pt (pw_and (pt_cmpR (op_EqU hr) (pe_propR (pv 3) T.cls (T.prop 1 _ rfl) (ok_Rbottom T) (hr.mono (by decide)) pz) pe_int (nomark _)) (pw_and1 (pt_cmpR (op_EqU hr) (pe_cR (ok__law_draw T) (hr.mono (by decide)) rfl (T.glo 32 _ rfl) (T.kf 32 _ rfl) pz (pa_cons (pv 0) (pa_cons pe_int pa_nil))) pe_int (nomark _))))) (pe_propR (pv 3) T.cls (T.prop 0 _ rfl) (ok_Rtop T) (hr.mono (by decide)) pz) (pv 3))))
  (pss_one (ps_ret (pe_ifExp (pt_cmpR (op_EqU hr) (pe_cR (ok__law_draw T) (hr.mono (by decide)) rfl (T.glo 32 _ rfl) (T.kf 32 _ rfl) pz (pa_cons (pv 0) (pa_cons pe_int pa_nil))) pe_int (nomark _)) (pe_callTy call_tuple_of rfl (T.free 4 _ rfl) bt_tuple (pa_cons (pv 2) pa_nil)) (pv 2)))))

theorem sc__law_given : FnScope N__law_given ["_law_pot_here", "_law_rows"] (defScope st__law_given) := ⟨rfl, rfl, rfl, by decide +kernel, rfl, by decide +kernel, by decide +kernel⟩
theorem ok__law_given (T : Tx K mg) : FnR P w K mg base CX0 4 (aF "_law_given" K) (SpO (cR K) (cN K) S__law_given) := by
  obtain ⟨fd, F⟩ := T.def_ 38 df__law_given rfl
  have b : Binds K fd ["_law_pot_here", "_law_rows"] [] := F.bindsN fun _ _ _ _ _ _ us hl => match us, hl with | [_, _], _ => rfl
  refine fnr_of (F.ok sc__law_given (SpO.len len__law_given) fun cdv A outer s H vs Q E hr h => ⟨t__law_given K (cR K) (cN K), PSs.nox ?_, Bod.go (N := N__law_given) (by first | exact bod__law_given T | exact bod__law_given) h⟩) b
  exact (pss_cons (ps_setLc (i := 2) (own := [("_law_row", 3)]) (wi := (iSeq K (tVar 1))) (g := (gName 3)) (tt := tYes) (te := (tcR (SpO (cR K) (cN K) S__law_handed) E0 (tCons (tVar 0) (tCons (tVar 3) tNil)))) rfl sc__law_given.nd rfl rfl (sw_true rfl rfl rfl (by kernel_rfl)) (pi_seq (pv 1)) (blkOk_by (by kernel_rfl)) (fun _ _ _ _ _ => (pg_name (i := 3) sc__law_given.nd rfl (by first | exact Or.inl rfl | exact Or.inr rfl))) (fun _ _ _ _ _ => pts_nil) (fun _ _ _ _ _ => (pe_cR (ok__law_handed T) (hr.mono (by decide)) rfl (T.glo 37 _ rfl) (T.kf 37 _ rfl) pz (pa_cons (pv 0) (pa_cons (pv 3) pa_nil)))))
  (pss_one (ps_ret (pe_ifExp (pt_cmpR (op_EqU hr) (pe_cR (ok__law_draw T) (hr.mono (by decide)) rfl (T.glo 32 _ rfl) (T.kf 32 _ rfl) pz (pa_cons (pv 0) (pa_cons pe_int pa_nil))) pe_int (nomark _)) (pe_callTy call_tuple_of rfl (T.free 4 _ rfl) bt_tuple (pa_cons (pv 2) pa_nil)) (pv 2)))))

theorem sc__law_table : FnScope N__law_table ["_law_pot_here", "_law_size"] (defScope st__law_table) := ⟨rfl, rfl, rfl, by decide +kernel, rfl, by decide +kernel, by decide +kernel⟩
theorem ok__law_table (T : Tx K mg) : FnR P w K mg base CX0 6 (aF "_law_table" K) (SpO (cR K) (cN K) S__law_table) := by
  obtain ⟨fd, F⟩ := T.def_ 36 df__law_table rfl
  have b : Binds K fd ["_law_pot_here", "_law_size"] [] := F.bindsN fun _ _ _ _ _ _ us hl => match us, hl with | [_, _], _ => rfl
  refine fnr_of (F.ok sc__law_table (SpO.len len__law_table) fun cdv A outer s H vs Q E hr h => ⟨t__law_table K (cR K) (cN K), PSs.nox ?_, Bod.go (N := N__law_table) (by first | exact bod__law_table T | exact bod__law_table) h⟩) b
  exact (pss_cons (ps_set (i := 2) sc__law_table.nd rfl (by first | exact Or.inl rfl | exact Or.inr rfl) (pe_cR (ok__law_draw T) (hr.mono (by decide)) rfl (T.glo 32 _ rfl) (T.kf 32 _ rfl) pz (pa_cons (pv 0) (pa_cons pe_int pa_nil))))
  (pss_cons (ps_setLc (i := 3) (own := [("_law_i", 4)]) (wi := (iRng1 (tCons (tVar 1) tNil))) (g := (gName 4)) (tt := tYes) (te := (tLc (iRng1 (tCons (tVar 1) tNil)) (gName 6) tYes (StX.tMakeR (cR K) (spIni (cR K) [.int 1]) E0 (tCons (tC (.int 0)) tNil)) [6])) rfl sc__law_table.nd rfl rfl (sw_true rfl rfl rfl (by kernel_rfl)) (pi_range1 rfl (T.free 10 _ rfl) (pa_cons (pv 1) pa_nil)) (blkOk_by (by kernel_rfl)) (fun _ _ _ _ _ => (pg_name (i := 4) sc__law_table.nd rfl (by first | exact Or.inl rfl | exact Or.inr rfl))) (fun _ _ _ _ _ => pts_nil) (fun _ _ _ _ _ => (pe_lc (own := [("_law_j", 6)]) (wi := (iRng1 (tCons (tVar 1) tNil))) (g := (gName 6)) (tt := tYes) (te := (StX.tMakeR (cR K) (spIni (cR K) [.int 1]) E0 (tCons (tC (.int 0)) tNil))) rfl sc__law_table.nd (pi_range1 rfl (T.free 10 _ rfl) (pa_cons (pv 1) pa_nil)) (blkOk_by (by kernel_rfl)) (fun _ _ _ _ _ => (pg_name (i := 6) sc__law_table.nd rfl (by first | exact Or.inl rfl | exact Or.inr rfl))) (fun _ _ _ _ _ => pts_nil) (fun _ _ _ _ _ => (StX.pe_makeR T.mk_ (ok_R__init__1 T) (hr.mono (by decide)) rfl (T.glo 62 _ rfl) pz (pa_cons pe_int pa_nil))))))
  (pss_cons (ps_if (pt_cmpR (op_EqU hr) (pv 2) pe_int (nomark _)) (pss_cons (ps_for PassesOwn.never rfl (pi_range1 rfl (T.free 10 _ rfl) (pa_cons (pe_cR (ok__law_draw T) (hr.mono (by decide)) rfl (T.glo 32 _ rfl) (T.kf 32 _ rfl) pz (pa_cons (pv 0) (pa_cons (pe_op (op_Add T (ok_R__add__ T) (hr.mono (by decide))) (pv 1) pe_int) pa_nil))) pa_nil)) (pg_name (i := 5) sc__law_table.nd rfl (by first | exact Or.inl rfl | exact Or.inr rfl)) (pss_one (ps_set (i := 3) sc__law_table.nd rfl (by first | exact Or.inl rfl | exact Or.inr rfl) (pe_cR (ok__law_more T) (hr.mono (by decide)) rfl (T.glo 35 _ rfl) (T.kf 35 _ rfl) pz (pa_cons (pv 3) (pa_cons (pe_cR (ok__law_small T) (hr.mono (by decide)) rfl (T.glo 34 _ rfl) (T.kf 34 _ rfl) pz (pa_cons (pv 0) (pa_cons pe_int pa_nil))) (pa_cons (pe_lc (own := [("_law_place", 8)]) (wi := (iRng1 (tCons (tVar 1) tNil))) (g := (gName 8)) (tt := tYes) (te := (tOp (rSub (cR K) (cN K)) (tcR (SpO (cR K) (cN K) S__law_draw) E0 (tCons (tVar 0) (tCons (tC (.int 5)) tNil))) (tC (.int 2)))) rfl sc__law_table.nd (pi_range1 rfl (T.free 10 _ rfl) (pa_cons (pv 1) pa_nil)) (blkOk_by (by kernel_rfl)) (fun _ _ _ _ _ => (pg_name (i := 8) sc__law_table.nd rfl (by first | exact Or.inl rfl | exact Or.inr rfl))) (fun _ _ _ _ _ => pts_nil) (fun _ _ _ _ _ => (pe_op (op_Sub T (ok_R__sub__ T) (hr.mono (by decide))) (pe_cR (ok__law_draw T) (hr.mono (by decide)) rfl (T.glo 32 _ rfl) (T.kf 32 _ rfl) pz (pa_cons (pv 0) (pa_cons pe_int pa_nil))) pe_int))) pa_nil)))))))
  (pss_one (ps_ret (pv 3)))) pss_nil)
  (pss_cons (ps_for PassesOwn.never rfl (pi_range1 rfl (T.free 10 _ rfl) (pa_cons (pv 1) pa_nil)) (pg_name (i := 4) sc__law_table.nd rfl (by first | exact Or.inl rfl | exact Or.inr rfl)) (pss_one (ps_for PassesOwn.never rfl (pi_range1 rfl (T.free 10 _ rfl) (pa_cons (pe_op (op_Add T (ok_R__add__ T) (hr.mono (by decide))) (pv 4) pe_int) pa_nil)) (pg_name (i := 6) sc__law_table.nd rfl (by first | exact Or.inl rfl | exact Or.inr rfl)) (pss_cons (ps_set (i := 7) sc__law_table.nd rfl (by first | exact Or.inl rfl | exact Or.inr rfl) (pe_ifExp (pt_cmpR (op_EqU hr) (pv 2) pe_int (nomark _)) (pe_cR (ok__law_small T) (hr.mono (by decide)) rfl (T.glo 34 _ rfl) (T.kf 34 _ rfl) pz (pa_cons (pv 0) (pa_cons pe_int pa_nil))) (StX.pe_makeR T.mk_ (ok_R__init__1 T) (hr.mono (by decide)) rfl (T.glo 62 _ rfl) pz (pa_cons (pe_cR (ok__law_draw T) (hr.mono (by decide)) rfl (T.glo 32 _ rfl) (T.kf 32 _ rfl) pz (pa_cons (pv 0) (pa_cons pe_int pa_nil))) pa_nil))))
  (pss_cons (ps_if (PW.pt (pw_and (pt_cmpR (op_EqU hr) (pv 2) pe_int (nomark _)) (pw_and1 (pt_cmpR (op_EqU hr) (pe_cR (ok__law_draw T) (hr.mono (by decide)) rfl (T.glo 32 _ rfl) (T.kf 32 _ rfl) pz (pa_cons (pv 0) (pa_cons pe_int pa_nil))) pe_int (nomark _))))) (pss_one (ps_set (i := 7) sc__law_table.nd rfl (by first | exact Or.inl rfl | exact Or.inr rfl) (StX.pe_makeR T.mk_ (ok_R__init__2 T) (hr.mono (by decide)) rfl (T.glo 62 _ rfl) pz (pa_cons pe_int (pa_cons pe_int pa_nil))))) pss_nil)
  (pss_cons (ps_if (PW.pt (pw_or (PW.pt (pw_and (pt_cmpR (op_EqU hr) (pv 2) pe_int (nomark _)) (pw_and1 (pt_cmpR (op_gt) (pe_cR (ok__law_draw T) (hr.mono (by decide)) rfl (T.glo 32 _ rfl) (T.kf 32 _ rfl) pz (pa_cons (pv 0) (pa_cons pe_int pa_nil))) pe_int (nomark _))))) (pw_or1 (PW.pt (pw_and (pt_cmpR (op_EqU hr) (pv 2) pe_int (nomark _)) (pw_and1 (pt_cmpR (op_EqU hr) (pv 4) (pv 6) (nomark _)))))))) (pss_one (ps_set (i := 7) sc__law_table.nd rfl (by first | exact Or.inl rfl | exact Or.inr rfl) (StX.pe_makeR T.mk_ (ok_R__init__1 T) (hr.mono (by decide)) rfl (T.glo 62 _ rfl) pz (pa_cons pe_int pa_nil)))) pss_nil)
  (pss_one (ps_asg (pe_tup (pa_cons (pv 7) (pa_cons (pv 7) pa_nil))) (pg_tup rfl (pgs_cons (pg_sub (pe_ix ix_seq (pv 3) (pv 4) (fun _ _ => rfl)) (pv 6) set_list) (pgs_cons (pg_sub (pe_ix ix_seq (pv 3) (pv 6) (fun _ _ => rfl)) (pv 4) set_list) pgs_nil)))))))))))
  (pss_one (ps_ret (pv 3)))))))

theorem sc__law_values : FnScope N__law_values ["_law_pot_here", "_law_rows", "_law_weights", "_law_told"] (defScope st__law_values) := ⟨rfl, rfl, rfl, by decide +kernel, rfl, by decide +kernel, by decide +kernel⟩
theorem ok__law_values (T : Tx K mg) : FnR P w K mg base CX0 9 (aF "_law_values" K) (SpO (cR K) (cN K) S__law_values) := by
  obtain ⟨fd, F⟩ := T.def_ 50 df__law_values rfl
  have b : Binds K fd ["_law_pot_here", "_law_rows", "_law_weights", "_law_told"] [] := F.bindsN fun _ _ _ _ _ _ us hl => match us, hl with | [_, _, _, _], _ => rfl
  refine fnr_of (F.ok sc__law_values (SpO.len len__law_values) fun cdv A outer s H vs Q E hr h => ⟨t__law_values K (cR K) (cN K), PSs.nox ?_, Bod.go (N := N__law_values) (by first | exact bod__law_values T | exact bod__law_values) h⟩) b
  exact (pss_cons (ps_set (i := 4) sc__law_values.nd rfl (by first | exact Or.inl rfl | exact Or.inr rfl) (pe_callB (call_len) rfl (T.free 5 _ rfl) bt_len (pa_cons (pv 1) pa_nil)))
  (pss_cons (ps_set (i := 5) sc__law_values.nd rfl (by first | exact Or.inl rfl | exact Or.inr rfl) (pe_lst (pa_cons pe_non (pa_cons (pe_lst pa_nil) (pa_cons (pe_op (op_Mul T (ok_R__mul__ T) (ok_R__rmul__ T) (hr.mono (by decide))) pe_str (pv 4)) (pa_cons pe_dnewK (pa_cons (pv 2) (pa_cons (pe_op (op_Mul T (ok_R__mul__ T) (ok_R__rmul__ T) (hr.mono (by decide))) (pe_lst (pa_cons pe_int pa_nil)) (pv 4)) (pa_cons (pe_op (op_Mul T (ok_R__mul__ T) (ok_R__rmul__ T) (hr.mono (by decide))) (pe_lst (pa_cons pe_int pa_nil)) (pe_op (op_Add T (ok_R__add__ T) (hr.mono (by decide))) (pv 4) pe_int)) (pa_cons (pe_op (op_Mul T (ok_R__mul__ T) (ok_R__rmul__ T) (hr.mono (by decide))) (pe_lst (pa_cons pe_bl pa_nil)) (pv 4)) pa_nil))))))))))
  (pss_cons (ps_for PassesOwn.never rfl (pi_range1 rfl (T.free 10 _ rfl) (pa_cons pe_int pa_nil)) (pg_name (i := 6) sc__law_values.nd rfl (by first | exact Or.inl rfl | exact Or.inr rfl)) (pss_cons (ps_setLc (i := 7) (own := [("_law_place", 10)]) (wi := (iRng1 (tCons (tVar 4) tNil))) (g := (gName 10)) (tt := tYes) (te := (tcR (SpO (cR K) (cN K) S__law_small) E0 (tCons (tVar 0) (tCons (tC (.int 4)) tNil)))) rfl sc__law_values.nd rfl rfl (sw_true rfl rfl rfl (by kernel_rfl)) (pi_range1 rfl (T.free 10 _ rfl) (pa_cons (pv 4) pa_nil)) (blkOk_by (by kernel_rfl)) (fun _ _ _ _ _ => (pg_name (i := 10) sc__law_values.nd rfl (by first | exact Or.inl rfl | exact Or.inr rfl))) (fun _ _ _ _ _ => pts_nil) (fun _ _ _ _ _ => (pe_cR (ok__law_small T) (hr.mono (by decide)) rfl (T.glo 34 _ rfl) (T.kf 34 _ rfl) pz (pa_cons (pv 0) (pa_cons pe_int pa_nil)))))
  (pss_one (ps_expr (pe_bm PySem.F.plainAttrs_list PySem.F.slot_list_extend PySem.F.type_list_extend mt_extend (pv 5) (pa_cons (pe_lst (pa_cons (pv 7) (pa_cons (pe_cR (ok__law_without T) (hr.mono (by decide)) rfl (T.glo 49 _ rfl) (T.kf 49 _ rfl) pz (pa_cons (pv 1) (pa_cons (pv 2) (pa_cons (pv 7) pa_nil)))) pa_nil))) pa_nil))))))
  (pss_cons (ps_if (pt_cmpR (op_notN) (pv 3) pe_non (nomark _)) (pss_cons (ps_asg (pe_tup (pa_cons (pe_cR (ok__law_draw T) (hr.mono (by decide)) rfl (T.glo 32 _ rfl) (T.kf 32 _ rfl) pz (pa_cons (pv 0) (pa_cons (pv 4) pa_nil))) (pa_cons (pe_cR (ok__law_pick T) (hr.mono (by decide)) rfl (T.glo 33 _ rfl) (T.kf 33 _ rfl) pz (pa_cons (pv 0) (pa_cons (pe_lst (pa_cons (pe_un (un_Neg T (ok_R__neg__ T) (hr.mono (by decide))) pe_int) (pa_cons pe_int (pa_cons (StX.pe_makeR T.mk_ (ok_R__init__2 T) (hr.mono (by decide)) rfl (T.glo 62 _ rfl) pz (pa_cons pe_int (pa_cons pe_int pa_nil))) pa_nil)))) pa_nil))) pa_nil))) (pg_tup rfl (pgs_cons (pg_name (i := 8) sc__law_values.nd rfl (by first | exact Or.inl rfl | exact Or.inr rfl)) (pgs_cons (pg_name (i := 9) sc__law_values.nd rfl (by first | exact Or.inl rfl | exact Or.inr rfl)) pgs_nil))))
  (pss_cons (ps_expr (pe_bm PySem.F.plainAttrs_list PySem.F.slot_list_extend PySem.F.type_list_extend mt_extend (pv 5) (pa_cons (pe_lst (pa_cons (pe_lc (own := [("_law_one", 12)]) (wi := (iSeq K (tVar 3))) (g := (gName 12)) (tt := tYes) (te := (tOp (rMul (cR K) (cN K)) (tVar 9) (tVar 12))) rfl sc__law_values.nd (pi_seq (pv 3)) (blkOk_by (by kernel_rfl)) (fun _ _ _ _ _ => (pg_name (i := 12) sc__law_values.nd rfl (by first | exact Or.inl rfl | exact Or.inr rfl))) (fun _ _ _ _ _ => pts_nil) (fun _ _ _ _ _ => (pe_op (op_Mul T (ok_R__mul__ T) (ok_R__rmul__ T) (hr.mono (by decide))) (pv 9) (pv 12)))) (pa_cons (pe_callTy call_tuple_of rfl (T.free 4 _ rfl) bt_tuple (pa_cons (pv 3) pa_nil)) (pa_cons (pe_op (op_Add T (ok_R__add__ T) (hr.mono (by decide))) (pv 3) (pe_lst (pa_cons pe_int pa_nil))) (pa_cons (pe_slice sl_list (pv 3) (po_some pe_int) po_none) (pa_cons (pe_lc (own := [("_law_one", 12), ("_law_weight", 13)]) (wi := (iZip K (tCons (tVar 3) (tCons (tVar 2) tNil)))) (g := (gTup K 2 (gCons (gName 12) (gCons (gName 13) gNil)))) (tt := tYes) (te := (tOp (rAdd (cR K) (cN K)) (tVar 12) (tVar 13))) rfl sc__law_values.nd (pi_zip rfl (T.free 8 _ rfl) (pa_cons (pv 3) (pa_cons (pv 2) pa_nil))) (blkOk_by (by kernel_rfl)) (fun _ _ _ _ _ => (pg_tup rfl (pgs_cons (pg_name (i := 12) sc__law_values.nd rfl (by first | exact Or.inl rfl | exact Or.inr rfl)) (pgs_cons (pg_name (i := 13) sc__law_values.nd rfl (by first | exact Or.inl rfl | exact Or.inr rfl)) pgs_nil)))) (fun _ _ _ _ _ => pts_nil) (fun _ _ _ _ _ => (pe_op (op_Add T (ok_R__add__ T) (hr.mono (by decide))) (pv 12) (pv 13)))) pa_nil)))))) pa_nil)))
  (pss_one (ps_expr (pe_bm PySem.F.plainAttrs_list PySem.F.slot_list_extend PySem.F.type_list_extend mt_extend (pv 5) (pa_cons (pe_lc (own := [("_law_odd", 11)]) (wi := (iSeq K (tLst (tCons (tC .non) (tCons (tC (.bl false)) (tCons (tC (.str "0")) (tCons (tOp (rAdd (cR K) (cN K)) (tOp (rIx K) (tVar 3) (tVar 8)) (tC (.int 1))) tNil))))))) (g := (gName 11)) (tt := tYes) (te := (tOp (rAdd (cR K) (cN K)) (tOp (rAdd (cR K) (cN K)) (tSl (rSlL K) (tVar 3) tNoPart (tPart (tVar 8))) (tLst (tCons (tVar 11) tNil))) (tSl (rSlL K) (tVar 3) (tPart (tOp (rAdd (cR K) (cN K)) (tVar 8) (tC (.int 1)))) tNoPart))) rfl sc__law_values.nd (pi_seq (pe_lst (pa_cons pe_non (pa_cons pe_bl (pa_cons pe_str (pa_cons (pe_op (op_Add T (ok_R__add__ T) (hr.mono (by decide))) (pe_ix ix_seq (pv 3) (pv 8) (fun _ _ => rfl)) pe_int) pa_nil)))))) (blkOk_by (by kernel_rfl)) (fun _ _ _ _ _ => (pg_name (i := 11) sc__law_values.nd rfl (by first | exact Or.inl rfl | exact Or.inr rfl))) (fun _ _ _ _ _ => pts_nil) (fun _ _ _ _ _ => (pe_op (op_Add T (ok_R__add__ T) (hr.mono (by decide))) (pe_op (op_Add T (ok_R__add__ T) (hr.mono (by decide))) (pe_slice sl_list (pv 3) po_none (po_some (pv 8))) (pe_lst (pa_cons (pv 11) pa_nil))) (pe_slice sl_list (pv 3) (po_some (pe_op (op_Add T (ok_R__add__ T) (hr.mono (by decide))) (pv 8) pe_int)) po_none)))) pa_nil)))))) pss_nil)
  (pss_one (ps_ret (pv 5)))))))

theorem sc__law_bound_right : FnScope N__law_bound_right ["_law_pot_here", "_law_rows", "_law_weights"] (defScope st__law_bound_right) := ⟨rfl, rfl, rfl, by decide +kernel, rfl, by decide +kernel, by decide +kernel⟩
theorem ok__law_bound_right (T : Tx K mg) : FnR P w K mg base CX0 8 (aF "_law_bound_right" K) (SpO (cR K) (cN K) S__law_bound_right) := by
  obtain ⟨fd, F⟩ := T.def_ 51 df__law_bound_right rfl
  have b : Binds K fd ["_law_pot_here", "_law_rows", "_law_weights"] [] := F.bindsN fun _ _ _ _ _ _ us hl => match us, hl with | [_, _, _], _ => rfl
  refine fnr_of (F.ok sc__law_bound_right (SpO.len len__law_bound_right) fun cdv A outer s H vs Q E hr h => ⟨t__law_bound_right K (cR K) (cN K), PSs.nox ?_, Bod.go (N := N__law_bound_right) (by first | exact bod__law_bound_right T | exact bod__law_bound_right) h⟩) b
  exact (pss_cons (ps_set (i := 3) sc__law_bound_right.nd rfl (by first | exact Or.inl rfl | exact Or.inr rfl) (pe_cR (ok__law_form T) (hr.mono (by decide)) rfl (T.glo 47 _ rfl) (T.kf 47 _ rfl) pz (pa_cons (pv 1) (pa_cons (pv 2) (pa_cons (pv 2) pa_nil)))))
  (pss_cons (ps_for PassesOwn.never rfl (pi_range1 rfl (T.free 10 _ rfl) (pa_cons pe_int pa_nil)) (pg_name (i := 4) sc__law_bound_right.nd rfl (by first | exact Or.inl rfl | exact Or.inr rfl)) (pss_cons (ps_setLc (i := 5) (own := [("_law_place", 7)]) (wi := (iRng1 (tCons (tCB (rLen K) (tCons (tVar 1) tNil)) tNil))) (g := (gName 7)) (tt := tYes) (te := (tcR (SpO (cR K) (cN K) S__law_small) E0 (tCons (tVar 0) (tCons (tC (.int 6)) tNil)))) rfl sc__law_bound_right.nd rfl rfl (sw_true rfl rfl rfl (by kernel_rfl)) (pi_range1 rfl (T.free 10 _ rfl) (pa_cons (pe_callB (call_len) rfl (T.free 5 _ rfl) bt_len (pa_cons (pv 1) pa_nil)) pa_nil)) (blkOk_by (by kernel_rfl)) (fun _ _ _ _ _ => (pg_name (i := 7) sc__law_bound_right.nd rfl (by first | exact Or.inl rfl | exact Or.inr rfl))) (fun _ _ _ _ _ => pts_nil) (fun _ _ _ _ _ => (pe_cR (ok__law_small T) (hr.mono (by decide)) rfl (T.glo 34 _ rfl) (T.kf 34 _ rfl) pz (pa_cons (pv 0) (pa_cons pe_int pa_nil)))))
  (pss_cons (ps_set (i := 6) sc__law_bound_right.nd rfl (by first | exact Or.inl rfl | exact Or.inr rfl) (pe_cR (ok__law_form T) (hr.mono (by decide)) rfl (T.glo 47 _ rfl) (T.kf 47 _ rfl) pz (pa_cons (pv 1) (pa_cons (pv 2) (pa_cons (pv 5) pa_nil)))))
  (pss_one (ps_if (pt_val (pe_methR (pe_op (op_Mul T (ok_R__mul__ T) (ok_R__rmul__ T) (hr.mono (by decide))) (pv 6) (pv 6)) T.cls (T.meth 8 _ rfl) (ok_Ris_below T) (hr.mono (by decide)) pz (pa_cons (pe_op (op_Mul T (ok_R__mul__ T) (ok_R__rmul__ T) (hr.mono (by decide))) (pv 3) (pe_cR (ok__law_form T) (hr.mono (by decide)) rfl (T.glo 47 _ rfl) (T.kf 47 _ rfl) pz (pa_cons (pv 1) (pa_cons (pv 5) (pa_cons (pv 5) pa_nil))))) pa_nil))) (pss_one (ps_ret pe_bl)) pss_nil)))))
  (pss_one (ps_ret pe_bl))))

end
end OC
set_option maxHeartbeats 4000000
/-! OcU: repr of lists and tuples that hold Ratios. -/
namespace OC
open PySem PySem.Spec PyProof.Rows L2 Builtin Builtin.List

section
variable {P : Program} {w : World} {K : PySem.W.Frag} {mg : Str → Option Value} {base : Heap} {out : List Env} {B : Hp} {as : List Addr} {n : Nat}
/-- from a state to one behind a repr -/
structure Aft (P : Program) (w : World) (K : PySem.W.Frag) (mg : Str → Option Value) (base : Heap) (A : Around) (out : List Env) (s : Shared) (H : Hp) (s' : Shared) (H' : Hp) : Prop where
  env : Env0 P w K mg base A out s' H'
  os : s'.os = s.os
  un : Un (frs out) [] H H' s.heap s'.heap
  grow : ∀ a o, H a = some o → H' a = some o
theorem Aft.trans {A : Around} {s s1 s2 : Shared} {H H1 H2 : Hp} (a : Aft P w K mg base A out s H s1 H1) (b : Aft P w K mg base A out s1 H1 s2 H2) : Aft P w K mg base A out s H s2 H2 :=
  ⟨b.env, b.os.trans a.os, a.un.trans b.un, fun x o e => b.grow x o (a.grow x o e)⟩
/-- x's text, wherever no repr of as is under way -/
def ReprE (P : Program) (w : World) (K : PySem.W.Frag) (mg : Str → Option Value) (base : Heap) (out : List Env) (B : Hp) (as : List Addr) (n : Nat) (x : V) (t : Str) : Prop :=
  ∀ (u : Value), RelV x u → ∀ b, b + t.length ≤ sizeLine → ∀ (A : Around) (g : List Code) (E : Value → Shared → Prop) (s : Shared) (H : Hp) (Q : Str → Shared → Prop), A.guards = some g → (∀ a ∈ as, Clear g a) → Room n A → Env0 P w K mg base A out s H → Same B H →
    (∀ s' H', Aft P w K mg base A out s H s' H' → Q t s') → wpAny (model P w) A (pyReprUnder b u) Q E s
theorem under_list {A : Around} {args : Args} (c : String) (hc : c = "list.__repr__.loop" ∨ c = "tuple.__repr__" ∨ c = "tuple.__repr__.under") : (A.under (.builtin c args)).depth ≤ A.depth + 1 ∧ (A.under (.builtin c args)).units = A.units + 1 ∧ (A.under (.builtin c args)).handled = A.handled ∧ (A.under (.builtin c args)).frames = A.frames := by
  rcases hc with rfl | rfl | rfl <;> refine ⟨?_, ?_, ?_, ?_⟩ <;> simp [Around.under, Code.weight, Code.isCreation, Code.isGuard, Code.isCaller, Code.cUnits, Code.frames, Code.isFrame, Code.envs, guardIds, pushEnvs]
theorem Env0.at {A A' : Around} {s : Shared} {H : Hp} (e : Env0 P w K mg base A out s H) (h : A'.frames = A.frames) : Env0 P w K mg base A' out s H := ⟨h.trans e.frames, e.mod, e.bs, e.bsz, e.funs, e.frf, e.hok, e.bare⟩
theorem Env0.toks {A : Around} {s : Shared} {H : Hp} (e : Env0 P w K mg base A out s H) (t : Nat) : Env0 P w K mg base A out { s with toks := t } H := ⟨e.frames, e.mod, e.bs, e.bsz, e.funs, e.frf, e.hok, e.bare⟩
theorem Aft.toks {A : Around} {s : Shared} {H : Hp} (e : Env0 P w K mg base A out s H) (t : Nat) : Aft P w K mg base A out s H { s with toks := t } H := ⟨Env0.toks e t, rfl, Un.refl, fun _ _ h => h⟩
theorem reprE_is {x : V} {t : Str} (h : ∀ u, RelV x u → ReprIs P w u t) : ReprE P w K mg base out B as n x t := fun u r b hb A g E s H Q _ _ _ e _ hQ => h u r b hb A E s Q fun tk => hQ _ _ (Aft.toks e tk)
/-- a class's own def behind a special name, bound and run by `last` -/
theorem ifBoundBy {M : Model} {A : Around} {E : Value → Shared → Prop} {s : Shared} {x C f : Addr} {ox : Obj} {od : Option Obj} {name : Str} {last : Value → List Value → Sem Value} {Q : Option Value → Shared → Prop} (inK : K.In s.heap) (I : PySem.W.InstAt s.heap x ox C od)
    (found : PySem.W.findIn K (.ref C) name = some (some (.ref f))) (isf : PySem.W.isFn K (.ref f) = true) (h : wpAny M A (last (.ref f) [.ref x]) (fun v => Q (some v)) E s) : wpAny M A (callSpecialIfBoundBy? last (.ref x) name) Q E s := by
  have done_ : wpAny M A (last (.ref f) [.ref x] >>= fun v => pure (some v)) Q E s := wpAny_bind (wpAny_mono h (fun _ _ z => wpAny_pure z) fun _ _ z => z)
  have ty := beq_iff_eq.mp isf
  simp only [callSpecialIfBoundBy?, bindSpecialIfBound?]
  refine wpAny_holding (wpAny_bind (wpAny_bind (wpAny_bind (I.type.here ((PySem.W.looks_findIn inK found).here ?_)))))
  refine wpAny_bind (wpAny_askSetting (wpAny_ite ?_))
  split
  · refine wpAny_bind ((PySem.W.bind_fn inK _ ty).here (wpAny_pure ?_))
    exact done_
  · refine wpAny_tryCatch (wpAny_bind ((PySem.W.bind_fn inK _ ty).here (wpAny_pure ?_)))
    exact done_
theorem funs_after {H H' : Hp} {h h' : Heap} : ∀ {l : List Env} {fs : List Addr}, h.FunFrames base l → (∀ b ∈ frs l, b ∈ fs) → (∀ b ∈ frs l, H b = none) → Un fs [] H H' h h' → h'.FunFrames base l
  | [], _, _, _, _, _ => trivial
  | env :: rest, fs, fr, sub, none_, un => by
    obtain ⟨hk, ⟨L, o, hf, hn, ho, hd⟩, hr⟩ := fr
    have hL : L ∈ frs (env :: rest) := by
      show L ∈ (env :: rest).filterMap (·.frame)
      rw [List.filterMap_cons, hf]
      exact List.mem_cons_self ..
    have hs : ∀ b ∈ frs rest, b ∈ frs (env :: rest) := fun b hb => by
      show b ∈ (env :: rest).filterMap (·.frame)
      rw [List.filterMap_cons, hf]
      exact List.mem_cons_of_mem _ hb
    obtain ⟨sl, got⟩ := un.any ho (none_ L hL) (by simp)
    exact ⟨hk, ⟨L, _, hf, hn, got, hd⟩, funs_after hr (fun b hb => sub b (hs b hb)) (fun b hb => none_ b (hs b hb)) un⟩
theorem Env0.after (big : ∃ L ∈ frs out, base.objs.size ≤ L) {A : Around} {s s' : Shared} {H H' : Hp} (e : Env0 P w K mg base A out s H) (un : Un (frs out) [] H H' s.heap s'.heap) (okH : HOk P w H' s'.heap) (bare : AllBare s'.gens) : Env0 P w K mg base A out s' H' where
  frames := e.frames
  mod := e.mod
  bs := fun b o q => by
    obtain ⟨h1, h2⟩ := e.bs b o q
    refine ⟨un.keep b o h1 h2 (fun z => ?_) (by simp), un.free b o h1 h2 (by simp)⟩
    rw [(e.funs.mem z).1] at q
    cases q
  bsz := by
    obtain ⟨L, hL, hb⟩ := big
    obtain ⟨_, o, ho, _⟩ := e.funs.mem hL
    obtain ⟨o', ho'⟩ := un.there L o ho (by simp)
    exact Nat.le_trans hb (Nat.le_of_lt (Heap.lt_size ho'))
  funs := funs_after e.funs (fun _ z => z) e.frf un
  frf := fun b z => by
    obtain ⟨_, o, ho, _⟩ := e.funs.mem z
    exact un.free b o ho (e.frf b z) (by simp)
  hok := okH
  bare := bare
theorem reprE_rat (big : ∃ L ∈ frs out, base.objs.size ≤ L) {k : Nat} {q : Rat} {a dx : Addr} (T : Tx K mg) (F : FnR P w K mg base CX0 k (aM "__repr__" K) (SpO (cR K) (cN K) S_R__repr__)) (hk : k ≤ n) (hq : Sm q) (ha : B a = some (.ins (cR K) dx (ratF q))) : ReprE P w K mg base out B as n (.ref a) (reprQ q) := by
  intro u ru b hb A g E s H Q hg _ room env0 same hQ
  cases (show u = Value.ref a from ru)
  have hH := same _ _ ha
  obtain ⟨mA, J, _⟩ := ins_get env0.hok hH
  obtain ⟨od, J, _⟩ := J.look
  have inK : K.In s.heap := env0.mod.kin.keeps (fun x y z => (env0.bs x y z).1)
  have M := T.meth 10 "__repr__" rfl
  refine wpAny_pyReprUnder_ref (by omega) ?_
  unfold pyReprObjUnder pyReprObjBy
  refine wpAny_bind (wpAny_cRoomFor (by have := room.un; omega) ?_)
  refine wpAny_bind (wpAny_bind (J.type.here ((PySem.W.looks_findIn inK M.at_).here ?_)))
  show wpAny _ _ (if (some (Value.ref (aM "__repr__" K))).isNone = true then _ else _) _ _ _
  rw [if_neg (by simp)]
  refine wpAny_bind (ifBoundBy inK J M.at_ M.fn ?_)
  show wpAny _ _ (call (.ref (aM "__repr__" K)) ([.ref a] ++ [])) _ _ _
  refine wpAny_call (codeAny_mono (F A out s H [.ref a] [.ref a] (fun v H' => v = .str (reprQ q) ∧ (∀ x o, H x = some o → H' x = some o)) (fun _ _ _ => False) (room.mono hk) env0 (.cons rfl .nil) ⟨[.rat q], [], B, .val (.str (reprQ q)), [], ⟨_, _, rfl, ⟨a, dx, rfl, ha⟩, rfl⟩, ⟨same, trivial⟩, pS.mk ⟨q, rfl, hq, rfl⟩, rfl, fun v B' H' gr ok r => ⟨r, fun x o e => gr.hh x o e (by simp [dom])⟩⟩) ?_)
  intro r s' left
  match r, left with
  | .error er, left => exact left.elim
  | .ok .next, left => exact left.elim
  | .ok .brk, left => exact left.elim
  | .ok .cont, left => exact left.elim
  | .ok (.ret v), left =>
    obtain ⟨y, H', os, bare, un, okH, rel, hy, grow⟩ := left
    subst hy
    obtain ⟨tk, rfl⟩ := (show ∃ tk, v = Value.str (reprQ q) tk from rel)
    exact wpAny_bind (wpAny_isInstance (T := "str") (b := true) rfl isSubtype_str_str (wpAny_pure ⟨_, _, rfl, hQ s' H' ⟨Env0.after big env0 un okH bare, os, un, grow⟩⟩))
/-! ### the list's own loop -/
theorem strs_its : ∀ {l : List Str} {its : List Value}, Vals (l.map V.str) its → ∃ done_ : List (Str × Tok), its = strValues done_ ∧ done_.map (·.1) = l
  | [], its, h => by cases h; exact ⟨[], rfl, rfl⟩
  | z :: l, its, h => by
    cases h with
    | cons h1 h2 =>
      obtain ⟨tk, rfl⟩ := h1
      obtain ⟨d, rfl, e⟩ := strs_its h2
      exact ⟨(z, tk) :: d, rfl, by rw [List.map_cons, e]⟩
theorem Vals.at {xs : List V} {us : List Value} : ∀ {i : Nat} {u : Value}, Vals xs us → us[i]? = some u → ∃ x, xs[i]? = some x ∧ RelV x u := by
  intro i u h
  induction h generalizing i with
  | nil => intro e; cases e
  | cons h1 _ ih =>
    intro e
    cases i with
    | zero => cases e; exact ⟨_, rfl, h1⟩
    | succ i => exact ih e
theorem under_env {A : Around} {args : Args} {s : Shared} {H : Hp} (c : String) (hc : c = "list.__repr__.loop" ∨ c = "tuple.__repr__" ∨ c = "tuple.__repr__.under") (e : Env0 P w K mg base A out s H) : Env0 P w K mg base (A.under (.builtin c args)) out s H := Env0.at e (under_list c hc).2.2.2
theorem under_room {A : Around} {args : Args} (c : String) (hc : c = "list.__repr__.loop" ∨ c = "tuple.__repr__" ∨ c = "tuple.__repr__.under") (r : Room (n + 1) A) : Room n (A.under (.builtin c args)) := by
  obtain ⟨h1, h2, h3, _⟩ := under_list (A := A) (args := args) c hc
  refine ⟨h3.trans r.hd, ?_, ?_⟩
  · have := r.dp; omega
  · have := r.un; rw [h2]; omega
theorem Aft.at {A A' : Around} {s s' : Shared} {H H' : Hp} (h : A'.frames = A.frames) (a : Aft P w K mg base A out s H s' H') : Aft P w K mg base A' out s H s' H' := ⟨Env0.at a.env h, a.os, a.un, a.grow⟩
theorem loopE (big : ∃ L ∈ frs out, base.objs.size ≤ L) {a : Addr} {xs : List V} {ts : List Str} (hlen : ts.length = xs.length) (item : ∀ (i : Nat) (x : V), xs[i]? = some x → ∃ t, ts[i]? = some t ∧ ReprE P w K mg base out B as n x t) (hna : a ∉ as) (hB : B a = some (.lst xs)) {b : Nat} (hsz : b + (listText ts).length ≤ sizeLine)
    {A : Around} {g : List Code} (hg : A.guards = some g) (hcl : ∀ c ∈ as, Clear g c) (room : Room (n + 1) A) {s0 : Shared} {H0 : Hp} (same : Same B H0) {R : Result → Shared → Prop}
    (hR : ∀ s' H' u, Aft P w K mg base A out s0 H0 s' H' → R (.ok (.ret (.str (listText ts) u))) s') :
    ∀ (k i : Nat) (s : Shared) (H : Hp) (p : Addr), xs.length - i = k → i ≤ xs.length → Aft P w K mg base A out s0 H0 s H → H0 p = none → H p = some (.lst ((ts.take i).map V.str)) →
      codeAny (model P w) A (.builtin "list.__repr__.loop" ⟨[.ref a, rawInt i, .ref p, rawInt ((b + piled (ts.take i) : Nat) : Int)], []⟩) R s := by
  have whole : (listText ts).length = (textFrom 0 "[" ts).length + 1 := by
    show (textFrom 0 "[" ts ++ "]").length = _
    rw [strLen_append]; rfl
  have sizes := textFrom_len ts 0 "["
  have each : ∀ t ∈ ts, t.length ≤ sizeLine := fun t ht => by have := sizes.2.1 t ht; omega
  have all_ := piled_le_listText ts
  intro k
  induction k with
  | zero =>
    intro i s H p hk hi aft hp0 hp
    obtain rfl : i = xs.length := by omega
    have hta : ts.take xs.length = ts := by rw [← hlen, List.take_length]
    rw [hta] at hp ⊢
    obtain ⟨_, its, m, vals, got⟩ := aft.env.hok a _ (aft.grow _ _ (same _ _ hB))
    obtain ⟨_, its2, m2, vals2, got2⟩ := aft.env.hok p _ hp
    obtain ⟨dn, rfl, hdn⟩ := strs_its vals2
    refine codeAny_builtin F.entry_list_repr_loop ?_
    show wpAny _ _ («list.__repr__.loop» ⟨[.ref a, .int xs.length 0, .ref p, .int ((b + piled ts : Nat) : Int) 0], []⟩) _ _ s
    rw [repr_loop_tree]
    refine wpAny_bind (wpAny_listItems got rfl ?_)
    have none_ : its.toArray[((xs.length : Nat) : Int).toNat]? = none := by simp [vals.length]
    simp only [none_]
    unfold reprEnd
    refine wpAny_bind (wpAny_listItems got2 rfl ?_)
    show wpAny _ _ (forIn (strValues dn).zipIdx _ _ >>= _) _ _ _
    rw [repr_fold, hdn]
    refine wpAny_bind (wpAny_pure ?_)
    refine wpAny_bind (wpAny_mkStr (wpAny_pure ?_) (by show (listText ts).length ≤ _; omega))
    exact hR _ H _ (aft.trans (Aft.toks aft.env _))
  | succ k ih =>
    intro i s H p hk hi aft hp0 hp
    have hlt : i < xs.length := by omega
    obtain ⟨t, ht, hrep⟩ := item i xs[i] (List.getElem?_eq_getElem hlt)
    have p1 := piled_take_succ ht
    have p2 := piled_take_le ts (i + 1)
    obtain ⟨_, its, m, vals, got⟩ := aft.env.hok a _ (aft.grow _ _ (same _ _ hB))
    have hli : i < its.length := by rw [← vals.length]; exact hlt
    obtain ⟨x, hx, ru⟩ := Vals.at vals (List.getElem?_eq_getElem hli)
    rw [List.getElem?_eq_getElem hlt] at hx
    cases hx
    refine codeAny_builtin F.entry_list_repr_loop ?_
    show wpAny _ _ («list.__repr__.loop» ⟨[.ref a, .int i 0, .ref p, .int ((b + piled (ts.take i) : Nat) : Int) 0], []⟩) _ _ s
    rw [repr_loop_tree]
    refine wpAny_bind (wpAny_listItems got rfl ?_)
    have some_ : its.toArray[((i : Nat) : Int).toNat]? = some its[i] := by simp [hli]
    simp only [some_]
    rw [Int.toNat_natCast]
    refine wpAny_bind (wpAny_holding (hrep its[i] ru (b + piled (ts.take i) + 1) (by omega) _ _ _ _ _ _ (guards_under_guard (isGuard_list_loop _) hg) (fun c hc => (hcl c hc).cons (a := a) fun e => hna (e ▸ hc)) (under_room _ (.inl rfl) room) (under_env _ (.inl rfl) aft.env) (fun y o e => aft.grow _ _ (same _ _ e)) fun s' H' aft' => ?_))
    have aft2 := aft.trans (Aft.at (under_list (A := A) _ (.inl rfl)).2.2.2.symm aft')
    have hp' := aft'.grow _ _ hp
    obtain ⟨len2, its2, m2, vals2, got2⟩ := aft2.env.hok p _ hp'
    refine wpAny_bind (wpAny_mkStr ?_ (each t (List.mem_of_getElem? ht)))
    refine wpAny_bind ?_
    show wpAny _ _ (updateSeq p _) _ _ _
    have hz2 : its2.toArray.size ≤ sizeLine := by rw [List.size_toArray, ← vals2.length]; exact len2
    refine wpAny_updateSeq got2 rfl (wpAny_pure ⟨F.quiet_list_repr_loop _, ?_⟩) hz2 (by simpa using hz2)
    have e1 : ((i : Int) + 1) = ((i + 1 : Nat) : Int) := by omega
    have e2 : b + piled (ts.take i) + (t.length + 2) = b + piled (ts.take (i + 1)) := by omega
    rw [e1, e2]
    have off : ∀ c o, c ≠ p → s'.heap.get? c = some o → (s'.heap.update p (Obj.mapSeq (·.push (Value.str t s'.toks)))).get? c = some o := fun c o hc e => (Heap.get?_update_other _ _ (fun z : p = c => hc z.symm)).trans e
    have on := Heap.get?_update_self (Obj.mapSeq (·.push (Value.str t s'.toks))) got2 rfl
    have tk1 : ts.take (i + 1) = ts.take i ++ [t] := by simp [List.take_add_one, ht]
    have okN : HOk P w (upd H' p (.lst ((ts.take (i + 1)).map V.str))) (s'.heap.update p (Obj.mapSeq (·.push (Value.str t s'.toks)))) := by
      refine HOk.write aft2.env.hok (by rw [hp']; trivial) (.inl rfl) off ⟨_, on⟩ ⟨?_, its2 ++ [Value.str t s'.toks], m2 + 1, ?_, ?_⟩
      · rw [List.length_map, List.length_take]
        have : ts.length ≤ sizeLine := by
          have h1 := sizes.1
          rw [if_neg (Nat.lt_irrefl 0)] at h1
          have h2 : ("[" : Str).length = 1 := rfl
          omega
        omega
      · rw [tk1, List.map_append]
        exact vals2.append (.cons ⟨_, rfl⟩ .nil)
      · rw [on]
        simp [Obj.mapSeq]
    have unN : Un (frs out) [] H' (upd H' p (.lst ((ts.take (i + 1)).map V.str))) s'.heap (s'.heap.update p (Obj.mapSeq (·.push (Value.str t s'.toks)))) := Un.write (by rw [hp']; trivial) (.inl rfl) off ⟨_, on⟩
    exact ih (i + 1) _ _ p (by omega) hlt ⟨Env0.after big aft2.env unN okN aft2.env.bare, aft2.os, aft2.un.trans unN, fun c o e => by
      rw [upd_ne (fun z => by rw [z, hp0] at e; cases e)]
      exact aft2.grow c o e⟩ hp0 upd_same
theorem reprE_list (big : ∃ L ∈ frs out, base.objs.size ≤ L) {a : Addr} {xs : List V} {ts : List Str} (h0 : xs ≠ []) (hlen : ts.length = xs.length) (item : ∀ (i : Nat) (x : V), xs[i]? = some x → ∃ t, ts[i]? = some t ∧ ReprE P w K mg base out B as n x t) (hna : a ∉ as) (hB : B a = some (.lst xs)) :
    ReprE P w K mg base out B (a :: as) (n + 1) (.ref a) (listText ts) := by
  intro u ru b hb A g E s H Q hg hcl room env0 same hQ
  cases (show u = Value.ref a from ru)
  have hH := same _ _ hB
  obtain ⟨_, its, m, vals, got⟩ := env0.hok a _ hH
  have ne : its ≠ [] := fun z => h0 (List.eq_nil_of_length_eq_zero (by rw [vals.length, z]; rfl))
  obtain ⟨v, rest, rfl⟩ : ∃ v rest, its = v :: rest := by
    cases its with
    | nil => exact absurd rfl ne
    | cons v rest => exact ⟨v, rest, rfl⟩
  have ty : s.TypeIs (.ref a) "list" := ⟨_, got, rfl⟩
  have hca : Clear g a := hcl a (List.mem_cons_self ..)
  have un := room.un
  refine wpAny_pyReprUnder_ref (by omega) (wpAny_pyReprObjUnder_twin (twin := "list.__repr__.under") ty F.slot_list_repr.toG rfl (by omega) ?_)
  refine call_twin_plain F.plain_list_repr_under F.entry_list_repr_under F.check_list_repr_under ty F.slot_list_repr.toG (F.args_list_repr_1 _) ?_
  refine wpAny_list_repr_head (A := A.in1) hg (fun v rest kw hm => listSameRef_of_ne (hca _ _ _ _ hm)) got rfl ?_
  refine wpAny_bind (m := newList []) (wpAny_newObj_type ?_)
  refine wpAny_pure ⟨F.quiet_list_repr_loop _, ?_⟩
  have fresh : H s.heap.objs.size = none := env0.hok.fresh (Nat.le_refl _)
  have keep : ∀ c o, s.heap.get? c = some o → (s.heap.push { cls := .type "list", data := .seq #[] }).get? c = some o := fun c o e => Heap.get?_push_of_some _ e
  have okN : HOk P w (upd H s.heap.objs.size (.lst [])) (s.heap.push { cls := .type "list", data := .seq #[] }) := env0.hok.laid keep (Nat.le_refl _) ⟨Nat.zero_le _, [], 0, .nil, Heap.get?_push_size _ rfl⟩
  have unN : Un (frs out) [] H (upd H s.heap.objs.size (.lst [])) s.heap (s.heap.push { cls := .type "list", data := .seq #[] }) := Un.laid keep (Nat.le_refl _) fresh
  exact loopE big hlen item hna hB (b := b) (by omega) hg (fun c hc => hcl c (List.mem_cons_of_mem _ hc)) room same (s0 := s) (H0 := H) (fun s' H' u aft => ⟨⟨_, _, rfl⟩, ⟨_, _, rfl, hQ s' H' aft⟩⟩) _ 0 _ _ _ rfl (Nat.zero_le _)
    ⟨Env0.after big env0 unN okN env0.bare, rfl, unN, fun c o e => by rw [upd_ne (fun z => by rw [z, fresh] at e; cases e)]; exact e⟩ fresh upd_same
theorem reprE_nil {a : Addr} (hB : B a = some (.lst [])) : ReprE P w K mg base out B as n (.ref a) "[]" := by
  intro u ru b hb A g E s H Q hg hcl room env0 same hQ
  cases (show u = Value.ref a from ru)
  obtain ⟨_, its, m, vals, got⟩ := env0.hok a _ (same _ _ hB)
  cases vals
  have un := room.un
  exact wpAny_pyReprUnder_ref (by omega) (wpAny_pyReprObjUnder_list_empty ⟨_, got, rfl⟩ (by omega) got rfl ⟨_, _, rfl, hQ _ H (Aft.toks env0 _)⟩)
/-- the texts of a tuple's items, gathered -/
inductive AllE (P : Program) (w : World) (K : PySem.W.Frag) (mg : Str → Option Value) (base : Heap) (out : List Env) (B : Hp) (as : List Addr) (n : Nat) : List V → List Str → Prop
  | nil : AllE P w K mg base out B as n [] []
  | cons {x : V} {t : Str} {l : List V} {ts : List Str} : ReprE P w K mg base out B as n x t → AllE P w K mg base out B as n l ts → AllE P w K mg base out B as n (x :: l) (t :: ts)
theorem foldE {A : Around} {g : List Code} {E : Value → Shared → Prop} (hg : A.guards = some g) (hcl : ∀ c ∈ as, Clear g c) (room : Room n A) : ∀ (l : List Value) (xs : List V) (ts : List Str) (acc : Array Str) (m : Nat) (s : Shared) (H : Hp) (Q : (Array Str × Nat) → Shared → Prop), Vals xs l → AllE P w K mg base out B as n xs ts → m + piled ts ≤ sizeLine →
    Env0 P w K mg base A out s H → Same B H → (∀ s' H', Aft P w K mg base A out s H s' H' → Q ⟨acc ++ ts.toArray, m + piled ts⟩ s') → wpAny (model P w) A (forIn l (⟨acc, m⟩ : (Array Str × Nat)) tupBody) Q E s := by
  intro l
  induction l with
  | nil =>
    intro xs ts acc m s H Q vals all_ _ env0 _ hQ
    cases vals
    cases all_
    simp only [List.forIn_nil]
    have := hQ s H ⟨env0, rfl, Un.refl, fun _ _ z => z⟩
    exact wpAny_pure (by simpa [piled] using this)
  | cons u l ih =>
    intro xs ts acc m s H Q vals all_ hm env0 same hQ
    cases vals with
    | cons r1 r2 =>
      cases all_ with
      | cons h1 h2 =>
        rename_i t ts'
        rw [piled_cons] at hm
        rw [List.forIn_cons]
        refine wpAny_bind (wpAny_bind (h1 u r1 (m + 1) (by omega) A g E s H _ hg hcl room env0 same fun s' H' aft => wpAny_pure ?_))
        refine ih _ ts' (acc.push t) (m + (t.length + 2)) s' H' Q r2 h2 (by omega) aft.env (fun c o e => aft.grow _ _ (same _ _ e)) fun s2 H2 aft2 => ?_
        have done_ := hQ s2 H2 (aft.trans aft2)
        rw [show m + piled (t :: ts') = m + (t.length + 2) + piled ts' by rw [piled_cons]; omega] at done_
        simpa using done_
theorem AllE.length_eq : ∀ {xs : List V} {ts : List Str}, AllE P w K mg base out B as n xs ts → ts.length = xs.length
  | _, _, .nil => rfl
  | _, _, .cons _ h => by rw [List.length_cons, List.length_cons, h.length_eq]
theorem reprE_tup {a : Addr} {xs : List V} {ts : List Str} (all_ : AllE P w K mg base out B as n xs ts) (hna : a ∉ as) (hB : B a = some (.tup xs)) : ReprE P w K mg base out B (a :: as) (n + 1) (.ref a) (tupleText ts) := by
  intro u ru b hb A g E s H Q hg hcl room env0 same hQ
  cases (show u = Value.ref a from ru)
  obtain ⟨_, its, vals, ot, got, cls_, m, dat⟩ := env0.hok a _ (same _ _ hB)
  have ty : s.TypeIs (.ref a) "tuple" := ⟨_, got, cls_⟩
  have hca : Clear g a := hcl a (List.mem_cons_self ..)
  have un := room.un
  have bound := piled_le_tupleText ts
  have len : ts.length = its.toArray.size := by rw [all_.length_eq, vals.length]; simp
  refine wpAny_pyReprUnder_ref (by omega) (wpAny_pyReprObjUnder_twin (twin := "tuple.__repr__.under") ty F.slot_tuple_repr rfl (by omega) ?_)
  refine call_twin_own (F.quiet_tuple_repr_under _) F.entry_tuple_repr_under F.check_tuple_repr_under ty F.slot_tuple_repr (F.args_tuple_repr_1 _) ?_
  rw [tuple_repr_tree, tupleReprUnderWay_eq]
  refine wpOwn_bind (wpOwn_stackTailAny hg (tupGuardF_off _) (tupGuardF_pos _) ?_)
  have quiet_ : (g.any fun c => tupGuardF (.ref a) (c, default)) = false := by
    refine List.any_eq_false.mpr fun c hc => ?_
    rw [tupGuardF_of_clear hca c hc]
    simp
  rw [quiet_]
  refine wpOwn_of_wpAny ?_
  show wpAny _ _ (tupleReprRest b (.ref a)) _ _ s
  unfold tupleReprRest Builtin.Tuple.tupleItemsOf
  refine wpAny_bind (wpAny_bind (wpAny_seqItems got dat (wpAny_pure ?_)))
  rw [← Array.forIn_toList]
  refine wpAny_bind (foldE (guards_under_guard (isGuard_tuple_repr_under _) hg) (fun c hc => (hcl c (List.mem_cons_of_mem _ hc)).cons (a := a) fun e => hna (e ▸ hc)) (under_room _ (.inr (.inr rfl)) room) _ xs ts _ _ s H _ (by simpa using vals) all_ (by omega) (under_env _ (.inr (.inr rfl)) env0) same fun s' H' aft => ?_)
  refine wpAny_bind (wpAny_mkStr (wpAny_pure ?_) (by simpa [tupleText, len] using (show (tupleText ts).length ≤ sizeLine by omega)))
  have aft2 := Aft.at (under_list (A := A) _ (.inr (.inr rfl))).2.2.2.symm aft
  have done_ : Q (tupleText ts) { s' with toks := s'.toks + 1 } := hQ _ H' (aft2.trans (Aft.toks aft2.env (s'.toks + 1)))
  have fin_ : callEnd (fun v s' => (∃ x u, v = .str x u) ∧ ∃ x u, v = .str x u ∧ Q x s') E (.ok (.ret (.str (tupleText ts) s'.toks))) { s' with toks := s'.toks + 1 } := ⟨⟨_, _, rfl⟩, ⟨_, _, rfl, done_⟩⟩
  simpa [tupleText, len] using fin_
end
end OC
set_option maxHeartbeats 4000000
/-! OcD: repr of data. -/
namespace OC
open PySem PySem.Spec PyProof.Rows L2 Builtin Builtin.List

mutual
/-- the text of a datum -/
def reprD : D → Str
  | .non => "None"
  | .bl b => if b then "True" else "False"
  | .int i => (toString i : String)
  | .rat q => reprQ q
  | .lst ds => if ds.isEmpty then "[]" else listText (reprDs ds)
  | .tup ds => tupleText (reprDs ds)
  | _ => ""
def reprDs : List D → List Str
  | [] => []
  | d :: ds => reprD d :: reprDs ds
end
mutual
/-- what its repr asks: numbers of few digits -/
def RepOk : D → Prop
  | .non => True
  | .bl _ => True
  | .int i => i.natAbs.log2 < 1920
  | .rat q => Sm q
  | .lst ds => RepOks ds
  | .tup ds => RepOks ds
  | _ => False
def RepOks : List D → Prop
  | [] => True
  | d :: ds => RepOk d ∧ RepOks ds
end
mutual
/-- how deep -/
def dep : D → Nat
  | .lst ds => deps ds + 1
  | .tup ds => deps ds + 1
  | _ => 0
def deps : List D → Nat
  | [] => 0
  | d :: ds => max (dep d) (deps ds)
end
section
variable {C : Addr} {B : Hp}
/-- a datum that is not a list nor a tuple -/
def flatD : D → Bool
  | .lst _ => false
  | .tup _ => false
  | _ => true
theorem dep_flat {d : D} (h : flatD d = true) : dep d = 0 := by cases d <;> first | rfl | cases h
theorem flat_ref {d : D} {a : Addr} {vs : List V} (ok : RepOk d) (h : flatD d = true) (r : Rep C B d (.ref a)) : B a ≠ some (.lst vs) ∧ B a ≠ some (.tup vs) := by
  cases d with
  | rat q =>
    obtain ⟨b, dx, e, hb⟩ := r
    cases e
    rw [hb]
    exact ⟨(fun z => by cases z), fun z => by cases z⟩
  | non => cases (show V.ref a = V.non from r)
  | bl b => cases (show V.ref a = V.bl b from r)
  | int i => cases (show V.ref a = V.int i from r)
  | str x => cases ok
  | lst _ => cases h
  | tup _ => cases h
  | dic => cases ok
  | ptr _ => cases ok
  | scr _ _ => cases ok
  | ty _ => cases ok
theorem dep_leaf {d d' : D} {v : V} (hf : flatD d = true) (o1 : RepOk d) (o2 : RepOk d') (h1 : Rep C B d v) (h2 : Rep C B d' v) : dep d = dep d' := by
  rw [dep_flat hf]
  cases d' with
  | lst ds' =>
    obtain ⟨a, vs, rfl, hB, _⟩ := h2
    exact absurd hB (flat_ref o1 hf h1).1
  | tup ds' =>
    obtain ⟨a, vs, rfl, hB, _⟩ := h2
    exact absurd hB (flat_ref o1 hf h1).2
  | _ => rfl
mutual
theorem dep_eq : ∀ {d d' : D} {v : V}, RepOk d → RepOk d' → Rep C B d v → Rep C B d' v → dep d = dep d'
  | .lst ds, d', v, o1, o2, h1, h2 => by
    obtain ⟨a, vs, rfl, hB, hr⟩ := h1
    cases d' with
    | lst ds' =>
      obtain ⟨a', vs', e, hB', hr'⟩ := h2
      cases e
      rw [hB] at hB'
      cases hB'
      show deps ds + 1 = deps ds' + 1
      rw [deps_eq o1 o2 hr hr']
    | tup ds' =>
      obtain ⟨a', vs', e, hB', hr'⟩ := h2
      cases e
      rw [hB] at hB'
      cases hB'
    | _ => exact absurd hB (flat_ref o2 rfl h2).1
  | .tup ds, d', v, o1, o2, h1, h2 => by
    obtain ⟨a, vs, rfl, hB, hr⟩ := h1
    cases d' with
    | tup ds' =>
      obtain ⟨a', vs', e, hB', hr'⟩ := h2
      cases e
      rw [hB] at hB'
      cases hB'
      show deps ds + 1 = deps ds' + 1
      rw [deps_eq o1 o2 hr hr']
    | lst ds' =>
      obtain ⟨a', vs', e, hB', hr'⟩ := h2
      cases e
      rw [hB] at hB'
      cases hB'
    | _ => exact absurd hB (flat_ref o2 rfl h2).2
  | .non, d', v, o1, o2, h1, h2 => dep_leaf (d := .non) rfl o1 o2 h1 h2
  | .bl b, d', v, o1, o2, h1, h2 => dep_leaf (d := .bl b) rfl o1 o2 h1 h2
  | .int i, d', v, o1, o2, h1, h2 => dep_leaf (d := .int i) rfl o1 o2 h1 h2
  | .rat q, d', v, o1, o2, h1, h2 => dep_leaf (d := .rat q) rfl o1 o2 h1 h2
theorem deps_eq : ∀ {ds ds' : List D} {vs : List V}, RepOks ds → RepOks ds' → RepL C B ds vs → RepL C B ds' vs → deps ds = deps ds'
  | [], [], _, _, _, _, _ => rfl
  | [], d' :: ds', vs, _, _, h1, h2 => by
    rw [show vs = [] from h1] at h2
    obtain ⟨_, _, e, _⟩ := h2
    cases e
  | d :: ds, [], vs, _, _, h1, h2 => by
    rw [show vs = [] from h2] at h1
    obtain ⟨_, _, e, _⟩ := h1
    cases e
  | d :: ds, d' :: ds', vs, o1, o2, h1, h2 => by
    obtain ⟨v, r, rfl, a1, a2⟩ := h1
    obtain ⟨v', r', e, b1, b2⟩ := h2
    cases e
    show max (dep d) (deps ds) = max (dep d') (deps ds')
    rw [dep_eq o1.1 o2.1 a1 b1, deps_eq o1.2 o2.2 a2 b2]
end
end
section
variable {P : Program} {w : World} {K : PySem.W.Frag} {mg : Str → Option Value} {base : Heap} {out : List Env} {B : Hp} {as as' : List Addr} {n m k : Nat}
theorem ReprE.wider {x : V} {t : Str} (h : ReprE P w K mg base out B as n x t) (ha : ∀ a ∈ as, a ∈ as') (hn : n ≤ m) : ReprE P w K mg base out B as' m x t :=
  fun u ru b hb A g E s H Q hg hcl room => h u ru b hb A g E s H Q hg (fun a z => hcl a (ha a z)) (room.mono hn)
theorem AllE.wider : ∀ {xs : List V} {ts : List Str}, AllE P w K mg base out B as n xs ts → (∀ a ∈ as, a ∈ as') → n ≤ m → AllE P w K mg base out B as' m xs ts
  | _, _, .nil, _, _ => .nil
  | _, _, .cons h r, ha, hn => .cons (h.wider ha hn) (r.wider ha hn)
theorem AllE.at : ∀ {xs : List V} {ts : List Str}, AllE P w K mg base out B as n xs ts → ∀ (i : Nat) (x : V), xs[i]? = some x → ∃ t, ts[i]? = some t ∧ ReprE P w K mg base out B as n x t
  | _, _, .nil, i, x, h => by cases h
  | _, _, .cons h r, 0, x, e => by cases e; exact ⟨_, rfl, h⟩
  | _, _, .cons h r, i + 1, x, e => AllE.at r i x e
theorem reprDs_len : ∀ ds : List D, (reprDs ds).length = ds.length
  | [] => rfl
  | d :: ds => congrArg (· + 1) (reprDs_len ds)
/-- each of as stands for data of that depth at most -/
def Deep (C : Addr) (B : Hp) (as : List Addr) (m : Nat) : Prop := ∀ b ∈ as, ∃ d, RepOk d ∧ Rep C B d (.ref b) ∧ dep d ≤ m
mutual
theorem reprE_of (big : ∃ L ∈ frs out, base.objs.size ≤ L) (T : Tx K mg) (F : FnR P w K mg base CX0 k (aM "__repr__" K) (SpO (cR K) (cN K) S_R__repr__)) : ∀ {d : D} {v : V}, RepOk d → Rep (cR K) B d v → ∃ as, Deep (cR K) B as (dep d) ∧ ReprE P w K mg base out B as (k + dep d) v (reprD d)
  | .non, v, _, h => ⟨[], (fun b z => nomatch z), by rw [show v = V.non from h]; exact reprE_is fun u r => by cases (show u = Value.none from r); exact ReprIs.none⟩
  | .bl b, v, _, h => ⟨[], (fun b z => nomatch z), by rw [show v = V.bl b from h]; exact reprE_is fun u r => by cases (show u = Value.bool b from r); exact ReprIs.bool b⟩
  | .int i, v, o, h => ⟨[], (fun b z => nomatch z), by rw [show v = V.int i from h]; exact reprE_is fun u r => by obtain ⟨t, rfl⟩ := (show ∃ t, u = Value.int i t from r); exact ReprIs.int t o⟩
  | .rat q, v, o, h => by
    obtain ⟨a, dx, rfl, ha⟩ := h
    exact ⟨[], (fun b z => nomatch z), reprE_rat big T F (Nat.le_refl _) o ha⟩
  | .lst ds, v, o, h => by
    obtain ⟨a, vs, rfl, hB, hr⟩ := id h
    obtain ⟨as, h1, h2⟩ := reprEs_of big T F o hr
    have hna : a ∉ as := fun z => by
      obtain ⟨d', o', r', l'⟩ := h1 a z
      have e := dep_eq (d := .lst ds) o o' h r'
      have e' : dep (.lst ds) = deps ds + 1 := rfl
      omega
    refine ⟨a :: as, fun b hb => ?_, ?_⟩
    · rcases List.mem_cons.mp hb with z | z
      · exact ⟨.lst ds, o, by rw [z]; exact h, Nat.le_refl _⟩
      · obtain ⟨d', o', r', l'⟩ := h1 b z
        exact ⟨d', o', r', Nat.le_trans l' (Nat.le_succ _)⟩
    · cases ds with
      | nil =>
        rw [show vs = [] from hr] at hB
        exact reprE_nil hB
      | cons d ds =>
        obtain ⟨v0, r0, rfl, _, _⟩ := id hr
        exact reprE_list big (by simp) (by rw [reprDs_len, hr.length]) (fun i x e => h2.at i x e) hna hB
  | .tup ds, v, o, h => by
    obtain ⟨a, vs, rfl, hB, hr⟩ := id h
    obtain ⟨as, h1, h2⟩ := reprEs_of big T F o hr
    have hna : a ∉ as := fun z => by
      obtain ⟨d', o', r', l'⟩ := h1 a z
      have e := dep_eq (d := .tup ds) o o' h r'
      have e' : dep (.tup ds) = deps ds + 1 := rfl
      omega
    refine ⟨a :: as, fun b hb => ?_, ?_⟩
    · rcases List.mem_cons.mp hb with z | z
      · exact ⟨.tup ds, o, by rw [z]; exact h, Nat.le_refl _⟩
      · obtain ⟨d', o', r', l'⟩ := h1 b z
        exact ⟨d', o', r', Nat.le_trans l' (Nat.le_succ _)⟩
    · exact reprE_tup h2 hna hB
theorem reprEs_of (big : ∃ L ∈ frs out, base.objs.size ≤ L) (T : Tx K mg) (F : FnR P w K mg base CX0 k (aM "__repr__" K) (SpO (cR K) (cN K) S_R__repr__)) : ∀ {ds : List D} {vs : List V}, RepOks ds → RepL (cR K) B ds vs → ∃ as, Deep (cR K) B as (deps ds) ∧ AllE P w K mg base out B as (k + deps ds) vs (reprDs ds)
  | [], vs, _, h => ⟨[], (fun b z => nomatch z), by rw [show vs = [] from h]; exact .nil⟩
  | d :: ds, vs, o, h => by
    obtain ⟨v, r, rfl, h1, h2⟩ := h
    obtain ⟨as1, a1, a2⟩ := reprE_of big T F o.1 h1
    obtain ⟨as2, b1, b2⟩ := reprEs_of big T F o.2 h2
    have m1 : dep d ≤ deps (d :: ds) := Nat.le_max_left _ _
    have m2 : deps ds ≤ deps (d :: ds) := Nat.le_max_right _ _
    refine ⟨as1 ++ as2, fun b hb => ?_, .cons (a2.wider (fun a z => List.mem_append_left _ z) (by omega)) (b2.wider (fun a z => List.mem_append_right _ z) (by omega))⟩
    rcases List.mem_append.mp hb with z | z
    · obtain ⟨d', o', r', l'⟩ := a1 b z
      exact ⟨d', o', r', Nat.le_trans l' m1⟩
    · obtain ⟨d', o', r', l'⟩ := b1 b z
      exact ⟨d', o', r', Nat.le_trans l' m2⟩
end
end
end OC
set_option maxHeartbeats 4000000
/-! OcF: the call of repr. -/
namespace OC
open PySem PySem.Spec PyProof.Rows L2 Builtin Builtin.List

section
variable {P : Program} {w : World} {K : PySem.W.Frag} {mg : Str → Option Value} {base : Heap} {out : List Env} {B : Hp} {as : List Addr} {n : Nat}
theorem call_list_reprE (big : ∃ L ∈ frs out, base.objs.size ≤ L) {a : Addr} {xs : List V} {ts : List Str} (h0 : xs ≠ []) (hlen : ts.length = xs.length) (item : ∀ (i : Nat) (x : V), xs[i]? = some x → ∃ t, ts[i]? = some t ∧ ReprE P w K mg base out B as n x t) (hna : a ∉ as) (hB : B a = some (.lst xs))
    {A : Around} {g : List Code} {E : Value → Shared → Prop} {s : Shared} {H : Hp} {Q : Value → Shared → Prop} (hg : A.guards = some g) (hcl : ∀ c ∈ a :: as, Clear g c) (room : Room (n + 1) A) (env0 : Env0 P w K mg base A out s H) (same : Same B H) (hsz : (listText ts).length ≤ sizeLine)
    (hQ : ∀ s' H' u, Aft P w K mg base A out s H s' H' → Q (.str (listText ts) u) s') : wpAny (model P w) A (call (.builtin "list.__repr__") [.ref a]) Q E s := by
  have hH := same _ _ hB
  obtain ⟨_, its, m, vals, got⟩ := env0.hok a _ hH
  have ne : its ≠ [] := fun z => h0 (List.eq_nil_of_length_eq_zero (by rw [vals.length, z]; rfl))
  obtain ⟨v, rest, rfl⟩ : ∃ v rest, its = v :: rest := by
    cases its with
    | nil => exact absurd rfl ne
    | cons v rest => exact ⟨v, rest, rfl⟩
  have ty : s.TypeIs (.ref a) "list" := ⟨_, got, rfl⟩
  have hca : Clear g a := hcl a (List.mem_cons_self ..)
  refine wpAny_call (codeAny_call_builtin F.slot_list_repr.plain F.entry_list_repr (F.slot_list_repr.check _ _ _ _ _ _ _ _ ty (F.args_list_repr_1 _) ?_))
  show wpAny _ _ (Builtin.listReprAt 0 ⟨[.ref a], []⟩) _ _ s
  refine wpAny_list_repr_head (A := A.in1) hg (fun v rest kw hm => listSameRef_of_ne (hca _ _ _ _ hm)) got rfl ?_
  refine wpAny_bind (m := newList []) (wpAny_newObj_type ?_)
  refine wpAny_pure ⟨F.quiet_list_repr_loop _, ?_⟩
  have fresh : H s.heap.objs.size = none := env0.hok.fresh (Nat.le_refl _)
  have keep : ∀ c o, s.heap.get? c = some o → (s.heap.push { cls := .type "list", data := .seq #[] }).get? c = some o := fun c o e => Heap.get?_push_of_some _ e
  have okN : HOk P w (upd H s.heap.objs.size (.lst [])) (s.heap.push { cls := .type "list", data := .seq #[] }) := env0.hok.laid keep (Nat.le_refl _) ⟨Nat.zero_le _, [], 0, .nil, Heap.get?_push_size _ rfl⟩
  have unN : Un (frs out) [] H (upd H s.heap.objs.size (.lst [])) s.heap (s.heap.push { cls := .type "list", data := .seq #[] }) := Un.laid keep (Nat.le_refl _) fresh
  exact loopE big hlen item hna hB (b := 0) (by omega) hg (fun c hc => hcl c (List.mem_cons_of_mem _ hc)) room same (s0 := s) (H0 := H) (fun s' H' u aft => hQ s' H' u aft) _ 0 _ _ _ rfl (Nat.zero_le _)
    ⟨Env0.after big env0 unN okN env0.bare, rfl, unN, fun c o e => by rw [upd_ne (fun z => by rw [z, fresh] at e; cases e)]; exact e⟩ fresh upd_same
end
/-- what is told at the top of a repr -/
def topD : D → Bool
  | .non => true
  | .bl _ => true
  | .lst (_ :: _) => true
  | _ => false
def rReprG (C : Addr) : List V → Hp → VK → Prop := fun xs H Q => ∃ d v B, xs = [v] ∧ RepOk d ∧ topD d = true ∧ (reprD d).length ≤ sizeLine ∧ dep d ≤ 3 ∧ Rep C B d v ∧ Same B H ∧
  ∀ H', (∀ a o, H a = some o → H' a = some o) → Q (.str (reprD d)) H'
section
variable {X : Cx} {k : Nat}
theorem call_reprG (T : Tx X.K X.mg) (F : FnR X.prog X.w X.K X.mg X.base CX0 k (aM "__repr__" X.K) (SpO (cR X.K) (cN X.K) S_R__repr__)) (hG : X.A.guards = some []) (hr : Room (k + 5) X.A) (hs : X.stack = X.env :: X.outer) (hf : X.env.frame = some X.env.locals) : CallR X (.builtin "repr") (rReprG (cR X.K)) := by
  intro pins s σ H xs us Q I r h
  obtain ⟨d, v, B, rfl, ok, top, hsz, hdp, rep, same, q⟩ := h
  obtain ⟨u, rfl, ru⟩ := vals1 r
  have big : ∃ L ∈ frs X.stack, X.base.objs.size ≤ L := ⟨X.env.locals, by rw [hs]; exact List.mem_filterMap.mpr ⟨X.env, List.mem_cons_self, hf⟩, Nat.le_trans I.ok.bsz I.ok.above⟩
  cases d with
  | non =>
    rw [show v = V.non from rep] at ru
    cases (show u = Value.none from ru)
    exact PySem.P.repr_of_none ⟨.str _, H, I.tok _, ⟨_, rfl⟩, q H fun _ _ e => e⟩
  | bl b =>
    rw [show v = V.bl b from rep] at ru
    cases (show u = Value.bool b from ru)
    exact PySem.P.repr_of_bool ⟨.str _, H, I.tok _, ⟨_, rfl⟩, q H fun _ _ e => e⟩
  | lst ds =>
    cases ds with
    | nil => cases top
    | cons d0 ds =>
      obtain ⟨a, vs, rfl, hB, hr'⟩ := id rep
      cases (show u = Value.ref a from ru)
      obtain ⟨as, h1, h2⟩ := reprEs_of big T F ok hr'
      have hna : a ∉ as := fun z => by
        obtain ⟨d', o', r', l'⟩ := h1 a z
        have e := dep_eq (d := .lst (d0 :: ds)) ok o' rep r'
        have e' : dep (.lst (d0 :: ds)) = deps (d0 :: ds) + 1 := rfl
        omega
      have hdd : deps (d0 :: ds) + 1 ≤ 3 := hdp
      have env0 := I.env0
      obtain ⟨_, its, m, vals, got⟩ := env0.hok a _ (same _ _ hB)
      have ty : s.TypeIs (.ref a) "list" := ⟨_, got, rfl⟩
      have un := hr.un
      obtain ⟨v0, r0, evs, _, _⟩ := id hr'
      have r1 : Room (k + deps (d0 :: ds) + 2) X.A := hr.mono (by omega)
      refine call_repr_slot (by omega) ty PySem.F.slot_list_repr.toG (call_list_reprE (A := X.A.in1) (n := k + deps (d0 :: ds)) big (by rw [evs]; simp) (by rw [reprDs_len, hr'.length]) (fun i x e => h2.at i x e) hna hB (g := []) hG (fun c _ => Clear.nil c) r1.in1 env0.in1 same hsz fun s' H' u aft => ⟨_, _, rfl, ?_⟩)
      exact I.after ⟨.str _, H', aft.os, aft.env.bare, aft.un, aft.env.hok, ⟨_, rfl⟩, q H' aft.grow⟩
  | _ => cases top
end
section
variable {C : Addr} {ρ : Sto} {μ μ1 : Mu} {te : TE} {ds : List D} {d : D} {p : Addr}
theorem ac_reprG (ok : RepOk d) (top : topD d = true) (hsz : (reprD d).length ≤ sizeLine) (hdp : dep d ≤ 3) : AC C (rReprG C) μ [d] (.str (reprD d)) μ := ⟨rfl, fun B H vs o r Q q => by
  obtain ⟨v, r', rfl, h1, h2⟩ := r
  rw [show r' = [] from h2]
  refine ⟨d, v, B, rfl, ok, top, hsz, hdp, h1, o.bh, fun H' g => ?_⟩
  exact q _ B H' ⟨Same.refl _, fun a u e _ => g a u e, fun a u e => .inl e, fun a u e => ⟨u, g a u e⟩⟩ ⟨fun a u e => g a u (o.bh a u e), o.own.to (Same.refl _) (fun p hp => by
    obtain ⟨ds', hm⟩ := mem_dom hp
    exact (o.own.mem hm).1) fun p vs _ e => g p _ e⟩ rfl⟩
/-- the repr of an owned list -/
theorem ac_reprO (hm : (p, ds) ∈ μ) (ok : RepOk (.lst ds)) (top : topD (.lst ds) = true) (hsz : (reprD (.lst ds)).length ≤ sizeLine) (hdp : dep (.lst ds) ≤ 3) : AC C (rReprG C) μ [.ptr p] (.str (reprD (.lst ds))) μ := ⟨rfl, fun B H vs o r Q q => by
  obtain ⟨v, r', rfl, h1, h2⟩ := r
  rw [show r' = [] from h2]
  obtain ⟨hB, ws, hw, rw'⟩ := o.own.mem hm
  have s12 : Same B (L2.upd B p (.lst ws)) := fun a u e => by rw [upd_ne (ne_of_none e hB)]; exact e
  have s2 : Same (L2.upd B p (.lst ws)) H := fun a u e => by
    by_cases z : a = p
    · rw [z, upd_same] at e; rw [z, hw]; exact e
    · rw [upd_ne z] at e; exact o.bh a u e
  refine ⟨.lst ds, v, L2.upd B p (.lst ws), rfl, ok, top, hsz, hdp, ⟨p, ws, h1, upd_same, rw'.mono s12⟩, s2, fun H' g => ?_⟩
  exact q _ B H' ⟨Same.refl _, fun a u e _ => g a u e, fun a u e => .inl e, fun a u e => ⟨u, g a u e⟩⟩ ⟨fun a u e => g a u (o.bh a u e), o.own.to (Same.refl _) (fun p hp => by
    obtain ⟨ds', hm⟩ := mem_dom hp
    exact (o.own.mem hm).1) fun p vs _ e => g p _ e⟩ rfl⟩
end
end OC
set_option maxHeartbeats 4000000
/-! OcI: a lambda that is heard. -/
namespace OC
open PySem PySem.Spec PyProof.Rows L2 LamX

def TTh (K : Frg) (CS : Addr) : (XK → Hp → VK → Prop) → Hp → VK → Prop := fun tl H Q =>
  tl (fun cls _ H' => ∃ b, PySem.W.exmOne K cls (.ref CS) = some b ∧ (b = true → Q (.bl true) H') ∧ (b = false → False)) H fun _ H' => Q (.bl false) H'
theorem heard_gives {X : Cx} {Ng : List Str} {x a e q : Str} {sg : Scope} {g CS : Addr} {cdg : Value} {j1 j2 : Nat} {p1 p2 p3 p4 p5 p6 p7 p8 p9 p10 : Pos} (hge : sg.names.lookup e = some .globalImplicit) (hme : X.mg e = some (.ref CS)) (hde : (e == ("__debug__" : Str)) = false) (h0 : ∀ f : Addr, (L2.start Ng [V.ref f])[0]? = some (some (V.ref f))) :
    GivesTo X Ng x sg g cdg [.Try [.Expr (.Call (.Name a p1) [] [] p2) p3] [.ExceptHandler (some (.Name e p4)) none [.Return (some (.Constant (.bool true) j1 p5)) p6] p7] [] [] p8, .Return (some (.Constant (.bool false) j2 p9)) p10] a q (TTh X.K CS) := by
  intro f c' s H Q tl act hc h
  have hgl : Gl (cxOf C8.CX0 X.prog X.w X.K X.mg X.base Ng x sg g cdg X.A X.stack s H C8.E0).nox e := hge
  refine ⟨_, pss_cons (ps_try_only (X := (cxOf C8.CX0 X.prog X.w X.K X.mg X.base Ng x sg g cdg X.A X.stack s H C8.E0).nox) (c := .ref CS)
      (tb := fun W D σ H => ∃ Ech : XK, (∀ cls d σ' H', Ech cls d H' → W cls d σ' H') ∧ σ[0]? = some (some (.ref f)) ∧ H c' = some (CodeO c' q) ∧ tl Ech H (fun _ H' => D.nx σ H'))
      rfl rfl ⟨hgl, hde, .inl hme⟩ takes0 (fun W pn xe tk _ => ?_) (fun a oe cls d pn _ _ => pss_one (ps_ret pe_bl))) (pss_one (ps_ret pe_bl)), ?_⟩
  · refine ⟨fun pins s' σ H' D I h' => ?_⟩
    obtain ⟨Ech, hW, h1, h2, h3⟩ := h'
    have hp := act W pn xe Ech p1 p2 tk hW
    have hq := pss_one (ps_expr (pos := p3) hp)
    exact hq.run pins s' σ H' D I ⟨h1, h2, h3⟩
  · exact ⟨fun cls _ H' => ∃ b, PySem.W.exmOne X.K cls (.ref CS) = some b ∧ (b = true → Q (.bl true) H') ∧ (b = false → False), fun cls d σ' H' ⟨b, e1, e2, e3⟩ => ⟨b, e1, fun hb a _ => e2 hb, fun hb => e3 hb⟩, h0 f, hc, h⟩
abbrev N__law_heard : List Str := ["_law_call"]
theorem sc__law_heard : FnScope N__law_heard ["_law_call"] (defScope st__law_heard) := ⟨rfl, rfl, rfl, by decide +kernel, rfl, by decide +kernel, by decide +kernel⟩
theorem pe_heard {X : Cx} {Tb : List (Addr × Str)} {c P : Addr} {k : Nat} {params : Arguments} {body : Expr} {scope : Scope} {t : XK → TE} {p lpos pos : Pos} (T : Tx X.K X.mg) (hg : Gl X "_law_heard")
    (TB : TabB X.base X.mg c P) (hcode : X.env.code = .ref c) (hmT : (P, X.env.qual ++ "<lambda>") ∈ Tb) (hu : ∀ p ∈ Tb, p.1 = P → p.2 = X.env.qual ++ "<lambda>") (hr : Room (k + 2) X.A) (L : LamS X.env.scope scope) (hdef : defaultsOf params X.env = ([], []))
    (hbind : ∀ (q : Str) (cl : List (Str × Addr)) (pm cv ctv : Value), bindArgs (PySem.W.kla_fn "<lambda>" q params body scope cl pm cv ctv) ⟨[], []⟩ = pure [])
    (hbody : ∀ (A : Around) (outer : List Env) (s : Shared) (H : Hp) (E : XK) (f c' : Addr), Room k (A.deeper (lamEnv X scope s.heap.objs.size f c')) → PE (lamCx X A outer s H E scope f c') body (t E)) :
    PE X (.Call (.Name "_law_heard" p) [.Lambda params body scope lpos] [] pos) (tLam Tb (TTh X.K (cN X.K)) t) := by
  obtain ⟨fd, F⟩ := T.def_ 52 df__law_heard rfl
  have b : Binds X.K fd ["_law_call"] [] := F.bindsN fun _ _ _ _ _ _ us hl => match us, hl with | [_], _ => rfl
  have hkp := F.kp
  obtain ⟨oc, od, dV, kV, doc, pm, an, cdv, ct, osl, rfl, lk, hcd, _, _⟩ := F.ex
  exact pe_lamcall (Ng := N__law_heard) (a := "_law_call") hg (T.glo 52 _ rfl) hkp lk hcd b sc__law_heard rfl (.inl rfl) (heard_gives rfl (T.glo 61 _ rfl) (by decide) fun f => rfl) TB hcode hmT hu hr L hdef hbind hbody
/-! ### what is known, without tables -/
def NT (B B' : Hp) : Prop := ∀ a o, B a = some o → (∀ ps, o ≠ .tbl ps) → B' a = some o
mutual
theorem Rep.nt {C : Addr} {B B' : Hp} (e : NT B B') : ∀ {d : D} {v : V}, Rep C B d v → Rep C B' d v
  | .non, v, h => h
  | .bl b, v, h => h
  | .int i, v, h => h
  | .str x, v, h => h
  | .rat q, v, h => by
    obtain ⟨a, dx, rfl, h⟩ := h
    exact ⟨a, dx, rfl, e _ _ h fun _ z => by cases z⟩
  | .lst xs, v, h => by
    obtain ⟨a, vs, rfl, h, r⟩ := h
    exact ⟨a, vs, rfl, e _ _ h (fun _ z => by cases z), RepL.nt e r⟩
  | .tup xs, v, h => by
    obtain ⟨a, vs, rfl, h, r⟩ := h
    exact ⟨a, vs, rfl, e _ _ h (fun _ z => by cases z), RepL.nt e r⟩
  | .dic, v, h => by
    obtain ⟨a, rfl, h⟩ := h
    exact ⟨a, rfl, e _ _ h fun _ z => by cases z⟩
  | .ptr a, v, h => h
  | .scr K ns, v, h => by
    obtain ⟨a, rfl, h⟩ := h
    refine ⟨a, rfl, ?_⟩
    rcases h with h | h
    · exact .inl (h.elim (fun h => .inl (e _ _ h fun _ z => by cases z)) fun ⟨o, h⟩ => .inr ⟨o, e _ _ h fun _ z => by cases z⟩)
    · exact .inr h
  | .ty n, v, h => h
theorem RepL.nt {C : Addr} {B B' : Hp} (e : NT B B') : ∀ {ds : List D} {vs : List V}, RepL C B ds vs → RepL C B' ds vs
  | [], _, h => h
  | d :: ds, vs, h => by
    obtain ⟨v, r, rfl, h1, h2⟩ := h
    exact ⟨v, r, rfl, Rep.nt e h1, RepL.nt e h2⟩
end
open Classical in
noncomputable def noT (B : Hp) : Hp := fun a => if ∃ ps, B a = some (.tbl ps) then none else B a
theorem noT_nt (B : Hp) : NT B (noT B) := fun a o e n => by
  unfold noT
  rw [if_neg (fun ⟨ps, z⟩ => n ps (Option.some.inj (e.symm.trans z)))]
  exact e
theorem noT_same {B H H1 : Hp} (s : Same B H) (e : ExtN H H1) : Same (noT B) H1 := fun a o h => by
  unfold noT at h
  split at h
  · cases h
  · rename_i n
    exact e a o (s a o h) fun ps z => n ⟨ps, by rw [h, z]⟩
/-- an error is heard -/
theorem heard_ok {C CN : Addr} {K : Frg} {Tb : List (Addr × Str)} {t : XK → TE} {ρ : Sto} {σ : L2.St} {B H : Hp} {Q : VK} (hT : Tabs Tb H) (rs : RS C B ρ σ) (same : Same B H) (hx : ∀ XE, AX C CN XE (t XE) ρ [] []) (exm : PySem.W.exmOne K (.ref CN) (.ref CN) = some true)
    (hQ : ∀ H', ExtN H H' → Tabs Tb H' → Q (.bl true) H') : tLam Tb (TTh K CN) t σ H Q :=
  ⟨hT, fun H1 eN T1 => (hx _).2 σ (noT B) H1 ⟨rs.len, fun i d h => by
      obtain ⟨v, h1, h2⟩ := rs.at_ i d h
      exact ⟨v, h1, h2.nt (noT_nt B)⟩⟩ ⟨noT_same same eN, trivial⟩ (fun B' H' g ok' =>
    ⟨true, exm, fun _ => hQ H' (eN.trans fun a o e _ => g.hh a o e (by simp [dom])) (T1.ext fun a o e => g.hh a o e (by simp [dom])), fun z => by cases z⟩) _⟩
end OC
set_option maxHeartbeats 4000000
/-! OcC: keywords; stretches behind which tables of code objects may have grown. -/
namespace OC
open PySem PySem.Spec PyProof.Rows L2 LamX

section
variable {X : Cx} {CX : CXT} {k : Nat} {f : Addr} {fd : FuncData} {ps ks : List Str} {sp : Sp} {E : XK} {x : Str} {q pos : Pos} {kws : List Keyword} {tk : TA}
/-- f(k = v, ..), the keywords in the parameters' order from behind -/
theorem pe_cKN (F : FnOk X.prog X.w X.K X.mg X.base CX k f fd ps sp) (hr : Room k X.A) (hg : Gl X x) (hm : X.mg x = some (.ref f)) (hk : PySem.W.keepIn X.K (.ref f) = true) (hb : KBn X.K fd ps 0 ks (fun _ ws => ws.reverse) (fun _ zs => zs.reverse)) (hkl : ps.length = ks.length) (hx : Passes CX X E)
    (hkw : PK X kws tk) (hall : (backToKw pos (keywordEach kws X.env)).all (·.1.isSome) = true := by rfl) (hks : (backToKw pos (keywordEach kws X.env)).filterMap (·.1) = ks := by rfl)
    (hdb : (x == ("__debug__" : Str)) = false := by decide) (hpl : ((backTo pos (starEach [] X.env)).any (·.1) || (backToKw pos (keywordEach kws X.env)).any (·.1.isNone)) = false := by rfl) :
    PE X (.Call (.Name x q) [] kws pos) (tcKR sp E tk) := by
  refine ⟨fun pins s σ H Q I h => ?_⟩
  refine wpAny_Call_Name_kw (ld_glob I hg hm ?_ hdb)
  refine PySem.W.callWith_KW0 (h₀ := X.base) I.ok.mod.kin hk hall ?_ hpl
  refine thn (hkw.run pos pins s σ H _ I h) fun ws s2 ⟨zs, H2, I2, rz, q2⟩ => ⟨I2.kIn, ?_⟩
  rw [hks]
  have hl : zs.length = ks.length := by
    have := F.len _ _ _ _ q2
    rw [List.length_reverse] at this
    rw [this, hkl]
  exact run_fnN (us := []) (vs := []) F hr hb hx I2 .nil rz rfl hl q2
end
section
variable {K : Frg} {f : Addr} {fd : FuncData}
theorem kb_level (F : FunD K df_level.name df_level.qual df_level.params df_level.body df_level.scope (df_level.dvs K) (df_level.kws K) f fd) : KBn K fd ["table", "weights"] 0 ["weights", "table"] (fun _ ws => ws.reverse) (fun _ zs => zs.reverse) := by
  obtain ⟨oc, od, dV, kV, doc, pm, an, cdv, ct, osl, rfl, lk, hcd, hD, hK⟩ := F.ex
  rcases hD with ⟨_, rfl⟩ | ⟨e, _⟩
  · exact ⟨fun s us ws X h1 h2 => match us, ws, h1, h2 with | [], [a, b], _, _ => .of_eq rfl, fun _ r => r.reverse⟩
  · exact absurd rfl e
theorem kb_is_level (F : FunD K df_is_level.name df_is_level.qual df_is_level.params df_is_level.body df_is_level.scope (df_is_level.dvs K) (df_is_level.kws K) f fd) : KBn K fd ["table", "weights", "value"] 0 ["value", "weights", "table"] (fun _ ws => ws.reverse) (fun _ zs => zs.reverse) := by
  obtain ⟨oc, od, dV, kV, doc, pm, an, cdv, ct, osl, rfl, lk, hcd, hD, hK⟩ := F.ex
  rcases hD with ⟨_, rfl⟩ | ⟨e, _⟩
  · exact ⟨fun s us ws X h1 h2 => match us, ws, h1, h2 with | [], [a, b, c], _, _ => .of_eq rfl, fun _ r => r.reverse⟩
  · exact absurd rfl e
end
/-! ### tables may grow -/
section
variable {C CN : Addr} {K : Frg} {ρ ρ1 ρ2 : Sto} {μ μ1 μ2 : Mu} {te : TE} {tt : TT} {t1 t2 : XK → TE} {s1 s2 ts : TS} {b : Bool} {E : AEn} {Γ : Gam} {Tb : List (Addr × Str)}
def ExtX (Γ : Gam) (H' : Hp) : Prop := ∀ a o, Γ.H0 a = some o → a ∉ Γ.dm → (∀ ps, o ≠ .tbl ps) → H' a = some o
def ASr (C : Addr) (Γ : Gam) (Tb : List (Addr × Str)) (ts : TS) (ρ : Sto) (μ : Mu) (E : AEn) : Prop := ∀ σ B H Dn, RS C B ρ σ → Ok C μ B H → Gx Γ μ B H → Fol C Γ E Dn → (∀ H', ExtX Γ H' → Tabs Tb H' → Dn.rt (.bl true) H') → ts Dn σ H
theorem ar_of (h : ASg C Γ ts ρ μ E) : ASr C Γ Tb ts ρ μ E := fun σ B H Dn rs ok gx f _ => h σ B H Dn rs ok gx f
theorem ar_seq (h : AS C s1 ρ μ { E with nx := fun ρ' μ' => ASr C Γ Tb s2 ρ' μ' E }) : ASr C Γ Tb (tSeq s1 s2) ρ μ E := fun σ B H Dn rs ok gx f fx =>
  h Γ σ B H { Dn with nx := s2 Dn } rs ok gx ⟨fun ρ' μ' σ' B' H' z rs' ok' gx' => z σ' B' H' Dn rs' ok' gx' f fx, f.rt, f.bk, f.ct, f.er⟩
/-- an if ahead: its first branch ends all -/
theorem ar_ifSeq (hc : AT C tt ρ μ b μ1) (h1 : b = true → ∀ E' : AEn, E'.rt = E.rt → ASr C Γ Tb s1 ρ μ1 { nx := fun _ _ => False, rt := E.rt, er := E.er, bk := E.bk, ct := E.ct }) (h2 : b = false → ASr C Γ Tb s2 ρ μ1 E) : ASr C Γ Tb (tSeq (tIfS tt s1 tNext) s2) ρ μ E := fun σ B H Dn rs ok gx f fx =>
  hc.2 σ B H rs ok _ fun B1 H1 g1 ok1 => by
    cases b with
    | true =>
      rw [if_pos rfl]
      exact h1 rfl E rfl σ B1 H1 { Dn with nx := s2 Dn } (rs.mono g1.bb) ok1 (gx.step hc.1 g1) ⟨fun _ _ _ _ _ z => z.elim, f.rt, f.bk, f.ct, f.er⟩ fx
    | false =>
      rw [if_neg Bool.false_ne_true]
      exact h2 rfl σ B1 H1 Dn (rs.mono g1.bb) ok1 (gx.step hc.1 g1) f fx
theorem heard_ok2 {t : XK → TE} {σ : L2.St} {B H : Hp} {Q : VK} (hT : Tabs Tb H) (rs : RS C B ρ σ) (same : Same B H) (nB : ∀ a ps, B a ≠ some (.tbl ps)) (hx : ∀ XE, AX C CN XE (t XE) ρ [] []) (exm : PySem.W.exmOne K (.ref CN) (.ref CN) = some true)
    (hQ : ∀ H', ExtN H H' → Tabs Tb H' → Q (.bl true) H') : tLam Tb (TTh K CN) t σ H Q :=
  ⟨hT, fun H1 eN T1 => (hx _).2 σ B H1 rs ⟨fun a o e => eN a o (same a o e) (fun ps z => nB a ps (by rw [e, z])), trivial⟩ (fun B' H' g ok' =>
    ⟨true, exm, fun _ => hQ H' (eN.trans fun a o e _ => g.hh a o e (by simp [dom])) (T1.ext fun a o e => g.hh a o e (by simp [dom])), fun z => by cases z⟩) _⟩
theorem noT_no (B : Hp) : ∀ a ps, noT B a ≠ some (.tbl ps) := fun a ps z => by
  unfold noT at z
  split at z
  · cases z
  · rename_i n
    exact n ⟨ps, z⟩
/-- the tables stand where only the owned lists changed -/
theorem Gx.tabs {B H : Hp} (gx : Gx Γ μ B H) (hdm : ∀ p ∈ Γ.dm, ∃ vs, Γ.H0 p = some (.lst vs)) (hT : Tabs Tb Γ.H0) : Tabs Tb H := fun p hp => by
  obtain ⟨ps, h1, h2, h3⟩ := hT p hp
  refine ⟨ps, gx.hh _ _ h1 (fun z => ?_), h2, fun pos cv hc => ?_⟩
  · obtain ⟨vs, e⟩ := hdm _ z
    rw [h1] at e; cases e
  · obtain ⟨c, e1, e2⟩ := h3 pos cv hc
    refine ⟨c, e1, gx.hh _ _ e2 fun z => ?_⟩
    obtain ⟨vs, e⟩ := hdm _ z
    rw [e2] at e
    unfold CodeO at e
    cases e
theorem ar_heard (hT : Tabs Tb Γ.H0) (hdm : ∀ p ∈ Γ.dm, ∃ vs, Γ.H0 p = some (.lst vs)) (hx1 : ∀ XE, AX C CN XE (t1 XE) ρ [] []) (hx2 : ∀ XE, AX C CN XE (t2 XE) ρ [] []) (exm : PySem.W.exmOne K (.ref CN) (.ref CN) = some true) :
    ASr C Γ Tb (tSeq (tIfS (tNot (tB (tLam Tb (TTh K CN) t1))) (tRet (tC (.bl false))) tNext) (tRet (tLam Tb (TTh K CN) t2))) ρ μ E := fun σ B H Dn rs ok gx f fx => by
  have rs0 : RS C (noT B) ρ σ := ⟨rs.len, fun i d h => by
    obtain ⟨v, h1, h2⟩ := rs.at_ i d h
    exact ⟨v, h1, h2.nt (noT_nt B)⟩⟩
  have s0 : Same (noT B) H := noT_same ok.bh (ExtN.refl H)
  refine heard_ok2 (gx.tabs hdm hT) rs0 s0 (noT_no B) hx1 exm fun H1 e1 T1 => ⟨true, rfl, ?_⟩
  show if (!true) = true then _ else _
  rw [if_neg (by decide)]
  refine heard_ok2 T1 rs0 (fun a o e => e1 a o (s0 a o e) fun ps z => noT_no B a ps (by rw [e, z])) (noT_no B) hx2 exm fun H2 e2 T2 => fx H2 (fun a o e n nt => ?_) T2
  exact e2 a o (e1 a o (gx.hh a o e n) nt) nt
end
end OC
set_option maxHeartbeats 4000000
/-! OcL1: symmetric tables of size 4, plain. -/
namespace OC
theorem sq0 (x : Rat) : 0 ≤ x * x := by
  by_cases h : 0 ≤ x
  · exact Rat.mul_nonneg h h
  · have : 0 ≤ (-x) * (-x) := Rat.mul_nonneg (by grind) (by grind)
    grind
theorem mul0 {x y : Rat} (hx : 0 ≤ x) (hy : 0 ≤ y) : 0 ≤ x * y := Rat.mul_nonneg hx hy
theorem mulp {x y : Rat} (hx : 0 < x) (hy : 0 < y) : 0 < x * y := Rat.mul_pos hx hy
theorem sqz {x : Rat} (h : x * x ≤ 0) : x = 0 := by
  by_cases h1 : 0 < x
  · have := mulp h1 h1; grind
  · by_cases h2 : x < 0
    · have := mulp (show 0 < -x by grind) (show 0 < -x by grind); grind
    · grind
theorem pos_of_mul {x y : Rat} (hx : 0 < x) (h : 0 ≤ x * y) : 0 ≤ y := by
  by_cases hy : 0 ≤ y
  · exact hy
  · have := mulp hx (show 0 < -y by grind); grind
theorem pos_of_mul' {x y : Rat} (hx : 0 < x) (h : 0 < x * y) : 0 < y := by
  by_cases hy : 0 < y
  · exact hy
  · have := mul0 (show 0 ≤ x by grind) (show 0 ≤ -y by grind); grind
theorem sq_le {x y : Rat} (hx : 0 ≤ x) (h : x ≤ y) : x * x ≤ y * y := by
  have h1 := mul0 hx (show 0 ≤ y - x by grind)
  have h2 := mul0 (show 0 ≤ y by grind) (show 0 ≤ y - x by grind)
  grind
theorem mul_div_self {s p : Rat} (h : 0 < s) : s * (p / s) = p := by
  rw [Rat.mul_comm]
  exact Rat.div_mul_cancel (by grind)
structure V4 where
  (x y z t : Rat)
structure S4 where
  (a b c d e f g h i j : Rat)
namespace V4
def dot (u v : V4) : Rat := u.x * v.x + u.y * v.y + u.z * v.z + u.t * v.t
def lin (p : Rat) (u : V4) (q : Rat) (v : V4) : V4 := ⟨p * u.x + q * v.x, p * u.y + q * v.y, p * u.z + q * v.z, p * u.t + q * v.t⟩
end V4
namespace S4
def app (A : S4) (v : V4) : V4 := ⟨A.a * v.x + A.b * v.y + A.c * v.z + A.d * v.t, A.b * v.x + A.e * v.y + A.f * v.z + A.g * v.t, A.c * v.x + A.f * v.y + A.h * v.z + A.i * v.t, A.d * v.x + A.g * v.y + A.i * v.z + A.j * v.t⟩
def quad (A : S4) (v : V4) : Rat := v.dot (A.app v)
def e1 (A : S4) : Rat := A.a + A.e + A.h + A.j
def e2 (A : S4) : Rat := (A.a * A.e - A.b * A.b) + (A.a * A.h - A.c * A.c) + (A.a * A.j - A.d * A.d) + (A.e * A.h - A.f * A.f) + (A.e * A.j - A.g * A.g) + (A.h * A.j - A.i * A.i)
def nrm (A : S4) : Rat := A.a * A.a + A.e * A.e + A.h * A.h + A.j * A.j + 2 * (A.b * A.b + A.c * A.c + A.d * A.d + A.f * A.f + A.g * A.g + A.i * A.i)
def s3 (a b c d e f : Rat) : Rat := a * (d * f - e * e) - b * (b * f - e * c) + c * (b * e - d * c)
def d3 (a b c d e f g h i : Rat) : Rat := a * (e * i - f * h) - b * (d * i - f * g) + c * (d * h - e * g)
def adj (A : S4) : S4 where
  a := s3 A.e A.f A.g A.h A.i A.j
  e := s3 A.a A.c A.d A.h A.i A.j
  h := s3 A.a A.b A.d A.e A.g A.j
  j := s3 A.a A.b A.c A.e A.f A.h
  b := -d3 A.b A.f A.g A.c A.h A.i A.d A.i A.j
  c := d3 A.b A.e A.g A.c A.f A.i A.d A.g A.j
  d := -d3 A.b A.e A.f A.c A.f A.h A.d A.g A.i
  f := -d3 A.a A.b A.d A.c A.f A.i A.d A.g A.j
  g := d3 A.a A.b A.c A.c A.f A.h A.d A.g A.i
  i := -d3 A.a A.b A.c A.b A.e A.f A.d A.g A.i
def e3 (A : S4) : Rat := A.adj.a + A.adj.e + A.adj.h + A.adj.j
def e4 (A : S4) : Rat := A.a * A.adj.a + A.b * A.adj.b + A.c * A.adj.c + A.d * A.adj.d
theorem e2_nrm (A : S4) : A.e1 * A.e1 - A.nrm = 2 * A.e2 := by
  simp only [e1, e2, nrm]; grind
theorem adj_nrm (A : S4) : A.adj.nrm = A.e3 * A.e3 - 2 * (A.e2 * A.e4) := by
  simp only [e2, e3, e4, nrm, adj, s3, d3]; grind
theorem adj_e1 (A : S4) : A.adj.e1 = A.e3 := rfl
theorem adj_e2 (A : S4) : A.adj.e2 = A.e2 * A.e4 := by
  have h1 := e2_nrm A.adj
  rw [adj_nrm, adj_e1] at h1
  grind
theorem app_adj (A : S4) (v : V4) : A.app (A.adj.app v) = ⟨A.e4 * v.x, A.e4 * v.y, A.e4 * v.z, A.e4 * v.t⟩ := by
  simp only [app, e4, adj, s3, d3, V4.mk.injEq]
  refine ⟨?_, ?_, ?_, ?_⟩ <;> grind
theorem app_sym (A : S4) (u v : V4) : u.dot (A.app v) = v.dot (A.app u) := by
  simp only [app, V4.dot]; grind
end S4
namespace S4
/-- one square's table -/
def sq (p : Rat) (u : V4) : S4 := ⟨p * (u.x * u.x), p * (u.x * u.y), p * (u.x * u.z), p * (u.x * u.t), p * (u.y * u.y), p * (u.y * u.z), p * (u.y * u.t), p * (u.z * u.z), p * (u.z * u.t), p * (u.t * u.t)⟩
def add (A B : S4) : S4 := ⟨A.a + B.a, A.b + B.b, A.c + B.c, A.d + B.d, A.e + B.e, A.f + B.f, A.g + B.g, A.h + B.h, A.i + B.i, A.j + B.j⟩
theorem quad_sq (p : Rat) (u v : V4) : (sq p u).quad v = p * (u.dot v * u.dot v) := by
  simp only [quad, app, sq, V4.dot]; grind
theorem quad_add (A B : S4) (v : V4) : (A.add B).quad v = A.quad v + B.quad v := by
  simp only [quad, app, add, V4.dot]; grind
theorem app_sq (p : Rat) (u v : V4) : (sq p u).app v = ⟨p * u.dot v * u.x, p * u.dot v * u.y, p * u.dot v * u.z, p * u.dot v * u.t⟩ := by
  simp only [app, sq, V4.dot, V4.mk.injEq]
  refine ⟨?_, ?_, ?_, ?_⟩ <;> grind
theorem app_add (A B : S4) (v : V4) : (A.add B).app v = V4.lin 1 (A.app v) 1 (B.app v) := by
  simp only [app, add, V4.lin, V4.mk.injEq]
  refine ⟨?_, ?_, ?_, ?_⟩ <;> grind
/-- the trace bound -/
theorem tr_le (X : S4) (z : V4) (al : Rat) (hP : ∀ y, X.quad y ≤ al * (z.dot y * z.dot y)) : z.dot z * X.e1 ≤ X.quad z := by
  have h1 := hP ⟨-z.y, z.x, 0, 0⟩
  have h2 := hP ⟨-z.z, 0, z.x, 0⟩
  have h3 := hP ⟨-z.t, 0, 0, z.x⟩
  have h4 := hP ⟨0, -z.z, z.y, 0⟩
  have h5 := hP ⟨0, -z.t, 0, z.y⟩
  have h6 := hP ⟨0, 0, -z.t, z.z⟩
  simp only [V4.dot, quad, app, e1] at *
  grind
def res (X : S4) (z : V4) (s q : Rat) : S4 := (sq (-q) z).add ⟨s * X.a, s * X.b, s * X.c, s * X.d, s * X.e, s * X.f, s * X.g, s * X.h, s * X.i, s * X.j⟩
theorem res_nrm (X : S4) (z : V4) (s q : Rat) : (res X z s q).nrm = s * s * X.nrm - 2 * s * q * X.quad z + q * q * (z.dot z * z.dot z) := by
  simp only [res, nrm, sq, add, quad, app, V4.dot]; grind
theorem nrm_nonneg (X : S4) : 0 ≤ X.nrm := by
  have := sq0 X.a; have := sq0 X.b; have := sq0 X.c; have := sq0 X.d; have := sq0 X.e
  have := sq0 X.f; have := sq0 X.g; have := sq0 X.h; have := sq0 X.i; have := sq0 X.j
  unfold nrm; grind
theorem nrm_zero {X : S4} (h : X.nrm ≤ 0) : X = ⟨0, 0, 0, 0, 0, 0, 0, 0, 0, 0⟩ := by
  have ha := sq0 X.a; have hb := sq0 X.b; have hc := sq0 X.c; have hd := sq0 X.d; have he := sq0 X.e
  have hf := sq0 X.f; have hg := sq0 X.g; have hh := sq0 X.h; have hi := sq0 X.i; have hj := sq0 X.j
  unfold nrm at h
  have := sqz (x := X.a) (by grind); have := sqz (x := X.b) (by grind); have := sqz (x := X.c) (by grind); have := sqz (x := X.d) (by grind); have := sqz (x := X.e) (by grind)
  have := sqz (x := X.f) (by grind); have := sqz (x := X.g) (by grind); have := sqz (x := X.h) (by grind); have := sqz (x := X.i) (by grind); have := sqz (x := X.j) (by grind)
  cases X; grind
theorem _root_.OC.V4.dot_nonneg (z : V4) : 0 ≤ z.dot z := by
  have := sq0 z.x; have := sq0 z.y; have := sq0 z.z; have := sq0 z.t
  unfold V4.dot; grind
/-- one square above at most: the sums' signs -/
theorem one_above {X : S4} {z : V4} {al : Rat} (hP : ∀ y, X.quad y ≤ al * (z.dot y * z.dot y)) (hz : 0 < z.dot z) (ht : 0 ≤ X.e1) : X.e2 ≤ 0 ∧ (X.e2 = 0 → ∃ k, X = sq k z) := by
  have h1 := tr_le X z al hP
  have h2 := res_nrm X z (z.dot z) (X.quad z / z.dot z)
  have h3 := nrm_nonneg (res X z (z.dot z) (X.quad z / z.dot z))
  have h4 := e2_nrm X
  generalize hs : z.dot z = s at *
  generalize hq : X.quad z = q at *
  have hp : q / s * s = q := by grind
  generalize q / s = p at *
  have hp' : X.e1 ≤ p := by
    have := pos_of_mul hz (show 0 ≤ s * (p - X.e1) by grind)
    grind
  have h5 := sq_le ht hp'
  rw [h2] at h3
  have hss := mulp hz hz
  subst hp
  have h6' : s * s * (X.nrm - p * p) = s * s * X.nrm - 2 * s * p * (p * s) + p * p * (s * s) := by grind
  have h6 : 0 ≤ s * s * (X.nrm - p * p) := by rw [h6']; exact h3
  have h7 := pos_of_mul hss h6
  refine ⟨by grind, fun h0 => ⟨p / s, ?_⟩⟩
  have h8 : (res X z s p).nrm ≤ 0 := by
    rw [h2, ← h6']
    have h9 : X.nrm - p * p = 0 := by grind
    rw [h9, Rat.mul_zero]
    exact Rat.le_refl
  have h9 := nrm_zero h8
  cases X
  simp only [res, sq, add, S4.mk.injEq] at h9 ⊢
  have hi : s * (p / s) = p := mul_div_self hz
  clear hP ht h4 hp' h5 hq h1 h2 h3 h6' h6 h7 h0 h8 hs hss
  generalize p / s = k at *
  obtain ⟨k1, k2, k3, k4, k5, k6, k7, k8, k9, k0⟩ := h9
  have can : ∀ x y : Rat, -p * y + s * x = 0 → x = k * y := by
    intro x y h
    have h' : s * (x - k * y) = 0 := by grind
    rcases Rat.mul_eq_zero.mp h' with z | z
    · grind
    · grind
  exact ⟨can _ _ k1, can _ _ k2, can _ _ k3, can _ _ k4, can _ _ k5, can _ _ k6, can _ _ k7, can _ _ k8, can _ _ k9, can _ _ k0⟩
end S4
end OC
set_option maxHeartbeats 4000000
/-! OcL2: symmetric tables of size 4 as sums of squares, plain. -/
namespace OC
open V4 S4
namespace S4
def smul (k : Rat) (A : S4) : S4 := ⟨k * A.a, k * A.b, k * A.c, k * A.d, k * A.e, k * A.f, k * A.g, k * A.h, k * A.i, k * A.j⟩
theorem e1_smul (k : Rat) (A : S4) : (smul k A).e1 = k * A.e1 := by simp only [smul, e1]; grind
theorem e2_smul (k : Rat) (A : S4) : (smul k A).e2 = k * k * A.e2 := by simp only [smul, e2]; grind
theorem quad_smul (k : Rat) (A : S4) (y : V4) : (smul k A).quad y = k * A.quad y := by simp only [smul, quad, app, V4.dot]; grind
/-- forms in coordinates 2, 3, 4 -/
def D234 (f g h : V4) : Rat := f.y * (g.z * h.t - g.t * h.z) - f.z * (g.y * h.t - g.t * h.y) + f.t * (g.y * h.z - g.z * h.y)
def D134 (f g h : V4) : Rat := f.x * (g.z * h.t - g.t * h.z) - f.z * (g.x * h.t - g.t * h.x) + f.t * (g.x * h.z - g.z * h.x)
def D124 (f g h : V4) : Rat := f.x * (g.y * h.t - g.t * h.y) - f.y * (g.x * h.t - g.t * h.x) + f.t * (g.x * h.y - g.y * h.x)
def D123 (f g h : V4) : Rat := f.x * (g.y * h.z - g.z * h.y) - f.y * (g.x * h.z - g.z * h.x) + f.z * (g.x * h.y - g.y * h.x)
theorem cb3 (p q r g1 g2 g3 h1 h2 h3 k1 k2 k3 : Rat) :
  s3 (p*(g1*g1)+(q*(h1*h1)+r*(k1*k1))) (p*(g1*g2)+(q*(h1*h2)+r*(k1*k2))) (p*(g1*g3)+(q*(h1*h3)+r*(k1*k3))) (p*(g2*g2)+(q*(h2*h2)+r*(k2*k2))) (p*(g2*g3)+(q*(h2*h3)+r*(k2*k3))) (p*(g3*g3)+(q*(h3*h3)+r*(k3*k3)))
   = p*q*r*((g1*(h2*k3-h3*k2)-g2*(h1*k3-h3*k1)+g3*(h1*k2-h2*k1)) * (g1*(h2*k3-h3*k2)-g2*(h1*k3-h3*k1)+g3*(h1*k2-h2*k1))) := by
  unfold s3
  grind
def sum3 (p : Rat) (f : V4) (q : Rat) (g : V4) (r : Rat) (h : V4) : S4 := (sq p f).add ((sq q g).add (sq r h))
theorem adj_sum3 (p : Rat) (f : V4) (q : Rat) (g : V4) (r : Rat) (h : V4) : (sum3 p f q g r h).adj.a = p * q * r * (D234 f g h * D234 f g h) ∧ (sum3 p f q g r h).adj.e = p * q * r * (D134 f g h * D134 f g h) ∧
    (sum3 p f q g r h).adj.h = p * q * r * (D124 f g h * D124 f g h) ∧ (sum3 p f q g r h).adj.j = p * q * r * (D123 f g h * D123 f g h) :=
  ⟨cb3 .., cb3 .., cb3 .., cb3 ..⟩
theorem e4_add (B : S4) (p : Rat) (m : V4) : ((sq p m).add B).e4 = B.e4 + p * B.adj.quad m := by
  simp only [e4, sq, add, adj, quad, app, V4.dot, s3, d3]; grind
/-- tables that a list with a first item above 0 makes nought of -/
theorem adj_null {B : S4} {w : V4} (h : B.app w = ⟨0, 0, 0, 0⟩) : w.x * B.adj.b = w.y * B.adj.a ∧ w.x * B.adj.c = w.z * B.adj.a ∧ w.x * B.adj.d = w.t * B.adj.a ∧
    w.x * (w.x * B.adj.e) = w.y * (w.y * B.adj.a) ∧ w.x * (w.x * B.adj.f) = w.y * (w.z * B.adj.a) ∧ w.x * (w.x * B.adj.g) = w.y * (w.t * B.adj.a) ∧
    w.x * (w.x * B.adj.h) = w.z * (w.z * B.adj.a) ∧ w.x * (w.x * B.adj.i) = w.z * (w.t * B.adj.a) ∧ w.x * (w.x * B.adj.j) = w.t * (w.t * B.adj.a) ∧ w.x * B.e4 = 0 := by
  obtain ⟨a, b, c, d, e, f, g, h, i, j⟩ := B
  obtain ⟨x, y, z, t⟩ := w
  simp only [app, V4.mk.injEq] at h
  obtain ⟨h1, h2, h3, h4⟩ := h
  simp only [adj, e4, s3, d3]
  refine ⟨?_, ?_, ?_, ?_, ?_, ?_, ?_, ?_, ?_, ?_⟩
  all_goals grind

/-- a table as a sum of four squares, three of them without slope at w -/
structure Dec (A : S4) (w m f1 f2 f3 : V4) (c b1 b2 b3 : Rat) : Prop where
  eq : A = (sq (1 / c) m).add (sum3 b1 f1 b2 f2 b3 f3)
  c0 : 0 < c
  mw : m.dot w = c
  z1 : f1.dot w = 0
  z2 : f2.dot w = 0
  z3 : f3.dot w = 0
  wx : 0 < w.x
  d1 : b1 ≠ 0 → ∃ v, f1.dot v = 1 ∧ f2.dot v = 0 ∧ f3.dot v = 0
  d2 : b2 ≠ 0 → ∃ v, f1.dot v = 0 ∧ f2.dot v = 1 ∧ f3.dot v = 0
  d3 : b3 ≠ 0 → ∃ v, f1.dot v = 0 ∧ f2.dot v = 0 ∧ f3.dot v = 1
theorem add_comm3 (p : Rat) (f : V4) (q : Rat) (g : V4) (r : Rat) (h : V4) : sum3 p f q g r h = sum3 q g p f r h ∧ sum3 p f q g r h = sum3 p f r h q g := by
  simp only [sum3, sq, add, S4.mk.injEq]
  refine ⟨?_, ?_⟩ <;> (refine ⟨?_, ?_, ?_, ?_, ?_, ?_, ?_, ?_, ?_, ?_⟩ <;> grind)
section
variable {A : S4} {w m f1 f2 f3 : V4} {c b1 b2 b3 : Rat}
theorem Dec.swap12 (D : Dec A w m f1 f2 f3 c b1 b2 b3) : Dec A w m f2 f1 f3 c b2 b1 b3 :=
  ⟨D.eq.trans (by rw [(add_comm3 b1 f1 b2 f2 b3 f3).1]), D.c0, D.mw, D.z2, D.z1, D.z3, D.wx, fun h => (D.d2 h).elim fun v h => ⟨v, h.2.1, h.1, h.2.2⟩, fun h => (D.d1 h).elim fun v h => ⟨v, h.2.1, h.1, h.2.2⟩, fun h => (D.d3 h).elim fun v h => ⟨v, h.2.1, h.1, h.2.2⟩⟩
theorem Dec.swap23 (D : Dec A w m f1 f2 f3 c b1 b2 b3) : Dec A w m f1 f3 f2 c b1 b3 b2 :=
  ⟨D.eq.trans (by rw [(add_comm3 b1 f1 b2 f2 b3 f3).2]), D.c0, D.mw, D.z1, D.z3, D.z2, D.wx, fun h => (D.d1 h).elim fun v h => ⟨v, h.1, h.2.2, h.2.1⟩, fun h => (D.d3 h).elim fun v h => ⟨v, h.1, h.2.2, h.2.1⟩, fun h => (D.d2 h).elim fun v h => ⟨v, h.1, h.2.2, h.2.1⟩⟩
theorem quad_sum3 (p : Rat) (f : V4) (q : Rat) (g : V4) (r : Rat) (h v : V4) : (sum3 p f q g r h).quad v = p * (f.dot v * f.dot v) + q * (g.dot v * g.dot v) + r * (h.dot v * h.dot v) := by
  unfold sum3
  rw [quad_add, quad_add, quad_sq, quad_sq, quad_sq]
  grind
theorem Dec.quad (D : Dec A w m f1 f2 f3 c b1 b2 b3) (y : V4) : A.quad y = 1 / c * (m.dot y * m.dot y) + b1 * (f1.dot y * f1.dot y) + b2 * (f2.dot y * f2.dot y) + b3 * (f3.dot y * f3.dot y) := by
  rw [D.eq, quad_add, quad_sq, quad_sum3]
  grind
theorem inv_mul {c : Rat} (h : 0 < c) : 1 / c * c = 1 := Rat.div_mul_cancel (by grind)
theorem inv_pos {c : Rat} (h : 0 < c) : 0 < 1 / c := by
  have := inv_mul h
  by_cases z : 0 < 1 / c
  · exact z
  · have := mul0 (show 0 ≤ -(1 / c) by grind) (show 0 ≤ c by grind)
    grind
theorem Dec.mm (D : Dec A w m f1 f2 f3 c b1 b2 b3) : 0 < m.dot m := by
  have h := D.mw
  have h0 := D.c0
  have h1 := V4.dot_nonneg m
  by_cases z : 0 < m.dot m
  · exact z
  · exfalso
    have a := sq0 m.x; have b := sq0 m.y; have cc := sq0 m.z; have d := sq0 m.t
    simp only [V4.dot] at z h h1
    have := sqz (x := m.x) (by grind); have := sqz (x := m.y) (by grind); have := sqz (x := m.z) (by grind); have := sqz (x := m.t) (by grind)
    simp_all
theorem Dec.e4 (D : Dec A w m f1 f2 f3 c b1 b2 b3) : w.x * (w.x * A.e4) = c * (b1 * b2 * b3 * (D234 f1 f2 f3 * D234 f1 f2 f3)) := by
  have hB : (sum3 b1 f1 b2 f2 b3 f3).app w = ⟨0, 0, 0, 0⟩ := by
    unfold sum3
    rw [app_add, app_add, app_sq, app_sq, app_sq, D.z1, D.z2, D.z3]
    simp only [V4.lin, V4.mk.injEq]
    refine ⟨?_, ?_, ?_, ?_⟩ <;> grind
  obtain ⟨h1, h2, h3, h4, h5, h6, h7, h8, h9, h0⟩ := adj_null hB
  have hw := D.wx
  have hz : (sum3 b1 f1 b2 f2 b3 f3).e4 = 0 := by
    rcases Rat.mul_eq_zero.mp h0 with z | z
    · rw [z] at hw; exact absurd hw (by decide)
    · exact z
  have ha := (adj_sum3 b1 f1 b2 f2 b3 f3).1
  rw [D.eq, e4_add, hz]
  have hm := D.mw
  have hc := inv_mul D.c0
  generalize (sum3 b1 f1 b2 f2 b3 f3) = B at *
  rw [← ha]
  generalize B.adj = J at *
  clear ha h0 hB D hz
  have key : w.x * (w.x * J.quad m) = m.dot w * m.dot w * J.a := by
    obtain ⟨a, b, c, d, e, f, g, h, i, j⟩ := J
    obtain ⟨x, y, z, t⟩ := w
    obtain ⟨m1, m2, m3, m4⟩ := m
    simp only [S4.quad, app, V4.dot] at *
    clear hm hc
    grind
  rw [hm] at key
  generalize 1 / c = k at *
  have : w.x * (w.x * (0 + k * J.quad m)) = k * (w.x * (w.x * J.quad m)) := by grind
  rw [this, key]
  grind
end
end S4
end OC
set_option maxHeartbeats 4000000
/-! OcL3: at most one square above: the signs of the sums change at most once. -/
namespace OC
open V4 S4
namespace V4
theorem dot_comm (u v : V4) : u.dot v = v.dot u := by simp only [V4.dot]; grind
theorem dot_lin (f : V4) (p : Rat) (u : V4) (q : Rat) (v : V4) : f.dot (V4.lin p u q v) = p * f.dot u + q * f.dot v := by
  simp only [V4.dot, V4.lin]; grind
end V4
namespace S4
/-- determinant of products, size 3 -/
theorem cbD (f g h u v w : V4) (hu : u.x = 0) (hv : v.x = 0) (hw : w.x = 0) :
    D234 f g h * D234 u v w = f.dot u * (g.dot v * h.dot w - g.dot w * h.dot v) - f.dot v * (g.dot u * h.dot w - g.dot w * h.dot u) + f.dot w * (g.dot u * h.dot v - g.dot v * h.dot u) := by
  simp only [D234, V4.dot, hu, hv, hw]
  clear hu hv hw
  grind
theorem cb34 (f g h u v w : V4) :
    D234 f g h * D234 u v w + D134 f g h * D134 u v w + D124 f g h * D124 u v w + D123 f g h * D123 u v w = f.dot u * (g.dot v * h.dot w - g.dot w * h.dot v) - f.dot v * (g.dot u * h.dot w - g.dot w * h.dot u) + f.dot w * (g.dot u * h.dot v - g.dot v * h.dot u) := by
  simp only [D234, D134, D124, D123, V4.dot]
  grind
def gr3 (f g h : V4) : Rat := D234 f g h * D234 f g h + D134 f g h * D134 f g h + D124 f g h * D124 f g h + D123 f g h * D123 f g h
theorem gr3_nonneg (f g h : V4) : 0 ≤ gr3 f g h := by
  have := sq0 (D234 f g h); have := sq0 (D134 f g h); have := sq0 (D124 f g h); have := sq0 (D123 f g h)
  unfold gr3; grind
theorem e3_sum3 (p : Rat) (f : V4) (q : Rat) (g : V4) (r : Rat) (h : V4) : (sum3 p f q g r h).e3 = p * q * r * gr3 f g h := by
  obtain ⟨h1, h2, h3, h4⟩ := adj_sum3 p f q g r h
  unfold e3 gr3
  rw [h1, h2, h3, h4]
  grind
section
variable {A : S4} {w m f1 f2 f3 : V4} {c b1 b2 b3 : Rat}
/-- a vector moved along w so that its first item is nought -/
def fixx (w v : V4) : V4 := V4.lin 1 v (-(v.x / w.x)) w
theorem fixx_x {w : V4} (h : 0 < w.x) (v : V4) : (fixx w v).x = 0 := by
  have : v.x / w.x * w.x = v.x := Rat.div_mul_cancel (by grind)
  simp only [fixx, V4.lin]; grind
theorem fixx_dot {w f : V4} (h : f.dot w = 0) (v : V4) : f.dot (fixx w v) = f.dot v := by
  unfold fixx; rw [V4.dot_lin, h]; grind
theorem Dec.D0 (D : Dec A w m f1 f2 f3 c b1 b2 b3) (h1 : b1 ≠ 0) (h2 : b2 ≠ 0) (h3 : b3 ≠ 0) : D234 f1 f2 f3 ≠ 0 := by
  obtain ⟨u, u1, u2, u3⟩ := D.d1 h1
  obtain ⟨v, v1, v2, v3⟩ := D.d2 h2
  obtain ⟨x, x1, x2, x3⟩ := D.d3 h3
  have k := cbD f1 f2 f3 (fixx w u) (fixx w v) (fixx w x) (fixx_x D.wx u) (fixx_x D.wx v) (fixx_x D.wx x)
  simp only [fixx_dot D.z1, fixx_dot D.z2, fixx_dot D.z3, u1, u2, u3, v1, v2, v3, x1, x2, x3] at k
  intro h
  rw [h] at k
  grind
theorem Dec.cut3 (D : Dec A w m f1 f2 f3 c b1 b2 b3) (h3 : b3 = 0) : A = sum3 (1 / c) m b1 f1 b2 f2 := by
  have h := D.eq
  subst h3
  rw [h]
  simp only [sum3, sq, add, S4.mk.injEq]
  refine ⟨?_, ?_, ?_, ?_, ?_, ?_, ?_, ?_, ?_, ?_⟩ <;> grind
theorem Dec.e3 (D : Dec A w m f1 f2 f3 c b1 b2 b3) (h3 : b3 = 0) : A.e3 = 1 / c * b1 * b2 * gr3 m f1 f2 := by
  rw [D.cut3 h3, e3_sum3]
theorem Dec.gr (D : Dec A w m f1 f2 f3 c b1 b2 b3) (h1 : b1 ≠ 0) (h2 : b2 ≠ 0) : 0 < gr3 m f1 f2 := by
  obtain ⟨u, u1, u2, u3⟩ := D.d1 h1
  obtain ⟨v, v1, v2, v3⟩ := D.d2 h2
  have k := cb34 m f1 f2 w u v
  simp only [D.mw, D.z1, D.z2, u1, u2, v1, v2] at k
  have hc := D.c0
  by_cases z : 0 < gr3 m f1 f2
  · exact z
  · exfalso
    unfold gr3 at z
    have s1 := sq0 (D234 m f1 f2); have s2 := sq0 (D134 m f1 f2); have s3 := sq0 (D124 m f1 f2); have s4 := sq0 (D123 m f1 f2)
    generalize D234 m f1 f2 = a1 at *
    generalize D134 m f1 f2 = a2 at *
    generalize D124 m f1 f2 = a3 at *
    generalize D123 m f1 f2 = a4 at *
    have t1 := sqz (x := a1) (by grind); have t2 := sqz (x := a2) (by grind); have t3 := sqz (x := a3) (by grind); have t4 := sqz (x := a4) (by grind)
    rw [t1, t2, t3, t4] at k
    grind
/-- two changes at least in the row 1, -e1, e2, -e3, e4 -/
def Two (A : S4) : Prop := (0 < A.e1 ∧ 0 < A.e2) ∨ (0 < A.e1 ∧ A.e3 < 0) ∨ (0 < A.e1 ∧ 0 < A.e4) ∨ (A.e2 < 0 ∧ A.e3 < 0) ∨ (A.e2 < 0 ∧ 0 < A.e4) ∨ (0 < A.e3 ∧ 0 < A.e4)
theorem smul_sq_zero {k l : Rat} {X : S4} {z w : V4} (hk : k * k = 1) (h : smul k X = sq l z) (hz : z.dot w = 0) : X.quad w = 0 := by
  have h1 := quad_smul k X w
  rw [h, quad_sq, hz] at h1
  have : k * (k * X.quad w) = X.quad w := by rw [← Rat.mul_assoc, hk, Rat.one_mul]
  rw [← this, ← h1]; grind
theorem dot_app_adj (A : S4) (u x : V4) : (A.app u).dot (A.adj.app x) = A.e4 * u.dot x := by
  rw [V4.dot_comm, app_sym' A u x]
  where
  app_sym' (A : S4) (u x : V4) : (A.adj.app x).dot (A.app u) = A.e4 * u.dot x := by
    rw [app_sym A (A.adj.app x) u, app_adj]
    simp only [V4.dot]; grind
theorem quad_adj (A : S4) (x : V4) : A.quad (A.adj.app x) = A.e4 * A.adj.quad x := by
  unfold quad
  rw [app_adj]
  simp only [V4.dot]; grind
theorem dot_smul {u f x : V4} {A : S4} {b : Rat} (h : A.app u = ⟨b * f.x, b * f.y, b * f.z, b * f.t⟩) : b * f.dot (A.adj.app x) = A.e4 * u.dot x := by
  rw [← dot_app_adj, h]
  simp only [V4.dot]; grind
theorem rank1_adj {k l : Rat} {A : S4} {z : V4} (hk : k ≠ 0) (h : smul k A.adj = sq l z) (h4 : A.e4 ≠ 0) : False := by
  have e : ∀ v : V4, z.dot v = 0 → v = ⟨0, 0, 0, 0⟩ := by
    intro v hv
    have h1 := app_sq l z v
    rw [← h, hv] at h1
    have h2 : (smul k A.adj).app v = ⟨k * (A.adj.app v).x, k * (A.adj.app v).y, k * (A.adj.app v).z, k * (A.adj.app v).t⟩ := by
      simp only [smul, app, V4.mk.injEq]
      refine ⟨?_, ?_, ?_, ?_⟩ <;> grind
    rw [h2] at h1
    simp only [V4.mk.injEq] at h1
    have can : ∀ x : Rat, k * x = 0 → x = 0 := fun x hx => (Rat.mul_eq_zero.mp hx).resolve_left hk
    have h3 : A.adj.app v = ⟨0, 0, 0, 0⟩ := by
      obtain ⟨a, b, c, d⟩ := h1
      have i1 := can _ (a.trans (by grind)); have i2 := can _ (b.trans (by grind)); have i3 := can _ (c.trans (by grind)); have i4 := can _ (d.trans (by grind))
      generalize A.adj.app v = q at *
      cases q
      simp only [V4.mk.injEq]
      exact ⟨i1, i2, i3, i4⟩
    have h5 := app_adj A v
    rw [h3] at h5
    have h6 : A.app ⟨0, 0, 0, 0⟩ = ⟨0, 0, 0, 0⟩ := by
      simp only [app, V4.mk.injEq]
      refine ⟨?_, ?_, ?_, ?_⟩ <;> grind
    rw [h6] at h5
    simp only [V4.mk.injEq] at h5
    have can : ∀ x : Rat, 0 = A.e4 * x → x = 0 := fun x hx => (Rat.mul_eq_zero.mp hx.symm).resolve_left h4
    obtain ⟨a, b, c, d⟩ := h5
    have i1 := can _ a; have i2 := can _ b; have i3 := can _ c; have i4 := can _ d
    cases v
    simp only [V4.mk.injEq]
    exact ⟨i1, i2, i3, i4⟩
  have e1 := e ⟨-z.y, z.x, 0, 0⟩ (by simp only [V4.dot]; grind)
  have e2 := e ⟨0, 0, -z.t, z.z⟩ (by simp only [V4.dot]; grind)
  simp only [V4.mk.injEq] at e1 e2
  have e3 := e ⟨1, 0, 0, 0⟩ (by simp only [V4.dot]; grind)
  simp only [V4.mk.injEq] at e3
  exact absurd e3.1 (by decide)
theorem Dec.appw (D : Dec A w m f1 f2 f3 c b1 b2 b3) : A.app w = m := by
  have hc := inv_mul D.c0
  rw [D.eq]
  unfold sum3
  rw [app_add, app_add, app_add, app_sq, app_sq, app_sq, app_sq, D.z1, D.z2, D.z3, D.mw, hc]
  cases m
  simp only [V4.lin, V4.mk.injEq]
  refine ⟨?_, ?_, ?_, ?_⟩ <;> grind
theorem Dec.qw (D : Dec A w m f1 f2 f3 c b1 b2 b3) : A.quad w = c := by
  unfold S4.quad
  rw [D.appw, V4.dot_comm, D.mw]
theorem Dec.ww (D : Dec A w m f1 f2 f3 c b1 b2 b3) : 0 < w.dot w := by
  have h := mulp D.wx D.wx
  have := sq0 w.y; have := sq0 w.z; have := sq0 w.t
  unfold V4.dot; grind
theorem Dec.e4s (D : Dec A w m f1 f2 f3 c b1 b2 b3) : (0 < b1 * b2 * b3 → 0 < A.e4) ∧ (b1 * b2 * b3 = 0 → A.e4 = 0) ∧ (b1 * b2 * b3 < 0 → A.e4 < 0) := by
  have h := D.e4
  have hx := D.wx
  have hc := D.c0
  have h0 : b1 * b2 * b3 ≠ 0 → D234 f1 f2 f3 ≠ 0 := by
    intro hb
    refine D.D0 ?_ ?_ ?_ <;> (intro z; rw [z] at hb; exact hb (by grind))
  generalize b1 * b2 * b3 = b at *
  generalize D234 f1 f2 f3 = d at *
  generalize A.e4 = e at *
  clear D
  have hs := sq0 d
  generalize w.x = x at *
  have hxx := mulp hx hx
  refine ⟨fun hb => ?_, fun hb => ?_, fun hb => ?_⟩
  · have hd : 0 < d * d := by
      by_cases z : 0 < d * d
      · exact z
      · exact absurd (sqz (by grind)) (h0 (by grind))
    have := mulp hc (mulp hb hd)
    refine pos_of_mul' hxx ?_
    rw [Rat.mul_assoc, h]; exact this
  · subst hb
    have : x * (x * e) = 0 := by rw [h]; grind
    rcases Rat.mul_eq_zero.mp this with z | z
    · grind
    · rcases Rat.mul_eq_zero.mp z with z | z
      · grind
      · exact z
  · have hd : 0 < d * d := by
      by_cases z : 0 < d * d
      · exact z
      · exact absurd (sqz (by grind)) (h0 (by grind))
    have := mulp hc (mulp (show 0 < -b by grind) hd)
    have : 0 < -e := by
      refine pos_of_mul' hxx ?_
      have : x * x * -e = c * (-b * (d * d)) := by
        have : x * x * -e = -(x * (x * e)) := by grind
        rw [this, h]; grind
      rw [this]; assumption
    grind
theorem Dec.le (D : Dec A w m f1 f2 f3 c b1 b2 b3) (h1 : b1 ≤ 0) (h2 : b2 ≤ 0) (h3 : b3 ≤ 0) (y : V4) : A.quad y ≤ 1 / c * (m.dot y * m.dot y) := by
  rw [D.quad]
  have := mul0 (show 0 ≤ -b1 by grind) (sq0 (f1.dot y))
  have := mul0 (show 0 ≤ -b2 by grind) (sq0 (f2.dot y))
  have := mul0 (show 0 ≤ -b3 by grind) (sq0 (f3.dot y))
  grind
theorem Dec.adjw (D : Dec A w m f1 f2 f3 c b1 b2 b3) (x : V4) : m.dot (A.adj.app x) = A.e4 * w.dot x := by
  rw [← dot_app_adj, D.appw]
/-- no square above but one -/
theorem Dec.nt0 (D : Dec A w m f1 f2 f3 c b1 b2 b3) (h1 : b1 ≤ 0) (h2 : b2 ≤ 0) (h3 : b3 = 0) : ¬Two A := by
  have k := one_above (fun y => D.le h1 h2 (by grind) y) D.mm
  have h4 := D.e4s.2.1 (by rw [h3]; grind)
  have h5 := D.e3 h3
  have h6 : 0 ≤ A.e3 := by
    rw [h5]
    have := mul0 (show 0 ≤ 1 / c from Rat.le_of_lt (inv_pos D.c0)) (mul0 (mul0 (show 0 ≤ -b1 by grind) (show 0 ≤ -b2 by grind)) (gr3_nonneg m f1 f2))
    grind
  have k' : 0 ≤ A.e1 → A.e2 ≤ 0 := fun h => (k h).1
  unfold Two
  clear k h5 D
  grind
theorem Dec.not_two (D : Dec A w m f1 f2 f3 c b1 b2 b3) (h1 : b1 ≤ 0) (h2 : b2 ≤ 0) (h3 : b3 ≤ 0) : ¬Two A := by
  by_cases z3 : b3 = 0
  · exact D.nt0 h1 h2 z3
  by_cases z2 : b2 = 0
  · exact D.swap23.nt0 h1 h3 z2
  by_cases z1 : b1 = 0
  · exact D.swap12.swap23.nt0 h2 h3 z1
  have k : 0 ≤ A.e1 → A.e2 ≤ 0 := fun h => (one_above (fun y => D.le h1 h2 h3 y) D.mm h).1
  have h4 : A.e4 < 0 := D.e4s.2.2 (by
    have := mulp (mulp (show 0 < -b1 by grind) (show 0 < -b2 by grind)) (show 0 < -b3 by grind)
    grind)
  have kk : 0 ≤ (smul (-1) A.adj).e1 → (smul (-1) A.adj).e2 ≤ 0 ∧ ((smul (-1) A.adj).e2 = 0 → ∃ k, smul (-1) A.adj = sq k w) := by
    refine one_above (al := -(1 / c * A.e4)) (fun y => ?_) D.ww
    have h5 := D.le h1 h2 h3 (A.adj.app y)
    rw [D.adjw, quad_adj] at h5
    rw [quad_smul]
    generalize 1 / c = r at *
    generalize A.e4 = e at *
    generalize A.adj.quad y = q at *
    generalize w.dot y = d at *
    clear k D
    have : 0 ≤ -e * (q - r * e * (d * d)) * -1 * -1 := by grind
    have := pos_of_mul (x := -e) (y := q - r * e * (d * d)) (by grind) (by grind)
    grind
  rw [e1_smul, e2_smul, adj_e1, adj_e2] at kk
  have k3 : A.e3 < 0 → 0 < A.e2 := by
    intro h
    obtain ⟨a, b⟩ := kk (by grind)
    have : A.e2 * A.e4 ≠ 0 := fun z => by
      obtain ⟨l, hl⟩ := b (by rw [z]; grind)
      exact rank1_adj (by decide) hl (by grind)
    generalize A.e4 = e at *
    generalize A.e2 = g at *
    clear kk b k D
    have : 0 < -e * g := by grind
    exact pos_of_mul' (by grind) this
  unfold Two
  clear kk D
  grind
end
end S4
end OC
set_option maxHeartbeats 4000000
/-! OcL4: a second square above: the signs of the sums change twice at least. -/
namespace OC
open V4 S4
namespace S4
section
variable {A : S4} {w m f1 f2 f3 : V4} {c b1 b2 b3 : Rat}
theorem V4.pos_of {f w : V4} {x : Rat} (h : f.dot w = x) (h0 : x ≠ 0) : 0 < f.dot f := by
  have h1 := V4.dot_nonneg f
  by_cases z : 0 < f.dot f
  · exact z
  · exfalso
    have a := sq0 f.x; have b := sq0 f.y; have cc := sq0 f.z; have d := sq0 f.t
    simp only [V4.dot] at z h h1
    have k1 := sqz (x := f.x) (by grind); have k2 := sqz (x := f.y) (by grind); have k3 := sqz (x := f.z) (by grind); have k4 := sqz (x := f.t) (by grind)
    rw [k1, k2, k3, k4] at h
    exact h0 (by grind)
/-- Lagrange -/
def lag (f g : V4) : Rat := (f.x * g.y - f.y * g.x) * (f.x * g.y - f.y * g.x) + (f.x * g.z - f.z * g.x) * (f.x * g.z - f.z * g.x) + (f.x * g.t - f.t * g.x) * (f.x * g.t - f.t * g.x) + (f.y * g.z - f.z * g.y) * (f.y * g.z - f.z * g.y) + (f.y * g.t - f.t * g.y) * (f.y * g.t - f.t * g.y) + (f.z * g.t - f.t * g.z) * (f.z * g.t - f.t * g.z)
theorem lag_nonneg (f g : V4) : 0 ≤ lag f g := by
  have := sq0 (f.x * g.y - f.y * g.x); have := sq0 (f.x * g.z - f.z * g.x); have := sq0 (f.x * g.t - f.t * g.x)
  have := sq0 (f.y * g.z - f.z * g.y); have := sq0 (f.y * g.t - f.t * g.y); have := sq0 (f.z * g.t - f.t * g.z)
  unfold lag; grind
theorem e1_sum4 (s : Rat) (m : V4) (p : Rat) (f : V4) (q : Rat) (g : V4) (r : Rat) (h : V4) : ((sq s m).add (sum3 p f q g r h)).e1 = s * m.dot m + p * f.dot f + q * g.dot g + r * h.dot h := by
  simp only [e1, sum3, sq, add, V4.dot]; grind
theorem e2_sum4 (s : Rat) (m : V4) (p : Rat) (f : V4) (q : Rat) (g : V4) (r : Rat) (h : V4) : ((sq s m).add (sum3 p f q g r h)).e2 = s * p * lag m f + s * q * lag m g + s * r * lag m h + p * q * lag f g + p * r * lag f h + q * r * lag g h := by
  simp only [e2, sum3, sq, add, lag]; grind
theorem lag_pos {m f w v : V4} {c : Rat} (hm : m.dot w = c) (hc : 0 < c) (hf : f.dot w = 0) (hv : f.dot v = 1) : 0 < lag m f := by
  have h0 := lag_nonneg m f
  by_cases z : 0 < lag m f
  · exact z
  · exfalso
    have a1 := sq0 (m.x * f.y - m.y * f.x); have a2 := sq0 (m.x * f.z - m.z * f.x); have a3 := sq0 (m.x * f.t - m.t * f.x)
    have a4 := sq0 (m.y * f.z - m.z * f.y); have a5 := sq0 (m.y * f.t - m.t * f.y); have a6 := sq0 (m.z * f.t - m.t * f.z)
    unfold lag at z
    have k : c = (m.x * f.y - m.y * f.x) * (w.x * v.y - w.y * v.x) + (m.x * f.z - m.z * f.x) * (w.x * v.z - w.z * v.x) + (m.x * f.t - m.t * f.x) * (w.x * v.t - w.t * v.x) + (m.y * f.z - m.z * f.y) * (w.y * v.z - w.z * v.y) + (m.y * f.t - m.t * f.y) * (w.y * v.t - w.t * v.y) + (m.z * f.t - m.t * f.z) * (w.z * v.t - w.t * v.z) := by
      have : m.dot w * f.dot v - m.dot v * f.dot w = c := by rw [hm, hf, hv]; grind
      rw [← this]
      simp only [V4.dot]
      grind
    clear hm hf hv h0
    generalize m.x * f.y - m.y * f.x = k1 at *
    generalize m.x * f.z - m.z * f.x = k2 at *
    generalize m.x * f.t - m.t * f.x = k3 at *
    generalize m.y * f.z - m.z * f.y = k4 at *
    generalize m.y * f.t - m.t * f.y = k5 at *
    generalize m.z * f.t - m.t * f.z = k6 at *
    have t1 := sqz (x := k1) (by grind); have t2 := sqz (x := k2) (by grind); have t3 := sqz (x := k3) (by grind); have t4 := sqz (x := k4) (by grind)
    have t5 := sqz (x := k5) (by grind); have t6 := sqz (x := k6) (by grind)
    subst t1 t2 t3 t4 t5 t6
    grind
/-- no square below -/
theorem Dec.two0 (D : Dec A w m f1 f2 f3 c b1 b2 b3) (h1 : 0 < b1) (h2 : 0 ≤ b2) (h3 : 0 ≤ b3) : Two A := by
  refine Or.inl ?_
  obtain ⟨v, v1, _, _⟩ := D.d1 (by grind)
  have hs := inv_pos D.c0
  have hl := lag_pos D.mw D.c0 D.z1 v1
  rw [D.eq, e1_sum4, e2_sum4]
  have i1 := mulp hs D.mm
  have i2 := mul0 (Rat.le_of_lt h1) (V4.dot_nonneg f1)
  have i3 := mul0 h2 (V4.dot_nonneg f2)
  have i4 := mul0 h3 (V4.dot_nonneg f3)
  have j1 := mulp (mulp hs h1) hl
  have j2 := mul0 (mul0 (Rat.le_of_lt hs) h2) (lag_nonneg m f2)
  have j3 := mul0 (mul0 (Rat.le_of_lt hs) h3) (lag_nonneg m f3)
  have j4 := mul0 (mul0 (Rat.le_of_lt h1) h2) (lag_nonneg f1 f2)
  have j5 := mul0 (mul0 (Rat.le_of_lt h1) h3) (lag_nonneg f1 f3)
  have j6 := mul0 (mul0 h2 h3) (lag_nonneg f2 f3)
  clear D hl v1 hs
  constructor <;> grind
theorem e2_neg (A : S4) : (smul (-1) A).e2 = A.e2 := by rw [e2_smul]; grind
/-- one square below: the first two sums -/
theorem Dec.one_below (D : Dec A w m f1 f2 f3 c b1 b2 b3) (h1 : 0 < b1) (h2 : b2 < 0) (h3 : 0 ≤ b3) : A.e1 ≤ 0 → A.e2 < 0 := by
  intro h
  obtain ⟨v, _, v2, _⟩ := D.d2 (by grind)
  have k := one_above (X := smul (-1) A) (z := f2) (al := -b2) (fun y => by
    rw [quad_smul, D.quad]
    have := mul0 (Rat.le_of_lt (inv_pos D.c0)) (sq0 (m.dot y))
    have := mul0 (Rat.le_of_lt h1) (sq0 (f1.dot y))
    have := mul0 h3 (sq0 (f3.dot y))
    generalize 1 / c = r at *
    generalize m.dot y = p1 at *
    generalize f1.dot y = p2 at *
    generalize f2.dot y = p3 at *
    generalize f3.dot y = p4 at *
    clear D
    grind) (V4.pos_of v2 (by decide)) (by rw [e1_smul]; grind)
  rw [e2_neg] at k
  obtain ⟨ka, kb⟩ := k
  have hq := D.qw
  have hc := D.c0
  have hz := D.z2
  have : A.e2 ≠ 0 := fun z => by
    obtain ⟨l, hl⟩ := kb z
    have := smul_sq_zero (by grind) hl hz
    grind
  clear D kb
  grind
theorem Dec.two1 (D : Dec A w m f1 f2 f3 c b1 b2 b3) (h1 : 0 < b1) (h2 : b2 < 0) (h3 : b3 = 0) : Two A := by
  have k := D.one_below h1 h2 (by grind)
  have h5 := D.e3 h3
  have h6 : A.e3 < 0 := by
    rw [h5]
    have := mulp (inv_pos D.c0) (mulp (mulp h1 (show 0 < -b2 by grind)) (D.gr (by grind) (by grind)))
    generalize 1 / c = r at *
    generalize gr3 m f1 f2 = g at *
    clear D k
    grind
  unfold Two
  clear D h5
  grind
/-- a dual moved along w so that the slope there is nought -/
theorem Dec.dual2 (D : Dec A w m f1 f2 f3 c b1 b2 b3) (h2 : b2 ≠ 0) : ∃ u, A.app u = ⟨b2 * f2.x, b2 * f2.y, b2 * f2.z, b2 * f2.t⟩ ∧ 0 < u.dot u := by
  obtain ⟨v, v1, v2, v3⟩ := D.d2 h2
  refine ⟨V4.lin 1 v (-(m.dot v / c)) w, ?_, ?_⟩
  · have e1 : f1.dot (V4.lin 1 v (-(m.dot v / c)) w) = 0 := by rw [V4.dot_lin, D.z1, v1]; grind
    have e2 : f2.dot (V4.lin 1 v (-(m.dot v / c)) w) = 1 := by rw [V4.dot_lin, D.z2, v2]; grind
    have e3 : f3.dot (V4.lin 1 v (-(m.dot v / c)) w) = 0 := by rw [V4.dot_lin, D.z3, v3]; grind
    have e4 : m.dot (V4.lin 1 v (-(m.dot v / c)) w) = 0 := by
      have : m.dot v / c * c = m.dot v := Rat.div_mul_cancel (by have := D.c0; grind)
      rw [V4.dot_lin, D.mw]; grind
    generalize V4.lin 1 v (-(m.dot v / c)) w = u at *
    rw [D.eq]
    unfold sum3
    rw [app_add, app_add, app_add, app_sq, app_sq, app_sq, app_sq, e1, e2, e3, e4]
    simp only [V4.lin, V4.mk.injEq]
    refine ⟨?_, ?_, ?_, ?_⟩ <;> grind
  · refine V4.pos_of (w := f2) (x := 1) ?_ (by decide)
    rw [V4.dot_comm, V4.dot_lin, D.z2, v2]; grind
theorem Dec.two1' (D : Dec A w m f1 f2 f3 c b1 b2 b3) (h1 : 0 < b1) (h2 : b2 < 0) (h3 : 0 < b3) : Two A := by
  have k := D.one_below h1 h2 (by grind)
  have h4 : A.e4 < 0 := D.e4s.2.2 (by
    have := mulp (mulp h1 (show 0 < -b2 by grind)) h3
    grind)
  obtain ⟨u, hu, uu⟩ := D.dual2 (by grind)
  have kk : 0 ≤ A.adj.e1 → A.adj.e2 ≤ 0 ∧ (A.adj.e2 = 0 → ∃ k, A.adj = sq k u) := by
    refine one_above (al := A.e4 / b2) (fun y => ?_) uu
    have h5 := quad_adj A y
    have h6 := dot_smul (x := y) hu
    have h7 := D.quad (A.adj.app y)
    rw [h5] at h7
    have := mul0 (Rat.le_of_lt (inv_pos D.c0)) (sq0 (m.dot (A.adj.app y)))
    have := mul0 (Rat.le_of_lt h1) (sq0 (f1.dot (A.adj.app y)))
    have := mul0 (Rat.le_of_lt h3) (sq0 (f3.dot (A.adj.app y)))
    have h9 : A.e4 / b2 * b2 = A.e4 := Rat.div_mul_cancel (by grind)
    generalize A.e4 / b2 = l at *
    generalize 1 / c = r at *
    generalize m.dot (A.adj.app y) = p1 at *
    generalize f1.dot (A.adj.app y) = p2 at *
    generalize f2.dot (A.adj.app y) = p3 at *
    generalize f3.dot (A.adj.app y) = p4 at *
    generalize A.e4 = e at *
    generalize A.adj.quad y = q at *
    generalize u.dot y = d at *
    clear D k hu uu h5
    have h8 : p3 = l * d := by
      have : b2 * (p3 - l * d) = 0 := by grind
      rcases Rat.mul_eq_zero.mp this with z | z <;> grind
    subst h8
    have g1 : b2 * (l * d * (l * d)) = e * (l * (d * d)) := by grind
    have : 0 ≤ -e * (l * (d * d) - q) := by grind
    have := pos_of_mul (x := -e) (by grind) this
    grind
  rw [adj_e1, adj_e2] at kk
  have k3 : 0 ≤ A.e3 → 0 < A.e2 := by
    intro h
    obtain ⟨a, b⟩ := kk h
    have : A.e2 * A.e4 ≠ 0 := fun z => by
      obtain ⟨l, hl⟩ := b z
      refine rank1_adj (k := 1) (by decide) (A := A) (l := l) (z := u) ?_ (by grind)
      rw [← hl]
      cases A.adj
      simp only [smul, Rat.one_mul]
    generalize A.e4 = e at *
    generalize A.e2 = g at *
    clear kk b k D
    have : 0 < -e * g := by grind
    exact pos_of_mul' (by grind) this
  unfold Two
  clear kk D
  grind

theorem fad (A : S4) (v : V4) : A.adj.app v = V4.lin 1 (V4.lin (-1) (A.app (A.app (A.app v))) A.e1 (A.app (A.app v))) 1 (V4.lin (-A.e2) (A.app v) A.e3 v) := by
  obtain ⟨a, b, c, d, e, f, g, h, i, j⟩ := A
  obtain ⟨x, y, z, t⟩ := v
  simp only [adj, app, V4.lin, e1, e2, e3, s3, d3, V4.mk.injEq]
  refine ⟨?_, ?_, ?_, ?_⟩ <;> grind
theorem app_lin (A : S4) (p : Rat) (u : V4) (q : Rat) (v : V4) : A.app (V4.lin p u q v) = V4.lin p (A.app u) q (A.app v) := by
  simp only [app, V4.lin, V4.mk.injEq]
  refine ⟨?_, ?_, ?_, ?_⟩ <;> grind
theorem ch (A : S4) (v : V4) : V4.lin 1 (A.app (A.app (A.app (A.app v)))) A.e4 v = V4.lin 1 (V4.lin A.e1 (A.app (A.app (A.app v))) (-A.e2) (A.app (A.app v))) A.e3 (A.app v) := by
  have h := app_adj A v
  rw [fad, app_lin, app_lin, app_lin] at h
  generalize A.app v = y1 at *
  generalize A.app y1 = y2 at *
  generalize A.app y2 = y3 at *
  generalize A.app y3 = y4 at *
  simp only [V4.lin, V4.mk.injEq] at *
  obtain ⟨h1, h2, h3, h4⟩ := h
  refine ⟨?_, ?_, ?_, ?_⟩ <;> grind
/-- the value at the moved vector -/
theorem low (A : S4) (y : V4) (h1 : A.e1 ≤ 0) (h2 : 0 ≤ A.e2) (h3 : A.e3 ≤ 0) (h4 : 0 ≤ A.e4) : A.quad (V4.lin (-A.e1) (A.app (A.app y)) (-A.e3) y) ≤ 0 := by
  have k := ch A y
  have q1 : y.dot (A.app (A.app y)) = (A.app y).dot (A.app y) := by rw [app_sym]
  have q2 : y.dot (A.app (A.app (A.app (A.app y)))) = (A.app (A.app y)).dot (A.app (A.app y)) := by rw [app_sym, V4.dot_comm, app_sym]
  have q3 : (A.app (A.app y)).dot (A.app (A.app (A.app (A.app y)))) = (A.app (A.app (A.app y))).dot (A.app (A.app (A.app y))) := by rw [app_sym]
  have e : A.app (V4.lin (-A.e1) (A.app (A.app y)) (-A.e3) y) = V4.lin (-A.e1) (A.app (A.app (A.app y))) (-A.e3) (A.app y) := app_lin ..
  unfold S4.quad
  rw [e]
  have n0 := V4.dot_nonneg y
  have n1 := V4.dot_nonneg (A.app y)
  have n2 := V4.dot_nonneg (A.app (A.app y))
  have n3 := V4.dot_nonneg (A.app (A.app (A.app y)))
  generalize A.app y = y1 at *
  generalize A.app y1 = y2 at *
  generalize A.app y2 = y3 at *
  generalize A.app y3 = y4 at *
  generalize A.e1 = g1 at *
  generalize A.e2 = g2 at *
  generalize A.e3 = g3 at *
  generalize A.e4 = g4 at *
  have k' : V4.lin (-g1) y3 (-g3) y1 = V4.lin (-1) y4 1 (V4.lin (-g2) y2 (-g4) y) := by
    simp only [V4.lin, V4.mk.injEq] at *
    obtain ⟨a, b, c, d⟩ := k
    refine ⟨?_, ?_, ?_, ?_⟩ <;> grind
  rw [k', V4.dot_lin, V4.dot_lin, V4.dot_comm _ y4, V4.dot_comm _ y2, V4.dot_comm _ y, V4.dot_lin, V4.dot_lin, V4.dot_lin, V4.dot_comm y4 y2, V4.dot_comm y4 y, V4.dot_comm y2 y, q1, q2, q3]
  clear k k' e q1 q2 q3
  generalize y.dot y = p0 at *
  generalize y1.dot y1 = p1 at *
  generalize y2.dot y2 = p2 at *
  generalize y3.dot y3 = p3 at *
  have m1 := mul0 (show 0 ≤ -g1 by grind) n3
  have m2 := mul0 (mul0 (show 0 ≤ -g1 by grind) h2) n2
  have m3 := mul0 (mul0 (show 0 ≤ -g1 by grind) h4) n1
  have m4 := mul0 (show 0 ≤ -g3 by grind) n2
  have m5 := mul0 (mul0 (show 0 ≤ -g3 by grind) h2) n1
  have m6 := mul0 (mul0 (show 0 ≤ -g3 by grind) h4) n0
  clear n0 n1 n2 n3 h1 h2 h3 h4
  grind
theorem pd_det {O : S4} (h : ∀ y, O.quad y ≤ 0 → y = ⟨0, 0, 0, 0⟩) : O.e4 ≠ 0 := by
  intro z
  have k1 : ∀ v, O.adj.app v = ⟨0, 0, 0, 0⟩ := by
    intro v
    refine h _ ?_
    rw [quad_adj, z, Rat.zero_mul]
    exact Rat.le_refl
  have kj : O.adj.j = 0 := by
    have := k1 ⟨0, 0, 0, 1⟩
    simp only [app, V4.mk.injEq] at this
    grind
  have k2 := h ⟨O.b * O.f - O.e * O.c, O.b * O.c - O.a * O.f, O.a * O.e - O.b * O.b, 0⟩ (by
    have : O.quad ⟨O.b * O.f - O.e * O.c, O.b * O.c - O.a * O.f, O.a * O.e - O.b * O.b, 0⟩ = (O.a * O.e - O.b * O.b) * O.adj.j := by
      simp only [S4.quad, app, V4.dot, adj, s3]; grind
    rw [this, kj, Rat.mul_zero]; exact Rat.le_refl)
  simp only [V4.mk.injEq] at k2
  have k3 := h ⟨-O.b, O.a, 0, 0⟩ (by
    have : O.quad ⟨-O.b, O.a, 0, 0⟩ = O.a * (O.a * O.e - O.b * O.b) := by
      simp only [S4.quad, app, V4.dot]; grind
    rw [this, k2.2.2.1, Rat.mul_zero]; exact Rat.le_refl)
  simp only [V4.mk.injEq] at k3
  have k4 := h ⟨1, 0, 0, 0⟩ (by
    have : O.quad ⟨1, 0, 0, 0⟩ = O.a := by
      simp only [S4.quad, app, V4.dot]; grind
    rw [this, k3.2.1]; exact Rat.le_refl)
  simp only [V4.mk.injEq] at k4
  exact absurd k4.1 (by decide)
/-- d A² + e -/
def O2 (A : S4) (d e : Rat) : S4 where
  a := d * (A.a * A.a + A.b * A.b + A.c * A.c + A.d * A.d) + e
  b := d * (A.a * A.b + A.b * A.e + A.c * A.f + A.d * A.g)
  c := d * (A.a * A.c + A.b * A.f + A.c * A.h + A.d * A.i)
  d := d * (A.a * A.d + A.b * A.g + A.c * A.i + A.d * A.j)
  e := d * (A.b * A.b + A.e * A.e + A.f * A.f + A.g * A.g) + e
  f := d * (A.b * A.c + A.e * A.f + A.f * A.h + A.g * A.i)
  g := d * (A.b * A.d + A.e * A.g + A.f * A.i + A.g * A.j)
  h := d * (A.c * A.c + A.f * A.f + A.h * A.h + A.i * A.i) + e
  i := d * (A.c * A.d + A.f * A.g + A.h * A.i + A.i * A.j)
  j := d * (A.d * A.d + A.g * A.g + A.i * A.i + A.j * A.j) + e
theorem app_O2 (A : S4) (d e : Rat) (y : V4) : (O2 A d e).app y = V4.lin d (A.app (A.app y)) e y := by
  simp only [O2, app, V4.lin, V4.mk.injEq]
  refine ⟨?_, ?_, ?_, ?_⟩ <;> grind
theorem O2_pd (A : S4) {d e : Rat} (hd : 0 ≤ d) (he : 0 < e) (y : V4) (h : (O2 A d e).quad y ≤ 0) : y = ⟨0, 0, 0, 0⟩ := by
  unfold S4.quad at h
  rw [app_O2, V4.dot_lin, app_sym] at h
  have n1 := mul0 hd (V4.dot_nonneg (A.app y))
  have n0 : y.dot y ≤ 0 := by
    by_cases z : y.dot y ≤ 0
    · exact z
    · have := mulp he (show 0 < y.dot y by grind)
      grind
  have a := sq0 y.x; have b := sq0 y.y; have cc := sq0 y.z; have d := sq0 y.t
  unfold V4.dot at n0
  have k1 := sqz (x := y.x) (by grind); have k2 := sqz (x := y.y) (by grind); have k3 := sqz (x := y.z) (by grind); have k4 := sqz (x := y.t) (by grind)
  cases y
  simp only [V4.mk.injEq]
  exact ⟨k1, k2, k3, k4⟩
theorem Dec.two2 (D : Dec A w m f1 f2 f3 c b1 b2 b3) (h1 : 0 < b1) (h2 : b2 < 0) (h3 : b3 < 0) : Two A := by
  have h4 : 0 < A.e4 := D.e4s.1 (by
    have := mulp (mulp h1 (show 0 < -b2 by grind)) (show 0 < -b3 by grind)
    grind)
  by_cases z : Two A
  · exact z
  exfalso
  have n1 : A.e1 ≤ 0 := by unfold Two at z; clear D; grind
  have n2 : 0 ≤ A.e2 := by unfold Two at z; clear D; grind
  have n3 : A.e3 ≤ 0 := by unfold Two at z; clear D; grind
  have n3' : A.e3 ≠ 0 := by
    intro e
    have k := adj_nrm A
    have k2 : A.adj.nrm ≤ 0 := by
      rw [k, e]
      have := mul0 n2 (Rat.le_of_lt h4)
      clear D
      grind
    have k3 := nrm_zero k2
    have : A.e4 = 0 := by
      unfold S4.e4
      rw [k3]
      grind
    grind
  have hd := pd_det (O2_pd A (show 0 ≤ -A.e1 by grind) (show 0 < -A.e3 by grind))
  have k := low A ((O2 A (-A.e1) (-A.e3)).adj.app w) n1 n2 n3 (Rat.le_of_lt h4)
  rw [← app_O2, app_adj] at k
  have hq := D.qw
  have hc := D.c0
  generalize (O2 A (-A.e1) (-A.e3)).e4 = e at *
  have : A.quad ⟨e * w.x, e * w.y, e * w.z, e * w.t⟩ = e * e * A.quad w := by
    simp only [S4.quad, app, V4.dot]; grind
  rw [this, hq] at k
  clear D this z
  have := sq0 e
  by_cases ze : 0 < e * e
  · have := mulp ze hc; grind
  · exact hd (sqz (by grind))
theorem Dec.two_b1 (D : Dec A w m f1 f2 f3 c b1 b2 b3) (h1 : 0 < b1) : Two A := by
  by_cases z2 : 0 ≤ b2
  · by_cases z3 : 0 ≤ b3
    · exact D.two0 h1 z2 z3
    · by_cases z : b2 = 0
      · exact D.swap23.two1 h1 (by grind) z
      · exact D.swap23.two1' h1 (by grind) (by grind)
  · by_cases z3 : 0 < b3
    · exact D.two1' h1 (by grind) z3
    · by_cases z : b3 = 0
      · exact D.two1 h1 (by grind) z
      · exact D.two2 h1 (by grind) (by grind)
/-- a second square above: exactly when the signs change twice -/
theorem Dec.two (D : Dec A w m f1 f2 f3 c b1 b2 b3) : Two A ↔ (0 < b1 ∨ 0 < b2 ∨ 0 < b3) := by
  constructor
  · intro h
    by_cases z : 0 < b1 ∨ 0 < b2 ∨ 0 < b3
    · exact z
    · exact absurd h (D.not_two (by grind) (by grind) (by grind))
  · rintro (h | h | h)
    · exact D.two_b1 h
    · exact D.swap12.two_b1 h
    · exact D.swap23.swap12.two_b1 h
end
end S4
end OC
set_option maxHeartbeats 4000000
/-! OcK1: rows and tables of at most 4 as V4, S4; the sums of minors. -/
namespace OC
open V4 S4
theorem foldl_add (l : List Rat) : ∀ a : Rat, l.foldl (· + ·) a = a + l.foldl (· + ·) 0 := by
  induction l with
  | nil => intro a; simp only [List.foldl_nil]; grind
  | cons b l ih =>
    intro a
    simp only [List.foldl_cons]
    rw [ih (a + b), ih (0 + b)]
    grind
theorem sumR_nil : sumR [] = 0 := rfl
theorem sumR_cons (a : Rat) (l : List Rat) : sumR (a :: l) = a + sumR l := by
  show l.foldl (· + ·) (0 + a) = _
  rw [foldl_add]
  show 0 + a + sumR l = _
  grind
theorem dot_nil (v : Row) : dot [] v = 0 := rfl
theorem dot_nil' : (r : Row) → dot r [] = 0
  | [] => rfl
  | _ :: _ => rfl
theorem dot_cons (a : Rat) (r : Row) (b : Rat) (v : Row) : dot (a :: r) (b :: v) = a * b + dot r v := sumR_cons _ _
theorem dot_comm : ∀ (r v : Row), dot r v = dot v r
  | [], v => by rw [dot_nil, dot_nil']
  | a :: r, [] => by rw [dot_nil, dot_nil']
  | a :: r, b :: v => by rw [dot_cons, dot_cons, dot_comm r v, Rat.mul_comm]
def vof (r : Row) : V4 := ⟨r.getD 0 0, r.getD 1 0, r.getD 2 0, r.getD 3 0⟩
theorem dot_vof : ∀ (r v : Row), r.length ≤ 4 → dot r v = (vof r).dot (vof v)
  | [], v, _ => by rw [dot_nil]; simp only [vof, V4.dot, List.getD_nil]; grind
  | r, [], _ => by rw [dot_nil']; simp only [vof, V4.dot, List.getD_nil]; grind
  | [a], b :: v, _ => by simp [dot_cons, dot_nil, dot_nil', vof, V4.dot]; grind
  | [a, a1], [b], _ => by simp [dot_cons, dot_nil, dot_nil', vof, V4.dot]; grind
  | [a, a1], b :: b1 :: v, _ => by simp [dot_cons, dot_nil, dot_nil', vof, V4.dot]; grind
  | [a, a1, a2], [b], _ => by simp [dot_cons, dot_nil, dot_nil', vof, V4.dot]; grind
  | [a, a1, a2], [b, b1], _ => by simp [dot_cons, dot_nil, dot_nil', vof, V4.dot]; grind
  | [a, a1, a2], b :: b1 :: b2 :: v, _ => by simp [dot_cons, dot_nil, dot_nil', vof, V4.dot]; grind
  | [a, a1, a2, a3], [b], _ => by simp [dot_cons, dot_nil, dot_nil', vof, V4.dot]; grind
  | [a, a1, a2, a3], [b, b1], _ => by simp [dot_cons, dot_nil, dot_nil', vof, V4.dot]; grind
  | [a, a1, a2, a3], [b, b1, b2], _ => by simp [dot_cons, dot_nil, dot_nil', vof, V4.dot]; grind
  | [a, a1, a2, a3], b :: b1 :: b2 :: b3 :: v, _ => by simp [dot_cons, dot_nil, dot_nil', vof, V4.dot]; grind
  | _ :: _ :: _ :: _ :: _ :: _, _, h => by simp at h
def sof (A : Mat) : S4 := ⟨ent A 0 0, ent A 0 1, ent A 0 2, ent A 0 3, ent A 1 1, ent A 1 2, ent A 1 3, ent A 2 2, ent A 2 3, ent A 3 3⟩
def Sym (A : Mat) : Prop := ∀ i j, ent A i j = ent A j i
theorem mv_getD (A : Mat) (v : Row) (i : Nat) : (mv A v).getD i 0 = dot (A.getD i []) v := by
  unfold mv
  rw [List.getD_eq_getElem?_getD, List.getD_eq_getElem?_getD, List.getElem?_map]
  cases A[i]? with
  | none => rfl
  | some r => rfl
theorem row_le {A : Mat} {n i : Nat} (hA : ∀ r ∈ A, r.length ≤ n) : (A.getD i []).length ≤ n := by
  rw [List.getD_eq_getElem?_getD]
  cases h : A[i]? with
  | none => exact Nat.zero_le _
  | some r => exact hA r (List.mem_of_getElem? h)
theorem vof_row (A : Mat) (i : Nat) : vof (A.getD i []) = ⟨ent A i 0, ent A i 1, ent A i 2, ent A i 3⟩ := rfl
theorem vof_mv {A : Mat} (hs : Sym A) (hA : ∀ r ∈ A, r.length ≤ 4) (v : Row) : vof (mv A v) = (sof A).app (vof v) := by
  show (⟨(mv A v).getD 0 0, (mv A v).getD 1 0, (mv A v).getD 2 0, (mv A v).getD 3 0⟩ : V4) = _
  rw [mv_getD, mv_getD, mv_getD, mv_getD, dot_vof _ _ (row_le hA), dot_vof _ _ (row_le hA), dot_vof _ _ (row_le hA), dot_vof _ _ (row_le hA), vof_row, vof_row, vof_row, vof_row]
  simp only [V4.dot, app, sof]
  rw [hs 1 0, hs 2 0, hs 2 1, hs 3 0, hs 3 1, hs 3 2]
theorem quad_mv {A : Mat} (hs : Sym A) (hA : ∀ r ∈ A, r.length ≤ 4) (hn : A.length ≤ 4) (u v : Row) : dot u (mv A v) = (vof u).dot ((sof A).app (vof v)) := by
  rw [dot_comm, dot_vof _ _ (by unfold mv; rw [List.length_map]; exact hn), vof_mv hs hA, V4.dot_comm]
/-! ### the sums -/
theorem detT_eq (D : Mat → Rat) (A : Mat) (i : Nat) : detT D A i = D (minorM A i) * ent A 0 i * (sgI i : Int) := by
  unfold detT
  by_cases h : ent A 0 i ≠ 0
  · rw [if_pos h]
  · rw [if_neg h]
    have : ent A 0 i = 0 := by grind
    rw [this]; grind
theorem det0 : detF 0 [] = 1 := rfl
theorem det1 (a : Rat) : detF 1 [[a]] = a := by
  simp [detF, detP, detT_eq, minorM, ent, sgI]
  grind
theorem det2 (a b c d : Rat) : detF 2 [[a, b], [c, d]] = a * d - b * c := by
  simp [detF, detP, detT_eq, minorM, ent, sgI]
  grind
theorem det3 (a b c d e f g h i : Rat) : detF 3 [[a, b, c], [d, e, f], [g, h, i]] = a * (e * i - f * h) - b * (d * i - f * g) + c * (d * h - e * g) := by
  simp [detF, detP, detT_eq, minorM, ent, sgI]
  grind
theorem det4 (a b c d e f g h i j k l m n o p : Rat) : detF 4 [[a, b, c, d], [e, f, g, h], [i, j, k, l], [m, n, o, p]] =
    a * (f * (k * p - l * o) - g * (j * p - l * n) + h * (j * o - k * n)) - b * (e * (k * p - l * o) - g * (i * p - l * m) + h * (i * o - k * m))
     + c * (e * (j * p - l * n) - f * (i * p - l * m) + h * (i * n - j * m)) - d * (e * (j * o - k * n) - f * (i * o - k * m) + g * (i * n - j * m)) := by
  simp [detF, detP, detT_eq, minorM, ent, sgI]
  grind
theorem sof1 (a : Rat) : sof [[a]] = ⟨a, 0, 0, 0, 0, 0, 0, 0, 0, 0⟩ := rfl
theorem sof2 (a b c d : Rat) : sof [[a, b], [c, d]] = ⟨a, b, 0, 0, d, 0, 0, 0, 0, 0⟩ := rfl
theorem sums1 (a : Rat) : sumsF [[a]] = [1, (sof [[a]]).e1] ∧ (sof [[a]]).e2 = 0 ∧ (sof [[a]]).e3 = 0 ∧ (sof [[a]]).e4 = 0 := by
  have c0 : choF 1 0 = [[]] := by decide
  have c1 : choF 1 1 = [[0]] := by decide
  refine ⟨?_, ?_, ?_, ?_⟩
  · unfold sumsF sumsT
    simp [List.range_succ, c0, c1, minF, subM, det0, det1, sumR_cons, sumR_nil, sof, ent, e1]
    grind
  all_goals simp only [sof1, e1, e2, e3, e4, adj, s3, d3]; grind
theorem sums2 (a b d : Rat) : sumsF [[a, b], [b, d]] = [1, (sof [[a, b], [b, d]]).e1, (sof [[a, b], [b, d]]).e2] ∧ (sof [[a, b], [b, d]]).e3 = 0 ∧ (sof [[a, b], [b, d]]).e4 = 0 := by
  have c0 : choF 2 0 = [[]] := by decide
  have c1 : choF 2 1 = [[0], [1]] := by decide
  have c2 : choF 2 2 = [[0, 1]] := by decide
  refine ⟨?_, ?_, ?_⟩
  · unfold sumsF sumsT
    simp [List.range_succ, c0, c1, c2, minF, subM, det0, det1, det2, sumR_cons, sumR_nil, sof, ent, e1, e2]
    grind
  all_goals simp only [sof2, e1, e2, e3, e4, adj, s3, d3]; grind
theorem sums3 (a b c d e f : Rat) : sumsF [[a, b, c], [b, d, e], [c, e, f]] = [1, (sof [[a, b, c], [b, d, e], [c, e, f]]).e1, (sof [[a, b, c], [b, d, e], [c, e, f]]).e2, (sof [[a, b, c], [b, d, e], [c, e, f]]).e3] ∧ (sof [[a, b, c], [b, d, e], [c, e, f]]).e4 = 0 := by
  have c0 : choF 3 0 = [[]] := by decide
  have c1 : choF 3 1 = [[0], [1], [2]] := by decide
  have c2 : choF 3 2 = [[0, 1], [0, 2], [1, 2]] := by decide
  have c3 : choF 3 3 = [[0, 1, 2]] := by decide
  refine ⟨?_, ?_⟩
  · unfold sumsF sumsT
    simp [List.range_succ, c0, c1, c2, c3, minF, subM, det0, det1, det2, det3, sumR_cons, sumR_nil, sof, ent, e1, e2, e3, adj, s3]
    grind
  all_goals simp [sof, ent, e4, adj, s3, d3]; grind
theorem sums4 (a b c d e f g h i j : Rat) : let A := [[a, b, c, d], [b, e, f, g], [c, f, h, i], [d, g, i, j]]
    sumsF A = [1, (sof A).e1, (sof A).e2, (sof A).e3, (sof A).e4] := by
  intro A
  have c0 : choF 4 0 = [[]] := by decide
  have c1 : choF 4 1 = [[0], [1], [2], [3]] := by decide
  have c2 : choF 4 2 = [[0, 1], [0, 2], [1, 2], [0, 3], [1, 3], [2, 3]] := by decide
  have c3 : choF 4 3 = [[0, 1, 2], [0, 1, 3], [0, 2, 3], [1, 2, 3]] := by decide
  have c4 : choF 4 4 = [[0, 1, 2, 3]] := by decide
  unfold sumsF sumsT
  simp [A, List.range_succ, c0, c1, c2, c3, c4, minF, subM, det0, det1, det2, det3, det4, sumR_cons, sumR_nil, sof, ent, e1, e2, e3, e4, adj, s3, d3]
  refine ⟨?_, ?_, ?_, ?_⟩ <;> grind
/-! ### changes of sign -/
theorem sgn_zero {q : Rat} : sgn q = 0 ↔ q = 0 := by unfold sgn; grind
theorem nzS_eq (l : List Rat) : nzS l = (l.map sgn).filter fun i => decide (i ≠ 0) := by
  induction l with
  | nil => rfl
  | cons a l ih =>
    unfold nzS at *
    simp only [List.map_cons, List.filter_cons]
    by_cases h : a = 0
    · have h1 := sgn_zero.mpr h
      simp [h, h1, ih] at *
      simp [ih, h1]
    · have h1 : sgn a ≠ 0 := fun z => h (sgn_zero.mp z)
      simp [h, h1, ih]
      simpa using ih
theorem sgn_neg (q : Rat) : sgn (-q) = - sgn q := by unfold sgn; grind
theorem sgn_mem (q : Rat) : sgn q ∈ [(-1 : Int), 0, 1] := by
  have : sgn q = -1 ∨ sgn q = 0 ∨ sgn q = 1 := by unfold sgn; grind
  simp only [List.mem_cons, List.not_mem_nil, or_false]
  exact this
theorem sgn_one : sgn 1 = 1 := by unfold sgn; grind
theorem sgn_pos {q : Rat} : sgn q = 1 ↔ 0 < q := by unfold sgn; grind
theorem sgn_lt {q : Rat} : sgn q = -1 ↔ q < 0 := by unfold sgn; grind
def TwoS (a b c d : Int) : Prop := (a = 1 ∧ b = 1) ∨ (a = 1 ∧ c = -1) ∨ (a = 1 ∧ d = 1) ∨ (b = -1 ∧ c = -1) ∨ (b = -1 ∧ d = 1) ∨ (c = 1 ∧ d = 1)
instance (a b c d : Int) : Decidable (TwoS a b c d) := by unfold TwoS; infer_instance
def chgS (l : List Int) : Nat := chgI (l.filter fun i => decide (i ≠ 0))
theorem chg4 : ∀ a ∈ [(-1 : Int), 0, 1], ∀ b ∈ [(-1 : Int), 0, 1], ∀ c ∈ [(-1 : Int), 0, 1], ∀ d ∈ [(-1 : Int), 0, 1], (2 ≤ chgS [1, -a, b, -c, d] ↔ TwoS a b c d) := by decide
theorem chg3 : ∀ a ∈ [(-1 : Int), 0, 1], ∀ b ∈ [(-1 : Int), 0, 1], ∀ c ∈ [(-1 : Int), 0, 1], (2 ≤ chgS [1, -a, b, -c] ↔ TwoS a b c 0) := by decide
theorem chg2 : ∀ a ∈ [(-1 : Int), 0, 1], ∀ b ∈ [(-1 : Int), 0, 1], (2 ≤ chgS [1, -a, b] ↔ TwoS a b 0 0) := by decide
theorem chg1 : ∀ a ∈ [(-1 : Int), 0, 1], (2 ≤ chgS [1, -a] ↔ TwoS a 0 0 0) := by decide
theorem two_sgn (A : S4) : Two A ↔ TwoS (sgn A.e1) (sgn A.e2) (sgn A.e3) (sgn A.e4) := by
  unfold Two TwoS
  simp only [sgn_pos, sgn_lt]
theorem changes_eq (l : List Rat) : changesF l = chgS (l.map sgn) := by
  unfold changesF chgS
  rw [nzS_eq]
theorem row_form {n : Nat} {r : Row} (h : r.length = n) : r = (List.range n).map fun j => r.getD j 0 := by
  refine List.ext_getElem (by simp [h]) fun i h1 h2 => ?_
  rw [List.getElem_map, List.getElem_range, getDn (List.getElem?_eq_getElem h1)]
theorem mat_form {n : Nat} {A : Mat} (hn : A.length = n) (hA : ∀ r ∈ A, r.length = n) : A = (List.range n).map fun i => (List.range n).map fun j => ent A i j := by
  refine List.ext_getElem (by simp [hn]) fun i h1 h2 => ?_
  rw [List.getElem_map, List.getElem_range]
  have h3 := row_form (hA A[i] (List.getElem_mem h1))
  have h4 : A.getD i [] = A[i] := getDn (List.getElem?_eq_getElem h1)
  show A[i] = _
  unfold ent
  rw [h4]
  exact h3
/-- the law's count of squares above -/
theorem above_two {A : Mat} (h0 : 0 < A.length) (h4 : A.length ≤ 4) (hA : ∀ r ∈ A, r.length = A.length) (hs : Sym A) : 2 ≤ aboveN A ↔ Two (sof A) := by
  have key : ∀ l, (∀ e : Rat × Rat × Rat × Rat, e = ((sof A).e1, (sof A).e2, (sof A).e3, (sof A).e4) → sumsF A = l → (2 ≤ changesF (altR l) ↔ Two (sof A))) → sumsF A = l → (2 ≤ aboveN A ↔ Two (sof A)) := by
    intro l h e
    unfold aboveN
    rw [e]
    exact h _ rfl e
  have hm := mat_form rfl hA
  have m1 := sgn_mem (sof A).e1
  have m2 := sgn_mem (sof A).e2
  have m3 := sgn_mem (sof A).e3
  have m4 := sgn_mem (sof A).e4
  unfold aboveN
  rw [changes_eq, two_sgn]
  match hl : A.length with
  | 0 => omega
  | 1 =>
    rw [hl] at hm
    have k := sums1 (ent A 0 0)
    have e : A = [[ent A 0 0]] := hm
    rw [← e] at k
    obtain ⟨k1, k2, k3, k4⟩ := k
    rw [k1, k2, k3, k4]
    have := chg1 _ m1
    simpa [altR, sgn_neg, sgn_one, show sgn 0 = 0 from rfl] using this
  | 2 =>
    rw [hl] at hm
    have k := sums2 (ent A 0 0) (ent A 0 1) (ent A 1 1)
    have e : A = [[ent A 0 0, ent A 0 1], [ent A 0 1, ent A 1 1]] := by
      have e1 : A = [[ent A 0 0, ent A 0 1], [ent A 1 0, ent A 1 1]] := hm
      rw [hs 1 0] at e1
      exact e1
    rw [← e] at k
    obtain ⟨k1, k3, k4⟩ := k
    rw [k1, k3, k4]
    have := chg2 _ m1 _ m2
    simpa [altR, sgn_neg, sgn_one, show sgn 0 = 0 from rfl] using this
  | 3 =>
    rw [hl] at hm
    have k := sums3 (ent A 0 0) (ent A 0 1) (ent A 0 2) (ent A 1 1) (ent A 1 2) (ent A 2 2)
    have e : A = [[ent A 0 0, ent A 0 1, ent A 0 2], [ent A 0 1, ent A 1 1, ent A 1 2], [ent A 0 2, ent A 1 2, ent A 2 2]] := by
      have e1 : A = [[ent A 0 0, ent A 0 1, ent A 0 2], [ent A 1 0, ent A 1 1, ent A 1 2], [ent A 2 0, ent A 2 1, ent A 2 2]] := hm
      rw [hs 1 0, hs 2 0, hs 2 1] at e1
      exact e1
    rw [← e] at k
    obtain ⟨k1, k4⟩ := k
    rw [k1, k4]
    have := chg3 _ m1 _ m2 _ m3
    simpa [altR, sgn_neg, sgn_one, show sgn 0 = 0 from rfl] using this
  | 4 =>
    rw [hl] at hm
    have k := sums4 (ent A 0 0) (ent A 0 1) (ent A 0 2) (ent A 0 3) (ent A 1 1) (ent A 1 2) (ent A 1 3) (ent A 2 2) (ent A 2 3) (ent A 3 3)
    have e : A = [[ent A 0 0, ent A 0 1, ent A 0 2, ent A 0 3], [ent A 0 1, ent A 1 1, ent A 1 2, ent A 1 3], [ent A 0 2, ent A 1 2, ent A 2 2, ent A 2 3], [ent A 0 3, ent A 1 3, ent A 2 3, ent A 3 3]] := by
      have e1 : A = [[ent A 0 0, ent A 0 1, ent A 0 2, ent A 0 3], [ent A 1 0, ent A 1 1, ent A 1 2, ent A 1 3], [ent A 2 0, ent A 2 1, ent A 2 2, ent A 2 3], [ent A 3 0, ent A 3 1, ent A 3 2, ent A 3 3]] := hm
      rw [hs 1 0, hs 2 0, hs 2 1, hs 3 0, hs 3 1, hs 3 2] at e1
      exact e1
    simp only at k
    rw [← e] at k
    rw [k]
    have := chg4 _ m1 _ m2 _ m3 _ m4
    simpa [altR, sgn_neg, sgn_one, show sgn 0 = 0 from rfl] using this
  | n + 5 => omega
end OC
set_option maxHeartbeats 4000000
/-! OcK2: squares of a table that weights make nought of. -/
namespace OC
open V4 S4
theorem zw_getD {g : Rat → Rat → Rat} (h0 : g 0 0 = 0) : ∀ {a b : Row} (j : Nat), a.length = b.length → (List.zipWith g a b).getD j 0 = g (a.getD j 0) (b.getD j 0)
  | [], [], j, _ => by simp [h0]
  | x :: a, y :: b, 0, _ => rfl
  | x :: a, y :: b, j + 1, h => by
    simp only [List.zipWith_cons_cons, List.getD_cons_succ]
    exact zw_getD h0 j (by simpa using h)
  | [], _ :: _, _, h => by simp at h
  | _ :: _, [], _, h => by simp at h
theorem lessR_getD {a b : Row} (c : Rat) (j : Nat) (h : a.length = b.length) : (lessR a b c).getD j 0 = a.getD j 0 - b.getD j 0 * c := zw_getD (g := fun a b => a - b * c) (by grind) j h
theorem dot_lessR (c : Rat) : ∀ {a b : Row} (w : Row), a.length = b.length → dot (lessR a b c) w = dot a w - c * dot b w
  | [], [], w, _ => by simp only [lessR, List.zipWith_nil_left, dot_nil]; grind
  | x :: a, y :: b, [], _ => by simp only [dot_nil']; grind
  | x :: a, y :: b, z :: w, h => by
    have := dot_lessR c (a := a) (b := b) w (by simpa using h)
    unfold lessR at *
    simp only [List.zipWith_cons_cons, dot_cons]
    rw [this]; grind
  | [], _ :: _, _, h => by simp at h
  | _ :: _, [], _, h => by simp at h
theorem dot_addR : ∀ {a b : Row} (w : Row), a.length = b.length → dot (addR a b) w = dot a w + dot b w
  | [], [], w, _ => by simp only [addR, List.zipWith_nil_left, dot_nil]; grind
  | x :: a, y :: b, [], _ => by simp only [dot_nil']; grind
  | x :: a, y :: b, z :: w, h => by
    have := dot_addR (a := a) (b := b) w (by simpa using h)
    unfold addR at *
    simp only [List.zipWith_cons_cons, dot_cons]
    rw [this]; grind
  | [], _ :: _, _, h => by simp at h
  | _ :: _, [], _, h => by simp at h
theorem dot_subR : ∀ {a b : Row} (w : Row), a.length = b.length → dot (subR a b) w = dot a w - dot b w
  | [], [], w, _ => by simp only [subR, List.zipWith_nil_left, dot_nil]; grind
  | x :: a, y :: b, [], _ => by simp only [dot_nil']; grind
  | x :: a, y :: b, z :: w, h => by
    have := dot_subR (a := a) (b := b) w (by simpa using h)
    unfold subR at *
    simp only [List.zipWith_cons_cons, dot_cons]
    rw [this]; grind
  | [], _ :: _, _, h => by simp at h
  | _ :: _, [], _, h => by simp at h
theorem dot_set : ∀ (r v : Row) (c : Nat) (x : Rat), c < v.length → dot r (v.set c x) = dot r v + r.getD c 0 * (x - v.getD c 0)
  | [], v, c, x, _ => by simp only [dot_nil, List.getD_nil]; grind
  | a :: r, b :: v, 0, x, _ => by simp only [List.set_cons_zero, dot_cons, List.getD_cons_zero]; grind
  | a :: r, b :: v, c + 1, x, h => by
    simp only [List.set_cons_succ, dot_cons, List.getD_cons_succ]
    rw [dot_set r v c x (by simpa using h)]; grind
  | _ :: _, [], _, _, h => by simp at h
theorem lessR_len {a b : Row} (c : Rat) (h : a.length = b.length) : (lessR a b c).length = a.length := by rw [lessR_length, h, Nat.min_self]
theorem lessSq_row {A : Mat} {n : Nat} (h : Rect A n n) {f : Row} (hf : f.length = n) (c : Rat) (i : Nat) : i < n → (lessSq A c f).getD i [] = lessR (A.getD i []) f (c * f.getD i 0) := by
  intro hi
  have h1 : i < A.length := by rw [h.1]; exact hi
  have h2 : i < f.length := by rw [hf]; exact hi
  unfold lessSq
  rw [getDn (a := lessR A[i] f (c * f[i])) (by rw [List.getElem?_zipWith, List.getElem?_eq_getElem h1, List.getElem?_eq_getElem h2]), getDn (List.getElem?_eq_getElem h1), getDn (List.getElem?_eq_getElem h2)]
theorem lessSq_rect {A : Mat} {n : Nat} (h : Rect A n n) {f : Row} (hf : f.length = n) (c : Rat) : Rect (lessSq A c f) n n := by
  refine ⟨by unfold lessSq; rw [List.length_zipWith, h.1, hf, Nat.min_self], fun r hr => ?_⟩
  obtain ⟨i, hi, e⟩ := List.mem_iff_getElem.mp hr
  have hi' : i < n := by
    unfold lessSq at hi
    rw [List.length_zipWith, h.1, hf, Nat.min_self] at hi
    exact hi
  have e2 : (lessSq A c f).getD i [] = r := by rw [← e]; exact getDn (List.getElem?_eq_getElem _)
  rw [← e2, lessSq_row h hf c i hi', lessR_len _ (by rw [h.row hi', hf]), h.row hi']
theorem getD_out {α : Type} {l : List α} {i : Nat} {b : α} (h : l.length ≤ i) : l.getD i b = b := by
  rw [List.getD_eq_getElem?_getD, List.getElem?_eq_none h]; rfl
theorem ent_out {A : Mat} {n i j : Nat} (h : Rect A n n) (hi : n ≤ i ∨ n ≤ j) : ent A i j = 0 := by
  unfold ent
  by_cases hi' : n ≤ i
  · rw [getD_out (l := A) (by rw [h.1]; exact hi')]; rfl
  · exact getD_out (by rw [h.row (by omega)]; omega)
theorem ent_lessSq {A : Mat} {n : Nat} (h : Rect A n n) {f : Row} (hf : f.length = n) (c : Rat) (i j : Nat) : ent (lessSq A c f) i j = ent A i j - f.getD j 0 * (c * f.getD i 0) := by
  by_cases hi : i < n
  · show ((lessSq A c f).getD i []).getD j 0 = _
    rw [lessSq_row h hf c i hi, lessR_getD _ _ (by rw [h.row hi, hf])]
    rfl
  · rw [ent_out (lessSq_rect h hf c) (Or.inl (by omega)), ent_out h (Or.inl (by omega)), getD_out (l := f) (i := i) (by omega)]
    grind
/-- weights make nought of a table -/
def Ker (A : Mat) (w : Row) : Prop := ∀ i, dot (A.getD i []) w = 0
theorem Ker.less {A : Mat} {n : Nat} {w : Row} (k : Ker A w) (h : Rect A n n) {f : Row} (hf : f.length = n) (hw : dot f w = 0) (c : Rat) : Ker (lessSq A c f) w := by
  intro i
  by_cases hi : i < n
  · rw [lessSq_row h hf c i hi, dot_lessR _ _ (by rw [h.row hi, hf]), k i, hw]; grind
  · rw [getD_out (l := lessSq A c f) (by rw [(lessSq_rect h hf c).1]; omega), dot_nil]
theorem Sym.less {A : Mat} {n : Nat} (s : Sym A) (h : Rect A n n) {f : Row} (hf : f.length = n) (c : Rat) : Sym (lessSq A c f) := by
  intro i j
  rw [ent_lessSq h hf, ent_lessSq h hf, s i j]; grind
/-! ### the next squares -/
theorem find_range {P : Nat → Bool} {n : Nat} : ((List.range n).find? P = none ∧ ∀ i, i < n → P i = false) ∨ (∃ i, (List.range n).find? P = some i ∧ i < n ∧ P i = true) := by
  cases h : (List.range n).find? P with
  | none =>
    refine Or.inl ⟨rfl, fun i hi => ?_⟩
    have := List.find?_eq_none.mp h i (List.mem_range.mpr hi)
    simpa using this
  | some i => exact Or.inr ⟨i, rfl, List.mem_range.mp (List.mem_of_find?_eq_some h), List.find?_some h⟩
theorem findS_range {α : Type} {g : Nat → Option α} {n : Nat} : ((List.range n).findSome? g = none ∧ ∀ i, i < n → g i = none) ∨ (∃ i a, (List.range n).findSome? g = some a ∧ i < n ∧ g i = some a) := by
  cases h : (List.range n).findSome? g with
  | none =>
    refine Or.inl ⟨rfl, fun i hi => ?_⟩
    exact List.findSome?_eq_none_iff.mp h i (List.mem_range.mpr hi)
  | some a =>
    obtain ⟨i, hi, e⟩ := List.exists_of_findSome?_eq_some h
    exact Or.inr ⟨i, a, rfl, List.mem_range.mp hi, e⟩
inductive NextC (B : Mat) (n : Nat) : Prop where
  | none (e : nextSq B = []) (z : ∀ i j, ent B i j = 0)
  | one (p : Nat) (hp : p < n) (nz : ent B p p ≠ 0) (e : nextSq B = [(1 / ent B p p, B.getD p [])])
  | two (i j : Nat) (hi : i < j) (hj : j < n) (dz : ∀ p, ent B p p = 0) (nz : ent B i j ≠ 0)
      (e : nextSq B = [(1 / (ent B i j * 2), addR (B.getD i []) (B.getD j [])), (-(1 / (ent B i j * 2)), subR (B.getD i []) (B.getD j []))])
theorem next_cases {B : Mat} {n : Nat} (h : Rect B n n) (s : Sym B) : NextC B n := by
  rcases find_range (P := fun p => decide (ent B p p ≠ 0)) (n := B.length) with ⟨e, z⟩ | ⟨p, e, hp, nz⟩
  · have dz : ∀ p, ent B p p = 0 := by
      intro p
      by_cases hp : p < B.length
      · have := z p hp
        simpa using this
      · exact ent_out h (Or.inl (by rw [← h.1]; omega))
    rcases findS_range (g := fun p => (pairIn B p).map fun o => (p, o)) (n := B.length) with ⟨e2, z2⟩ | ⟨p, a, e2, hp, e3⟩
    · refine .none ?_ ?_
      · unfold nextSq singleAt pairAt
        rw [e, e2]
      · have up : ∀ i j, i < j → ent B i j = 0 := by
          intro i j hij
          by_cases hj : j < B.length
          · have h1 := z2 i (by omega)
            rw [Option.map_eq_none_iff] at h1
            unfold pairIn at h1
            have h2 := List.find?_eq_none.mp h1 j (List.mem_range.mpr hj)
            simp only [Bool.and_eq_true, decide_eq_true_eq, not_and] at h2
            have h3 := h2 (by omega)
            grind
          · exact ent_out h (Or.inr (by rw [← h.1]; omega))
        intro i j
        rcases Nat.lt_trichotomy i j with hh | hh | hh
        · exact up i j hh
        · rw [hh]; exact dz j
        · rw [s i j]; exact up j i hh
    · obtain ⟨o, ho, e4⟩ := Option.map_eq_some_iff.mp e3
      unfold pairIn at ho
      have h1 := List.mem_range.mp (List.mem_of_find?_eq_some ho)
      have h2 := List.find?_some ho
      simp only [Bool.and_eq_true, decide_eq_true_eq] at h2
      refine .two p o (by omega) (by rw [← h.1]; exact h1) dz h2.2 ?_
      unfold nextSq singleAt pairAt
      rw [e, e2, ← e4]
  · refine .one p (by rw [← h.1]; exact hp) (of_decide_eq_true nz) ?_
    unfold nextSq singleAt
    rw [e]
/-! ### rows that are not nought -/
def NZ (B : Mat) (i : Nat) : Prop := ∃ j, ent B i j ≠ 0
open Classical in
noncomputable def ind (B : Mat) (i : Nat) : Nat := if NZ B i then 1 else 0
noncomputable def cnt (B : Mat) : Nat := ind B 0 + ind B 1 + ind B 2 + ind B 3
theorem ind_one {B : Mat} {i : Nat} (h : NZ B i) : ind B i = 1 := by unfold ind; rw [if_pos h]
theorem ind_zero {B : Mat} {i : Nat} (h : ¬NZ B i) : ind B i = 0 := by unfold ind; rw [if_neg h]
theorem ind_le {B C : Mat} {i : Nat} (h : NZ B i → NZ C i) : ind B i ≤ ind C i := by
  unfold ind
  by_cases z : NZ B i
  · rw [if_pos z, if_pos (h z)]; exact Nat.le_refl _
  · rw [if_neg z]; exact Nat.zero_le _
theorem nz_of {B : Mat} {i : Nat} (h : ¬NZ B i) (j : Nat) : ent B i j = 0 := by
  by_cases z : ent B i j = 0
  · exact z
  · exact absurd ⟨j, z⟩ h
theorem four {p : Nat} (h : p < 4) : p = 0 ∨ p = 1 ∨ p = 2 ∨ p = 3 := by omega
theorem cnt_down {B C : Mat} {p : Nat} (hp : p < 4) (h : ∀ i, NZ B i → NZ C i) (h1 : ¬NZ B p) (h2 : NZ C p) : cnt B + 1 ≤ cnt C := by
  have a := ind_le (h 0); have b := ind_le (h 1); have c := ind_le (h 2); have d := ind_le (h 3)
  have e := ind_zero h1; have f := ind_one h2
  unfold cnt
  rcases four hp with r | r | r | r <;> subst r <;> omega
theorem cnt_down2 {B C : Mat} {p q : Nat} (hp : p < 4) (hq : q < 4) (hpq : p ≠ q) (h : ∀ i, NZ B i → NZ C i) (h1 : ¬NZ B p) (h2 : NZ C p) (h3 : ¬NZ B q) (h4 : NZ C q) : cnt B + 2 ≤ cnt C := by
  have a := ind_le (h 0); have b := ind_le (h 1); have c := ind_le (h 2); have d := ind_le (h 3)
  have e := ind_zero h1; have f := ind_one h2; have e' := ind_zero h3; have f' := ind_one h4
  unfold cnt
  rcases four hp with r | r | r | r <;> rcases four hq with t | t | t | t <;> subst r t <;> omega
theorem cnt_two {B : Mat} {p q : Nat} (hp : p < 4) (hq : q < 4) (hpq : p ≠ q) (h1 : NZ B p) (h2 : NZ B q) : 2 ≤ cnt B := by
  have f := ind_one h1; have f' := ind_one h2
  unfold cnt
  rcases four hp with r | r | r | r <;> rcases four hq with t | t | t | t <;> subst r t <;> omega
theorem cnt_three {B : Mat} {p q s : Nat} (hp : p < 4) (hq : q < 4) (hs : s < 4) (hpq : p ≠ q) (hps : p ≠ s) (hqs : q ≠ s) (h1 : NZ B p) (h2 : NZ B q) (h3 : NZ B s) : 3 ≤ cnt B := by
  have f := ind_one h1; have f' := ind_one h2; have f2 := ind_one h3
  unfold cnt
  rcases four hp with r | r | r | r <;> rcases four hq with t | t | t | t <;> rcases four hs with u | u | u | u <;> subst r t u <;> omega
theorem cnt_le {B : Mat} {n : Nat} (h : Rect B n n) : cnt B ≤ n := by
  have k : ∀ i, ind B i ≤ 1 := by intro i; unfold ind; split <;> omega
  have z : ∀ i, n ≤ i → ind B i = 0 := fun i hi => ind_zero (fun ⟨j, hj⟩ => hj (ent_out h (Or.inl hi)))
  have a := k 0; have b := k 1; have c := k 2; have d := k 3
  unfold cnt
  rcases Nat.lt_or_ge n 4 with hn | hn
  · have d := z 3 (by omega)
    rcases Nat.lt_or_ge n 3 with hn | hn
    · have d := z 2 (by omega)
      rcases Nat.lt_or_ge n 2 with hn | hn
      · have d := z 1 (by omega)
        rcases Nat.lt_or_ge n 1 with hn | hn
        · have d := z 0 (by omega)
          omega
        · omega
      · omega
    · omega
  · omega
theorem ker4 {B : Mat} {n : Nat} {w : Row} (h : Rect B n n) (h4 : n ≤ 4) (k : Ker B w) (p : Nat) : ent B p 0 * w.getD 0 0 + ent B p 1 * w.getD 1 0 + ent B p 2 * w.getD 2 0 + ent B p 3 * w.getD 3 0 = 0 := by
  have := k p
  rw [dot_vof _ _ (by
    by_cases hp : p < n
    · rw [h.row hp]; exact h4
    · rw [getD_out (l := B) (by rw [h.1]; omega)]; exact Nat.zero_le _)] at this
  exact this
theorem ker_two {B : Mat} {n : Nat} {w : Row} (h : Rect B n n) (h4 : n ≤ 4) (s : Sym B) (k : Ker B w) (hw : ∀ i, i < n → 0 < w.getD i 0) {p : Nat} (hp : p < n) (nz : ent B p p ≠ 0) : 2 ≤ cnt B := by
  have np : NZ B p := ⟨p, nz⟩
  by_cases hq : ∃ q, q < 4 ∧ q ≠ p ∧ NZ B q
  · obtain ⟨q, q4, qp, nq⟩ := hq
    exact cnt_two (by omega) q4 (fun e => qp e.symm) np nq
  · exfalso
    have z : ∀ q, q < 4 → q ≠ p → ent B p q = 0 := fun q q4 qp => by
      rw [s p q]
      exact nz_of (fun nq => hq ⟨q, q4, qp, nq⟩) p
    have e := ker4 h h4 k p
    have hwp := hw p hp
    have z0 := z 0 (by omega); have z1 := z 1 (by omega); have z2 := z 2 (by omega); have z3 := z 3 (by omega)
    clear z hq np
    have : ent B p p * w.getD p 0 = 0 := by
      rcases four (show p < 4 by omega) with r | r | r | r <;> subst r <;> grind
    rcases Rat.mul_eq_zero.mp this with y | y
    · exact nz y
    · rw [y] at hwp; exact absurd hwp (by decide)
theorem ker_three {B : Mat} {n : Nat} {w : Row} (h : Rect B n n) (h4 : n ≤ 4) (s : Sym B) (k : Ker B w) (hw : ∀ i, i < n → 0 < w.getD i 0) {i j : Nat} (hi : i < j) (hj : j < n) (dz : ∀ p, ent B p p = 0) (nz : ent B i j ≠ 0) : 3 ≤ cnt B := by
  have ni : NZ B i := ⟨j, nz⟩
  have nj : NZ B j := ⟨i, by rw [s j i]; exact nz⟩
  by_cases hq : ∃ q, q < 4 ∧ q ≠ i ∧ q ≠ j ∧ NZ B q
  · obtain ⟨q, q4, qi, qj, nq⟩ := hq
    exact cnt_three (by omega) (by omega) q4 (by omega) (fun e => qi e.symm) (fun e => qj e.symm) ni nj nq
  · exfalso
    have z : ∀ q, q < 4 → q ≠ i → q ≠ j → ent B i q = 0 := fun q q4 qi qj => by
      rw [s i q]
      exact nz_of (fun nq => hq ⟨q, q4, qi, qj, nq⟩) i
    have e := ker4 h h4 k i
    have hwj := hw j hj
    have di := dz i
    have z0 := z 0 (by omega); have z1 := z 1 (by omega); have z2 := z 2 (by omega); have z3 := z 3 (by omega)
    clear z hq ni nj dz
    have : ent B i j * w.getD j 0 = 0 := by
      rcases four (show i < 4 by omega) with r | r | r | r <;> rcases four (show j < 4 by omega) with t | t | t | t <;> subst r t <;> first | omega | grind
    rcases Rat.mul_eq_zero.mp this with y | y
    · exact nz y
    · rw [y] at hwj; exact absurd hwj (by decide)
end OC
set_option maxHeartbeats 4000000
/-! OcK3: all squares of a table that weights make nought of. -/
namespace OC
open V4 S4
def sqE : Sqs → Nat → Nat → Rat
  | [], _, _ => 0
  | s :: t, i, j => s.1 * (s.2.getD i 0 * s.2.getD j 0) + sqE t i j
/-- any values are made by some list -/
def Sur (n : Nat) (F : Mat) : Prop := ∀ t : Nat → Rat, ∃ u : Row, u.length = n ∧ ∀ i, i < F.length → dot (F.getD i []) u = t i
structure Good (n : Nat) (w : Row) (B : Mat) (s : Sqs) : Prop where
  len : s.length ≤ cnt B - 1
  eq : ∀ i j, ent B i j = sqE s i j
  fl : ∀ q ∈ s, q.2.length = n
  fw : ∀ q ∈ s, dot q.2 w = 0
  nz : ∀ q ∈ s, q.1 ≠ 0
  zr : ∀ q ∈ s, ∀ i, ¬NZ B i → q.2.getD i 0 = 0
  sur : Sur n (s.map (·.2))
theorem good_nil {n : Nat} {w : Row} {B : Mat} (h : ∀ i j, ent B i j = 0) : Good n w B [] where
  len := Nat.zero_le _
  eq := h
  fl := fun q hq => nomatch hq
  fw := fun q hq => nomatch hq
  nz := fun q hq => nomatch hq
  zr := fun q hq => nomatch hq
  sur := fun t => ⟨List.replicate n 0, List.length_replicate, fun i hi => nomatch hi⟩
theorem inv_ne {x : Rat} (h : x ≠ 0) : 1 / x * x = 1 := Rat.div_mul_cancel h
theorem div_ne {x y : Rat} (h : x ≠ 0) : y / x * x = y := Rat.div_mul_cancel h
theorem inv_nz {x : Rat} (h : x ≠ 0) : 1 / x ≠ 0 := fun z => by
  have := inv_ne h
  rw [z] at this
  grind
section
variable {n : Nat} {w : Row} {B : Mat}
theorem one_facts (h : Rect B n n) (h4 : n ≤ 4) (s : Sym B) (k : Ker B w) (hw : ∀ i, i < n → 0 < w.getD i 0) {p : Nat} (hp : p < n) (nz : ent B p p ≠ 0) :
    (∀ i j, ent (lessSq B (1 / ent B p p) (B.getD p [])) i j = ent B i j - ent B p j * (1 / ent B p p * ent B p i)) ∧
    (∀ i, NZ (lessSq B (1 / ent B p p) (B.getD p [])) i → NZ B i) ∧ ¬NZ (lessSq B (1 / ent B p p) (B.getD p [])) p ∧
    Rect (lessSq B (1 / ent B p p) (B.getD p [])) n n ∧ Sym (lessSq B (1 / ent B p p) (B.getD p [])) ∧ Ker (lessSq B (1 / ent B p p) (B.getD p [])) w ∧
    cnt (lessSq B (1 / ent B p p) (B.getD p [])) + 1 ≤ cnt B := by
  have hf := h.row hp
  have e := fun i j => ent_lessSq h hf (1 / ent B p p) i j
  have up : ∀ i, NZ (lessSq B (1 / ent B p p) (B.getD p [])) i → NZ B i := by
    intro i ⟨j, hj⟩
    by_cases z : NZ B i
    · exact z
    · exfalso
      apply hj
      rw [e, nz_of z j]
      have : (B.getD p []).getD i 0 = 0 := by
        show ent B p i = 0
        rw [s p i]; exact nz_of z p
      rw [this]; grind
  have zp : ¬NZ (lessSq B (1 / ent B p p) (B.getD p [])) p := by
    rintro ⟨j, hj⟩
    apply hj
    rw [e]
    show ent B p j - ent B p j * (1 / ent B p p * ent B p p) = 0
    rw [inv_ne nz]; grind
  exact ⟨e, up, zp, lessSq_rect h hf _, s.less h hf _, k.less h hf (k p) _, cnt_down (by omega) up zp ⟨p, nz⟩⟩
theorem good_one (h : Rect B n n) (h4 : n ≤ 4) (s : Sym B) (k : Ker B w) (hw : ∀ i, i < n → 0 < w.getD i 0) {p : Nat} (hp : p < n) (nz : ent B p p ≠ 0) {t : Sqs}
    (g : Good n w (lessSq B (1 / ent B p p) (B.getD p [])) t) : Good n w B ((1 / ent B p p, B.getD p []) :: t) := by
  obtain ⟨e, up, zp, hr, hs, hk, hc⟩ := one_facts h h4 s k hw hp nz
  have c2 := ker_two h h4 s k hw hp nz
  generalize hB : lessSq B (1 / ent B p p) (B.getD p []) = B' at *
  refine ⟨?_, ?_, ?_, ?_, ?_, ?_, ?_⟩
  · have := g.len
    rw [List.length_cons]; omega
  · intro i j
    show ent B i j = 1 / ent B p p * (ent B p i * ent B p j) + sqE t i j
    rw [← g.eq i j, e]; grind
  · intro q hq
    rcases List.mem_cons.mp hq with z | z
    · rw [z]; exact h.row hp
    · exact g.fl q z
  · intro q hq
    rcases List.mem_cons.mp hq with z | z
    · rw [z]; exact k p
    · exact g.fw q z
  · intro q hq
    rcases List.mem_cons.mp hq with z | z
    · rw [z]; exact inv_nz nz
    · exact g.nz q z
  · intro q hq i hi
    rcases List.mem_cons.mp hq with z | z
    · rw [z]
      show ent B p i = 0
      rw [s p i]; exact nz_of hi p
    · exact g.zr q z i (fun y => hi (up i y))
  · intro tt
    obtain ⟨u, ul, hu⟩ := g.sur fun i => tt (i + 1)
    have hpu : p < u.length := by omega
    refine ⟨u.set p (u.getD p 0 + (tt 0 - dot (B.getD p []) u) / ent B p p), by rw [List.length_set]; exact ul, fun i hi => ?_⟩
    rw [dot_set _ _ _ _ hpu]
    cases i with
    | zero =>
      show dot (B.getD p []) u + ent B p p * _ = _
      have := div_ne (y := tt 0 - dot (B.getD p []) u) nz
      generalize (tt 0 - dot (B.getD p []) u) / ent B p p = y at *
      grind
    | succ i =>
      have hi' : i < (t.map (·.2)).length := by simpa using hi
      have e1 : (List.map (·.2) ((1 / ent B p p, B.getD p []) :: t)).getD (i + 1) [] = (t.map (·.2)).getD i [] := rfl
      rw [e1, hu i hi']
      have : ((t.map (·.2)).getD i []).getD p 0 = 0 := by
        obtain ⟨q, hq, eq⟩ := List.mem_map.mp (mem_getD (b := []) hi')
        rw [← eq]; exact g.zr q hq p zp
      rw [this]; grind
theorem addR_getD {a b : Row} (j : Nat) (h : a.length = b.length) : (addR a b).getD j 0 = a.getD j 0 + b.getD j 0 := zw_getD (g := (· + ·)) (by grind) j h
theorem subR_getD {a b : Row} (j : Nat) (h : a.length = b.length) : (subR a b).getD j 0 = a.getD j 0 - b.getD j 0 := zw_getD (g := (· - ·)) (by grind) j h
/-- the table without the two squares of a pair -/
def less2 (B : Mat) (i j : Nat) : Mat := lessSq (lessSq B (1 / (ent B i j * 2)) (addR (B.getD i []) (B.getD j []))) (-(1 / (ent B i j * 2))) (subR (B.getD i []) (B.getD j []))
theorem two_facts (h : Rect B n n) (h4 : n ≤ 4) (s : Sym B) (k : Ker B w) (hw : ∀ i, i < n → 0 < w.getD i 0) {a b : Nat} (hab : a < b) (hb : b < n) (dz : ∀ p, ent B p p = 0) (nz : ent B a b ≠ 0) :
    (∀ i j, ent (less2 B a b) i j = ent B i j - 1 / ent B a b * (ent B a i * ent B b j + ent B b i * ent B a j)) ∧
    (∀ i, NZ (less2 B a b) i → NZ B i) ∧ ¬NZ (less2 B a b) a ∧ ¬NZ (less2 B a b) b ∧
    Rect (less2 B a b) n n ∧ Sym (less2 B a b) ∧ Ker (less2 B a b) w ∧ cnt (less2 B a b) + 2 ≤ cnt B ∧
    dot (addR (B.getD a []) (B.getD b [])) w = 0 ∧ dot (subR (B.getD a []) (B.getD b [])) w = 0 ∧ (addR (B.getD a []) (B.getD b [])).length = n ∧ (subR (B.getD a []) (B.getD b [])).length = n ∧
    (∀ i, (addR (B.getD a []) (B.getD b [])).getD i 0 = ent B a i + ent B b i) ∧ (∀ i, (subR (B.getD a []) (B.getD b [])).getD i 0 = ent B a i - ent B b i) := by
  have ha' := h.row (show a < n by omega)
  have hb' := h.row hb
  have hl : (B.getD a []).length = (B.getD b []).length := by rw [ha', hb']
  have f1 : (addR (B.getD a []) (B.getD b [])).length = n := by unfold addR; rw [List.length_zipWith, ha', hb', Nat.min_self]
  have f2 : (subR (B.getD a []) (B.getD b [])).length = n := by unfold subR; rw [List.length_zipWith, ha', hb', Nat.min_self]
  have d1 : dot (addR (B.getD a []) (B.getD b [])) w = 0 := by rw [dot_addR w hl, k a, k b]; grind
  have d2 : dot (subR (B.getD a []) (B.getD b [])) w = 0 := by rw [dot_subR w hl, k a, k b]; grind
  have g1 : ∀ i, (addR (B.getD a []) (B.getD b [])).getD i 0 = ent B a i + ent B b i := fun i => addR_getD i hl
  have g2 : ∀ i, (subR (B.getD a []) (B.getD b [])).getD i 0 = ent B a i - ent B b i := fun i => subR_getD i hl
  have r1 := lessSq_rect h f1 (1 / (ent B a b * 2))
  have hh : 1 / (ent B a b * 2) * 2 = 1 / ent B a b := by
    have h1 := inv_ne (x := ent B a b * 2) (by grind)
    have h2 := inv_ne nz
    have : ent B a b * (1 / (ent B a b * 2) * 2 - 1 / ent B a b) = 0 := by grind
    rcases Rat.mul_eq_zero.mp this with z | z
    · exact absurd z nz
    · grind
  have e : ∀ i j, ent (less2 B a b) i j = ent B i j - 1 / ent B a b * (ent B a i * ent B b j + ent B b i * ent B a j) := by
    intro i j
    unfold less2
    rw [ent_lessSq r1 f2, ent_lessSq h f1, g1, g1, g2, g2, ← hh]
    grind
  have up : ∀ i, NZ (less2 B a b) i → NZ B i := by
    intro i ⟨j, hj⟩
    by_cases z : NZ B i
    · exact z
    · exfalso
      apply hj
      rw [e, nz_of z j, s a i, nz_of z a, s b i, nz_of z b]
      grind
  have za : ¬NZ (less2 B a b) a := by
    rintro ⟨j, hj⟩
    apply hj
    rw [e, dz a, s b a]
    have := inv_ne nz
    generalize 1 / ent B a b = y at *
    grind
  have zb : ¬NZ (less2 B a b) b := by
    rintro ⟨j, hj⟩
    apply hj
    rw [e, dz b]
    have := inv_ne nz
    generalize 1 / ent B a b = y at *
    grind
  refine ⟨e, up, za, zb, lessSq_rect r1 f2 _, (s.less h f1 _).less r1 f2 _, (k.less h f1 d1 _).less r1 f2 d2 _, ?_, d1, d2, f1, f2, g1, g2⟩
  exact cnt_down2 (p := a) (q := b) (by omega) (by omega) (by omega) up za ⟨b, nz⟩ zb ⟨a, by rw [s b a]; exact nz⟩
theorem good_two (h : Rect B n n) (h4 : n ≤ 4) (s : Sym B) (k : Ker B w) (hw : ∀ i, i < n → 0 < w.getD i 0) {a b : Nat} (hab : a < b) (hb : b < n) (dz : ∀ p, ent B p p = 0) (nz : ent B a b ≠ 0) {t : Sqs}
    (g : Good n w (less2 B a b) t) : Good n w B ((1 / (ent B a b * 2), addR (B.getD a []) (B.getD b [])) :: (-(1 / (ent B a b * 2)), subR (B.getD a []) (B.getD b [])) :: t) := by
  obtain ⟨e, up, za, zb, hr, hs, hk, hc, d1, d2, f1, f2, g1, g2⟩ := two_facts h h4 s k hw hab hb dz nz
  have c2 := ker_three h h4 s k hw hab hb dz nz
  have nz2 : ent B a b * 2 ≠ 0 := by grind
  have hh : 1 / (ent B a b * 2) * 2 = 1 / ent B a b := by
    have h1 := inv_ne nz2
    have h2 := inv_ne nz
    have : ent B a b * (1 / (ent B a b * 2) * 2 - 1 / ent B a b) = 0 := by grind
    rcases Rat.mul_eq_zero.mp this with z | z
    · exact absurd z nz
    · grind
  generalize hB : less2 B a b = B' at *
  refine ⟨?_, ?_, ?_, ?_, ?_, ?_, ?_⟩
  · have := g.len
    rw [List.length_cons, List.length_cons]; omega
  · intro i j
    unfold sqE
    unfold sqE
    rw [← g.eq i j, e]
    simp only [g1, g2]
    rw [← hh]; grind
  · intro q hq
    rcases List.mem_cons.mp hq with z | hq
    · rw [z]; exact f1
    rcases List.mem_cons.mp hq with z | z
    · rw [z]; exact f2
    · exact g.fl q z
  · intro q hq
    rcases List.mem_cons.mp hq with z | hq
    · rw [z]; exact d1
    rcases List.mem_cons.mp hq with z | z
    · rw [z]; exact d2
    · exact g.fw q z
  · intro q hq
    have := inv_nz nz2
    rcases List.mem_cons.mp hq with z | hq
    · rw [z]; exact this
    rcases List.mem_cons.mp hq with z | z
    · rw [z]
      intro y
      apply this
      have y' : -(1 / (ent B a b * 2)) = 0 := y
      grind
    · exact g.nz q z
  · intro q hq i hi
    have ea : ent B a i = 0 := by rw [s a i]; exact nz_of hi a
    have eb : ent B b i = 0 := by rw [s b i]; exact nz_of hi b
    rcases List.mem_cons.mp hq with z | hq
    · rw [z]
      show (addR (B.getD a []) (B.getD b [])).getD i 0 = 0
      rw [g1, ea, eb]; grind
    rcases List.mem_cons.mp hq with z | z
    · rw [z]
      show (subR (B.getD a []) (B.getD b [])).getD i 0 = 0
      rw [g2, ea, eb]; grind
    · exact g.zr q z i (fun y => hi (up i y))
  · intro tt
    obtain ⟨u, ul, hu⟩ := g.sur fun i => tt (i + 2)
    have hau : a < u.length := by omega
    have hbu : b < u.length := by omega
    generalize hX : tt 0 - dot (addR (B.getD a []) (B.getD b [])) u = X
    generalize hY : tt 1 - dot (subR (B.getD a []) (B.getD b [])) u = Y
    -- the moves at the two places
    have m1 : ∃ x y : Rat, ent B a b * (x + y) = X ∧ ent B a b * (y - x) = Y := by
      refine ⟨(X - Y) / (ent B a b * 2), (X + Y) / (ent B a b * 2), ?_, ?_⟩
      · have k1 := div_ne (y := X - Y) nz2
        have k2 := div_ne (y := X + Y) nz2
        generalize (X - Y) / (ent B a b * 2) = x1 at *
        generalize (X + Y) / (ent B a b * 2) = x2 at *
        grind
      · have k1 := div_ne (y := X - Y) nz2
        have k2 := div_ne (y := X + Y) nz2
        generalize (X - Y) / (ent B a b * 2) = x1 at *
        generalize (X + Y) / (ent B a b * 2) = x2 at *
        grind
    obtain ⟨x, y, mx, my⟩ := m1
    refine ⟨(u.set a (u.getD a 0 + x)).set b ((u.set a (u.getD a 0 + x)).getD b 0 + y), by rw [List.length_set, List.length_set]; exact ul, fun i hi => ?_⟩
    rw [dot_set _ _ _ _ (by rw [List.length_set]; exact hbu), dot_set _ _ _ _ hau]
    generalize (u.set a (u.getD a 0 + x)).getD b 0 = z
    match i with
    | 0 =>
      show dot (addR (B.getD a []) (B.getD b [])) u + (addR (B.getD a []) (B.getD b [])).getD a 0 * _ + (addR (B.getD a []) (B.getD b [])).getD b 0 * _ = _
      rw [g1, g1, dz a, dz b, s b a]
      grind
    | 1 =>
      show dot (subR (B.getD a []) (B.getD b [])) u + (subR (B.getD a []) (B.getD b [])).getD a 0 * _ + (subR (B.getD a []) (B.getD b [])).getD b 0 * _ = _
      rw [g2, g2, dz a, dz b, s b a]
      grind
    | i + 2 =>
      have hi' : i < (t.map (·.2)).length := by simpa using hi
      have e1 : ∀ A1 A2 : Rat × Row, (List.map (·.2) (A1 :: A2 :: t)).getD (i + 2) [] = (t.map (·.2)).getD i [] := fun _ _ => rfl
      rw [e1, hu i hi']
      have k1 : ∀ p, ¬NZ B' p → ((t.map (·.2)).getD i []).getD p 0 = 0 := by
        intro p hp
        obtain ⟨q, hq, eq⟩ := List.mem_map.mp (mem_getD (b := []) hi')
        rw [← eq]; exact g.zr q hq p hp
      rw [k1 a za, k1 b zb]; grind
theorem lessAll_one (c : Rat) (f : Row) : lessAll B [(c, f)] = lessSq B c f := rfl
theorem lessAll_two (a b : Nat) : lessAll B [(1 / (ent B a b * 2), addR (B.getD a []) (B.getD b [])), (-(1 / (ent B a b * 2)), subR (B.getD a []) (B.getD b []))] = less2 B a b := rfl
theorem sqLoop_nil {k : Nat} {B : Mat} (e : nextSq B = []) : sqLoop k B = [] := by
  cases k with
  | zero => rfl
  | succ k => unfold sqLoop; rw [e]
theorem sqLoop_cons {k : Nat} {B : Mat} {a : Rat × Row} {l : Sqs} (e : nextSq B = a :: l) : sqLoop (k + 1) B = (a :: l) ++ sqLoop k (lessAll B (a :: l)) := by
  conv => lhs; unfold sqLoop
  rw [e]
theorem cnt_zero (h : Rect B n n) (h4 : n ≤ 4) (hc : cnt B ≤ 0) (i j : Nat) : ent B i j = 0 := by
  by_cases hi : i < n
  · by_cases z : ent B i j = 0
    · exact z
    · have := ind_one (B := B) (i := i) ⟨j, z⟩
      unfold cnt at hc
      rcases four (show i < 4 by omega) with r | r | r | r <;> subst r <;> omega
  · exact ent_out h (Or.inl (by omega))
theorem sq_good : ∀ (k : Nat) (B : Mat), Rect B n n → n ≤ 4 → Sym B → Ker B w → (∀ i, i < n → 0 < w.getD i 0) → cnt B ≤ k → Good n w B (sqLoop k B)
  | 0, B, h, h4, s, kk, hw, hc => good_nil (cnt_zero h h4 hc)
  | k + 1, B, h, h4, s, kk, hw, hc => by
    rcases next_cases h s with ⟨e, z⟩ | ⟨p, hp, nz, e⟩ | ⟨a, b, hab, hb, dz, nz, e⟩
    · rw [sqLoop_nil e]; exact good_nil z
    · rw [sqLoop_cons e, lessAll_one]
      obtain ⟨e', up, zp, hr, hs, hk, hc'⟩ := one_facts h h4 s kk hw hp nz
      exact good_one h h4 s kk hw hp nz (sq_good k _ hr h4 hs hk hw (by omega))
    · rw [sqLoop_cons e, lessAll_two]
      obtain ⟨e', up, za, zb, hr, hs, hk, hc', _⟩ := two_facts h h4 s kk hw hab hb dz nz
      exact good_two h h4 s kk hw hab hb dz nz (sq_good k _ hr h4 hs hk hw (by omega))
end
end OC
set_option maxHeartbeats 4000000
/-! OcK4: steps down and steps back: the list that forms make values of. -/
namespace OC
theorem dot_zero : ∀ (r v : Row), (∀ c, c < v.length → r.getD c 0 = 0) → dot r v = 0
  | [], v, _ => dot_nil v
  | a :: r, [], _ => dot_nil' _
  | a :: r, b :: v, h => by
    have h0 : a = 0 := h 0 (by simp)
    rw [dot_cons, h0, dot_zero r v (fun c hc => h (c + 1) (by simpa using hc))]; grind
theorem dot_take : ∀ (r v : Row) (n : Nat), v.length ≤ n → dot (r.take n) v = dot r v
  | [], v, n, _ => by rw [List.take_nil]
  | a :: r, [], n, _ => by rw [dot_nil', dot_nil']
  | a :: r, b :: v, n + 1, h => by
    rw [List.take_succ_cons, dot_cons, dot_cons, dot_take r v n (by simpa using h)]
  | a :: r, b :: v, 0, h => by simp at h
theorem getD_app (f : Row) (v : Rat) (j : Nat) : (f ++ [v]).getD j 0 = if j < f.length then f.getD j 0 else if j = f.length then v else 0 := by
  rw [List.getD_eq_getElem?_getD, List.getD_eq_getElem?_getD, List.getElem?_append]
  split
  · rfl
  · split
    · rename_i h1 h2
      subst h2
      simp
    · rename_i h1 h2
      rw [List.getElem?_eq_none (by simp; omega)]
      rfl
theorem dot_app (f : Row) (v : Rat) (u : Row) (h : u.length ≤ f.length) : dot (f ++ [v]) u = dot f u := by
  have h1 := dot_take (f ++ [v]) u f.length h
  rw [List.take_left] at h1
  exact h1.symm
theorem swap_getD {A : Mat} {b p i : Nat} (hb : b < A.length) (hp : p < A.length) : (swapR A b p).getD i [] = if i = p then A.getD b [] else if i = b then A.getD p [] else A.getD i [] := by
  unfold swapR
  rw [set_getD (by rw [List.length_set]; exact hp), set_getD hb]
/-! ### what the steps keep -/
/-- any values are made, the last column left out -/
def SurN (n : Nat) (M : Mat) : Prop := ∀ t : Nat → Rat, ∃ u : Row, u.length = n ∧ ∀ i, i < M.length → dot (M.getD i []) u = t i
def SolN (n : Nat) (M : Mat) (x : Row) : Prop := ∀ i, i < M.length → dot (M.getD i []) x = (M.getD i []).getD n 0
section
variable {n r : Nat}
theorem sur_swap {M : Mat} {b p : Nat} (hb : b < M.length) (hp : p < M.length) (h : SurN n M) : SurN n (swapR M b p) := by
  intro t
  obtain ⟨u, ul, hu⟩ := h fun i => t (if i = p then b else if i = b then p else i)
  refine ⟨u, ul, fun i hi => ?_⟩
  have hi' : i < M.length := by unfold swapR at hi; rwa [List.length_set, List.length_set] at hi
  rw [swap_getD hb hp]
  split
  · rename_i e
    rw [hu b hb]
    congr 1
    split
    · rename_i e2; omega
    · rw [if_pos rfl]; exact e.symm
  · split
    · rename_i e1 e2
      rw [hu p hp, if_pos rfl]
      congr 1
      exact e2.symm
    · rename_i e1 e2
      rw [hu i hi', if_neg e1, if_neg e2]
theorem sol_swap {M : Mat} {b p : Nat} {x : Row} (hb : b < M.length) (hp : p < M.length) (h : SolN n (swapR M b p) x) : SolN n M x := by
  have hl : (swapR M b p).length = M.length := by unfold swapR; rw [List.length_set, List.length_set]
  intro i hi
  have hbb := h b (by rw [hl]; exact hb)
  have hpp := h p (by rw [hl]; exact hp)
  have hii := h i (by rw [hl]; exact hi)
  rw [swap_getD hb hp] at hbb hpp hii
  rw [if_pos rfl] at hpp
  by_cases e1 : i = b
  · subst e1; exact hpp
  by_cases e2 : i = p
  · subst e2
    rw [if_neg (fun e => e1 e.symm), if_pos rfl] at hbb
    exact hbb
  · rw [if_neg e2, if_neg e1] at hii
    exact hii
theorem elim_row {M : Mat} (hM : Rect M r (n + 1)) {b c : Nat} (hb : b < r) {i : Nat} (hi : i < r) : ∃ k : Rat, (i ≤ b → k = 0) ∧ (∀ u : Row, dot ((elim b c (M.getD b []) M.length M).getD i []) u = dot (M.getD i []) u - k * dot (M.getD b []) u) ∧
    (∀ j, ((elim b c (M.getD b []) M.length M).getD i []).getD j 0 = (M.getD i []).getD j 0 - k * (M.getD b []).getD j 0) ∧ (b < i → ent M b c ≠ 0 → k * ent M b c = ent M i c) := by
  have hi' : i < M.length := by rw [hM.1]; exact hi
  have hl : (M.getD i []).length = (M.getD b []).length := by rw [hM.row hi, hM.row hb]
  rw [elim_get hi']
  by_cases h : b < i ∧ i < M.length ∧ (M.getD i []).getD c 0 ≠ 0
  · rw [if_pos h]
    refine ⟨(M.getD i []).getD c 0 / (M.getD b []).getD c 0, fun y => by omega, fun u => dot_lessR _ u hl, fun j => ?_, fun _ nz => div_ne nz⟩
    rw [lessR_getD _ _ hl]; grind
  · rw [if_neg h]
    refine ⟨0, fun _ => rfl, fun u => by grind, fun j => by grind, fun hbi nz => ?_⟩
    have : (M.getD i []).getD c 0 = 0 := by
      by_cases z : (M.getD i []).getD c 0 = 0
      · exact z
      · exact absurd ⟨hbi, hi', z⟩ h
    show 0 * _ = (M.getD i []).getD c 0
    rw [this]; grind
theorem elim_self {M : Mat} {b c m : Nat} (hb : b < M.length) (top : Row) : (elim b c top m M).getD b [] = M.getD b [] := by
  rw [elim_get hb, if_neg (by omega)]
theorem sur_elim {M : Mat} (hM : Rect M r (n + 1)) {b c : Nat} (hb : b < r) (h : SurN n M) : SurN n (elim b c (M.getD b []) M.length M) := by
  intro t
  have hk : ∀ i, ∃ k : Rat, i < r → (i ≤ b → k = 0) ∧ ∀ u : Row, dot ((elim b c (M.getD b []) M.length M).getD i []) u = dot (M.getD i []) u - k * dot (M.getD b []) u := by
    intro i
    by_cases hi : i < r
    · obtain ⟨k, k1, k2, _⟩ := elim_row hM (c := c) hb hi
      exact ⟨k, fun _ => ⟨k1, k2⟩⟩
    · exact ⟨0, fun y => absurd y hi⟩
  obtain ⟨u, ul, hu⟩ := h fun i => t i + (hk i).choose * t b
  refine ⟨u, ul, fun i hi => ?_⟩
  rw [elim_length, hM.1] at hi
  obtain ⟨k1, k2⟩ := (hk i).choose_spec hi
  obtain ⟨k1b, _⟩ := (hk b).choose_spec hb
  rw [k2, hu i (by rw [hM.1]; exact hi), hu b (by rw [hM.1]; exact hb), k1b (Nat.le_refl _)]
  grind
theorem sol_elim {M : Mat} (hM : Rect M r (n + 1)) {b c : Nat} (hb : b < r) {x : Row} (h : SolN n (elim b c (M.getD b []) M.length M) x) : SolN n M x := by
  have hbM : b < M.length := by rw [hM.1]; exact hb
  have hbb := h b (by rw [elim_length]; exact hbM)
  rw [elim_self hbM] at hbb
  intro i hi
  obtain ⟨k, k1, k2, k3, _⟩ := elim_row hM (c := c) hb (show i < r by rw [← hM.1]; exact hi)
  have hii := h i (by rw [elim_length]; exact hi)
  rw [k2, k3, hbb] at hii
  grind
/-- rows in steps -/
structure Ech (n r k : Nat) (L : Mat) (cols : List Nat) : Prop where
  rect : Rect L r (n + 1)
  cl : cols.length ≤ r
  lt : ∀ a, a < cols.length → cols.getD a 0 < k
  inc : ∀ a b, a < b → b < cols.length → cols.getD a 0 < cols.getD b 0
  low : ∀ i, cols.length ≤ i → ∀ c, c < k → ent L i c = 0
  left : ∀ a, a < cols.length → ∀ c, c < cols.getD a 0 → ent L a c = 0
  piv : ∀ a, a < cols.length → ent L a (cols.getD a 0) ≠ 0
theorem getD_snoc {α : Type} (l : List α) (x d : α) (a : Nat) : (l ++ [x]).getD a d = if a < l.length then l.getD a d else if a = l.length then x else d := by
  rw [List.getD_eq_getElem?_getD, List.getD_eq_getElem?_getD, List.getElem?_append]
  split
  · rfl
  · split
    · rename_i h1 h2
      subst h2
      simp
    · rename_i h1 h2
      rw [List.getElem?_eq_none (by simp; omega)]
      rfl
theorem ech_zero {M : Mat} (h : Rect M r (n + 1)) : Ech n r 0 M [] where
  rect := h
  cl := Nat.zero_le _
  lt := fun a h => nomatch h
  inc := fun a b _ h => nomatch h
  low := fun i _ c hc => nomatch hc
  left := fun a h => nomatch h
  piv := fun a h => nomatch h
/-- the rows after the swap -/
def swp (st : Stt) (p : Nat) : Mat := if p ≠ st.2.1.length then swapR st.1 st.2.1.length p else st.1
theorem stepCol_some {st : Stt} {c p : Nat} (e : pivotAt st.1 st.2.1.length c = some p) : (stepCol st c).1 = elim st.2.1.length c ((swp st p).getD st.2.1.length []) (swp st p).length (swp st p) ∧ (stepCol st c).2.1 = st.2.1 ++ [c] := by
  unfold stepCol
  rw [e]
  exact ⟨rfl, rfl⟩
theorem stepCol_none {st : Stt} {c : Nat} (e : pivotAt st.1 st.2.1.length c = none) : stepCol st c = st := by
  unfold stepCol
  rw [e]
theorem swp_rect {st : Stt} {p : Nat} (h : Rect st.1 r (n + 1)) (hb : st.2.1.length < r) (hp : p < r) : Rect (swp st p) r (n + 1) := by
  unfold swp
  split
  · exact h.swap hb hp
  · exact h
theorem swp_getD {st : Stt} {p i : Nat} (h : Rect st.1 r (n + 1)) (hb : st.2.1.length < r) (hp : p < r) : (swp st p).getD i [] = if i = st.2.1.length then st.1.getD p [] else if i = p then st.1.getD st.2.1.length [] else st.1.getD i [] := by
  unfold swp
  by_cases e : p ≠ st.2.1.length
  · rw [if_pos e, swap_getD (by rw [h.1]; exact hb) (by rw [h.1]; exact hp)]
    by_cases e1 : i = p
    · rw [if_pos e1, if_neg (by omega), if_pos e1]
    · rw [if_neg e1]
      by_cases e2 : i = st.2.1.length
      · rw [if_pos e2, if_pos e2]
      · rw [if_neg e2, if_neg e2, if_neg e1]
  · have e' : p = st.2.1.length := by omega
    rw [if_neg e]
    by_cases e1 : i = st.2.1.length
    · rw [if_pos e1, e1, e']
    · rw [if_neg e1, if_neg (by omega)]
theorem ent_out' {A : Mat} {n m i j : Nat} (h : Rect A n m) (hi : n ≤ i) : ent A i j = 0 := by
  unfold ent
  rw [getD_out (l := A) (by rw [h.1]; exact hi)]; rfl
theorem ech_step {k : Nat} {st : Stt} (h : Ech n r k st.1 st.2.1) : Ech n r (k + 1) (stepCol st k).1 (stepCol st k).2.1 := by
  cases e : pivotAt st.1 st.2.1.length k with
  | none =>
    rw [stepCol_none e]
    refine ⟨h.rect, h.cl, fun a ha => Nat.lt_succ_of_lt (h.lt a ha), h.inc, fun i hi c hc => ?_, h.left, h.piv⟩
    rcases Nat.lt_succ_iff_lt_or_eq.mp hc with hc | hc
    · exact h.low i hi c hc
    · subst hc
      by_cases hir : i < r
      · have := List.find?_eq_none.mp e i (List.mem_range.mpr (by rw [h.rect.1]; exact hir))
        simp only [Bool.and_eq_true, decide_eq_true_eq, not_and] at this
        have := this hi
        by_cases z : ent st.1 i c = 0
        · exact z
        · exact absurd z this
      · exact ent_out' h.rect (by omega)
  | some p =>
    obtain ⟨h1, h2, h3⟩ := pivot_lt e
    rw [h.rect.1] at h1
    have hb : st.2.1.length < r := by omega
    obtain ⟨e1, e2⟩ := stepCol_some e
    have hS := swp_rect h.rect hb h1
    have hbS : st.2.1.length < (swp st p).length := by rw [hS.1]; exact hb
    have hrow := fun i => swp_getD (i := i) h.rect hb h1
    have hbrow : (swp st p).getD st.2.1.length [] = st.1.getD p [] := by rw [hrow, if_pos rfl]
    have zero : ∀ i, st.2.1.length ≤ i → ∀ c, c < k → ent (swp st p) i c = 0 := by
      intro i hi c hc
      unfold ent
      rw [hrow]
      split
      · exact h.low p h2 c hc
      · split
        · exact h.low _ (Nat.le_refl _) c hc
        · exact h.low i hi c hc
    have pk : ent (swp st p) st.2.1.length k ≠ 0 := by
      unfold ent; rw [hbrow]; exact h3
    have same : ∀ a, a < st.2.1.length → (stepCol st k).1.getD a [] = st.1.getD a [] := by
      intro a ha
      rw [e1, elim_get (by omega), if_neg (by omega), hrow, if_neg (by omega), if_neg (by omega)]
    have atb : (stepCol st k).1.getD st.2.1.length [] = (swp st p).getD st.2.1.length [] := by
      rw [e1, elim_self hbS]
    have hl : (stepCol st k).2.1.length = st.2.1.length + 1 := by rw [e2, List.length_append]; rfl
    refine ⟨?_, by omega, ?_, ?_, ?_, ?_, ?_⟩
    · exact (stepCol_facts h.rect h.cl).1
    · intro a ha
      rw [hl] at ha
      rw [e2, getD_snoc]
      split
      · exact Nat.lt_succ_of_lt (h.lt a (by assumption))
      · rw [if_pos (by omega)]; exact Nat.lt_succ_self _
    · intro a b hab hb'
      rw [hl] at hb'
      rw [e2, getD_snoc, getD_snoc, if_pos (by omega)]
      split
      · exact h.inc a b hab (by assumption)
      · rw [if_pos (by omega)]; exact h.lt a (by omega)
    · intro i hi c hc
      rw [hl] at hi
      by_cases hir : i < r
      · obtain ⟨q, q1, q2, q3, q4⟩ := elim_row hS (c := k) hb hir
        show ((stepCol st k).1.getD i []).getD c 0 = 0
        rw [e1, q3]
        rcases Nat.lt_succ_iff_lt_or_eq.mp hc with hc | hc
        · have a1 := zero i (by omega) c hc
          have a2 := zero st.2.1.length (Nat.le_refl _) c hc
          unfold ent at a1 a2
          rw [a1, a2]; grind
        · subst hc
          have := q4 (by omega) pk
          unfold ent at this
          rw [this]; grind
      · exact ent_out' (stepCol_facts h.rect h.cl).1 (by omega)
    · intro a ha c hc
      rw [hl] at ha
      rw [e2, getD_snoc] at hc
      by_cases z : a < st.2.1.length
      · rw [if_pos z] at hc
        show ((stepCol st k).1.getD a []).getD c 0 = 0
        rw [same a z]
        exact h.left a z c hc
      · have : a = st.2.1.length := by omega
        subst this
        rw [if_neg z, if_pos rfl] at hc
        show ((stepCol st k).1.getD st.2.1.length []).getD c 0 = 0
        rw [atb]
        exact zero _ (Nat.le_refl _) c hc
    · intro a ha
      rw [hl] at ha
      rw [e2, getD_snoc]
      by_cases z : a < st.2.1.length
      · rw [if_pos z]
        show ((stepCol st k).1.getD a []).getD _ 0 ≠ 0
        rw [same a z]
        exact h.piv a z
      · have : a = st.2.1.length := by omega
        subst this
        rw [if_neg z, if_pos rfl]
        show ((stepCol st k).1.getD st.2.1.length []).getD _ 0 ≠ 0
        rw [atb]
        exact pk
theorem sur_step {k : Nat} {st : Stt} (h : Ech n r k st.1 st.2.1) (s : SurN n st.1) : SurN n (stepCol st k).1 := by
  cases e : pivotAt st.1 st.2.1.length k with
  | none => rw [stepCol_none e]; exact s
  | some p =>
    obtain ⟨h1, h2, h3⟩ := pivot_lt e
    have hb : st.2.1.length < st.1.length := by omega
    rw [(stepCol_some e).1]
    have hS := swp_rect h.rect (by rw [← h.rect.1]; exact hb) (by rw [← h.rect.1]; exact h1)
    refine sur_elim hS (by rw [← h.rect.1]; exact hb) ?_
    unfold swp
    split
    · exact sur_swap hb h1 s
    · exact s
theorem sol_step {k : Nat} {st : Stt} {x : Row} (h : Ech n r k st.1 st.2.1) (s : SolN n (stepCol st k).1 x) : SolN n st.1 x := by
  cases e : pivotAt st.1 st.2.1.length k with
  | none => rw [stepCol_none e] at s; exact s
  | some p =>
    obtain ⟨h1, h2, h3⟩ := pivot_lt e
    have hb : st.2.1.length < st.1.length := by omega
    rw [(stepCol_some e).1] at s
    have hS := swp_rect h.rect (by rw [← h.rect.1]; exact hb) (by rw [← h.rect.1]; exact h1)
    have s2 := sol_elim hS (by rw [← h.rect.1]; exact hb) s
    unfold swp at s2
    split at s2
    · exact sol_swap hb h1 s2
    · exact s2
theorem steps_all {M : Mat} (h : Rect M r (n + 1)) (s : SurN n M) : ∀ k, Ech n r k (stepsN M k).1 (stepsN M k).2.1 ∧ SurN n (stepsN M k).1 ∧ ∀ x, SolN n (stepsN M k).1 x → SolN n M x
  | 0 => ⟨ech_zero h, s, fun x hx => hx⟩
  | k + 1 => by
    obtain ⟨h1, h2, h3⟩ := steps_all h s k
    rw [stepsN_succ]
    exact ⟨ech_step h1, sur_step h1 h2, fun x hx => h3 x (sol_step h1 hx)⟩
/-- a pivot in each row -/
theorem steps_full {L : Mat} {cols : List Nat} {k : Nat} (hk : n ≤ k) (h : Ech n r k L cols) (s : SurN n L) : cols.length = r := by
  have := h.cl
  by_cases z : cols.length < r
  · exfalso
    obtain ⟨u, ul, hu⟩ := s fun _ => 1
    have h1 := hu cols.length (by rw [h.rect.1]; exact z)
    rw [dot_zero _ _ (fun c hc => h.low cols.length (Nat.le_refl _) c (by omega))] at h1
    exact absurd h1 (by decide)
  · omega
theorem stepsN_last {M : Mat} (h : Rect M r (n + 1)) (s : SurN n M) : stepsN M (n + 1) = stepsN M n := by
  obtain ⟨h1, h2, _⟩ := steps_all h s n
  rw [stepsN_succ]
  refine stepCol_none ?_
  have hf := steps_full (Nat.le_refl _) h1 h2
  refine List.find?_eq_none.mpr fun p hp => ?_
  have := List.mem_range.mp hp
  rw [h1.rect.1] at this
  simp only [Bool.and_eq_true, decide_eq_true_eq, not_and]
  omega
/-! ### back -/
/-- what is found from a row on -/
def bk (L : Mat) (cols : List Nat) (i : Nat) (f0 : Row) : Row := ((L.zip cols).drop i).foldr (fun rc f => backStep f rc) f0
theorem zip_drop {L : Mat} {cols : List Nat} {i : Nat} (h : i < L.length) (h' : i < cols.length) : (L.zip cols).drop i = (L.getD i [], cols.getD i 0) :: (L.zip cols).drop (i + 1) := by
  have hz : i < (L.zip cols).length := by rw [List.length_zip]; omega
  rw [List.drop_eq_getElem_cons hz, List.getElem_zip, getDn (List.getElem?_eq_getElem h), getDn (List.getElem?_eq_getElem h')]
theorem bk_step {L : Mat} {cols : List Nat} {i : Nat} {f0 : Row} (h : i < L.length) (h' : i < cols.length) : bk L cols i f0 = backStep (bk L cols (i + 1) f0) (L.getD i [], cols.getD i 0) := by
  unfold bk
  rw [zip_drop h h', List.foldr_cons]
theorem bk_end {L : Mat} {cols : List Nat} {i : Nat} {f0 : Row} (h : L.length ≤ i) : bk L cols i f0 = f0 := by
  unfold bk
  rw [List.drop_eq_nil_of_le (by rw [List.length_zip]; omega)]
  rfl
structure BkOk (n r : Nat) (L : Mat) (cols : List Nat) (i : Nat) (f : Row) : Prop where
  len : f.length = n
  sol : ∀ a, i ≤ a → a < r → dot (L.getD a []) f = (L.getD a []).getD n 0
  sup : ∀ c, (∀ a, i ≤ a → a < r → cols.getD a 0 ≠ c) → f.getD c 0 = 0
theorem getD_set {f : Row} {c j : Nat} {x : Rat} (hc : c < f.length) : (f.set c x).getD j 0 = if j = c then x else f.getD j 0 := by
  by_cases h : j = c
  · rw [if_pos h, h, getDn (List.getElem?_set_self hc)]
  · rw [if_neg h, List.getD_eq_getElem?_getD, List.getElem?_set_ne (by omega), ← List.getD_eq_getElem?_getD]
theorem bk_ok {L : Mat} {cols : List Nat} (h : Ech n r n L cols) (hf : cols.length = r) : ∀ m i, i + m = r → BkOk n r L cols i (bk L cols i (List.replicate n 0))
  | 0, i, e => by
    rw [bk_end (by rw [h.rect.1]; omega)]
    refine ⟨List.length_replicate, fun a h1 h2 => by omega, fun c _ => ?_⟩
    rw [List.getD_eq_getElem?_getD, List.getElem?_replicate]
    split <;> rfl
  | m + 1, i, e => by
    have ih := bk_ok h hf m (i + 1) (by omega)
    have hi : i < r := by omega
    rw [bk_step (by rw [h.rect.1]; exact hi) (by omega)]
    generalize bk L cols (i + 1) (List.replicate n 0) = f at *
    have hrl : (L.getD i []).length = n + 1 := h.rect.row hi
    have hc : cols.getD i 0 < f.length := by rw [ih.len]; exact h.lt i (by omega)
    have pv := h.piv i (by omega)
    have z0 : f.getD (cols.getD i 0) 0 = 0 := ih.sup _ fun a h1 h2 => by
      have := h.inc i a (by omega) (by omega)
      omega
    unfold backStep
    dsimp only
    rw [hrl, Nat.add_sub_cancel, dot_take _ _ _ (by rw [ih.len]; exact Nat.le_refl _)]
    refine ⟨by rw [List.length_set]; exact ih.len, fun a h1 h2 => ?_, fun c hcc => ?_⟩
    · rw [dot_set _ _ _ _ hc, z0]
      by_cases ea : a = i
      · subst ea
        have := div_ne (y := (L.getD a []).getD n 0 - dot (L.getD a []) f) pv
        unfold ent at this
        generalize ((L.getD a []).getD n 0 - dot (L.getD a []) f) / (L.getD a []).getD (cols.getD a 0) 0 = q at *
        grind
      · have := h.left a (by omega) (cols.getD i 0) (h.inc i a (by omega) (by omega))
        unfold ent at this
        rw [this, ih.sol a (by omega) h2]; grind
    · rw [getD_set hc, if_neg (fun z => hcc i (Nat.le_refl _) hi z.symm)]
      exact ih.sup c fun a h1 h2 => hcc a (by omega) h2
theorem wv_rect {F : Mat} {vs : Row} (hF : Rect F r n) (hv : vs.length = r) : Rect (withVal F vs) r (n + 1) ∧ ∀ i, i < r → (withVal F vs).getD i [] = F.getD i [] ++ [vs.getD i 0] := by
  have hg : ∀ i, i < r → (withVal F vs).getD i [] = F.getD i [] ++ [vs.getD i 0] := by
    intro i hi
    have h1 : i < F.length := by rw [hF.1]; exact hi
    have h2 : i < vs.length := by rw [hv]; exact hi
    unfold withVal
    rw [getDn (a := F[i] ++ [vs[i]]) (by rw [List.getElem?_zipWith, List.getElem?_eq_getElem h1, List.getElem?_eq_getElem h2]), getDn (List.getElem?_eq_getElem h1), getDn (List.getElem?_eq_getElem h2)]
  have hl : (withVal F vs).length = r := by unfold withVal; rw [List.length_zipWith, hF.1, hv, Nat.min_self]
  refine ⟨⟨hl, fun q hq => ?_⟩, hg⟩
  obtain ⟨i, hi, e⟩ := List.mem_iff_getElem.mp hq
  have e2 : (withVal F vs).getD i [] = q := by rw [← e]; exact getDn (List.getElem?_eq_getElem _)
  rw [← e2, hg i (by omega), List.length_append, hF.row (by omega)]
  rfl
theorem sur_withVal {F : Mat} {vs : Row} (hF : Rect F r n) (hv : vs.length = r) (s : Sur n F) : SurN n (withVal F vs) := by
  obtain ⟨hr, hg⟩ := wv_rect hF hv
  intro t
  obtain ⟨u, ul, hu⟩ := s t
  refine ⟨u, ul, fun i hi => ?_⟩
  rw [hr.1] at hi
  rw [hg i hi, dot_app _ _ _ (by rw [hF.row hi, ul]; exact Nat.le_refl _)]
  exact hu i (by rw [hF.1]; exact hi)
theorem listWith_eq {F : Mat} {vs : Row} (h0 : 0 < r) (hF : Rect F r n) (hv : vs.length = r) (s : Sur n F) : listWith F vs = bk (stepsN (withVal F vs) n).1 (stepsN (withVal F vs) n).2.1 0 (List.replicate n 0) := by
  obtain ⟨hr, hg⟩ := wv_rect hF hv
  have e1 : ((withVal F vs).getD 0 []).length = n + 1 := hr.row h0
  have e2 : (F.getD 0 []).length = n := hF.row h0
  unfold listWith bk
  rw [e1, e2, stepsN_last hr (sur_withVal hF hv s)]
  dsimp only
  rw [List.foldl_reverse, List.drop_zero]
/-- the list that forms make values of -/
theorem listWith_ok {F : Mat} {vs : Row} (h0 : 0 < r) (hF : Rect F r n) (hv : vs.length = r) (s : Sur n F) : (listWith F vs).length = n ∧ ∀ i, i < r → dot (F.getD i []) (listWith F vs) = vs.getD i 0 := by
  rw [listWith_eq h0 hF hv s]
  obtain ⟨hr, hg⟩ := wv_rect hF hv
  obtain ⟨h1, h2, h3⟩ := steps_all hr (sur_withVal hF hv s) n
  have hb := bk_ok h1 (steps_full (Nat.le_refl _) h1 h2) r 0 (by omega)
  refine ⟨hb.len, fun i hi => ?_⟩
  have h4 := h3 _ (fun i hi => hb.sol i (Nat.zero_le _) (by rw [← h1.rect.1]; exact hi)) i (by rw [hr.1]; exact hi)
  rw [hg i hi, dot_app _ _ _ (by rw [hF.row hi, hb.len]; exact Nat.le_refl _), getD_app, if_neg (by rw [hF.row hi]; omega), if_pos (hF.row hi).symm] at h4
  exact h4
end
end OC
set_option maxHeartbeats 4000000
/-! OcK5: what level tells, plain. -/
namespace OC
open V4 S4
theorem map_range {r y : Row} {n : Nat} (hr : r.length = n) (hy : y.length = n) : (List.range n).map (fun j => r.getD j 0 * y.getD j 0) = dotL r y := by
  unfold dotL
  refine List.ext_getElem (by simp [hr, hy]) fun i h1 h2 => ?_
  have hi : i < n := by simpa using h1
  rw [List.getElem_map, List.getElem_range, List.getElem_zipWith, getDn (List.getElem?_eq_getElem (by omega)), getDn (List.getElem?_eq_getElem (by omega))]
theorem dotL_comm (r y : Row) : dotL r y = dotL y r := by
  unfold dotL
  exact List.zipWith_comm_of_comm (fun a b => Rat.mul_comm a b)
theorem rowT_eq {A : Mat} {n : Nat} (h : Rect A n n) {y : Row} (hy : y.length = n) {i : Nat} (hi : i < n) : rowT A y i = dotL (A.getD i []) y := by
  unfold rowT
  rw [h.1]
  exact map_range (h.row hi) hy
theorem mv_len {A : Mat} {y : Row} : (mv A y).length = A.length := by unfold mv; rw [List.length_map]
theorem formT_eq {A : Mat} {n : Nat} (h : Rect A n n) {x y : Row} (hx : x.length = n) (hy : y.length = n) : formT A x y = dotL (mv A y) x := by
  unfold formT
  rw [← map_range (n := n) (by rw [mv_len, h.1]) hx, h.1]
  refine List.map_congr_left fun i hi => ?_
  rw [rowT_eq h hy (List.mem_range.mp hi), mv_getD]
  rfl
theorem formF_eq {A : Mat} {n : Nat} (h : Rect A n n) {x y : Row} (hx : x.length = n) (hy : y.length = n) : formF A x y = dot x (mv A y) := by
  unfold formF
  rw [formT_eq h hx hy, dot_comm]
  rfl
/-- a table and weights as the law draws them, where the form is above 0 -/
structure Lv (A : Mat) (w : Row) (n : Nat) : Prop where
  h : Rect A n n
  n0 : 0 < n
  n4 : n ≤ 4
  s : Sym A
  wl : w.length = n
  wp : ∀ i, i < n → 0 < w.getD i 0
  c0 : 0 < valF A w
namespace Lv
variable {A : Mat} {w : Row} {n : Nat}
theorem le4 (L : Lv A w n) : ∀ r ∈ A, r.length ≤ 4 := fun r hr => by rw [L.h.2 r hr]; exact L.n4
theorem al (L : Lv A w n) : A.length ≤ 4 := by rw [L.h.1]; exact L.n4
theorem ml (L : Lv A w n) : (mv A w).length = n := by rw [mv_len, L.h.1]
theorem mw (L : Lv A w n) : dot (mv A w) w = valF A w := dot_comm _ _
theorem rest (L : Lv A w n) : Rect (restM A w) n n ∧ Sym (restM A w) ∧ Ker (restM A w) w ∧ ∀ i j, ent (restM A w) i j = ent A i j - (mv A w).getD j 0 * (1 / valF A w * (mv A w).getD i 0) := by
  refine ⟨lessSq_rect L.h L.ml _, L.s.less L.h L.ml _, ?_, fun i j => ent_lessSq L.h L.ml _ i j⟩
  intro i
  by_cases hi : i < n
  · show dot ((lessSq A (1 / valF A w) (mv A w)).getD i []) w = 0
    rw [lessSq_row L.h L.ml _ i hi, dot_lessR _ _ (by rw [L.h.row hi, L.ml]), L.mw, mv_getD]
    have := inv_mul L.c0
    generalize 1 / valF A w = q at *
    grind
  · show dot ((lessSq A (1 / valF A w) (mv A w)).getD i []) w = 0
    rw [getD_out (l := lessSq _ _ _) (by rw [(lessSq_rect L.h L.ml _).1]; omega), dot_nil]
/-- the squares of the rest -/
def sqs (A : Mat) (w : Row) : Sqs := sqLoop 4 (restM A w)
theorem cle (L : Lv A w n) : cnt (restM A w) ≤ n := cnt_le L.rest.1
theorem good (L : Lv A w n) : Good n w (restM A w) (sqs A w) := by
  obtain ⟨h1, h2, h3, _⟩ := L.rest
  exact sq_good 4 _ h1 L.n4 h2 h3 L.wp (Nat.le_trans L.cle L.n4)
theorem len3 (L : Lv A w n) : (sqs A w).length ≤ 3 := by
  have := L.good.len; have := L.cle; have := L.n4; omega
theorem len_n (L : Lv A w n) : (sqs A w).length < n := by
  have := L.good.len; have := L.cle; have := L.n0; omega
theorem forms_rect (L : Lv A w n) : Rect (formsL (sqs A w)) (sqs A w).length n := by
  refine ⟨by unfold formsL; rw [List.length_map], fun r hr => ?_⟩
  obtain ⟨q, hq, e⟩ := List.mem_map.mp hr
  rw [← e]; exact L.good.fl q hq
theorem ent_eq (L : Lv A w n) (i j : Nat) : ent A i j = 1 / valF A w * ((mv A w).getD i 0 * (mv A w).getD j 0) + sqE (sqs A w) i j := by
  have h1 := L.rest.2.2.2 i j
  rw [L.good.eq i j] at h1
  grind
def bq (A : Mat) (w : Row) (i : Nat) : Rat := ((sqs A w).getD i (0, [])).1
def fq (A : Mat) (w : Row) (i : Nat) : Row := ((sqs A w).getD i (0, [])).2
theorem fq_out {i : Nat} (h : (sqs A w).length ≤ i) : fq A w i = [] ∧ bq A w i = 0 := by
  unfold fq bq
  rw [getD_out (l := sqs A w) h]
  exact ⟨rfl, rfl⟩
theorem fq_forms {i : Nat} (h : i < (sqs A w).length) : (formsL (sqs A w)).getD i [] = fq A w i := by
  unfold formsL fq
  rw [getDn (a := ((sqs A w)[i]).2) (by rw [List.getElem?_map, List.getElem?_eq_getElem h]; rfl), getDn (List.getElem?_eq_getElem h)]
theorem fq_mem {i : Nat} (h : i < (sqs A w).length) : (bq A w i, fq A w i) ∈ sqs A w := by
  unfold fq bq
  exact mem_getD h
theorem fq_len (L : Lv A w n) (i : Nat) : (fq A w i).length ≤ 4 := by
  by_cases h : i < (sqs A w).length
  · have := L.good.fl _ (fq_mem h)
    have h4 := L.n4
    have e : (fq A w i).length = n := this
    omega
  · rw [(fq_out (by omega)).1]; exact Nat.zero_le _
theorem fq_w (L : Lv A w n) (i : Nat) : dot (fq A w i) w = 0 := by
  by_cases h : i < (sqs A w).length
  · exact L.good.fw _ (fq_mem h)
  · rw [(fq_out (by omega)).1, dot_nil]
theorem sqE3 (L : Lv A w n) (i j : Nat) : sqE (sqs A w) i j = bq A w 0 * ((fq A w 0).getD i 0 * (fq A w 0).getD j 0) + bq A w 1 * ((fq A w 1).getD i 0 * (fq A w 1).getD j 0) + bq A w 2 * ((fq A w 2).getD i 0 * (fq A w 2).getD j 0) := by
  have h3 := L.len3
  unfold bq fq
  generalize sqs A w = s at *
  match s, h3 with
  | [], _ => simp only [sqE, List.getD_nil]; grind
  | [a], _ => simp only [sqE, List.getD_nil, List.getD_cons_zero, List.getD_cons_succ]; grind
  | [a, b], _ => simp only [sqE, List.getD_nil, List.getD_cons_zero, List.getD_cons_succ]; grind
  | [a, b, c], _ => simp only [sqE, List.getD_nil, List.getD_cons_zero, List.getD_cons_succ]; grind
  | _ :: _ :: _ :: _ :: _, h => simp at h
theorem dual (L : Lv A w n) (j : Nat) (h : bq A w j ≠ 0) : ∃ v : Row, v.length = n ∧ ∀ i, dot (fq A w i) v = if i = j then 1 else 0 := by
  have hj : j < (sqs A w).length := by
    by_cases z : j < (sqs A w).length
    · exact z
    · exact absurd (fq_out (by omega)).2 h
  obtain ⟨u, ul, hu⟩ := L.good.sur fun i => if i = j then 1 else 0
  refine ⟨u, ul, fun i => ?_⟩
  by_cases hi : i < (sqs A w).length
  · rw [← fq_forms hi]; exact hu i (by rw [List.length_map]; exact hi)
  · rw [(fq_out (by omega)).1, dot_nil, if_neg (by omega)]
theorem dec (L : Lv A w n) : Dec (sof A) (vof w) (vof (mv A w)) (vof (fq A w 0)) (vof (fq A w 1)) (vof (fq A w 2)) (valF A w) (bq A w 0) (bq A w 1) (bq A w 2) := by
  have e := fun i j => (L.ent_eq i j).trans (by rw [L.sqE3])
  have d := fun (j : Nat) (h : bq A w j ≠ 0) => L.dual j h
  have dv := fun (i : Nat) (v : Row) => dot_vof (fq A w i) v (L.fq_len i)
  refine ⟨?_, L.c0, ?_, ?_, ?_, ?_, ?_, ?_, ?_, ?_⟩
  · unfold sof sum3 sq add vof
    rw [e 0 0, e 0 1, e 0 2, e 0 3, e 1 1, e 1 2, e 1 3, e 2 2, e 2 3, e 3 3]
    simp only [S4.mk.injEq]
    refine ⟨?_, ?_, ?_, ?_, ?_, ?_, ?_, ?_, ?_, ?_⟩ <;> grind
  · rw [← dot_vof _ _ (by rw [L.ml]; exact L.n4), L.mw]
  · rw [← dv, L.fq_w]
  · rw [← dv, L.fq_w]
  · rw [← dv, L.fq_w]
  · exact L.wp 0 L.n0
  · intro h
    obtain ⟨v, _, hv⟩ := d 0 h
    exact ⟨vof v, by rw [← dv, hv]; rfl, by rw [← dv, hv]; rfl, by rw [← dv, hv]; rfl⟩
  · intro h
    obtain ⟨v, _, hv⟩ := d 1 h
    exact ⟨vof v, by rw [← dv, hv]; rfl, by rw [← dv, hv]; rfl, by rw [← dv, hv]; rfl⟩
  · intro h
    obtain ⟨v, _, hv⟩ := d 2 h
    exact ⟨vof v, by rw [← dv, hv]; rfl, by rw [← dv, hv]; rfl, by rw [← dv, hv]; rfl⟩
theorem two_iff (L : Lv A w n) : 2 ≤ aboveN A ↔ ∃ j, 0 < bq A w j := by
  rw [above_two (by rw [L.h.1]; exact L.n0) L.al (fun r hr => by rw [L.h.2 r hr, L.h.1]) L.s, L.dec.two]
  constructor
  · rintro (h | h | h)
    · exact ⟨0, h⟩
    · exact ⟨1, h⟩
    · exact ⟨2, h⟩
  · rintro ⟨j, h⟩
    match j with
    | 0 => exact Or.inl h
    | 1 => exact Or.inr (Or.inl h)
    | 2 => exact Or.inr (Or.inr h)
    | j + 3 =>
      rw [(fq_out (by have := L.len3; omega)).2] at h
      exact absurd h (by decide)
theorem above_mem {j : Nat} : j ∈ aboveL (sqs A w) ↔ 0 < bq A w j := by
  unfold aboveL bq
  rw [List.mem_filter, List.mem_range, decide_eq_true_eq]
  constructor
  · exact fun h => h.2
  · intro h
    refine ⟨?_, h⟩
    by_cases z : j < (sqs A w).length
    · exact z
    · rw [getD_out (l := sqs A w) (by omega)] at h
      exact absurd h (by decide)
/-- what is told, if anything -/
inductive Told (A : Mat) (w : Row) (n : Nat) : Prop where
  | no (e : levelV A w 4 = none) (b : ∀ j, ¬ 0 < bq A w j)
  | yes (j : Nat) (v : Row) (hj : j < (sqs A w).length) (b : 0 < bq A w j) (hd : (aboveL (sqs A w)).head? = some j) (ev : v = listWith (formsL (sqs A w)) (unitR j (sqs A w).length))
      (vl : v.length = n) (dv : ∀ i, dot (fq A w i) v = if i = j then 1 else 0) (ea : aboveF (sqs A w) = some v) (e : levelV A w 4 = some (lessR v w (dot (mv A w) v / valF A w)))
theorem unitR_getD {j m i : Nat} (h : i < m) : (unitR j m).getD i 0 = if i = j then 1 else 0 := by
  unfold unitR
  rw [getDn (a := if i = j then 1 else 0) (by rw [List.getElem?_map, List.getElem?_range h]; rfl)]
theorem told (L : Lv A w n) : Told A w n := by
  cases hd : (aboveL (sqs A w)).head? with
  | none =>
    refine .no ?_ fun j hj => ?_
    · unfold levelV aboveF
      show Option.map _ (Option.map _ (aboveL (sqs A w)).head?) = none
      rw [hd]; rfl
    · have := above_mem.mpr hj
      rw [List.head?_eq_none_iff.mp hd] at this
      exact nomatch this
  | some j =>
    have hm : j ∈ aboveL (sqs A w) := List.mem_of_head? hd
    have hb := above_mem.mp hm
    have hj : j < (sqs A w).length := List.mem_range.mp (List.mem_filter.mp hm).1
    have ul : (unitR j (sqs A w).length).length = (sqs A w).length := by unfold unitR; simp
    obtain ⟨k1, k2⟩ := listWith_ok (n := n) (r := (sqs A w).length) (by omega) L.forms_rect ul L.good.sur
    have ea : aboveF (sqs A w) = some (listWith (formsL (sqs A w)) (unitR j (sqs A w).length)) := by
      unfold aboveF
      rw [hd]; rfl
    refine .yes j _ hj hb hd rfl k1 (fun i => ?_) ea ?_
    · by_cases hi : i < (sqs A w).length
      · rw [← fq_forms hi, k2 i hi, unitR_getD hi]
      · rw [(fq_out (by omega)).1, dot_nil, if_neg (by omega)]
    · unfold levelV
      show Option.map _ (aboveF (sqs A w)) = _
      rw [ea]; rfl
theorem quad3 (L : Lv A w n) (y : Row) : dot y (mv A y) = 1 / valF A w * (dot (mv A w) y * dot (mv A w) y) + bq A w 0 * (dot (fq A w 0) y * dot (fq A w 0) y) + bq A w 1 * (dot (fq A w 1) y * dot (fq A w 1) y) + bq A w 2 * (dot (fq A w 2) y * dot (fq A w 2) y) := by
  rw [quad_mv L.s L.le4 L.al]
  show (sof A).quad (vof y) = _
  rw [L.dec.quad, dot_vof (mv A w) y (by rw [L.ml]; exact L.n4), dot_vof (fq A w 0) y (L.fq_len 0), dot_vof (fq A w 1) y (L.fq_len 1), dot_vof (fq A w 2) y (L.fq_len 2)]
theorem slope (L : Lv A w n) (y : Row) : dot w (mv A y) = dot (mv A w) y := by
  rw [quad_mv L.s L.le4 L.al, app_sym, ← quad_mv L.s L.le4 L.al, dot_comm]
theorem told_two (L : Lv A w n) : levelV A w 4 = none ↔ aboveN A < 2 := by
  have h := L.two_iff
  rcases L.told with ⟨e, b⟩ | ⟨j, v, hj, b, hd, ev, vl, dv, ea, e⟩
  · rw [e]
    have : ¬ 2 ≤ aboveN A := fun z => (h.mp z).elim fun j hj => b j hj
    simp; omega
  · rw [e]
    have := h.mpr ⟨j, b⟩
    simp; omega
theorem bound (L : Lv A w n) (h : aboveN A < 2) (y : Row) : ¬ dot w (mv A y) * dot w (mv A y) < valF A w * dot y (mv A y) := by
  have b : ∀ j, ¬ 0 < bq A w j := fun j hj => by have := L.two_iff.mpr ⟨j, hj⟩; omega
  rw [L.slope, L.quad3]
  have b0 := b 0; have b1 := b 1; have b2 := b 2
  have m0 := mul0 (show 0 ≤ -bq A w 0 by grind) (sq0 (dot (fq A w 0) y))
  have m1 := mul0 (show 0 ≤ -bq A w 1 by grind) (sq0 (dot (fq A w 1) y))
  have m2 := mul0 (show 0 ≤ -bq A w 2 by grind) (sq0 (dot (fq A w 2) y))
  have hc := inv_mul L.c0
  have c0 := L.c0
  generalize 1 / valF A w = q at *
  generalize valF A w = c at *
  generalize dot (mv A w) y = d at *
  generalize dot (fq A w 0) y = d0 at *
  generalize dot (fq A w 1) y = d1 at *
  generalize dot (fq A w 2) y = d2 at *
  generalize bq A w 0 = p0 at *
  generalize bq A w 1 = p1 at *
  generalize bq A w 2 = p2 at *
  clear b L
  intro z
  have k := mul0 (Rat.le_of_lt c0) (show 0 ≤ -p0 * (d0 * d0) + -p1 * (d1 * d1) + -p2 * (d2 * d2) by grind)
  have e : c * (q * (d * d) + p0 * (d0 * d0) + p1 * (d1 * d1) + p2 * (d2 * d2)) = d * d - c * (-p0 * (d0 * d0) + -p1 * (d1 * d1) + -p2 * (d2 * d2)) := by
    have : c * (q * (d * d)) = d * d := by
      rw [← Rat.mul_assoc, Rat.mul_comm c q, hc, Rat.one_mul]
    grind
  rw [e] at z
  clear e hc m0 m1 m2
  grind
theorem due_two (L : Lv A w n) (y : Row) (h0 : dot w (mv A y) = 0) (h1 : 0 < dot y (mv A y)) : 2 ≤ aboveN A := by
  by_cases z : 2 ≤ aboveN A
  · exact z
  · exfalso
    have := L.bound (by omega) y
    rw [h0] at this
    have := mulp L.c0 h1
    grind
theorem looks (L : Lv A w n) (u : Row) (e : levelV A w 4 = some u) : u.length = n ∧ dot w (mv A u) = 0 ∧ 0 < dot u (mv A u) := by
  rcases L.told with ⟨e', b⟩ | ⟨j, v, hj, b, hd, ev, vl, dv, ea, e'⟩
  · rw [e'] at e; exact nomatch e
  · rw [e'] at e
    have e : lessR v w (dot (mv A w) v / valF A w) = u := by injection e
    have hl : v.length = w.length := by rw [vl, L.wl]
    have d0 : dot (mv A w) u = 0 := by
      rw [← e, dot_comm, dot_lessR _ _ hl, dot_comm w, L.mw, div_ne (by have := L.c0; grind), dot_comm]
      grind
    have df : ∀ i, dot (fq A w i) u = if i = j then 1 else 0 := by
      intro i
      rw [← e, dot_comm, dot_lessR _ _ hl, dot_comm w, L.fq_w, dot_comm, dv]
      grind
    refine ⟨by rw [← e, lessR_len _ hl, vl], by rw [L.slope, d0], ?_⟩
    rw [L.quad3, d0, df, df, df]
    have := L.len3
    match j with
    | 0 => simp; grind
    | 1 => simp; grind
    | 2 => simp; grind
    | j + 3 => omega
end Lv
end OC
set_option maxHeartbeats 4000000
/-! OcK6: sizes of numbers over common bottoms. -/
namespace OC
theorem pw {a b x y : Nat} (h1 : a < 2 ^ x) (h2 : b < 2 ^ y) : a * b < 2 ^ (x + y) := by
  rw [Nat.pow_add]
  exact Nat.mul_lt_mul'' h1 h2
theorem pm {a x y : Nat} (h : a < 2 ^ x) (hxy : x ≤ y) : a < 2 ^ y := Nat.lt_of_lt_of_le h (Nat.pow_le_pow_right (by decide) hxy)
theorem p0 (x : Nat) : 0 < 2 ^ x := Nat.pow_pos (by decide)
/-- over d, with a top below 2 ^ x -/
def Fr (x : Nat) (d : Int) (q : Rat) : Prop := ∃ z : Int, z.natAbs < 2 ^ x ∧ q * (d : Rat) = (z : Rat)
theorem Fr.mono {x y : Nat} {d : Int} {q : Rat} (h : Fr x d q) (hxy : x ≤ y) : Fr y d q := h.elim fun z hz => ⟨z, pm hz.1 hxy, hz.2⟩
theorem Fr.zero (x : Nat) (d : Int) : Fr x d 0 := ⟨0, p0 x, by grind⟩
theorem Fr.add {x : Nat} {d : Int} {p q : Rat} (h : Fr x d p) (k : Fr x d q) : Fr (x + 1) d (p + q) := by
  obtain ⟨z, h1, h2⟩ := h
  obtain ⟨y, k1, k2⟩ := k
  refine ⟨z + y, ?_, by grind⟩
  have := Int.natAbs_add_le z y
  rw [Nat.pow_succ]; omega
theorem Fr.neg {x : Nat} {d : Int} {p : Rat} (h : Fr x d p) : Fr x d (-p) := by
  obtain ⟨z, h1, h2⟩ := h
  exact ⟨-z, by rw [Int.natAbs_neg]; exact h1, by grind⟩
theorem Fr.sub {x : Nat} {d : Int} {p q : Rat} (h : Fr x d p) (k : Fr x d q) : Fr (x + 1) d (p - q) := by
  rw [Rat.sub_eq_add_neg]; exact h.add k.neg
theorem Fr.mul {x y : Nat} {d e : Int} {p q : Rat} (h : Fr x d p) (k : Fr y e q) : Fr (x + y) (d * e) (p * q) := by
  obtain ⟨z, h1, h2⟩ := h
  obtain ⟨w, k1, k2⟩ := k
  refine ⟨z * w, by rw [Int.natAbs_mul]; exact pw h1 k1, ?_⟩
  rw [Rat.intCast_mul, Rat.intCast_mul, ← h2, ← k2]; grind
theorem Fr.lift {x y : Nat} {d e : Int} {p : Rat} (h : Fr x d p) (he : e.natAbs < 2 ^ y) : Fr (x + y) (d * e) p := by
  obtain ⟨z, h1, h2⟩ := h
  refine ⟨z * e, by rw [Int.natAbs_mul]; exact pw h1 he, ?_⟩
  rw [Rat.intCast_mul, Rat.intCast_mul, ← h2]; grind
theorem Fr.int {x : Nat} {z : Int} (h : z.natAbs < 2 ^ x) : Fr x 1 (z : Rat) := ⟨z, h, by grind⟩
/-- a number below 2 ^ x, top and bottom -/
def Bd (x : Nat) (q : Rat) : Prop := ∃ d : Int, 0 < d ∧ d.natAbs < 2 ^ x ∧ Fr x d q
theorem Fr.bd {x y : Nat} {d : Int} {q : Rat} (h : Fr x d q) (h0 : 0 < d) (hd : d.natAbs < 2 ^ y) (h1 : x ≤ y) : Bd y q := ⟨d, h0, hd, h.mono h1⟩
theorem Bd.mono {x y : Nat} {q : Rat} (h : Bd x q) (hxy : x ≤ y) : Bd y q := h.elim fun d hd => ⟨d, hd.1, pm hd.2.1 hxy, hd.2.2.mono hxy⟩
theorem cast_ne {d : Int} (h : d ≠ 0) : (d : Rat) ≠ 0 := fun z => h (Rat.intCast_inj.mp (by rw [z]; rfl))
theorem Bd.sm {x : Nat} {q : Rat} (h : Bd x q) (hx : x ≤ 4490) : Sm q := by
  obtain ⟨d, d0, d1, z, z1, z2⟩ := h
  have hd : (d : Rat) ≠ 0 := cast_ne (by omega)
  have e : q = Rat.divInt z d := by
    rw [Rat.divInt_eq_div, ← z2, Rat.mul_div_cancel hd]
  refine ⟨?_, ?_⟩
  · rw [e, Rat.num_divInt, Int.sign_eq_one_of_pos d0, Int.one_mul]
    exact Nat.lt_of_le_of_lt (Int.natAbs_ediv_le_natAbs _ _) (pm z1 hx)
  · rw [e, Rat.den_divInt, if_neg (by omega)]
    exact Nat.lt_of_le_of_lt (Nat.div_le_self _ _) (pm d1 hx)
theorem Bd.mul {x y : Nat} {p q : Rat} (h : Bd x p) (k : Bd y q) : Bd (x + y) (p * q) := by
  obtain ⟨d, d0, d1, hf⟩ := h
  obtain ⟨e, e0, e1, kf⟩ := k
  exact ⟨d * e, Int.mul_pos d0 e0, by rw [Int.natAbs_mul]; exact pw d1 e1, hf.mul kf⟩
theorem Bd.add {x y : Nat} {p q : Rat} (h : Bd x p) (k : Bd y q) : Bd (x + y + 1) (p + q) := by
  obtain ⟨d, d0, d1, hf⟩ := h
  obtain ⟨e, e0, e1, kf⟩ := k
  refine ⟨d * e, Int.mul_pos d0 e0, by rw [Int.natAbs_mul]; exact pm (pw d1 e1) (by omega), ?_⟩
  refine (hf.lift e1).add ?_
  rw [Int.mul_comm, Nat.add_comm]
  exact kf.lift d1
theorem Bd.neg {x : Nat} {p : Rat} (h : Bd x p) : Bd x (-p) := h.elim fun d hd => ⟨d, hd.1, hd.2.1, hd.2.2.neg⟩
theorem Bd.sub {x y : Nat} {p q : Rat} (h : Bd x p) (k : Bd y q) : Bd (x + y + 1) (p - q) := by
  rw [Rat.sub_eq_add_neg]; exact h.add k.neg
theorem Bd.inv {x : Nat} {p : Rat} (h : Bd x p) (h0 : p ≠ 0) : Bd x (1 / p) := by
  obtain ⟨d, d0, d1, z, z1, z2⟩ := h
  have hd : (d : Rat) ≠ 0 := cast_ne (by omega)
  have hz : z ≠ 0 := fun e => by
    rw [e] at z2
    rcases Rat.mul_eq_zero.mp (z2.trans rfl) with y | y
    · exact h0 y
    · exact hd y
  have k := inv_ne h0
  have key : 1 / p * (z : Rat) = (d : Rat) := by rw [← z2, ← Rat.mul_assoc, k, Rat.one_mul]
  by_cases s : 0 < z
  · exact ⟨z, s, z1, d, d1, key⟩
  · refine ⟨-z, by omega, by rw [Int.natAbs_neg]; exact z1, -d, by rw [Int.natAbs_neg]; exact d1, ?_⟩
    rw [Rat.intCast_neg, Rat.intCast_neg, ← key]; grind
theorem Bd.div {x y : Nat} {p q : Rat} (h : Bd x p) (k : Bd y q) (h0 : q ≠ 0) : Bd (x + y) (p / q) := by
  have : p / q = p * (1 / q) := by rw [Rat.div_def, Rat.div_def, Rat.one_mul]
  rw [this]
  exact h.mul (k.inv h0)
theorem Bd.zero (x : Nat) (hx : 0 < x) : Bd x 0 := ⟨1, by decide, by
  have : 2 ^ 1 ≤ 2 ^ x := Nat.pow_le_pow_right (by decide) hx
  show 1 < 2 ^ x
  omega, Fr.zero x 1⟩
/-! ### lists -/
def FrL (x : Nat) (d : Int) (r : Row) : Prop := ∀ q ∈ r, Fr x d q
theorem FrL.mono {x y : Nat} {d : Int} {r : Row} (h : FrL x d r) (hxy : x ≤ y) : FrL y d r := fun q hq => (h q hq).mono hxy
theorem FrL.getD {x : Nat} {d : Int} {r : Row} (h : FrL x d r) (i : Nat) : Fr x d (r.getD i 0) := by
  by_cases hi : i < r.length
  · exact h _ (mem_getD hi)
  · rw [getD_out (by omega)]; exact Fr.zero x d
theorem frL_of {x : Nat} {d : Int} {r : Row} (h : ∀ i, Fr x d (r.getD i 0)) : FrL x d r := fun q hq => by
  obtain ⟨i, hi, e⟩ := List.mem_iff_getElem.mp hq
  have := h i
  rw [getDn (List.getElem?_eq_getElem hi), e] at this
  exact this
theorem FrL.bd {x y : Nat} {d : Int} {r : Row} (h : FrL x d r) (h0 : 0 < d) (hd : d.natAbs < 2 ^ y) (h1 : x ≤ y) : ∀ q ∈ r, Bd y q := fun q hq => (h q hq).bd h0 hd h1
theorem FrL.sm {x y : Nat} {d : Int} {r : Row} (h : FrL x d r) (h0 : 0 < d) (hd : d.natAbs < 2 ^ y) (h1 : x ≤ y) (h2 : y ≤ 4490) : ∀ q ∈ r, Sm q := fun q hq => ((h q hq).bd h0 hd h1).sm h2
theorem frL_sum {x : Nat} {d : Int} : ∀ {r : Row}, FrL x d r → ∃ z : Int, z.natAbs ≤ r.length * (2 ^ x - 1) ∧ sumR r * (d : Rat) = (z : Rat)
  | [], _ => ⟨0, Nat.zero_le _, by rw [sumR_nil]; grind⟩
  | q :: r, h => by
    obtain ⟨z, z1, z2⟩ := frL_sum (r := r) fun p hp => h p (List.mem_cons_of_mem _ hp)
    obtain ⟨y, y1, y2⟩ := h q List.mem_cons_self
    refine ⟨y + z, ?_, ?_⟩
    · have := Int.natAbs_add_le y z
      rw [List.length_cons, Nat.add_mul]
      omega
    · rw [sumR_cons, Rat.intCast_add, ← y2, ← z2]; grind
theorem FrL.sum {x : Nat} {d : Int} {r : Row} (h : FrL x d r) (hl : r.length ≤ 4) : Fr (x + 2) d (sumR r) := by
  obtain ⟨z, z1, z2⟩ := frL_sum h
  refine ⟨z, ?_, z2⟩
  have h1 : r.length * (2 ^ x - 1) ≤ 4 * (2 ^ x - 1) := Nat.mul_le_mul_right _ hl
  have h2 := p0 x
  have h3 : 2 ^ (x + 2) = 2 ^ x * 4 := by rw [Nat.pow_add]
  omega
theorem FrL.sms {x y : Nat} {d : Int} {r : Row} (h : FrL x d r) (hl : r.length ≤ 4) (h0 : 0 < d) (hd : d.natAbs < 2 ^ y) (h1 : x + 2 ≤ y) (h2 : y ≤ 4490) : SmS r := by
  refine ⟨h.sm h0 hd (by omega) h2, fun k => ?_⟩
  have hk : FrL x d (r.take k) := fun q hq => h q (List.mem_of_mem_take hq)
  exact ((hk.sum (by rw [List.length_take]; omega)).bd h0 hd h1).sm h2
theorem FrL.dotL {x y : Nat} {d e : Int} : ∀ {r v : Row}, FrL x d r → FrL y e v → FrL (x + y) (d * e) (dotL r v)
  | [], _, _, _ => fun q hq => nomatch hq
  | _ :: _, [], _, _ => fun q hq => nomatch hq
  | a :: r, b :: v, h, k => fun q hq => by
    rcases List.mem_cons.mp hq with z | z
    · rw [z]; exact (h a List.mem_cons_self).mul (k b List.mem_cons_self)
    · exact FrL.dotL (r := r) (v := v) (fun p hp => h p (List.mem_cons_of_mem _ hp)) (fun p hp => k p (List.mem_cons_of_mem _ hp)) q z
theorem FrL.dot {x y : Nat} {d e : Int} {r v : Row} (h : FrL x d r) (k : FrL y e v) (hl : r.length ≤ 4) : Fr (x + y + 2) (d * e) (OC.dot r v) := by
  unfold OC.dot
  refine (h.dotL k).sum ?_
  unfold OC.dotL
  rw [List.length_zipWith]; omega
theorem absMulLt {d e : Int} {x y : Nat} (h : d.natAbs < 2 ^ x) (k : e.natAbs < 2 ^ y) : (d * e).natAbs < 2 ^ (x + y) := by rw [Int.natAbs_mul]; exact pw h k
theorem FrL.wok {x y s : Nat} {d e : Int} {r v : Row} (h : FrL x d r) (k : FrL y e v) (hl : r.length ≤ 4) (hd0 : 0 < d) (he0 : 0 < e) (hd : d.natAbs < 2 ^ s) (he : e.natAbs < 2 ^ s) (hx : x ≤ s) (hy : y ≤ s) (hs : s + s + 2 ≤ 4490) : WOk r v := by
  refine ⟨h.sm hd0 hd hx (by omega), k.sm he0 he hy (by omega), ?_⟩
  refine ((h.dotL k).sms (y := s + s + 2) ?_ (Int.mul_pos hd0 he0) (pm (absMulLt hd he) (by omega)) (by omega) hs)
  unfold OC.dotL
  rw [List.length_zipWith]; omega
/-- as wok, each with its own size -/
theorem FrL.wok' {x y s t : Nat} {d e : Int} {r v : Row} (h : FrL x d r) (k : FrL y e v) (hl : r.length ≤ 4) (hd0 : 0 < d) (he0 : 0 < e) (hd : d.natAbs < 2 ^ s) (he : e.natAbs < 2 ^ t) (hx : x ≤ s) (hy : y ≤ t) (hs : s + t + 2 ≤ 4490) : WOk r v := by
  refine ⟨h.sm hd0 hd hx (by omega), k.sm he0 he hy (by omega), ?_⟩
  refine ((h.dotL k).sms (y := s + t + 2) ?_ (Int.mul_pos hd0 he0) (pm (absMulLt hd he) (by omega)) (by omega) hs)
  unfold OC.dotL
  rw [List.length_zipWith]; omega
theorem lok_of {x y z : Nat} {row other : Row} {c : Rat} (hc : Bd x c) (hr : ∀ q ∈ row, Bd y q) (ho : ∀ q ∈ other, Bd z q) (h1 : y ≤ 4490) (h2 : z + x ≤ 4490) : LOk row other c :=
  ⟨hc.sm (by omega), fun q hq => (hr q hq).sm h1, fun q hq => (ho q hq).sm (by omega), fun q hq => ((ho q hq).mul hc).sm h2⟩
end OC
set_option maxHeartbeats 4000000
/-! OcK7: sizes of squares. -/
namespace OC
theorem Fr.nat {x : Nat} {e : Int} {q : Rat} (h : Fr x e q) : Fr x (e.natAbs : Int) q := by
  obtain ⟨z, z1, z2⟩ := h
  rcases Int.natAbs_eq e with k | k
  · rw [← k]; exact ⟨z, z1, z2⟩
  · refine ⟨-z, by rw [Int.natAbs_neg]; exact z1, ?_⟩
    have : ((e.natAbs : Int) : Rat) = -(e : Rat) := by
      have : (e.natAbs : Int) = -e := by omega
      rw [this, Rat.intCast_neg]
    rw [this, Rat.intCast_neg, ← z2]; grind
def TB (x : Nat) (d : Int) (B : Mat) : Prop := ∀ i j, Fr x d (ent B i j)
theorem TB.row {x : Nat} {d : Int} {B : Mat} (h : TB x d B) (i : Nat) : FrL x d (B.getD i []) := frL_of fun j => h i j
theorem TB.mem {x : Nat} {d : Int} {B : Mat} (h : TB x d B) : ∀ r ∈ B, FrL x d r := fun r hr => by
  obtain ⟨i, hi, e⟩ := List.mem_iff_getElem.mp hr
  have := h.row i
  rw [getDn (List.getElem?_eq_getElem hi), e] at this
  exact this
theorem top_ne {x : Nat} {d : Int} {q : Rat} (h : Fr x d q) (d0 : 0 < d) (h0 : q ≠ 0) : ∃ z : Int, z ≠ 0 ∧ z.natAbs < 2 ^ x ∧ q * (d : Rat) = (z : Rat) := by
  obtain ⟨z, z1, z2⟩ := h
  refine ⟨z, fun e => ?_, z1, z2⟩
  rw [e] at z2
  rcases Rat.mul_eq_zero.mp (z2.trans rfl) with y | y
  · exact h0 y
  · exact cast_ne (show d ≠ 0 by omega) y
section
variable {n : Nat} {w : Row} {B : Mat}
/-- the bottom after one square: the old one times the top -/
theorem tb_one {x : Nat} {d : Int} (d0 : 0 < d) (hd : d.natAbs < 2 ^ x) (hB : TB x d B) {p : Nat} (nz : ent B p p ≠ 0) {C : Mat}
    (e : ∀ i j, ent C i j = ent B i j - ent B p j * (1 / ent B p p * ent B p i)) : ∃ d' : Int, 0 < d' ∧ d'.natAbs < 2 ^ (2 * x + 2) ∧ TB (2 * x + 2) d' C := by
  obtain ⟨z, z0, z1, z2⟩ := top_ne (hB p p) d0 nz
  refine ⟨((d * z).natAbs : Int), ?_, ?_, fun i j => Fr.nat ?_⟩
  · have : d * z ≠ 0 := Int.mul_ne_zero (by omega) z0
    omega
  · rw [Int.natAbs_natCast]
    exact pm (absMulLt hd z1) (by omega)
  · obtain ⟨a, a1, a2⟩ := hB i j
    obtain ⟨b, b1, b2⟩ := hB p j
    obtain ⟨c, c1, c2⟩ := hB p i
    refine ⟨a * z - b * c, ?_, ?_⟩
    · have h1 := pw a1 z1
      have h2 := pw b1 c1
      have h3 := Int.natAbs_sub_le (a * z) (b * c)
      rw [Int.natAbs_mul, Int.natAbs_mul] at h3
      have h4 : 2 ^ (2 * x + 2) = 2 ^ (x + x) * 4 := by rw [Nat.pow_add]; congr 2; omega
      omega
    · rw [e, Rat.intCast_sub, Rat.intCast_mul, Rat.intCast_mul, Rat.intCast_mul, ← a2, ← b2, ← c2, ← z2]
      have k := inv_ne nz
      generalize 1 / ent B p p = y at *
      clear e a2 b2 c2 z2 hB
      grind
theorem tb_two {x : Nat} {d : Int} (d0 : 0 < d) (hd : d.natAbs < 2 ^ x) (hB : TB x d B) {a b : Nat} (nz : ent B a b ≠ 0) {C : Mat}
    (e : ∀ i j, ent C i j = ent B i j - 1 / ent B a b * (ent B a i * ent B b j + ent B b i * ent B a j)) : ∃ d' : Int, 0 < d' ∧ d'.natAbs < 2 ^ (2 * x + 2) ∧ TB (2 * x + 2) d' C := by
  obtain ⟨z, z0, z1, z2⟩ := top_ne (hB a b) d0 nz
  refine ⟨((d * z).natAbs : Int), ?_, ?_, fun i j => Fr.nat ?_⟩
  · have : d * z ≠ 0 := Int.mul_ne_zero (by omega) z0
    omega
  · rw [Int.natAbs_natCast]
    exact pm (absMulLt hd z1) (by omega)
  · obtain ⟨q, q1, q2⟩ := hB i j
    obtain ⟨ai, ai1, ai2⟩ := hB a i
    obtain ⟨bj, bj1, bj2⟩ := hB b j
    obtain ⟨bi, bi1, bi2⟩ := hB b i
    obtain ⟨aj, aj1, aj2⟩ := hB a j
    refine ⟨q * z - (ai * bj + bi * aj), ?_, ?_⟩
    · have h1 := pw q1 z1
      have h2 := pw ai1 bj1
      have h2' := pw bi1 aj1
      have h3 := Int.natAbs_sub_le (q * z) (ai * bj + bi * aj)
      have h3' := Int.natAbs_add_le (ai * bj) (bi * aj)
      rw [Int.natAbs_mul] at h3
      rw [Int.natAbs_mul, Int.natAbs_mul] at h3'
      have h4 : 2 ^ (2 * x + 2) = 2 ^ (x + x) * 4 := by rw [Nat.pow_add]; congr 2; omega
      omega
    · rw [e, Rat.intCast_sub, Rat.intCast_mul, Rat.intCast_add, Rat.intCast_mul, Rat.intCast_mul, Rat.intCast_mul, ← q2, ← ai2, ← bj2, ← bi2, ← aj2, ← z2]
      have k := inv_ne nz
      generalize 1 / ent B a b = y at *
      clear e q2 ai2 bj2 bi2 aj2 z2 hB
      grind
theorem ls_ok (h : Rect B n n) (h4 : n ≤ 4) {f : Row} {c : Rat} {y z s : Nat} (hB : ∀ r ∈ B, ∀ q ∈ r, Bd y q) (hf : ∀ q ∈ f, Bd z q) (hc : Bd s c) (hy : y ≤ 4490) (hz : 2 * z + s ≤ 4490) : LsOk B c f :=
  ⟨by rw [h.1]; omega, hc.sm (by omega), fun q hq => (hf q hq).sm (by omega), fun r hr => ⟨by rw [h.2 r hr]; omega, fun q hq => lok_of (hc.mul (hf q hq)) (hB r hr) hf hy (by omega)⟩⟩
theorem nx_ok (h : Rect B n n) (h4 : n ≤ 4) {x : Nat} (hB : ∀ i j, Bd x (ent B i j)) (hx : x + 1 ≤ 4490) (h2 : ∀ i j, Bd (x + 1) (ent B i j * 2)) : NxOk B := by
  refine ⟨fun r hr => by rw [h.2 r hr, h.1], by rw [h.1]; omega, fun r hr q hq => ?_, fun i j _ _ => ⟨(h2 i j).sm hx, fun nz => ((h2 i j).inv (by grind)).sm hx⟩⟩
  obtain ⟨i, hi, e⟩ := List.mem_iff_getElem.mp hr
  obtain ⟨j, hj, e'⟩ := List.mem_iff_getElem.mp hq
  have : ent B i j = q := by
    unfold ent
    rw [getDn (l := B) (List.getElem?_eq_getElem hi), e, getDn (List.getElem?_eq_getElem hj), e']
  rw [← this]
  exact (hB i j).sm (by omega)
theorem Fr.two {x : Nat} {d : Int} {q : Rat} (h : Fr x d q) : Fr (x + 1) d (q * 2) := by
  have : q * 2 = q + q := by grind
  rw [this]; exact h.add h
def G : Nat → Nat → Nat
  | 0, x => x
  | m + 1, x => G m (2 * x + 2)
theorem G_le : ∀ (m : Nat) (x y : Nat), x ≤ y → G m x ≤ G m y
  | 0, _, _, h => h
  | m + 1, x, y, h => G_le m _ _ (by omega)
theorem G_ge : ∀ (m : Nat) (x : Nat), x ≤ G m x
  | 0, _ => Nat.le_refl _
  | m + 1, x => Nat.le_trans (by omega) (G_ge m (2 * x + 2))
theorem G_up : ∀ (m k : Nat) (x : Nat), m ≤ k → G m x ≤ G k x
  | 0, k, x, _ => G_ge k x
  | m + 1, 0, x, h => by omega
  | m + 1, k + 1, x, h => G_up m k _ (by omega)
theorem frL_addR {x : Nat} {d : Int} {a b : Row} (hl : a.length = b.length) (ha : FrL x d a) (hb : FrL x d b) : FrL (x + 1) d (addR a b) := frL_of fun i => by
  rw [addR_getD i hl]; exact (ha.getD i).add (hb.getD i)
theorem frL_subR {x : Nat} {d : Int} {a b : Row} (hl : a.length = b.length) (ha : FrL x d a) (hb : FrL x d b) : FrL (x + 1) d (subR a b) := frL_of fun i => by
  rw [subR_getD i hl]; exact (ha.getD i).sub (hb.getD i)
theorem bd_less {x : Nat} (h : Rect B n n) {f : Row} (hf : f.length = n) {c : Rat} {y z s : Nat} (hB : ∀ i j, Bd y (ent B i j)) (hff : ∀ i, Bd z (f.getD i 0)) (hc : Bd s c) : ∀ r ∈ lessSq B c f, ∀ q ∈ r, Bd (y + (z + (s + z)) + 1) q := by
  intro r hr q hq
  obtain ⟨i, hi, e⟩ := List.mem_iff_getElem.mp hr
  obtain ⟨j, hj, e'⟩ := List.mem_iff_getElem.mp hq
  have : ent (lessSq B c f) i j = q := by
    unfold ent
    rw [getDn (l := lessSq B c f) (List.getElem?_eq_getElem hi), e, getDn (List.getElem?_eq_getElem hj), e']
  rw [← this, ent_lessSq h hf]
  exact (hB i j).sub ((hff j).mul (hc.mul (hff i)))
/-- the squares' steps keep within bounds, and so do the forms -/
theorem sq_ok : ∀ (k : Nat) (B : Mat) (x : Nat) (d : Int), Rect B n n → n ≤ 4 → Sym B → Ker B w → (∀ i, i < n → 0 < w.getD i 0) → cnt B ≤ k → 0 < d → d.natAbs < 2 ^ x → TB x d B → G (cnt B - 1) x ≤ 1000 → 1 ≤ x →
    SqOk k B ∧ ∀ q ∈ sqLoop k B, ∃ e : Int, 0 < e ∧ e.natAbs < 2 ^ (G (cnt B - 2) x + 1) ∧ FrL (G (cnt B - 2) x + 1) e q.2
  | k, B, x, d, h, h4, s, kk, hw, hc, d0, hd, hB, hG, hx1 => by
    have hx : x ≤ 1000 := Nat.le_trans (G_ge _ _) hG
    have hbd : ∀ i j, Bd x (ent B i j) := fun i j => (hB i j).bd d0 hd (Nat.le_refl _)
    have hbd2 : ∀ i j, Bd (x + 1) (ent B i j * 2) := fun i j => (hB i j).two.bd d0 (pm hd (by omega)) (Nat.le_refl _)
    have hnx := nx_ok h h4 hbd (by omega) hbd2
    have hrow : ∀ r ∈ B, ∀ q ∈ r, Bd x q := fun r hr => (hB.mem r hr).bd d0 hd (Nat.le_refl _)
    rcases next_cases h s with ⟨e, z⟩ | ⟨p, hp, nz, e⟩ | ⟨a, b, hab, hb, dz, nz, e⟩
    · refine ⟨.done hnx e, fun q hq => ?_⟩
      rw [sqLoop_nil e] at hq
      exact nomatch hq
    · obtain ⟨e', up, zp, hr, hs, hk, hc'⟩ := one_facts h h4 s kk hw hp nz
      have c2 := ker_two h h4 s kk hw hp nz
      cases k with
      | zero => omega
      | succ k =>
        obtain ⟨d', d0', hd', hB'⟩ := tb_one d0 hd hB nz e'
        have eG : G (cnt B - 1) x = G (cnt B - 2) (2 * x + 2) := by
          have : cnt B - 1 = (cnt B - 2) + 1 := by omega
          rw [this]; rfl
        have i1 := sq_ok k _ (2 * x + 2) d' hr h4 hs hk hw (by omega) d0' hd' hB' (Nat.le_trans (G_up _ (cnt B - 2) _ (by omega)) (by rw [← eG]; exact hG)) (by omega)
        refine ⟨.step hnx (by rw [e]; simp) ?_ (by rw [e, lessAll_one]; exact i1.1), fun q hq => ?_⟩
        · rw [e]
          exact ⟨ls_ok h h4 hrow (fun q hq => ((hB.row p) q hq).bd d0 hd (Nat.le_refl _)) ((hbd p p).inv nz) (by omega) (by omega), trivial⟩
        · rw [sqLoop_cons e, lessAll_one] at hq
          rcases List.mem_cons.mp hq with z | z
          · have := G_ge (cnt B - 2) x
            refine ⟨d, d0, pm hd (by omega), ?_⟩
            rw [z]
            exact (hB.row p).mono (by omega)
          · have hg := sq_good k _ hr h4 hs hk hw (by omega)
            have hl : 0 < (sqLoop k (lessSq B (1 / ent B p p) (B.getD p []))).length := List.length_pos_of_mem z
            have := hg.len
            obtain ⟨e2, e20, e21, e22⟩ := i1.2 q z
            have hle : G (cnt (lessSq B (1 / ent B p p) (B.getD p [])) - 2) (2 * x + 2) + 1 ≤ G (cnt B - 2) x + 1 := by
              have : cnt B - 2 = (cnt B - 3) + 1 := by omega
              rw [this]
              exact Nat.succ_le_succ (G_up _ (cnt B - 3) _ (by omega))
            exact ⟨e2, e20, pm e21 hle, e22.mono hle⟩
    · obtain ⟨e', up, za, zb, hr, hs, hk, hc', d1, d2, f1, f2, g1, g2⟩ := two_facts h h4 s kk hw hab hb dz nz
      have c2 := ker_three h h4 s kk hw hab hb dz nz
      have nz2 : ent B a b * 2 ≠ 0 := by grind
      have hl' : (B.getD a []).length = (B.getD b []).length := by rw [h.row (show a < n by omega), h.row hb]
      have ff1 := frL_addR hl' (hB.row a) (hB.row b)
      have ff2 := frL_subR hl' (hB.row a) (hB.row b)
      cases k with
      | zero => omega
      | succ k =>
        obtain ⟨d', d0', hd', hB'⟩ := tb_two d0 hd hB nz e'
        have eG : G (cnt B - 1) x = G (cnt B - 2) (2 * x + 2) := by
          have : cnt B - 1 = (cnt B - 2) + 1 := by omega
          rw [this]; rfl
        have i1 := sq_ok k _ (2 * x + 2) d' hr h4 hs hk hw (by omega) d0' hd' hB' (Nat.le_trans (G_up _ (cnt B - 2) _ (by omega)) (by rw [← eG]; exact hG)) (by omega)
        have hh := (hbd2 a b).inv nz2
        have b1 := ff1.bd d0 (pm hd (show x ≤ x + 1 by omega)) (Nat.le_refl _)
        have b2 := ff2.bd d0 (pm hd (show x ≤ x + 1 by omega)) (Nat.le_refl _)
        refine ⟨.step hnx (by rw [e]; simp) ?_ (by rw [e, lessAll_two]; exact i1.1), fun q hq => ?_⟩
        · rw [e]
          refine ⟨ls_ok h h4 hrow b1 hh (by omega) (by omega), ls_ok (lessSq_rect h f1 _) h4 (bd_less (x := x) h f1 hbd (fun i => (ff1.getD i).bd d0 (pm hd (show x ≤ x + 1 by omega)) (Nat.le_refl _)) hh) b2 hh.neg (by omega) (by omega), trivial⟩
        · rw [sqLoop_cons e, lessAll_two] at hq
          have g0 := G_ge (cnt B - 2) x
          rcases List.mem_cons.mp hq with z | hq
          · refine ⟨d, d0, pm hd (by omega), ?_⟩
            rw [z]
            exact ff1.mono (by omega)
          rcases List.mem_cons.mp hq with z | z
          · refine ⟨d, d0, pm hd (by omega), ?_⟩
            rw [z]
            exact ff2.mono (by omega)
          · have hg := sq_good k _ hr h4 hs hk hw (by omega)
            have hl : 0 < (sqLoop k (less2 B a b)).length := List.length_pos_of_mem z
            have := hg.len
            obtain ⟨e2, e20, e21, e22⟩ := i1.2 q z
            have hle : G (cnt (less2 B a b) - 2) (2 * x + 2) + 1 ≤ G (cnt B - 2) x + 1 := by
              have : cnt B - 2 = (cnt B - 3) + 1 := by omega
              rw [this]
              exact Nat.succ_le_succ (G_up _ (cnt B - 3) _ (by omega))
            exact ⟨e2, e20, pm e21 hle, e22.mono hle⟩
end
end OC
set_option maxHeartbeats 4000000
/-! OcK8: sizes of the steps down and back. -/
namespace OC
def RB (x : Nat) (r : Row) : Prop := ∃ d : Int, 0 < d ∧ d.natAbs < 2 ^ x ∧ FrL x d r
theorem RB.mono {x y : Nat} {r : Row} (h : RB x r) (hxy : x ≤ y) : RB y r := h.elim fun d hd => ⟨d, hd.1, pm hd.2.1 hxy, hd.2.2.mono hxy⟩
theorem RB.bd {x : Nat} {r : Row} (h : RB x r) : ∀ q ∈ r, Bd x q := h.elim fun d hd => hd.2.2.bd hd.1 hd.2.1 (Nat.le_refl _)
theorem RB.getD {x : Nat} {r : Row} (h : RB x r) (i : Nat) : Bd x (r.getD i 0) := h.elim fun d hd => (hd.2.2.getD i).bd hd.1 hd.2.1 (Nat.le_refl _)
theorem rb_op {x : Nat} {a b : Row} (ha : RB x a) (hb : RB x b) (hl : a.length = b.length) {c : Nat} (nz : b.getD c 0 ≠ 0) : RB (2 * x + 1) (lessR a b (a.getD c 0 / b.getD c 0)) := by
  obtain ⟨d, d0, d1, fa⟩ := ha
  obtain ⟨e, e0, e1, fb⟩ := hb
  obtain ⟨z, z0, z1, z2⟩ := top_ne (fb.getD c) e0 nz
  obtain ⟨y, y1, y2⟩ := fa.getD c
  refine ⟨((d * z).natAbs : Int), ?_, ?_, frL_of fun j => Fr.nat ?_⟩
  · have : d * z ≠ 0 := Int.mul_ne_zero (by omega) z0
    omega
  · rw [Int.natAbs_natCast]
    exact pm (absMulLt d1 z1) (by omega)
  · obtain ⟨p, p1, p2⟩ := fa.getD j
    obtain ⟨q, q1, q2⟩ := fb.getD j
    refine ⟨p * z - q * y, ?_, ?_⟩
    · have h1 := pw p1 z1
      have h2 := pw q1 y1
      have h3 := Int.natAbs_sub_le (p * z) (q * y)
      rw [Int.natAbs_mul, Int.natAbs_mul] at h3
      have h4 : 2 ^ (2 * x + 1) = 2 ^ (x + x) * 2 := by rw [Nat.pow_add]; congr 2; omega
      omega
    · rw [lessR_getD _ _ hl, Rat.intCast_sub, Rat.intCast_mul, Rat.intCast_mul, Rat.intCast_mul, ← p2, ← q2, ← y2, ← z2]
      have k := div_ne (y := a.getD c 0) nz
      generalize a.getD c 0 / b.getD c 0 = t at *
      generalize a.getD c 0 = u at *
      generalize a.getD j 0 = u1 at *
      generalize b.getD j 0 = u2 at *
      generalize b.getD c 0 = u3 at *
      clear p2 q2 y2 z2 fa fb
      subst k
      grind
def gg (x : Nat) : Nat → Nat
  | 0 => x
  | m + 1 => 2 * gg x m + 1
theorem gg_le (x : Nat) : ∀ {a b : Nat}, a ≤ b → gg x a ≤ gg x b
  | a, 0, h => by rw [Nat.le_zero.mp h]; exact Nat.le_refl _
  | a, b + 1, h => by
    by_cases e : a = b + 1
    · rw [e]; exact Nat.le_refl _
    · have := gg_le x (show a ≤ b by omega)
      show _ ≤ 2 * gg x b + 1
      omega
section
variable {n r : Nat}
def Sz (x r : Nat) (st : Stt) : Prop := ∀ i, i < r → RB (gg x (min i st.2.1.length)) (st.1.getD i [])
theorem sz_swp {x k : Nat} {st : Stt} (h : Ech n r k st.1 st.2.1) (z : Sz x r st) {p : Nat} (e : pivotAt st.1 st.2.1.length k = some p) : ∀ i, i < r → RB (gg x (min i st.2.1.length)) ((swp st p).getD i []) := by
  obtain ⟨h1, h2, h3⟩ := pivot_lt e
  rw [h.rect.1] at h1
  intro i hi
  rw [swp_getD h.rect (by omega) h1]
  split
  · rename_i e1
    have := z p h1
    rw [show min i st.2.1.length = min p st.2.1.length by omega]
    exact this
  · split
    · rename_i e1 e2
      have := z st.2.1.length (by omega)
      rw [show min i st.2.1.length = min st.2.1.length st.2.1.length by omega]
      exact this
    · exact z i hi
theorem sz_step {x k : Nat} {st : Stt} (h : Ech n r k st.1 st.2.1) (z : Sz x r st) : Sz x r (stepCol st k) := by
  cases e : pivotAt st.1 st.2.1.length k with
  | none => rw [stepCol_none e]; exact z
  | some p =>
    obtain ⟨h1, h2, h3⟩ := pivot_lt e
    rw [h.rect.1] at h1
    have hb : st.2.1.length < r := by omega
    obtain ⟨e1, e2⟩ := stepCol_some e
    have hS := swp_rect h.rect hb h1
    have hz := sz_swp h z e
    have hl : (stepCol st k).2.1.length = st.2.1.length + 1 := by rw [e2, List.length_append]; rfl
    have pk : ((swp st p).getD st.2.1.length []).getD k 0 ≠ 0 := by
      rw [swp_getD h.rect hb h1, if_pos rfl]; exact h3
    intro i hi
    rw [hl, e1, elim_get (by rw [hS.1]; exact hi)]
    split
    · rename_i hc
      have a1 := hz i hi
      have a2 := hz st.2.1.length hb
      rw [show min i st.2.1.length = st.2.1.length by omega] at a1
      rw [Nat.min_self] at a2
      rw [show min i (st.2.1.length + 1) = st.2.1.length + 1 by omega]
      exact rb_op a1 a2 (by rw [hS.row hi, hS.row hb]) pk
    · exact (hz i hi).mono (gg_le x (by omega))
theorem sz_all {M : Mat} (h : Rect M r (n + 1)) (s : SurN n M) {x : Nat} (hM : ∀ i, i < r → RB x (M.getD i [])) : ∀ k, Sz x r (stepsN M k)
  | 0 => fun i hi => by
    show RB (gg x (min i 0)) (M.getD i [])
    rw [Nat.min_zero]
    exact hM i hi
  | k + 1 => by
    rw [stepsN_succ]
    exact sz_step (steps_all h s k).1 (sz_all h s hM k)
theorem st_ok {M : Mat} (h : Rect M r (n + 1)) (s : SurN n M) {x : Nat} (hM : ∀ i, i < r → RB x (M.getD i [])) (hg : 3 * gg x (r - 1) ≤ 4490) (wd : Nat) : StOk M wd := by
  intro k hk
  constructor
  intro p e i hi1 hi2 L nz
  have hE := (steps_all h s k).1
  have hz := sz_swp hE (sz_all h s hM k) e
  obtain ⟨h1, h2, h3⟩ := pivot_lt e
  rw [hE.rect.1] at h1 hi2
  have hb : (stepsN M k).2.1.length < r := by omega
  have a1 := (hz i hi2).mono (gg_le x (show min i (stepsN M k).2.1.length ≤ r - 1 by omega))
  have a2 := (hz _ hb).mono (gg_le x (show min (stepsN M k).2.1.length (stepsN M k).2.1.length ≤ r - 1 by omega))
  have pk : ((swp (stepsN M k) p).getD (stepsN M k).2.1.length []).getD k 0 ≠ 0 := by
    rw [swp_getD hE.rect hb h1, if_pos rfl]; exact h3
  have b1 := a1.getD k
  have b2 := a2.getD k
  have hL : L = swp (stepsN M k) p := rfl
  rw [hL]
  refine ⟨b1.sm (by omega), b2.sm (by omega), lok_of (b1.div b2 pk) a1.bd a2.bd (by omega) (by omega)⟩
/-! ### back -/
def Yb (x : Nat) : Nat → Nat → Nat
  | 0, _ => 1
  | m + 1, i => gg x i + Yb x m (i + 1) + 3
theorem back_app : ∀ (l1 l2 : List (Row × Nat)) (f : Row), BackOk l1 f → BackOk l2 (l1.foldl backStep f) → BackOk (l1 ++ l2) f
  | [], l2, f, _, h => h
  | rc :: l1, l2, f, h, k => ⟨h.1, back_app l1 l2 _ h.2 k⟩
theorem rb_back {x y : Nat} {row f : Row} {c m : Nat} (hr : RB x row) (hf : RB y f) (hfl : f.length ≤ 4) (hc : c < f.length) (nz : row.getD c 0 ≠ 0) : RB (x + y + 3) (f.set c ((row.getD m 0 - dot row f) / row.getD c 0)) := by
  obtain ⟨d, d0, d1, fr⟩ := hr
  obtain ⟨e, e0, e1, ff⟩ := hf
  obtain ⟨z, z0, z1, z2⟩ := top_ne (fr.getD c) d0 nz
  refine ⟨((e * z).natAbs : Int), ?_, ?_, frL_of fun j => Fr.nat ?_⟩
  · have : e * z ≠ 0 := Int.mul_ne_zero (by omega) z0
    omega
  · rw [Int.natAbs_natCast]
    exact pm (absMulLt e1 z1) (by omega)
  · rw [getD_set hc]
    by_cases ej : j = c
    · rw [if_pos ej]
      obtain ⟨p, p1, p2⟩ := fr.getD m
      have hdot : Fr (y + x + 2) (e * d) (dot row f) := by rw [dot_comm]; exact ff.dot fr hfl
      obtain ⟨q, q1, q2⟩ := hdot
      refine ⟨p * e - q, ?_, ?_⟩
      · have h1 := pw p1 e1
        have h3 := Int.natAbs_sub_le (p * e) q
        rw [Int.natAbs_mul] at h3
        have h4 : 2 ^ (x + y + 3) = 2 ^ (x + y) * 8 := by rw [Nat.pow_add]
        have h5 : 2 ^ (y + x + 2) = 2 ^ (x + y) * 4 := by rw [Nat.pow_add, Nat.add_comm y x]
        omega
      · rw [Rat.intCast_sub, Rat.intCast_mul, Rat.intCast_mul, ← q2, ← p2, ← z2, Rat.intCast_mul]
        have k := div_ne (y := row.getD m 0 - dot row f) nz
        generalize (row.getD m 0 - dot row f) / row.getD c 0 = t at *
        generalize row.getD m 0 = u1 at *
        generalize row.getD c 0 = u2 at *
        generalize dot row f = u3 at *
        clear p2 q2 z2 fr ff
        grind
    · rw [if_neg ej]
      exact ((ff.getD j).lift z1).mono (by omega)
theorem rb_bk {x : Nat} {st : Stt} (hn : n ≤ 4) (h : Ech n r n st.1 st.2.1) (hf : st.2.1.length = r) (z : Sz x r st) : ∀ m i, i + m = r → RB (Yb x m i) (bk st.1 st.2.1 i (List.replicate n 0))
  | 0, i, e => by
    rw [bk_end (by rw [h.rect.1]; omega)]
    refine ⟨1, by decide, by show 1 < 2 ^ 1; decide, fun q hq => ?_⟩
    rw [(List.mem_replicate.mp hq).2]
    exact Fr.zero _ _
  | m + 1, i, e => by
    have ih := rb_bk hn h hf z m (i + 1) (by omega)
    have ob := bk_ok h hf m (i + 1) (by omega)
    have hi : i < r := by omega
    have hr := z i hi
    rw [show min i st.2.1.length = i by omega] at hr
    rw [bk_step (by rw [h.rect.1]; exact hi) (by omega)]
    unfold backStep
    dsimp only
    rw [h.rect.row hi, Nat.add_sub_cancel, dot_take _ _ _ (by rw [ob.len]; exact Nat.le_refl _)]
    exact rb_back hr ih (by rw [ob.len]; exact hn) (by rw [ob.len]; exact h.lt i (by omega)) (h.piv i (by omega))
theorem back_ok {x : Nat} {st : Stt} (hn : n ≤ 4) (h : Ech n r n st.1 st.2.1) (hf : st.2.1.length = r) (z : Sz x r st) (hg : gg x (r - 1) ≤ 1000) (hY : ∀ m i, i + m = r → Yb x m i ≤ 2000) : ∀ m i, i + m = r → BackOk ((st.1.zip st.2.1).drop i).reverse (List.replicate n 0)
  | 0, i, e => by
    rw [List.drop_eq_nil_of_le (by rw [List.length_zip, h.rect.1]; omega)]
    trivial
  | m + 1, i, e => by
    have hi : i < r := by omega
    rw [zip_drop (by rw [h.rect.1]; exact hi) (by omega), List.reverse_cons]
    refine back_app _ _ _ (back_ok hn h hf z hg hY m (i + 1) (by omega)) ?_
    rw [List.foldl_reverse]
    show BackOk _ (bk st.1 st.2.1 (i + 1) (List.replicate n 0))
    have ih := rb_bk hn h hf z m (i + 1) (by omega)
    have ob := bk_ok h hf m (i + 1) (by omega)
    generalize bk st.1 st.2.1 (i + 1) (List.replicate n 0) = f at *
    have hr := z i hi
    rw [show min i st.2.1.length = i by omega] at hr
    have hr2 := hr.mono (Nat.le_trans (gg_le x (show i ≤ r - 1 by omega)) hg)
    have ih2 := ih.mono (hY m (i + 1) (by omega))
    have hl := h.rect.row hi
    refine ⟨?_, trivial⟩
    unfold backNum
    dsimp only
    rw [hl, Nat.add_sub_cancel, dot_take _ _ _ (by rw [ob.len]; exact Nat.le_refl _)]
    obtain ⟨d, d0, d1, fr⟩ := hr2
    obtain ⟨e', e0, e1, ff⟩ := ih2
    have hdot : Bd 3002 (dot (st.1.getD i []) f) := by
      have : Fr (2000 + 1000 + 2) (e' * d) (dot (st.1.getD i []) f) := by rw [dot_comm]; exact ff.dot fr (by rw [ob.len]; exact hn)
      exact this.bd (Int.mul_pos e0 d0) (pm (absMulLt e1 d1) (by omega)) (by omega)
    have b1 : Bd 1000 ((st.1.getD i []).getD n 0) := (fr.getD n).bd d0 d1 (Nat.le_refl _)
    have b2 : Bd 1000 ((st.1.getD i []).getD (st.2.1.getD i 0) 0) := (fr.getD _).bd d0 d1 (Nat.le_refl _)
    have hc := h.lt i (by omega)
    refine ⟨b1.sm (by omega), ?_, hdot.sm (by omega), (b1.sub hdot).sm (by omega), h.piv i (by omega), b2.sm (by omega), by rw [ob.len]; exact hc, by omega, by omega⟩
    exact FrL.wok' (s := 1000) (t := 2000) (fun q hq => fr q (List.mem_of_mem_take hq)) ff (by rw [List.length_take]; omega) d0 e0 d1 e1 (Nat.le_refl _) (Nat.le_refl _) (by omega)
theorem Yb_le {x r : Nat} (hr : r ≤ 3) (hx : gg x 0 + gg x 1 + gg x 2 + 10 ≤ 2000) : ∀ m i, i + m = r → Yb x m i ≤ 2000 := by
  intro m i e
  match m, i, e with
  | 0, i, e => show 1 ≤ 2000; omega
  | 1, 0, e => show gg x 0 + 1 + 3 ≤ _; omega
  | 1, 1, e => show gg x 1 + 1 + 3 ≤ _; omega
  | 1, 2, e => show gg x 2 + 1 + 3 ≤ _; omega
  | 2, 0, e => show gg x 0 + (gg x 1 + 1 + 3) + 3 ≤ _; omega
  | 2, 1, e => show gg x 1 + (gg x 2 + 1 + 3) + 3 ≤ _; omega
  | 3, 0, e => show gg x 0 + (gg x 1 + (gg x 2 + 1 + 3) + 3) + 3 ≤ _; omega
  | m + 4, i, e => omega
  | 1, i + 3, e => omega
  | 2, i + 2, e => omega
  | 3, i + 1, e => omega
theorem list_ok {F : Mat} {vs : Row} (h0 : 0 < r) (h3 : r ≤ 3) (hn : n ≤ 4) (hF : Rect F r n) (hv : vs.length = r) (s : Sur n F) (hs : ∀ i, i < r → RB 235 (F.getD i [])) (h1 : ∀ i, i < r → vs.getD i 0 = 0 ∨ vs.getD i 0 = 1) : ListOk F vs ∧ RB 2000 (listWith F vs) := by
  obtain ⟨hr, hg⟩ := wv_rect hF hv
  have hsur := sur_withVal hF hv s
  have hM : ∀ i, i < r → RB 235 ((withVal F vs).getD i []) := by
    intro i hi
    obtain ⟨d, d0, d1, fr⟩ := hs i hi
    refine ⟨d, d0, d1, fun q hq => ?_⟩
    rw [hg i hi] at hq
    rcases List.mem_append.mp hq with z | z
    · exact fr q z
    · rw [List.mem_singleton.mp z]
      rcases h1 i hi with y | y
      · rw [y]; exact Fr.zero _ _
      · rw [y]; exact ⟨d, d1, by grind⟩
  have e0 : (F.getD 0 []).length = n := hF.row h0
  obtain ⟨hE, hS, _⟩ := steps_all hr hsur n
  have hfull := steps_full (Nat.le_refl _) hE hS
  have hz := sz_all hr hsur hM n
  have hg3 : gg 235 (r - 1) ≤ 943 := Nat.le_trans (gg_le 235 (show r - 1 ≤ 2 by omega)) (by decide)
  have hYb := Yb_le (x := 235) h3 (by decide)
  refine ⟨⟨by rw [hF.1]; exact h0, by rw [hF.1]; omega, by rw [hF.1]; exact hv, fun q hq => by rw [e0]; exact hF.2 q hq, by rw [e0]; omega, ?_, ?_⟩, ?_⟩
  · exact st_ok hr hsur hM (by omega) _
  · rw [e0, stepsN_last hr hsur]
    have := back_ok hn hE hfull hz (by omega) hYb r 0 (by omega)
    rw [List.drop_zero] at this
    exact this
  · rw [listWith_eq h0 hF hv s]
    exact (rb_bk hn hE hfull hz r 0 (by omega)).mono (hYb r 0 (by omega))
end
end OC
set_option maxHeartbeats 4000000
/-! OcK9: sizes of what level and the law compute. -/
namespace OC
/-- a table and weights as the law draws them -/
structure Src (A : Mat) (w : Row) (n : Nat) : Prop where
  h : Rect A n n
  n0 : 0 < n
  n4 : n ≤ 4
  s : Sym A
  wl : w.length = n
  wp : ∀ i, i < n → 0 < w.getD i 0
  ta : TB 20 42 A
  tw : FrL 6 6 w
namespace Src
variable {A : Mat} {w : Row} {n : Nat}
theorem lv (S : Src A w n) (c0 : 0 < valF A w) : Lv A w n := ⟨S.h, S.n0, S.n4, S.s, S.wl, S.wp, c0⟩
theorem al (S : Src A w n) : A.length ≤ 4 := by rw [S.h.1]; exact S.n4
theorem rl (S : Src A w n) {r : Row} (hr : r ∈ A) : r.length ≤ 4 := by rw [S.h.2 r hr]; exact S.n4
theorem tmv (S : Src A w n) {x : Nat} {d : Int} {y : Row} (hy : FrL x d y) : FrL (20 + x + 2) (42 * d) (mv A y) := frL_of fun i => by
  rw [mv_getD]
  exact (S.ta.row i).dot hy (by
    by_cases hi : i < n
    · rw [S.h.row hi]; exact S.n4
    · rw [getD_out (l := A) (by rw [S.h.1]; omega)]; exact Nat.zero_le _)
theorem tm (S : Src A w n) : FrL 28 252 (mv A w) := S.tmv S.tw
theorem tc (S : Src A w n) : Fr 36 1512 (valF A w) := S.tw.dot S.tm (by rw [S.wl]; exact S.n4)
theorem bA (S : Src A w n) : ∀ r ∈ A, ∀ q ∈ r, Bd 20 q := fun r hr => (S.ta.mem r hr).bd (by decide) (by decide) (Nat.le_refl _)
theorem bw (S : Src A w n) : ∀ q ∈ w, Bd 6 q := S.tw.bd (by decide) (by decide) (Nat.le_refl _)
theorem bm (S : Src A w n) : ∀ q ∈ mv A w, Bd 28 q := S.tm.bd (by decide) (by decide) (Nat.le_refl _)
theorem bc (S : Src A w n) : Bd 36 (valF A w) := S.tc.bd (by decide) (by decide) (Nat.le_refl _)
theorem smA (S : Src A w n) : SmM A := fun r hr q hq => (S.bA r hr q hq).sm (by omega)
theorem wA (S : Src A w n) {s : Nat} {x : Nat} {d : Int} {y : Row} (hy : FrL x d y) (d0 : 0 < d) (hd : d.natAbs < 2 ^ s) (hx : x ≤ s) (hs : s ≤ 4400) : ∀ r ∈ A, r.length ≤ 1000 ∧ WOk r y := fun r hr =>
  ⟨by have := S.rl hr; omega, (S.ta.mem r hr).wok' (s := 20) (t := s) hy (S.rl hr) (by decide) d0 (by decide) hd (Nat.le_refl _) hx (by omega)⟩
theorem rw1 (S : Src A w n) : ∀ r ∈ A, r.length ≤ 1000 ∧ WOk r w := S.wA (s := 6) S.tw (by decide) (by decide) (Nat.le_refl _) (by omega)
theorem ml1 (S : Src A w n) : WOk w (mv A w) := S.tw.wok' (s := 6) (t := 28) S.tm (by rw [S.wl]; exact S.n4) (by decide) (by decide) (by decide) (by decide) (Nat.le_refl _) (Nat.le_refl _) (by omega)
/-- the top of the form at the weights -/
theorem top (S : Src A w n) (c0 : 0 < valF A w) : ∃ Z : Int, 0 < Z ∧ Z.natAbs < 2 ^ 36 ∧ valF A w * 1512 = (Z : Rat) := by
  obtain ⟨z, z1, z2⟩ := S.tc
  refine ⟨z, ?_, z1, z2⟩
  have h1 : (0 : Rat) < (z : Rat) := by rw [← z2]; exact mulp c0 (by decide)
  exact Rat.intCast_lt_intCast.mp h1
theorem trest (S : Src A w n) (c0 : 0 < valF A w) : ∃ d : Int, 0 < d ∧ d.natAbs < 2 ^ 57 ∧ TB 57 d (restM A w) := by
  obtain ⟨Z, Z0, Z1, Z2⟩ := S.top c0
  have hc := S4.inv_mul c0
  refine ⟨42 * Z, by omega, pm (absMulLt (x := 6) (y := 36) (by decide) Z1) (by omega), fun i j => ?_⟩
  obtain ⟨a, a1, a2⟩ := S.ta i j
  obtain ⟨mi, mi1, mi2⟩ := S.tm.getD i
  obtain ⟨mj, mj1, mj2⟩ := S.tm.getD j
  refine ⟨a * Z - mj * mi, ?_, ?_⟩
  · have h1 := pw a1 Z1
    have h2 := pw mj1 mi1
    have h3 := Int.natAbs_sub_le (a * Z) (mj * mi)
    rw [Int.natAbs_mul, Int.natAbs_mul] at h3
    omega
  · rw [(S.lv c0).rest.2.2.2 i j, Rat.intCast_sub, Rat.intCast_mul, Rat.intCast_mul, Rat.intCast_mul, ← a2, ← mi2, ← mj2, ← Z2]
    generalize 1 / valF A w = q at *
    generalize valF A w = c at *
    generalize ent A i j = e at *
    generalize (mv A w).getD i 0 = u at *
    generalize (mv A w).getD j 0 = v at *
    clear a2 mi2 mj2 Z2
    have e42 : ((42 : Int) : Rat) = 42 := rfl
    have e252 : ((252 : Int) : Rat) = 252 := rfl
    rw [e42, e252]
    have : v * (q * u) * (42 * (c * 1512)) = v * u * (42 * 1512) * (q * c) := by grind
    have e1 : (e - v * (q * u)) * (42 * (c * 1512)) = e * 42 * (c * 1512) - v * (q * u) * (42 * (c * 1512)) := by grind
    rw [e1, this, hc]
    grind
theorem sizes (S : Src A w n) (c0 : 0 < valF A w) : SqOk 4 (restM A w) ∧ ∀ q ∈ Lv.sqs A w, RB 235 q.2 := by
  obtain ⟨d, d0, d1, hB⟩ := S.trest c0
  have L := S.lv c0
  obtain ⟨h1, h2, h3, _⟩ := L.rest
  have hcle := L.cle
  have h4 := S.n4
  obtain ⟨k1, k2⟩ := sq_ok 4 (restM A w) 57 d h1 S.n4 h2 h3 S.wp (by omega) d0 d1 hB (Nat.le_trans (G_up (cnt (restM A w) - 1) 3 57 (by omega)) (by decide)) (by omega)
  refine ⟨k1, fun q hq => ?_⟩
  have : G (cnt (restM A w) - 2) 57 + 1 ≤ 235 := Nat.succ_le_succ (Nat.le_trans (G_up (cnt (restM A w) - 2) 2 57 (by omega)) (by decide))
  exact RB.mono (k2 q hq) this
theorem lok_list (S : Src A w n) (c0 : 0 < valF A w) (j : Nat) (hj : j < (Lv.sqs A w).length) : ListOk (formsL (Lv.sqs A w)) (unitR j (Lv.sqs A w).length) ∧ RB 2000 (listWith (formsL (Lv.sqs A w)) (unitR j (Lv.sqs A w).length)) := by
  have L := S.lv c0
  refine list_ok (n := n) (r := (Lv.sqs A w).length) (by omega) L.len3 S.n4 L.forms_rect (by unfold unitR; simp) L.good.sur (fun i hi => ?_) (fun i hi => ?_)
  · rw [Lv.fq_forms hi]
    exact (S.sizes c0).2 _ (Lv.fq_mem hi)
  · rw [Lv.unitR_getD hi]
    split
    · exact Or.inr rfl
    · exact Or.inl rfl
/-- level's own steps keep within bounds -/
theorem lvok (S : Src A w n) (c0 : 0 < valF A w) : LvOk A w 4 := by
  have L := S.lv c0
  have hne : valF A w ≠ 0 := by grind
  have hal := S.al
  refine ⟨by omega, by rw [S.wl]; have := S.n4; omega, S.rw1, S.ml1, S.bc.sm (by omega), hne, ?_, (S.sizes c0).1, by decide, ?_, fun j hd => ?_, fun v hv => ?_⟩
  · exact ls_ok S.h S.n4 (fun r hr q hq => S.bA r hr q hq) S.bm (S.bc.inv hne) (by omega) (by omega)
  · have := L.len3; show (Lv.sqs A w).length ≤ 100; omega
  · have hj : j < (Lv.sqs A w).length := List.mem_range.mp (List.mem_filter.mp (List.mem_of_head? hd)).1
    exact (S.lok_list c0 j hj).1
  · rcases L.told with ⟨e, b⟩ | ⟨j, v', hj, b, hd, ev, vl, dv, ea, e⟩
    · have : aboveF (Lv.sqs A w) = some v := hv
      have e' : levelV A w 4 = Option.map _ (aboveF (Lv.sqs A w)) := rfl
      rw [e, this] at e'
      exact nomatch e'
    · have e1 : aboveF (Lv.sqs A w) = some v := hv
      rw [ea] at e1
      injection e1 with e1
      subst e1
      obtain ⟨d, d0, d1, fv⟩ := (ev ▸ (S.lok_list c0 j hj).2 : RB 2000 v')
      have hdot : Bd 2040 (dot (mv A w) v') := by
        have : Fr (28 + 2000 + 2) (252 * d) (dot (mv A w) v') := S.tm.dot fv (by rw [L.ml]; exact S.n4)
        exact this.bd (by omega) (pm (absMulLt (x := 8) (by decide) d1) (by omega)) (by omega)
      refine ⟨by rw [vl]; have := S.n4; omega, S.tm.wok' (s := 28) (t := 2000) fv (by rw [L.ml]; exact S.n4) (by decide) d0 (by decide) d1 (Nat.le_refl _) (Nat.le_refl _) (by omega), hdot.sm (by omega), ?_⟩
      exact lok_of (hdot.div S.bc hne) (fv.bd d0 d1 (Nat.le_refl _)) S.bw (by omega) (by omega)
/-- what is told is not too large -/
theorem told_rb (S : Src A w n) (c0 : 0 < valF A w) (u : Row) (hu : levelV A w 4 = some u) : RB 2040 u := by
  have L := S.lv c0
  rcases L.told with ⟨e, b⟩ | ⟨j, v, hj, b, hd, ev, vl, dv, ea, e⟩
  · rw [e] at hu; exact nomatch hu
  · rw [e] at hu
    injection hu with hu
    obtain ⟨d, d0, d1, fv⟩ := (ev ▸ (S.lok_list c0 j hj).2 : RB 2000 v)
    obtain ⟨Z, Z0, Z1, Z2⟩ := S.top c0
    have hdot : Fr (28 + 2000 + 2) (252 * d) (dot (mv A w) v) := S.tm.dot fv (by rw [L.ml]; exact S.n4)
    obtain ⟨N, N1, N2⟩ := hdot
    have hk := div_ne (y := dot (mv A w) v) (show valF A w ≠ 0 by grind)
    refine ⟨d * Z, Int.mul_pos d0 Z0, pm (absMulLt d1 Z1) (by omega), frL_of fun i => ?_⟩
    obtain ⟨a, a1, a2⟩ := fv.getD i
    obtain ⟨b', b1, b2⟩ := S.tw.getD i
    refine ⟨a * Z - b' * N, ?_, ?_⟩
    · have h1 := pw a1 Z1
      have h2 := pw b1 N1
      have h3 := Int.natAbs_sub_le (a * Z) (b' * N)
      rw [Int.natAbs_mul, Int.natAbs_mul] at h3
      have e1 : 2 ^ 2040 = 2 ^ (2000 + 36) * 16 := by rw [show 2040 = (2000 + 36) + 4 from rfl, Nat.pow_add 2 (2000 + 36) 4]
      have e2 : 2 ^ (6 + (28 + 2000 + 2)) = 2 ^ (2000 + 36) := rfl
      rw [e2] at h2
      rw [e1]
      generalize 2 ^ (2000 + 36) = P at *
      omega
    · rw [← hu, lessR_getD _ _ (by rw [vl, S.wl]), Rat.intCast_sub, Rat.intCast_mul, Rat.intCast_mul, Rat.intCast_mul, ← a2, ← b2, ← N2, ← Z2, Rat.intCast_mul]
      have e6 : ((6 : Int) : Rat) = 6 := rfl
      have e252 : ((252 : Int) : Rat) = 252 := rfl
      rw [e6, e252]
      generalize dot (mv A w) v / valF A w = q at *
      generalize dot (mv A w) v = p at *
      generalize valF A w = c at *
      generalize v.getD i 0 = vi at *
      generalize w.getD i 0 = wi at *
      clear a2 b2 N2 Z2
      subst hk
      grind
/-- sums over places: what they ask -/
theorem form_ok (S : Src A w n) {x y : Row} {a b : Nat} (hx : RB a x) (hy : RB b y) (xl : x.length = n) (yl : y.length = n) (hab : a + b + 40 ≤ 4490) : FormOk A x y ∧ Bd (a + b + 40) (formF A x y) := by
  obtain ⟨d, d0, d1, fx⟩ := hx
  obtain ⟨e, e0, e1, fy⟩ := hy
  have hal := S.al
  have h4 := S.n4
  have tm := S.tmv fy
  have hmy : (mv A y).length = n := by rw [mv_len, S.h.1]
  have hbd : (42 * e).natAbs < 2 ^ (6 + b) := absMulLt (by decide) e1
  refine ⟨⟨fun r hr => by rw [S.h.2 r hr, S.h.1], by omega, by rw [S.h.1, xl], by rw [S.h.1, yl], S.smA, fx.sm d0 d1 (Nat.le_refl _) (by omega), fy.sm e0 e1 (Nat.le_refl _) (by omega), fun i hi => ?_, ?_⟩, ?_⟩
  · rw [S.h.1] at hi
    rw [rowT_eq S.h yl hi]
    exact ((S.ta.row i).dotL fy).sms (y := 20 + b + 2) (by unfold dotL; rw [List.length_zipWith, S.h.row hi]; omega) (by omega) (pm hbd (by omega)) (by omega) (by omega)
  · rw [formT_eq S.h xl yl]
    exact (tm.dotL fx).sms (y := a + b + 40) (by unfold dotL; rw [List.length_zipWith, hmy]; omega) (Int.mul_pos (by omega) d0) (pm (absMulLt hbd d1) (by omega)) (by omega) hab
  · rw [formF_eq S.h xl yl, dot_comm]
    exact (tm.dot fx (by rw [hmy]; exact h4)).bd (Int.mul_pos (by omega) d0) (pm (absMulLt hbd d1) (by omega)) (by omega)
theorem rbw (S : Src A w n) : RB 6 w := ⟨6, by decide, by decide, S.tw⟩
theorem formF_w (S : Src A w n) : formF A w w = valF A w := formF_eq S.h S.wl S.wl
/-- weights as they are given -/
theorem wtok (S : Src A w n) {v : D} {xs : List D} (hs : SeqD v xs) (hn : Nms xs w) : WtOk A v w := by
  have hal := S.al
  refine ⟨⟨xs, hs, hn⟩, by rw [S.wl, S.h.1], fun q hq => (S.bw q hq).sm (by omega), fun q hq => ?_, by omega, S.rw1, S.ml1⟩
  obtain ⟨i, hi, e⟩ := List.mem_iff_getElem.mp hq
  have := S.wp i (by rw [← S.wl]; exact hi)
  rw [getDn (List.getElem?_eq_getElem hi), e] at this
  exact this
end Src
/-! ### values -/
structure Vq (n : Nat) (v : D) : Prop where
  pl : plainD v = true
  it : ∀ x ∈ itemsD v, plainD x = true
  nl : (itemsD v).length ≤ 1000
  rb : numsB v n = true → RB 2100 (numsD (itemsD v))
theorem nms_all : ∀ {xs : List D}, xs.all isN = true → Nms xs (numsD xs)
  | [], _ => .nil
  | .int i :: t, h => .cons (.int i) (nms_all h)
  | .rat q :: t, h => .cons (.rat q) (nms_all h)
  | .non :: t, h => by simp [isN] at h
  | .bl _ :: t, h => by simp [isN] at h
  | .str _ :: t, h => by simp [isN] at h
  | .lst _ :: t, h => by simp [isN] at h
  | .tup _ :: t, h => by simp [isN] at h
  | .dic :: t, h => by simp [isN] at h
  | .ptr _ :: t, h => by simp [isN] at h
  | .scr _ _ :: t, h => by simp [isN] at h
  | .ty _ :: t, h => by simp [isN] at h
theorem numsB_n {v : D} {n : Nat} (h : numsB v (n : Int) = true) : Nms (itemsD v) (numsD (itemsD v)) ∧ (numsD (itemsD v)).length = n := by
  unfold numsB at h
  simp only [Bool.and_eq_true, decide_eq_true_eq] at h
  have h1 := nms_all h.2.2
  exact ⟨h1, by rw [← h1.length]; omega⟩
section
variable {A : Mat} {w : Row} {n : Nat} {v : D}
theorem Vq.vlok (V : Vq n v) (S : Src A w n) : VlOk A w v := by
  refine ⟨V.pl, V.it, V.nl, fun h => ?_⟩
  rw [S.h.1] at h
  obtain ⟨h1, h2⟩ := numsB_n h
  obtain ⟨d, d0, d1, fq⟩ := V.rb h
  have h4 := S.n4
  refine ⟨_, h1, fq.sm d0 d1 (Nat.le_refl _) (by omega), by omega, S.wA fq d0 d1 (Nat.le_refl _) (by omega), ?_, ?_⟩
  · exact S.tw.wok' (s := 6) (t := 2122) (S.tmv fq) (by rw [S.wl]; exact h4) (by decide) (by omega) (by decide) (pm (absMulLt (x := 6) (by decide) d1) (by omega)) (by omega) (by omega) (by omega)
  · exact fq.wok' (s := 2100) (t := 2122) (S.tmv fq) (by omega) d0 (by omega) d1 (pm (absMulLt (x := 6) (by decide) d1) (by omega)) (by omega) (by omega) (by omega)
theorem Vq.lookok (V : Vq n v) (S : Src A w n) : LookOk A w v := by
  refine ⟨V.pl, V.it, V.nl, fun h => ?_⟩
  rw [S.h.1] at h
  obtain ⟨h1, h2⟩ := numsB_n h
  exact ⟨_, h1, (S.form_ok S.rbw (V.rb h) S.wl h2 (by omega)).1, (S.form_ok (V.rb h) (V.rb h) h2 h2 (by omega)).1⟩
theorem look_eq (S : Src A w n) : lookF A w v = looksB A w v := by
  unfold lookF looksB
  cases h : numsB v A.length with
  | false => rfl
  | true =>
    rw [S.h.1] at h
    obtain ⟨h1, h2⟩ := numsB_n h
    rw [formF_eq S.h S.wl h2, formF_eq S.h h2 h2]
end
end OC
set_option maxHeartbeats 4000000
/-! OcJ1: sizes of minors; the drawn tables and weights. -/
namespace OC
/-! ### minors -/
def Pb (x : Nat) (A : Mat) : Prop := ∀ r ∈ A, ∀ q ∈ r, Bd x q
theorem Pb.ent {x : Nat} {A : Mat} (h : Pb x A) (hx : 0 < x) (i j : Nat) : Bd x (ent A i j) := by
  unfold OC.ent
  by_cases hi : i < A.length
  · have h1 := h _ (mem_getD (b := []) hi)
    by_cases hj : j < (A.getD i []).length
    · exact h1 _ (mem_getD hj)
    · rw [getD_out (by omega)]; exact Bd.zero x hx
  · rw [getD_out (l := A) (by omega)]; exact Bd.zero x hx
def dz : Nat → Nat
  | 0 => 1
  | n + 1 => 1 + (n + 1) * (dz n + 22)
theorem bd_sg (i : Nat) : Bd 1 ((sgI i : Int) : Rat) := by
  refine ⟨1, by decide, by decide, sgI i, ?_, by grind⟩
  unfold sgI
  split <;> decide
theorem bd_one : Bd 1 (1 : Rat) := ⟨1, by decide, by decide, 1, by decide, by grind⟩
theorem det_ok : ∀ (n : Nat) (A : Mat), Pb 20 A → (∀ r ∈ A, r.length ≤ n) → dz n ≤ 2000 → DetOk n A ∧ Bd (dz n) (detF n A)
  | 0, A, _, _, _ => ⟨trivial, bd_one⟩
  | n + 1, A, h, hl, hz => by
    have hz1 : dz n + 22 ≤ dz (n + 1) := by
      show _ ≤ 1 + (n + 1) * (dz n + 22)
      rw [Nat.add_mul]; omega
    have mp : ∀ i, Pb 20 (minorM A i) := by
      intro i r hr q hq
      obtain ⟨r', hr', e⟩ := List.mem_map.mp hr
      have hm : r' ∈ A := List.mem_of_mem_drop hr'
      rw [← e] at hq
      rcases List.mem_append.mp hq with z | z
      · exact h r' hm q (List.mem_of_mem_take z)
      · exact h r' hm q (List.mem_of_mem_drop z)
    have ml : ∀ i, i < (A.getD 0 []).length → ∀ r ∈ minorM A i, r.length ≤ n := by
      intro i hi r hr
      obtain ⟨r', hr', e⟩ := List.mem_map.mp hr
      have hm := hl r' (List.mem_of_mem_drop hr')
      have h0 : (A.getD 0 []).length ≤ n + 1 := row_le hl
      rw [← e, List.length_append, List.length_take, List.length_drop]
      omega
    have ih := fun i (hi : i < (A.getD 0 []).length) => det_ok n (minorM A i) (mp i) (ml i hi) (by omega)
    have he := fun i => h.ent (by decide) 0 i
    have ht : ∀ i, i < (A.getD 0 []).length → Bd (dz n + 20 + 1) (detT (detF n) A i) := by
      intro i hi
      rw [detT_eq]
      exact ((ih i hi).2.mul (he i)).mul (bd_sg i)
    have hp : ∀ k, k ≤ (A.getD 0 []).length → Bd (1 + k * (dz n + 22)) (detP (detF n) A k) := by
      intro k
      induction k with
      | zero => intro _; exact Bd.zero _ (by omega)
      | succ k ihk =>
        intro hk
        have := (ihk (by omega)).add (ht k (by omega))
        refine this.mono ?_
        rw [Nat.add_mul]; omega
    have h0 : (A.getD 0 []).length ≤ n + 1 := row_le hl
    have hpk : ∀ k, k ≤ (A.getD 0 []).length → 1 + k * (dz n + 22) ≤ dz (n + 1) := fun k hk => Nat.add_le_add_left (Nat.mul_le_mul_right _ (by omega)) 1
    refine ⟨fun i hi => ⟨(he i).sm (by omega), ((hp i (by omega)).mono (hpk i (by omega))).sm (by omega), fun nz => ⟨(ih i hi).1, (ih i hi).2.sm (by omega), ((ih i hi).2.mul (he i)).sm (by omega), (((ih i hi).2.mul (he i)).mul (bd_sg i)).sm (by omega)⟩⟩, ?_⟩
    exact (hp _ (Nat.le_refl _)).mono (hpk _ (Nat.le_refl _))
theorem bd_sum {y : Nat} : ∀ {l : List Rat}, (∀ q ∈ l, Bd y q) → Bd (1 + l.length * (y + 1)) (sumR l)
  | [], _ => Bd.zero _ (by omega)
  | a :: l, h => by
    rw [sumR_cons]
    refine ((h a List.mem_cons_self).add (bd_sum (l := l) fun q hq => h q (List.mem_cons_of_mem _ hq))).mono ?_
    rw [List.length_cons, Nat.add_mul]; omega
theorem cho_bound : ∀ n, n ≤ 4 → ∀ m, m ≤ 4 → 1 + (choF n m).length * (dz m + 1) ≤ 2000 := by
  intro n hn m hm
  have : ∀ n, n < 5 → ∀ m, m < 5 → 1 + (choF n m).length * (dz m + 1) ≤ 2000 := by decide
  exact this n (by omega) m (by omega)
theorem dz_le : ∀ m, m ≤ 4 → dz m ≤ 2000 := by
  intro m hm
  have : ∀ m, m < 5 → dz m ≤ 2000 := by decide
  exact this m (by omega)
theorem sub_pb {A : Mat} (h : Pb 20 A) (ps : List Nat) : Pb 20 (subM A ps) := by
  intro r hr q hq
  obtain ⟨i, _, e⟩ := List.mem_map.mp hr
  rw [← e] at hq
  obtain ⟨j, _, e'⟩ := List.mem_map.mp hq
  rw [← e']
  exact h.ent (by decide) i j
theorem sub_len (A : Mat) (ps : List Nat) : ∀ r ∈ subM A ps, r.length ≤ ps.length := by
  intro r hr
  obtain ⟨i, _, e⟩ := List.mem_map.mp hr
  rw [← e, List.length_map]
  exact Nat.le_refl _
theorem cho_ln {n m : Nat} {ps : List Nat} (h : ps ∈ choF n m) : ps.length = m ∧ ps.length ≤ n := by
  obtain ⟨h1, h2⟩ := List.mem_filter.mp h
  exact ⟨of_decide_eq_true h2, (choL_item m n ps h1).1⟩
theorem Src.sums {A : Mat} {w : Row} {n : Nat} (S : Src A w n) : SumsOk A ∧ ∀ q ∈ sumsF A, Sm q := by
  have hp : Pb 20 A := S.bA
  have h4 := S.al
  have hb : ∀ m, m ≤ A.length → ∀ q ∈ sumsT A m, Bd (dz m) q := by
    intro m hm q hq
    obtain ⟨ps, hps, e⟩ := List.mem_map.mp hq
    obtain ⟨l1, l2⟩ := cho_ln hps
    rw [← e, ← l1]
    exact (det_ok ps.length _ (sub_pb hp ps) (sub_len A ps) (dz_le _ (by omega))).2
  have hl : ∀ m, (sumsT A m).length = (choF A.length m).length := fun m => by unfold sumsT; rw [List.length_map]
  have hs : ∀ m, m ≤ A.length → SmS (sumsT A m) := by
    intro m hm
    refine ⟨fun q hq => (hb m hm q hq).sm (by have := dz_le m (by omega); omega), fun k => ?_⟩
    refine ((bd_sum (y := dz m) fun q hq => hb m hm q (List.mem_of_mem_take hq)).mono ?_).sm (x := 2000) (by omega)
    refine Nat.le_trans ?_ (cho_bound A.length h4 m (by omega))
    refine Nat.add_le_add_left (Nat.mul_le_mul_right _ ?_) 1
    rw [List.length_take, hl]; omega
  refine ⟨⟨fun r hr => by rw [S.h.2 r hr, S.h.1], h4, fun m ps hps => ?_, hs⟩, fun q hq => ?_⟩
  · obtain ⟨l1, l2⟩ := cho_ln hps
    exact (det_ok ps.length _ (sub_pb hp ps) (sub_len A ps) (dz_le _ (by omega))).1
  · obtain ⟨m, hm, e⟩ := List.mem_map.mp hq
    have hm' : m < A.length + 1 := List.mem_range.mp hm
    have := (hs m (by omega)).2 (sumsT A m).length
    rw [List.take_length] at this
    rw [← e]; exact this
/-! ### drawn numbers -/
theorem smq_fr {m : Int} {q : Rat} (h : SmQ m q) (hm : m ≤ 6) : Fr 6 6 q ∧ ∃ z : Int, z.natAbs ≤ 252 ∧ q * ((42 : Int) : Rat) = (z : Rat) := by
  obtain ⟨a, b, h1, h2, h3, h4, e⟩ := h
  have hb : b = 1 ∨ b = 2 ∨ b = 3 := by omega
  have e6 : ((6 : Int) : Rat) = 6 := rfl
  have e42 : ((42 : Int) : Rat) = 42 := rfl
  rw [Rat.divInt_eq_div] at e
  rcases hb with r | r | r
  · subst r
    have : q * 1 = (a : Rat) := by rw [e]; exact div_ne (by decide)
    exact ⟨⟨a * 6, by show _ < 64; omega, by rw [e6]; grind⟩, a * 42, by omega, by rw [e42]; grind⟩
  · subst r
    have : q * 2 = (a : Rat) := by rw [e]; exact div_ne (by decide)
    exact ⟨⟨a * 3, by show _ < 64; omega, by rw [e6]; grind⟩, a * 21, by omega, by rw [e42]; grind⟩
  · subst r
    have : q * 3 = (a : Rat) := by rw [e]; exact div_ne (by decide)
    exact ⟨⟨a * 2, by show _ < 64; omega, by rw [e6]; grind⟩, a * 14, by omega, by rw [e42]; grind⟩
theorem smq_rb {m : Int} {v : Row} (h : ∀ q ∈ v, SmQ m q) (hm : m ≤ 6) : RB 6 v := ⟨6, by decide, by decide, fun q hq => (smq_fr (h q hq) hm).1⟩
/-! ### growing tables -/
theorem moreF_ent {n : Nat} {A : Mat} (h : SqN n A) (c : Rat) (f : List Int) {i j : Nat} (hi : i < n) (hj : j < n) : ent (moreF A c f) i j = ent A i j + c * (f.getD i 0 : Int) * (f.getD j 0 : Int) := by
  unfold moreF
  unfold ent
  rw [h.1, getDn (a := (List.range n).map fun j => (A.getD i []).getD j 0 + c * (f.getD i 0 : Int) * (f.getD j 0 : Int)) (by rw [List.getElem?_map, List.getElem?_range hi]; rfl), getDn (a := (A.getD i []).getD j 0 + c * (f.getD i 0 : Int) * (f.getD j 0 : Int)) (by rw [List.getElem?_map, List.getElem?_range hj]; rfl)]
theorem offF_mem {t : Pot} (h : PotOk t) : (offF t).1.natAbs ≤ 2 := by
  obtain ⟨h1, h2, _⟩ := draw_ok (n := 5) h (by decide)
  unfold offF
  show ((draw t 5).1 - 2).natAbs ≤ 2
  omega
theorem offs_mem {n : Nat} {t : Pot} (h : PotOk t) (i : Nat) : ((iterS offF n t).1.getD i 0).natAbs ≤ 2 := by
  have h1 := (iterS_ok (P := fun a : Int => a.natAbs ≤ 2) (fun t ht => ⟨offF_mem ht, offF_ok t ht⟩) h n).1
  by_cases hi : i < (iterS offF n t).1.length
  · exact h1 _ (mem_getD hi)
  · rw [getD_out (by omega)]; decide
/-- tops over 42, to some bound -/
def Tp (M : Nat) (A : Mat) : Prop := ∀ i j, ∃ z : Int, z.natAbs ≤ M ∧ ent A i j * ((42 : Int) : Rat) = (z : Rat)
theorem Tp.tb {M : Nat} {A : Mat} (h : Tp M A) (hM : M < 2 ^ 20) : TB 20 42 A := fun i j => (h i j).elim fun z hz => ⟨z, by omega, hz.2⟩
theorem zero_tp (n : Nat) : Tp 0 (zeroM n) ∧ Sym (zeroM n) := by
  have : ∀ i j, ent (zeroM n) i j = 0 := by
    intro i j
    unfold ent zeroM
    by_cases hi : i < n
    · rw [getDn (a := (List.range n).map fun _ => (0 : Rat)) (by rw [List.getElem?_map, List.getElem?_range hi]; rfl)]
      by_cases hj : j < n
      · rw [getDn (a := 0) (by rw [List.getElem?_map, List.getElem?_range hj]; rfl)]
      · exact getD_out (by simp; omega)
    · rw [getD_out (l := List.map _ _) (by simp; omega)]; rfl
  exact ⟨fun i j => ⟨0, by decide, by rw [this]; grind⟩, fun i j => by rw [this, this]⟩
theorem more_tp {n : Nat} {s : Mat × Pot} {M : Nat} (hs : SqN n s.1) (h : Tp M s.1) (y : Sym s.1) (hp : PotOk s.2) : Tp (M + 1008) (moreS n s).1 ∧ Sym (moreS n s).1 := by
  have hc := smallF_smq (m := 3) hp (by decide)
  have hp2 := smallF_ok (m := 3) hp (by decide)
  obtain ⟨_, c, c1, c2⟩ := smq_fr hc (by decide)
  have hsq := moreF_sq hs (smallF 3 s.2).1 (iterS offF n (smallF 3 s.2).2).1
  show Tp (M + 1008) (moreF s.1 (smallF 3 s.2).1 (iterS offF n (smallF 3 s.2).2).1) ∧ Sym (moreF s.1 (smallF 3 s.2).1 (iterS offF n (smallF 3 s.2).2).1)
  refine ⟨fun i j => ?_, fun i j => ?_⟩
  · by_cases hij : i < n ∧ j < n
    · rw [moreF_ent hs _ _ hij.1 hij.2]
      obtain ⟨z, z1, z2⟩ := h i j
      have f1 := offs_mem (n := n) hp2 i
      have f2 := offs_mem (n := n) hp2 j
      generalize (iterS offF n (smallF 3 s.2).2).1.getD i 0 = a at *
      generalize (iterS offF n (smallF 3 s.2).2).1.getD j 0 = b at *
      refine ⟨z + c * a * b, ?_, ?_⟩
      · have k1 := Int.natAbs_add_le z (c * a * b)
        rw [Int.natAbs_mul, Int.natAbs_mul] at k1
        have k2 : c.natAbs * a.natAbs ≤ 252 * 2 := Nat.mul_le_mul c1 f1
        have k3 : c.natAbs * a.natAbs * b.natAbs ≤ 252 * 2 * 2 := Nat.mul_le_mul k2 f2
        omega
      · rw [Rat.intCast_add, Rat.intCast_mul, Rat.intCast_mul, ← z2, ← c2]; grind
    · rw [ent_out hsq (by omega)]
      exact ⟨0, by omega, by grind⟩
  · by_cases hij : i < n ∧ j < n
    · rw [moreF_ent hs _ _ hij.1 hij.2, moreF_ent hs _ _ hij.2 hij.1, y i j]; grind
    · rw [ent_out hsq (by omega), ent_out hsq (by omega)]
theorem moreL_tp {n : Nat} {t : Pot} (hp : PotOk t) : ∀ k, Tp (k * 1008) (moreL n t k).1 ∧ Sym (moreL n t k).1
  | 0 => by rw [Nat.zero_mul]; exact zero_tp n
  | k + 1 => by
    have ih := moreL_tp (n := n) hp k
    have := more_tp (moreL_sq n t k) ih.1 ih.2 (moreL_ok hp k)
    rw [Nat.add_mul, Nat.one_mul]
    exact this
theorem bd_int {z : Int} {x : Nat} (h : z.natAbs < 2 ^ x) (hx : 0 < x) : Bd x (z : Rat) := (Fr.int h).bd (by decide) (by
  have : 2 ^ 1 ≤ 2 ^ x := Nat.pow_le_pow_right (by decide) hx
  show 1 < 2 ^ x
  omega) (Nat.le_refl _)
theorem grow_ok {n : Nat} (hn : n ≤ 4) : GrowOk n := by
  intro t k hp hk
  have hq := moreL_ok (n := n) hp k
  have hc := smallF_smq (m := 3) hq (by decide)
  have hp2 := smallF_ok (m := 3) hq (by decide)
  have bc : Bd 6 (smallF 3 (moreL n t k).2).1 := (smq_fr hc (by decide)).1.bd (by decide) (by decide) (Nat.le_refl _)
  have hT := (moreL_tp (n := n) hp k).1.tb (by
    have : k * 1008 ≤ 4 * 1008 := Nat.mul_le_mul_right _ (by omega)
    omega)
  refine ⟨bc.sm (by omega), fun i j hi hj => ?_⟩
  have f1 := offs_mem (n := n) hp2 i
  have f2 := offs_mem (n := n) hp2 j
  have b1 : Bd 2 (((iterS offF n (smallF 3 (moreL n t k).2).2).1.getD i 0 : Int) : Rat) := bd_int (by show _ < 4; omega) (by decide)
  have b2 : Bd 2 (((iterS offF n (smallF 3 (moreL n t k).2).2).1.getD j 0 : Int) : Rat) := bd_int (by show _ < 4; omega) (by decide)
  exact ⟨((hT i j).bd (y := 20) (by decide) (by decide) (Nat.le_refl _)).sm (by omega), (bc.mul b1).sm (by omega), ((bc.mul b1).mul b2).sm (by omega), b1.sm (by omega)⟩
/-! ### drawn entries -/
theorem one_tp {way : Int} {i j : Nat} {t : Pot} (hp : PotOk t) : ∃ z : Int, z.natAbs ≤ 1000000 ∧ (oneF way i j t).1 * ((42 : Int) : Rat) = (z : Rat) := by
  have e42 : ((42 : Int) : Rat) = 42 := rfl
  have h1 : ∃ z : Int, z.natAbs ≤ 1000000 ∧ (one1 way t).1 * ((42 : Int) : Rat) = (z : Rat) := by
    unfold one1
    split
    · obtain ⟨_, z, z1, z2⟩ := smq_fr (smallF_smq (m := 6) hp (by decide)) (by decide)
      exact ⟨z, by omega, z2⟩
    · obtain ⟨d1, d2, _⟩ := draw_ok (n := 5) hp (by decide)
      exact ⟨(draw t 5).1 * 42, by omega, by rw [Rat.intCast_mul]⟩
  have h2 : ∃ z : Int, z.natAbs ≤ 1000000 ∧ (one2 way (one1 way t)).1 * ((42 : Int) : Rat) = (z : Rat) := by
    unfold one2
    split
    · dsimp only
      split
      · refine ⟨99991 * 6, by decide, ?_⟩
        have : Rat.divInt 99991 7 * 7 = 99991 := by
          rw [Rat.divInt_eq_div]; exact div_ne (by decide)
        rw [e42, Rat.intCast_mul]
        have a : ((99991 : Int) : Rat) = 99991 := rfl
        have b : ((6 : Int) : Rat) = 6 := rfl
        rw [a, b]; grind
      · exact h1
    · exact h1
  show ∃ z : Int, z.natAbs ≤ 1000000 ∧ (one3 way i j (one2 way (one1 way t))).1 * ((42 : Int) : Rat) = (z : Rat)
  unfold one3
  have h0 : ∃ z : Int, z.natAbs ≤ 1000000 ∧ (0 : Rat) * ((42 : Int) : Rat) = (z : Rat) := ⟨0, by decide, by grind⟩
  split
  · dsimp only
    split
    · exact h0
    · exact h2
  · dsimp only
    split
    · exact h0
    · exact h2
theorem put2_ent {n : Nat} {A : Mat} (h : SqN n A) {i j : Nat} (hi : i < n) (hj : j < n) (q : Rat) (a b : Nat) : ent (put2 A i j q) a b = if (a = i ∧ b = j) ∨ (a = j ∧ b = i) then q else ent A a b := by
  have hi' : i < A.length := by rw [h.1]; exact hi
  have hj' : j < A.length := by rw [h.1]; exact hj
  have h1 : SqN n (A.set i ((A.getD i []).set j q)) := h.set (by rw [List.length_set]; exact h.row hi)
  have e1 : ∀ a b, ent (A.set i ((A.getD i []).set j q)) a b = if a = i ∧ b = j then q else ent A a b := by
    intro a b
    unfold ent
    rw [set_getD hi']
    by_cases ha : a = i
    · rw [if_pos ha, getD_set (by rw [h.row hi]; exact hj)]
      by_cases hb : b = j
      · rw [if_pos hb, if_pos ⟨ha, hb⟩]
      · rw [if_neg hb, if_neg (fun z => hb z.2), ha]
    · rw [if_neg ha, if_neg (fun z => ha z.1)]
  have e2 : ent (put2 A i j q) a b = if a = j ∧ b = i then q else ent (A.set i ((A.getD i []).set j q)) a b := by
    unfold put2
    unfold ent
    rw [set_getD (by rw [List.length_set]; exact hj')]
    by_cases ha : a = j
    · rw [if_pos ha, getD_set (by rw [h1.row hj]; exact hi)]
      by_cases hb : b = i
      · rw [if_pos hb, if_pos ⟨ha, hb⟩]
      · rw [if_neg hb, if_neg (fun z => hb z.2), ha]
    · rw [if_neg ha, if_neg (fun z => ha z.1)]
  rw [e2, e1]
  by_cases c1 : a = i ∧ b = j
  · rw [if_pos c1, if_pos (Or.inl c1)]
    split <;> rfl
  · rw [if_neg c1]
    by_cases c2 : a = j ∧ b = i
    · rw [if_pos c2, if_pos (Or.inr c2)]
    · rw [if_neg c2, if_neg (fun z => z.elim c1 c2)]
theorem ent_tp {n : Nat} {way : Int} {i : Nat} {s : Mat × Pot} {j : Nat} (hs : SqN n s.1) (hi : i < n) (hj : j < n) (hp : PotOk s.2) (h : Tp 1000000 s.1) (y : Sym s.1) : Tp 1000000 (entS way i s j).1 ∧ Sym (entS way i s j).1 := by
  refine ⟨fun a b => ?_, fun a b => ?_⟩
  · show ∃ z : Int, z.natAbs ≤ 1000000 ∧ ent (put2 s.1 i j (oneF way i j s.2).1) a b * _ = _
    rw [put2_ent hs hi hj]
    split
    · exact one_tp hp
    · exact h a b
  · show ent (put2 s.1 i j (oneF way i j s.2).1) a b = ent (put2 s.1 i j (oneF way i j s.2).1) b a
    rw [put2_ent hs hi hj, put2_ent hs hi hj, y a b]
    by_cases c : (a = i ∧ b = j) ∨ (a = j ∧ b = i)
    · rw [if_pos c, if_pos (by rcases c with z | z; exact Or.inr ⟨z.2, z.1⟩; exact Or.inl ⟨z.2, z.1⟩)]
    · rw [if_neg c, if_neg (fun z => c (by rcases z with z | z; exact Or.inr ⟨z.2, z.1⟩; exact Or.inl ⟨z.2, z.1⟩))]
theorem row_tp {n : Nat} {way : Int} {i : Nat} {s : Mat × Pot} (hs : SqN n s.1) (hi : i < n) (hp : PotOk s.2) (h : Tp 1000000 s.1) (y : Sym s.1) : ∀ j, j ≤ n → Tp 1000000 (rowS way i s j).1 ∧ Sym (rowS way i s j).1
  | 0, _ => ⟨h, y⟩
  | j + 1, hj => by
    have ih := row_tp (way := way) hs hi hp h y j (by omega)
    exact ent_tp (rowS_sq hs hi j (by omega)) hi (by omega) (rowS_ok hp j) ih.1 ih.2
theorem rows_tp {n : Nat} {way : Int} {s : Mat × Pot} (hs : SqN n s.1) (hp : PotOk s.2) (h : Tp 1000000 s.1) (y : Sym s.1) : ∀ i, i ≤ n → Tp 1000000 (rowsS way s i).1 ∧ Sym (rowsS way s i).1
  | 0, _ => ⟨h, y⟩
  | i + 1, hi => by
    have ih := rows_tp (way := way) hs hp h y i (by omega)
    exact row_tp (rowsS_sq hs i (by omega)) (by omega) (rowsS_ok hp i) ih.1 ih.2 (i + 1) (by omega)
/-- a drawn table -/
theorem table_tp {n : Nat} {t : Pot} (hn : n ≤ 4) (hp : PotOk t) : TB 20 42 (tableF n t).1 ∧ Sym (tableF n t).1 := by
  have p1 := (draw_ok (n := 4) hp (by decide)).2.2
  unfold tableF
  split
  · obtain ⟨d1, d2, d3⟩ := draw_ok (n := (n : Int) + 1) p1 (by omega)
    have h := moreL_tp (n := n) d3 (draw (draw t 4).2 (n + 1)).1.toNat
    refine ⟨h.1.tb ?_, h.2⟩
    have : (draw (draw t 4).2 (n + 1)).1.toNat * 1008 ≤ 4 * 1008 := Nat.mul_le_mul_right _ (by omega)
    omega
  · have z := zero_tp n
    have h := rows_tp (way := (draw t 4).1) (s := (zeroM n, (draw t 4).2)) (zeroM_sq n) p1 (fun i j => (z.1 i j).elim fun c hc => ⟨c, by omega, hc.2⟩) z.2 n (Nat.le_refl _)
    exact ⟨h.1.tb (by decide), h.2⟩
/-! ### drawn weights -/
def wOne (t : Pot) : Rat × Pot := (Rat.divInt (1 + (draw t 9).1) (([1, 1, 2, 3] : List Int).getD ((draw (draw t 9).2 4).1).toNat 1), (draw (draw t 9).2 4).2)
def wtF (n : Nat) (t : Pot) : Row × Pot := iterS wOne n t
theorem wOne_ok (t : Pot) (h : PotOk t) : (Fr 6 6 (wOne t).1 ∧ 0 < (wOne t).1) ∧ PotOk (wOne t).2 := by
  obtain ⟨h1, h2, h3⟩ := draw_ok (n := 9) h (by decide)
  obtain ⟨h4, h5, h6⟩ := draw_ok (n := 4) h3 (by decide)
  refine ⟨?_, h6⟩
  unfold wOne
  dsimp only
  have hb : ([1, 1, 2, 3] : List Int).getD ((draw (draw t 9).2 4).1).toNat 1 = 1 ∨ ([1, 1, 2, 3] : List Int).getD ((draw (draw t 9).2 4).1).toNat 1 = 2 ∨ ([1, 1, 2, 3] : List Int).getD ((draw (draw t 9).2 4).1).toNat 1 = 3 := by
    generalize ((draw (draw t 9).2 4).1).toNat = k
    match k with
    | 0 | 1 | 2 | 3 => decide
    | n + 4 => exact Or.inl rfl
  generalize ([1, 1, 2, 3] : List Int).getD ((draw (draw t 9).2 4).1).toNat 1 = b at *
  generalize (draw t 9).1 = a at *
  have e6 : ((6 : Int) : Rat) = 6 := rfl
  have ha : (0 : Rat) < ((1 + a : Int) : Rat) := (Rat.intCast_lt_intCast (a := 0)).mpr (by omega)
  rw [Rat.divInt_eq_div]
  rcases hb with r | r | r
  · subst r
    have k : ((1 + a : Int) : Rat) / ((1 : Int) : Rat) * 1 = ((1 + a : Int) : Rat) := div_ne (by decide)
    generalize ((1 + a : Int) : Rat) / ((1 : Int) : Rat) = q at *
    exact ⟨⟨(1 + a) * 6, by show _ < 64; omega, by rw [e6, Rat.intCast_mul, e6, ← k]; grind⟩, by grind⟩
  · subst r
    have k : ((1 + a : Int) : Rat) / ((2 : Int) : Rat) * 2 = ((1 + a : Int) : Rat) := div_ne (by decide)
    generalize ((1 + a : Int) : Rat) / ((2 : Int) : Rat) = q at *
    have e3 : ((3 : Int) : Rat) = 3 := rfl
    exact ⟨⟨(1 + a) * 3, by show _ < 64; omega, by rw [e6, Rat.intCast_mul, e3, ← k]; grind⟩, by grind⟩
  · subst r
    have k : ((1 + a : Int) : Rat) / ((3 : Int) : Rat) * 3 = ((1 + a : Int) : Rat) := div_ne (by decide)
    generalize ((1 + a : Int) : Rat) / ((3 : Int) : Rat) = q at *
    have e2 : ((2 : Int) : Rat) = 2 := rfl
    exact ⟨⟨(1 + a) * 2, by show _ < 64; omega, by rw [e6, Rat.intCast_mul, e2, ← k]; grind⟩, by grind⟩
theorem wtF_ok {n : Nat} {t : Pot} (h : PotOk t) : (wtF n t).1.length = n ∧ (∀ q ∈ (wtF n t).1, Fr 6 6 q ∧ 0 < q) ∧ PotOk (wtF n t).2 :=
  ⟨iterS_length _ _ _, (iterS_ok (P := fun q => Fr 6 6 q ∧ 0 < q) wOne_ok h n).1, (iterS_ok (P := fun q => Fr 6 6 q ∧ 0 < q) wOne_ok h n).2⟩
/-- the drawn table and weights -/
theorem src_of {n : Nat} {t t' : Pot} (h0 : 0 < n) (h4 : n ≤ 4) (hp : PotOk t) (hp' : PotOk t') : Src (tableF n t).1 (wtF n t').1 n := by
  obtain ⟨w1, w2, w3⟩ := wtF_ok (n := n) hp'
  obtain ⟨t1, t2⟩ := table_tp h4 hp
  refine ⟨tableF_sq n t, h0, h4, t2, w1, fun i hi => ?_, t1, fun q hq => (w2 q hq).1⟩
  exact (w2 _ (mem_getD (by rw [w1]; exact hi))).2
end OC
set_option maxHeartbeats 4000000
/-! OcJ2: what is handed on, values. -/
namespace OC
theorem seq_either (l : List D × Pot) : SeqD (eitherF l).1 l.1 := by
  unfold eitherF
  dsimp only
  split
  · exact .tup _
  · exact .lst _
theorem nm_hand (q : Rat) (t : Pot) : Nm (handS q t).1 q := by
  unfold handS
  split
  · rename_i h
    dsimp only
    split
    · have e : ((q.num : Int) : Rat) = q := by
        have := Rat.num_divInt_den q
        rw [h, Rat.divInt_eq_div] at this
        have e1 : (((1 : Nat) : Int) : Rat) = 1 := rfl
        rw [e1] at this
        have k := div_ne (x := 1) (y := (q.num : Rat)) (by decide)
        rw [this] at k
        rw [← k]; grind
      have := Nm.int q.num
      rw [e] at this
      exact this
    · exact .rat q
  · exact .rat q
theorem nms_map : ∀ (r : Row) (t : Pot), Nms (mapS handS r t).1 r
  | [], _ => .nil
  | q :: r, t => .cons (nm_hand q t) (nms_map r _)
theorem hand_seq (r : Row) (t : Pot) : ∃ xs, SeqD (handF r t).1 xs ∧ Nms xs r := ⟨_, seq_either _, nms_map r t⟩
theorem tabD_map : ∀ (A : Mat) (t : Pot), TabD (mapS handF A t).1 A
  | [], _ => .nil
  | r :: A, t => by
    obtain ⟨xs, h1, h2⟩ := hand_seq r t
    exact .cons h1 h2 (tabD_map A _)
theorem tabD_RLd : ∀ A : Mat, TabD (A.map RLd) A
  | [] => .nil
  | r :: A => .cons (.lst _) (Nms.of r) (tabD_RLd A)
section
variable {A : Mat} {w : Row} {n : Nat}
theorem Src.tabok (S : Src A w n) {v : D} (h : ∃ vs, SeqD v vs ∧ TabD vs A) : TabOk v A := by
  have h0 := S.n0; have h4 := S.n4
  exact ⟨h, fun r hr => by rw [S.h.2 r hr, S.h.1], fun i j _ _ => S.s i j, S.smA, by rw [S.h.1]; omega, by rw [S.h.1]; omega⟩
theorem Src.tab_giv (S : Src A w n) (t : Pot) : TabOk (givF A t).1 A := S.tabok ⟨_, seq_either _, tabD_map A t⟩
theorem Src.tab_rows (S : Src A w n) : TabOk (RMd A) A := S.tabok ⟨_, .lst _, tabD_RLd A⟩
theorem Src.wt_hand (S : Src A w n) (t : Pot) : WtOk A (handF w t).1 w := by
  obtain ⟨xs, h1, h2⟩ := hand_seq w t
  exact S.wtok h1 h2
theorem Src.wt_row (S : Src A w n) : WtOk A (RLd w) w := S.wtok (.lst _) (Nms.of w)
/-! ### values -/
theorem vq_rats {r : Row} (h : RB 2100 r) (hl : r.length ≤ 1000) {v : D} (hv : v = RLd r ∨ v = .tup (r.map D.rat)) : Vq n v := by
  have hi : itemsD v = r.map D.rat := by rcases hv with e | e <;> rw [e] <;> rfl
  refine ⟨by rcases hv with e | e <;> rw [e] <;> rfl, ?_, ?_, fun _ => ?_⟩
  · rw [hi]
    intro x hx
    obtain ⟨q, _, e⟩ := List.mem_map.mp hx
    rw [← e]; rfl
  · rw [hi, List.length_map]; exact hl
  · rw [hi, numsD_of (Nms.of r)]; exact h
/-- a list that is none of numbers, or not so many -/
theorem vq_not {v : D} (hp : plainD v = true) (hi : ∀ x ∈ itemsD v, plainD x = true) (hl : (itemsD v).length ≤ 1000) (h : numsB v n = false) : Vq n v := ⟨hp, hi, hl, fun z => by rw [h] at z; exact nomatch z⟩
theorem numsB_len {v : D} {m : Int} (h : ((itemsD v).length : Int) ≠ m) : numsB v m = false := by
  unfold numsB
  rw [decide_eq_false h]
  simp
theorem numsB_item {v : D} {m : Int} {x : D} (h : x ∈ itemsD v) (hx : isN x = false) : numsB v m = false := by
  unfold numsB
  have : (itemsD v).all isN = false := by
    rw [List.all_eq_false]
    exact ⟨x, h, by rw [hx]; decide⟩
  rw [this]
  simp
theorem rb_of_bd {z : Nat} {r : Row} (h : ∀ q ∈ r, Bd z q) : RB (r.length * z + 1) r := by
  induction r with
  | nil => exact ⟨1, by decide, by show 1 < 2 ^ (0 * z + 1); rw [Nat.zero_mul]; decide, fun q hq => nomatch hq⟩
  | cons a r ih =>
    obtain ⟨d, d0, d1, fr⟩ := ih fun q hq => h q (List.mem_cons_of_mem _ hq)
    obtain ⟨e, e0, e1, fa⟩ := h a List.mem_cons_self
    refine ⟨d * e, Int.mul_pos d0 e0, ?_, fun q hq => ?_⟩
    · refine pm (absMulLt d1 e1) ?_
      rw [List.length_cons, Nat.add_mul]; omega
    · rcases List.mem_cons.mp hq with y | y
      · rw [y, Int.mul_comm]
        refine (fa.lift d1).mono ?_
        rw [List.length_cons, Nat.add_mul]; omega
      · refine ((fr q y).lift e1).mono ?_
        rw [List.length_cons, Nat.add_mul]; omega
theorem Src.without (S : Src A w n) (c0 : 0 < valF A w) {v : Row} (hl : v.length = n) (hv : RB 6 v) : WtoOk A w v ∧ RB 2100 (withoutF A w v) ∧ (withoutF A w v).length = n := by
  obtain ⟨f1, b1⟩ := S.form_ok S.rbw hv S.wl hl (by omega)
  obtain ⟨f2, b2⟩ := S.form_ok S.rbw S.rbw S.wl S.wl (by omega)
  have nz : formF A w w ≠ 0 := by rw [S.formF_w]; grind
  have b3 := b1.div b2 nz
  have hlw : v.length = w.length := by rw [hl, S.wl]
  have len : (withoutF A w v).length = n := by unfold withoutF; rw [lessR_len _ hlw, hl]
  refine ⟨⟨f1, f2, b1.sm (by omega), b2.sm (by omega), nz, lok_of b3 hv.bd S.bw (by omega) (by omega)⟩, ?_, len⟩
  have hb : ∀ q ∈ withoutF A w v, Bd 150 q := by
    intro q hq
    obtain ⟨i, hi, e⟩ := List.mem_iff_getElem.mp hq
    have e2 : (withoutF A w v).getD i 0 = q := by rw [← e]; exact getDn (List.getElem?_eq_getElem _)
    rw [← e2]
    unfold withoutF
    rw [lessR_getD _ _ hlw]
    exact ((hv.getD i).sub ((S.rbw.getD i).mul b3)).mono (by omega)
  refine (rb_of_bd hb).mono ?_
  rw [len]
  have := S.n4
  have : n * 150 ≤ 4 * 150 := Nat.mul_le_mul_right _ this
  omega
theorem Src.waysL (S : Src A w n) (c0 : 0 < valF A w) {s : List D × Pot} (hp : PotOk s.2) (hs : ∀ v ∈ s.1, Vq n v) : ∀ k, ∀ v ∈ (OC.waysL A w n s k).1, Vq n v
  | 0 => hs
  | k + 1 => by
    have ih := S.waysL c0 hp hs k
    have hk := waysL_ok (A := A) (w := w) (n := n) hp k
    intro v hv
    have h1 := smq_rb (wayF_smq (n := n) (m := 4) hk (by decide)) (by decide)
    have h2 := wayF_len n 4 (OC.waysL A w n s k).2
    have h4 := S.n4
    obtain ⟨_, h5, h6⟩ := S.without c0 h2 h1
    rcases List.mem_append.mp hv with z | z
    · exact ih v z
    · rcases List.mem_cons.mp z with z | z
      · exact vq_rats (h1.mono (by omega)) (by omega) (Or.inl z)
      · exact vq_rats h5 (by omega) (Or.inl (List.mem_singleton.mp z))
theorem vq_ints {m : Nat} (hm : m ≤ 1000) : Vq n (.lst (List.replicate m (.int 0))) := by
  refine ⟨rfl, fun x hx => by rw [(List.mem_replicate.mp hx).2]; rfl, by show (List.replicate m (D.int 0)).length ≤ 1000; rw [List.length_replicate]; exact hm, fun _ => ?_⟩
  have : ∀ m, numsD (List.replicate m (.int 0)) = List.replicate m ((0 : Int) : Rat) := by
    intro m
    induction m with
    | zero => rfl
    | succ m ih => rw [List.replicate_succ, List.replicate_succ, numsD, ih]
  refine ⟨1, by decide, ?_, fun q hq => ?_⟩
  · show 1 < 2 ^ 2100
    exact pm (x := 1) (by decide) (by omega)
  · have hq' : q ∈ List.replicate m ((0 : Int) : Rat) := by
      have e : numsD (itemsD (.lst (List.replicate m (.int 0)))) = List.replicate m ((0 : Int) : Rat) := this m
      rw [e] at hq; exact hq
    rw [(List.mem_replicate.mp hq').2]
    exact Fr.zero _ _
theorem Src.vals0 (S : Src A w n) : ∀ v ∈ OC.vals0 w n, Vq n v := by
  have h4 := S.n4
  have h0 := S.n0
  intro v hv
  unfold OC.vals0 at hv
  simp only [List.mem_cons, List.not_mem_nil, or_false] at hv
  rcases hv with e | e | e | e | e | e | e | e
  · subst e; exact vq_not rfl (fun x hx => nomatch hx) (Nat.zero_le _) rfl
  · subst e
    exact vq_not rfl (fun x hx => nomatch hx) (Nat.zero_le _) (numsB_len (by show ((0 : Nat) : Int) ≠ _; omega))
  · subst e; exact vq_not rfl (fun x hx => nomatch hx) (Nat.zero_le _) rfl
  · subst e; exact vq_not rfl (fun x hx => nomatch hx) (Nat.zero_le _) rfl
  · exact vq_rats (S.rbw.mono (by omega)) (by rw [S.wl]; omega) (Or.inl e)
  · subst e; exact vq_ints (by omega)
  · subst e; exact vq_ints (by omega)
  · subst e
    refine vq_not rfl (fun x hx => by rw [(List.mem_replicate.mp hx).2]; rfl) (by show (List.replicate n (D.bl true)).length ≤ 1000; rw [List.length_replicate]; omega) ?_
    exact numsB_item (x := .bl true) (List.mem_replicate.mpr ⟨by omega, rfl⟩) rfl
theorem times_bd (k : Nat) : Bd 3 (timesQ (timesD.getD k .non)) := by
  match k with
  | 0 => exact bd_int (z := -1) (by decide) (by decide)
  | 1 => exact bd_int (z := 3) (by decide) (by decide)
  | 2 =>
    refine ⟨5, by decide, by decide, 2, by decide, ?_⟩
    show Rat.divInt 2 5 * _ = _
    rw [Rat.divInt_eq_div]; exact div_ne (by decide)
  | k + 3 => exact Bd.zero 3 (by decide)
theorem Src.toldVals (S : Src A w n) {u : Row} (hu : RB 2040 u) (ul : u.length = n) {a : Nat} (ha : a < n) {c : Rat} (hc : Bd 3 c) : ∀ v ∈ OC.toldVals u w a c, Vq n v := by
  have h4 := S.n4
  have h0 := S.n0
  intro v hv
  unfold OC.toldVals at hv
  rcases List.mem_append.mp hv with hv | hv
  · simp only [List.mem_cons, List.not_mem_nil, or_false] at hv
    rcases hv with e | e | e | e | e
    · refine vq_rats ?_ (by rw [List.length_map]; omega) (Or.inl e)
      obtain ⟨d, d0, d1, fu⟩ := hu
      obtain ⟨f, f0, f1, fc⟩ := hc
      refine ⟨f * d, Int.mul_pos f0 d0, pm (absMulLt f1 d1) (by omega), fun q hq => ?_⟩
      obtain ⟨p, hp, e⟩ := List.mem_map.mp hq
      rw [← e]
      exact (fc.mul (fu p hp)).mono (by omega)
    · exact vq_rats (hu.mono (by omega)) (by omega) (Or.inr e)
    · subst e
      have hl : (u.map D.rat ++ [D.int 0]).length = n + 1 := by rw [List.length_append, List.length_map, ul]; rfl
      refine vq_not rfl (fun x hx => ?_) (by show (u.map D.rat ++ [D.int 0]).length ≤ 1000; omega) (numsB_len (by show (((u.map D.rat ++ [D.int 0]).length : Nat) : Int) ≠ _; omega))
      rcases List.mem_append.mp hx with z | z
      · obtain ⟨q, _, e⟩ := List.mem_map.mp z
        rw [← e]; rfl
      · rw [List.mem_singleton.mp z]; rfl
    · refine vq_rats ?_ (by rw [List.length_drop]; omega) (Or.inl e)
      obtain ⟨d, d0, d1, fu⟩ := hu
      exact ⟨d, d0, pm d1 (by omega), fun q hq => (fu q (List.mem_of_mem_drop hq)).mono (by omega)⟩
    · refine vq_rats ?_ (by rw [List.length_zipWith]; omega) (Or.inl e)
      obtain ⟨d, d0, d1, fu⟩ := hu
      refine ⟨d * 6, by omega, pm (absMulLt (y := 6) d1 (by decide)) (by omega), frL_of fun i => ?_⟩
      have : (List.zipWith (· + ·) u w).getD i 0 = u.getD i 0 + w.getD i 0 := addR_getD i (by rw [ul, S.wl])
      rw [this]
      have k1 : Fr 2046 (d * 6) (u.getD i 0) := (fu.getD i).lift (y := 6) (by decide)
      have k2 : Fr 2046 (d * 6) (w.getD i 0) := by
        rw [Int.mul_comm]
        exact ((S.tw.getD i).lift d1).mono (by omega)
      exact (k1.add k2).mono (by omega)
  · obtain ⟨o, ho, e⟩ := List.mem_map.mp hv
    subst e
    have hlen : (((u.map D.rat).take a ++ [o]) ++ (u.map D.rat).drop (a + 1)).length ≤ 1000 := by
      rw [List.length_append, List.length_append, List.length_take, List.length_drop, List.length_map]
      show min a u.length + 1 + (u.length - (a + 1)) ≤ 1000
      omega
    have hpl : plainD o = true → ∀ x ∈ (((u.map D.rat).take a ++ [o]) ++ (u.map D.rat).drop (a + 1)), plainD x = true := by
      intro hop x hx
      rcases List.mem_append.mp hx with z | z
      · rcases List.mem_append.mp z with z | z
        · obtain ⟨q, _, e⟩ := List.mem_map.mp (List.mem_of_mem_take z)
          rw [← e]; rfl
        · rw [List.mem_singleton.mp z]; exact hop
      · obtain ⟨q, _, e⟩ := List.mem_map.mp (List.mem_of_mem_drop z)
        rw [← e]; rfl
    have hno : isN o = false → numsB (.lst (((u.map D.rat).take a ++ [o]) ++ (u.map D.rat).drop (a + 1))) n = false := fun h => numsB_item (x := o) (List.mem_append_left _ (List.mem_append_right _ List.mem_cons_self)) h
    unfold oddsD at ho
    simp only [List.mem_cons, List.not_mem_nil, or_false] at ho
    rcases ho with e | e | e | e
    · subst e; exact vq_not rfl (hpl rfl) hlen (hno rfl)
    · subst e; exact vq_not rfl (hpl rfl) hlen (hno rfl)
    · subst e; exact vq_not rfl (hpl rfl) hlen (hno rfl)
    · subst e
      have e2 : ((u.map D.rat).take a ++ [D.rat (u.getD a 0 + 1)]) ++ (u.map D.rat).drop (a + 1) = ((u.take a ++ [u.getD a 0 + 1]) ++ u.drop (a + 1)).map D.rat := by
        rw [List.map_append, List.map_append, List.map_take, List.map_drop]; rfl
      rw [e2] at hlen ⊢
      refine vq_rats ?_ (by rw [List.length_map] at hlen; exact hlen) (Or.inl rfl)
      obtain ⟨d, d0, d1, fu⟩ := hu
      refine ⟨d, d0, pm d1 (by omega), fun q hq => ?_⟩
      rcases List.mem_append.mp hq with z | z
      · rcases List.mem_append.mp z with z | z
        · exact (fu q (List.mem_of_mem_take z)).mono (by omega)
        · rw [List.mem_singleton.mp z]
          have k1 : Fr 2040 d 1 := ⟨d, d1, by grind⟩
          exact ((fu.getD a).add k1).mono (by omega)
      · exact (fu q (List.mem_of_mem_drop z)).mono (by omega)
theorem Src.vals (S : Src A w n) (c0 : 0 < valF A w) {t : Pot} (hp : PotOk t) : ∀ v ∈ (valsF A w (levelV A w 4) t).1, Vq n v := by
  have hA := S.h.1
  have h0 := S.n0
  cases hl : levelV A w 4 with
  | none =>
    unfold valsF
    dsimp only
    rw [hA]
    exact S.waysL c0 (s := (OC.vals0 w n, t)) hp S.vals0 4
  | some u =>
    intro v hv
    unfold valsF at hv
    dsimp only at hv
    rw [hA] at hv
    obtain ⟨ul, _⟩ := (S.lv c0).looks u hl
    rcases List.mem_append.mp hv with z | z
    · exact S.waysL c0 (s := (OC.vals0 w n, t)) hp S.vals0 4 v z
    · have hq := waysL_ok (A := A) (w := w) (n := n) (s := (OC.vals0 w n, t)) hp 4
      obtain ⟨d1, d2, d3⟩ := draw_ok (n := (n : Int)) hq (by omega)
      exact S.toldVals (S.told_rb c0 u hl) ul (by omega) (times_bd _) v z
theorem Src.vq_told (S : Src A w n) (c0 : 0 < valF A w) : Vq n (optR (levelV A w 4)) := by
  have h4 := S.n4
  cases hl : levelV A w 4 with
  | none => exact vq_not rfl (fun x hx => nomatch hx) (Nat.zero_le _) rfl
  | some u =>
    obtain ⟨ul, _⟩ := (S.lv c0).looks u hl
    exact vq_rats ((S.told_rb c0 u hl).mono (by omega)) (by omega) (Or.inl rfl)
theorem Src.vals_ok (S : Src A w n) (c0 : 0 < valF A w) : ValsOk A w (levelV A w 4) := by
  have hA := S.h.1
  have h4 := S.n4
  have h0 := S.n0
  refine ⟨by omega, by omega, by rw [S.wl, hA], fun v hl hv => ?_, fun v hv => ?_⟩
  · rw [hA] at hl
    exact (S.without c0 hl (smq_rb hv (by decide))).1
  · obtain ⟨ul, _⟩ := (S.lv c0).looks v hv
    exact ⟨by rw [ul, hA], fun q hq => ((S.told_rb c0 v hv).bd q hq).sm (by omega), fun q hq => (S.bw q hq).sm (by omega)⟩
theorem Src.br_ok (S : Src A w n) (c0 : 0 < valF A w) (hl : levelV A w 4 = none) : BrOk A w := by
  have hA := S.h.1
  have L := S.lv c0
  have ha := L.told_two.mp hl
  obtain ⟨f2, b2⟩ := S.form_ok S.rbw S.rbw S.wl S.wl (by omega)
  refine ⟨S.al, f2, b2.sm (by omega), fun v vl hv => ?_⟩
  rw [hA] at vl
  have hr := smq_rb hv (by decide)
  obtain ⟨f1, b1⟩ := S.form_ok S.rbw hr S.wl vl (by omega)
  obtain ⟨f3, b3⟩ := S.form_ok hr hr vl vl (by omega)
  refine ⟨f1, f3, b1.sm (by omega), b3.sm (by omega), (b1.mul b1).sm (by omega), (b2.mul b3).sm (by omega), ?_⟩
  rw [formF_eq S.h S.wl vl, S.formF_w, formF_eq S.h vl vl]
  exact L.bound ha v
/-- what is due is told by the law's own count, too -/
theorem Src.due_two (S : Src A w n) (c0 : 0 < valF A w) {v : D} (h : lookF A w v = true) : ¬ aboveN A < 2 := by
  rw [look_eq S] at h
  unfold looksB at h
  simp only [Bool.and_eq_true, decide_eq_true_eq] at h
  have := (S.lv c0).due_two _ h.2.1 h.2.2
  omega
theorem Src.look_told (S : Src A w n) (c0 : 0 < valF A w) {u : Row} (h : levelV A w 4 = some u) : lookF A w (RLd u) = true := by
  obtain ⟨ul, h1, h2⟩ := (S.lv c0).looks u h
  rw [look_eq S]
  unfold looksB
  have e : numsD (itemsD (RLd u)) = u := numsD_of (Nms.of u)
  have hn : numsB (RLd u) A.length = true := by
    unfold numsB
    rw [show (itemsD (RLd u)).all isN = true from (Nms.of u).all, S.h.1]
    have : ((itemsD (RLd u)).length : Int) = n := by
      show (((u.map D.rat).length : Nat) : Int) = n
      rw [List.length_map, ul]
    rw [decide_eq_true this]; rfl
  rw [hn, e, decide_eq_true h1, decide_eq_true h2]; rfl
end
end OC
set_option maxHeartbeats 4000000
/-! OcR1: the law and its right: readings. -/
namespace OC
open PySem PySem.Spec PyProof.Rows L2 LamX
/-- right's promise: it gives True, and tables of code objects may grow -/
def SpRt (C : Addr) (Tb : List (Addr × Str)) : Sp := fun vs H Q E => ∃ p t B, vs = [.ref p] ∧ Ok C [(p, potD t)] B H ∧ PotOk t ∧ Tabs Tb H ∧ ∀ H', (∀ b o, H b = some o → b ≠ p → (∀ ps, o ≠ .tbl ps) → H' b = some o) → Tabs Tb H' → Q (.bl true) H'
abbrev N__law_right : List Str := ["_law_pot_here", "_law_size", "_law_rows", "_law_weights", "_law_told", "_law_value", "_law_given_here", "_law_passed", "_law_stay", "_law_above", "_law_again", "_law_shown", "_law_due", "_law_found", "_law_place", "_law_one"]
def t_one__law_right (K : Frg) (C CN : Addr) : TS := (tSeq (tAsg (tcR (SpO C CN S__law_looks) E0 (tCons (tVar 2) (tCons (tVar 3) (tCons (tVar 5) tNil)))) (gName 12))
  (tSeq (tAsg (tIf (tTest (tOp (rEqU K) (tcR (SpO C CN S__law_draw) E0 (tCons (tVar 0) (tCons (tC (.int 2)) tNil))) (tC (.int 0)))) (tcR (SpO C CN S_is_level) E0 (tCons (tVar 6) (tCons (tVar 7) (tCons (tVar 5) tNil)))) (tcKR (SpO C CN S_is_level) E0 (tCons (tVar 5) (tCons (tVar 3) (tCons (tVar 2) tNil))))) (gName 13))
  (tIfS (tOr (tTest (tOp (rNeU C CN K) (tCB (rReprG C) (tCons (tVar 13) tNil)) (tCB (rReprG C) (tCons (tVar 12) tNil)))) (tAnd (tB (tVar 12)) (tTest (tOp rLtI (tVar 9) (tC (.int 2)))))) (tRet (tC (.bl false))) tNext)))
def t_loop__law_right (K : Frg) (C CN : Addr) : TS := (tSeq (tFor (iSeq K (tOp (rAdd C CN) (tLst (tCons (tVar 4) tNil)) (tcR (SpO C CN S__law_values) E0 (tCons (tVar 0) (tCons (tVar 2) (tCons (tVar 3) (tCons (tVar 4) tNil))))))) (gName 5) (t_one__law_right K C CN))
  (tRet (tOp (rEqU K) (tCB (rReprG C) (tCons (tLst (tCons (tVar 6) (tCons (tVar 7) tNil))) tNil)) (tVar 8))))
def t_chk__law_right (K : Frg) (C CN : Addr) : TS := (tIfS (tOr (tNot (tB (tCB (rIsi K) (tCons (tVar 4) (tCons (tC (.ty "list")) tNil))))) (tOr (tNot (tB (tCB (rAll K) (tCons (tLc (iSeq K (tVar 4)) (gName 15) tYes (tCB (rIsi K) (tCons (tVar 15) (tCons (tC (.ref C)) tNil))) [15]) tNil)))) (tNot (tB (tcR (SpO C CN S__law_looks) E0 (tCons (tVar 2) (tCons (tVar 3) (tCons (tVar 4) tNil)))))))) (tRet (tC (.bl false))) tNext)
def t_tail__law_right (K : Frg) (C CN : Addr) : TS := (tSeq (tAsg (tcR (SpO C CN S_level) E0 (tCons (tVar 6) (tCons (tVar 7) tNil))) (gName 4))
  (tSeq (tPar 10 11 (tCons (tcKR (SpO C CN S_level) E0 (tCons (tVar 7) (tCons (tVar 6) tNil))) (tCons (tCB (rReprG C) (tCons (tVar 4) tNil)) tNil)))
  (tSeq (tIfS (tOr (tTest (tOp (rNeU C CN K) (tOp rIsN0 (tVar 4) (tC .non)) (tOp rLtI (tVar 9) (tC (.int 2))))) (tTest (tOp (rNeU C CN K) (tCB (rReprG C) (tCons (tVar 10) tNil)) (tVar 11)))) (tRet (tC (.bl false))) tNext)
  (tSeq (tIfS (tTest (tOp rNotN0 (tVar 10) (tC .non))) (tSeq (tDrop (tBM K "list" rAppend (tVar 10) (tCons (tC .non) tNil)))
  (tIfS (tOr (tTest (tOp (rNeU C CN K) (tCB (rReprG C) (tCons (tVar 4) tNil)) (tVar 11))) (tTest (tOp (rNeU C CN K) (tCB (rReprG C) (tCons (tcR (SpO C CN S_level) E0 (tCons (tVar 6) (tCons (tVar 7) tNil))) tNil)) (tVar 11)))) (tRet (tC (.bl false))) tNext)) tNext)
  (tSeq (tIfS (tTest (tOp rNotN0 (tVar 4) (tC .non))) (t_chk__law_right K C CN) (tIfS (tNot (tB (tcR (SpO C CN S__law_bound_right) E0 (tCons (tVar 0) (tCons (tVar 2) (tCons (tVar 3) tNil)))))) (tRet (tC (.bl false))) tNext))
  (t_loop__law_right K C CN))))))
def t__law_right (K : Frg) (C CN : Addr) (Tb : List (Addr × Str)) : TS := (tSeq (tAsg (tOp (rAdd C CN) (tC (.int 1)) (tcR (SpO C CN S__law_draw) E0 (tCons (tVar 0) (tCons (tC (.int 4)) tNil)))) (gName 1))
  (tSeq (tAsg (tcR (SpO C CN S__law_table) E0 (tCons (tVar 0) (tCons (tVar 1) tNil))) (gName 2))
  (tSeq (tAsg (tLc (iRng1 (tCons (tVar 1) tNil)) (gName 14) tYes (StX.tMakeR C (spIni C []) E0 (tCons (tOp (rAdd C CN) (tC (.int 1)) (tcR (SpO C CN S__law_draw) E0 (tCons (tVar 0) (tCons (tC (.int 9)) tNil)))) (tCons (tcR (SpO C CN S__law_pick) E0 (tCons (tVar 0) (tCons (tLst (tCons (tC (.int 1)) (tCons (tC (.int 1)) (tCons (tC (.int 2)) (tCons (tC (.int 3)) tNil))))) tNil))) tNil))) [14]) (gName 3))
  (tSeq (tAsg (tTup (tCons (tcR (SpO C CN S__law_given) E0 (tCons (tVar 0) (tCons (tVar 2) tNil))) (tCons (tcR (SpO C CN S__law_handed) E0 (tCons (tVar 0) (tCons (tVar 3) tNil))) tNil))) (gTup K 2 (gCons (gName 6) (gCons (gName 7) gNil))))
  (tSeq (tPar 8 9 (tCons (tCB (rReprG C) (tCons (tLst (tCons (tVar 6) (tCons (tVar 7) tNil))) tNil)) (tCons (tOp (rIx K) (tcR (SpO C CN S__law_signs) E0 (tCons (tVar 2) tNil)) (tC (.int 0))) tNil)))
  (tSeq (tIfS (tTest (tOp rLtI (tPrR C (SpO C CN S_Rsign) E0 (tcR (SpO C CN S__law_form) E0 (tCons (tVar 2) (tCons (tVar 3) (tCons (tVar 3) tNil))))) (tC (.int 1)))) (tSeq (tIfS (tNot (tB (tLam Tb (TTh K CN) (fun E => (tcR (SpO C CN S_level) E (tCons (tVar 6) (tCons (tVar 7) tNil))))))) (tRet (tC (.bl false))) tNext)
  (tRet (tLam Tb (TTh K CN) (fun E => (tcR (SpO C CN S_is_level) E (tCons (tVar 6) (tCons (tVar 7) (tCons (tOp (rMul C CN) (tLst (tCons (tC (.int 0)) tNil)) (tVar 1)) tNil)))))))) tNext)
  (t_tail__law_right K C CN)))))))
abbrev N_law : List Str := ["_law_script", "_law_k"]
def t_law (K : Frg) (C CN : Addr) (Tb : List (Addr × Str)) : TS := (tRet (tCB (rAll K) (tCons (tLc (iRng1 (tCons (tCB rMax2 (tCons (tC (.int 1)) (tCons (tCB rMin2 (tCons (tC (.int 2)) (tCons (tCB (rLen K) (tCons (tVar 0) tNil)) tNil))) tNil))) tNil)) (gName 1) tYes (tcR (SpRt C Tb) E0 (tCons (tcR (SpO C CN (S__law_pot K)) E0 (tCons (tVar 0) (tCons (tVar 1) tNil))) tNil)) [1]) tNil)))
end OC
set_option maxHeartbeats 4000000
/-! OcR4: right keeps its promise: the walk. -/
namespace OC
open PySem PySem.Spec PyProof.Rows L2
theorem tab_code {K : Frg} {c P0 : Addr} {oc : Value} {od : Option Addr} {fd : FuncData} {osl : Array (Option Value)} (h : PySem.W.tabIn K "_law_right" = some (c, P0)) (lk : K.lookup (aF "_law_right" K) = some ⟨oc, od, .func fd, osl⟩) : fd.code = .ref c := by
  unfold PySem.W.tabIn at h
  unfold aF He.ga at lk
  cases e : PySem.W.nsIn K mainGlobals "_law_right" with
  | none => rw [e] at h; cases h
  | some o =>
    rw [e] at h lk
    cases o with
    | none => cases h
    | some v =>
      cases v with
      | ref f =>
        dsimp only at h lk
        rw [lk] at h
        dsimp only at h
        split at h
        · rename_i c2 hc
          split at h
          · split at h
            · cases h; exact hc
            · cases h
          · cases h
        · cases h
      | _ => cases h
/-- what right calls its own inner defs -/
def qR : Str := df__law_right.qual ++ ".<locals>."
theorem pe_heardQ {X : Cx} {q : Str} {c P : Addr} {k : Nat} {params : Arguments} {body : Expr} {scope : Scope} {t : XK → TE} {p lpos pos : Pos} (hq : X.env.qual = q) (T : Tx X.K X.mg) (hg : Gl X "_law_heard")
    (TB : LamX.TabB X.base X.mg c P) (hcode : X.env.code = .ref c) (hr : Room (k + 2) X.A) (L : LamX.LamS X.env.scope scope) (hdef : defaultsOf params X.env = ([], []))
    (hbind : ∀ (q : Str) (cl : List (Str × Addr)) (pm cv ctv : Value), bindArgs (PySem.W.kla_fn "<lambda>" q params body scope cl pm cv ctv) ⟨[], []⟩ = pure [])
    (hbody : ∀ (A : Around) (outer : List Env) (s : Shared) (H : Hp) (E : XK) (f c' : Addr), Room k (A.deeper (LamX.lamEnv X scope s.heap.objs.size f c')) → PE (LamX.lamCx X A outer s H E scope f c') body (t E)) :
    PE X (.Call (.Name "_law_heard" p) [.Lambda params body scope lpos] [] pos) (LamX.tLam [(P, q ++ "<lambda>")] (TTh X.K (cN X.K)) t) := by
  subst hq
  exact pe_heard T hg TB hcode (List.mem_singleton.mpr rfl) (fun p hp _ => by rw [List.mem_singleton.mp hp]) hr L hdef hbind hbody
section
variable {P : Program} {w : World} {K : Frg} {mg : Str → Option Value} {base : Heap}
theorem sc__law_right : FnScope N__law_right ["_law_pot_here"] (defScope st__law_right) := ⟨rfl, rfl, rfl, by decide +kernel, rfl, by decide +kernel, by decide +kernel⟩
theorem okG__law_right (T : Tx K mg) (run__law_right : ∀ {Tb : List (Addr × Str)} {vs : List V} {H : Hp} {Q : VK} {E : XK}, SpRt (cR K) Tb vs H Q E → t__law_right K (cR K) (cN K) Tb { nx := fun _ H1 => Q .non H1, rt := Q } (L2.start N__law_right vs) H) {c P0 : Addr} (htab : PySem.W.tabIn K "_law_right" = some (c, P0)) (TB : LamX.TabB base mg c P0) : FnG P w K mg base CX0 41 (aF "_law_right" K) (SpRt (cR K) [(P0, qR ++ "<lambda>")]) := by
  obtain ⟨fd, F⟩ := T.def_ 53 df__law_right rfl
  have b : Binds K fd ["_law_pot_here"] [] := F.bindsN fun _ _ _ _ _ _ us hl => match us, hl with | [_], _ => rfl
  obtain ⟨fdl, F_level, _, Dl⟩ := okF_level (P := P) (w := w) (base := base) T
  have kb_level := kb_level Dl
  obtain ⟨fdi, F_is_level, _, Di⟩ := okF_is_level (P := P) (w := w) (base := base) T
  have kb_is_level := kb_is_level Di
  obtain ⟨oc, od, dV, kV, doc, pm, an, cdv, ct, osl, rfl, lk, hcd, _, _⟩ := F.ex
  obtain rfl : cdv = .ref c := tab_code htab lk
  refine fng_of lk hcd sc__law_right (fun vs H Q E ⟨p, t, B, e, _⟩ => by rw [e]; rfl) b fun A outer s H vs Q E hG hr h => ⟨t__law_right K (cR K) (cN K) _, PSs.nox ?_, run__law_right h⟩
  exact (pss_cons (ps_set (i := 1) sc__law_right.nd rfl (by first | exact Or.inl rfl | exact Or.inr rfl) (pe_op (op_Add T (ok_R__add__ T) (hr.mono (by decide))) pe_int (pe_cR (ok__law_draw T) (hr.mono (by decide)) rfl (T.glo 32 _ rfl) (T.kf 32 _ rfl) pz (pa_cons (pv 0) (pa_cons pe_int pa_nil)))))
  (pss_cons (ps_set (i := 2) sc__law_right.nd rfl (by first | exact Or.inl rfl | exact Or.inr rfl) (pe_cR (ok__law_table T) (hr.mono (by decide)) rfl (T.glo 36 _ rfl) (T.kf 36 _ rfl) pz (pa_cons (pv 0) (pa_cons (pv 1) pa_nil))))
  (pss_cons (ps_setLc (i := 3) (own := [("_law_place", 14)]) (wi := (iRng1 (tCons (tVar 1) tNil))) (g := (gName 14)) (tt := tYes) (te := (StX.tMakeR (cR K) (spIni (cR K) []) E0 (tCons (tOp (rAdd (cR K) (cN K)) (tC (.int 1)) (tcR (SpO (cR K) (cN K) S__law_draw) E0 (tCons (tVar 0) (tCons (tC (.int 9)) tNil)))) (tCons (tcR (SpO (cR K) (cN K) S__law_pick) E0 (tCons (tVar 0) (tCons (tLst (tCons (tC (.int 1)) (tCons (tC (.int 1)) (tCons (tC (.int 2)) (tCons (tC (.int 3)) tNil))))) tNil))) tNil)))) rfl sc__law_right.nd rfl rfl (sw_true rfl rfl rfl (by kernel_rfl)) (pi_range1 rfl (T.free 10 _ rfl) (pa_cons (pv 1) pa_nil)) (blkOk_by (by kernel_rfl)) (fun _ _ _ _ _ => (pg_name (i := 14) sc__law_right.nd rfl (by first | exact Or.inl rfl | exact Or.inr rfl))) (fun _ _ _ _ _ => pts_nil) (fun _ _ _ _ _ => (StX.pe_makeR T.mk_ (ok_R__init__2 T) (hr.mono (by decide)) rfl (T.glo 62 _ rfl) pz (pa_cons (pe_op (op_Add T (ok_R__add__ T) (hr.mono (by decide))) pe_int (pe_cR (ok__law_draw T) (hr.mono (by decide)) rfl (T.glo 32 _ rfl) (T.kf 32 _ rfl) pz (pa_cons (pv 0) (pa_cons pe_int pa_nil)))) (pa_cons (pe_cR (ok__law_pick T) (hr.mono (by decide)) rfl (T.glo 33 _ rfl) (T.kf 33 _ rfl) pz (pa_cons (pv 0) (pa_cons (pe_lst (pa_cons pe_int (pa_cons pe_int (pa_cons pe_int (pa_cons pe_int pa_nil))))) pa_nil))) pa_nil)))))
  (pss_cons (ps_asg (pe_tup (pa_cons (pe_cR (ok__law_given T) (hr.mono (by decide)) rfl (T.glo 38 _ rfl) (T.kf 38 _ rfl) pz (pa_cons (pv 0) (pa_cons (pv 2) pa_nil))) (pa_cons (pe_cR (ok__law_handed T) (hr.mono (by decide)) rfl (T.glo 37 _ rfl) (T.kf 37 _ rfl) pz (pa_cons (pv 0) (pa_cons (pv 3) pa_nil))) pa_nil))) (pg_tup rfl (pgs_cons (pg_name (i := 6) sc__law_right.nd rfl (by first | exact Or.inl rfl | exact Or.inr rfl)) (pgs_cons (pg_name (i := 7) sc__law_right.nd rfl (by first | exact Or.inl rfl | exact Or.inr rfl)) pgs_nil))))
  (pss_cons (ps_par (i := 8) (j := 9) rfl sc__law_right.nd rfl rfl (by decide) rfl rfl (pa_cons (pe_callB (call_reprG T (ok_R__repr__ T) hG (hr.mono (by decide)) rfl rfl) rfl (T.free 12 _ rfl) bt_repr (pa_cons (pe_lst (pa_cons (pv 6) (pa_cons (pv 7) pa_nil))) pa_nil)) (pa_cons (pe_ix ix_seq (pe_cR (ok__law_signs T) (hr.mono (by decide)) rfl (T.glo 44 _ rfl) (T.kf 44 _ rfl) pz (pa_cons (pv 2) pa_nil)) pe_int (fun _ _ => rfl)) pa_nil)) rfl)
  (pss_cons (ps_if (pt_cmpR (op_lt) (pe_propR (pe_cR (ok__law_form T) (hr.mono (by decide)) rfl (T.glo 47 _ rfl) (T.kf 47 _ rfl) pz (pa_cons (pv 2) (pa_cons (pv 3) (pa_cons (pv 3) pa_nil)))) T.cls (T.prop 2 _ rfl) (ok_Rsign T) (hr.mono (by decide)) pz) pe_int (nomark _)) (pss_cons (ps_if (pt_not (pt_val (pe_heardQ (k := 30) (t := fun E => (tcR (SpO (cR K) (cN K) S_level) E (tCons (tVar 6) (tCons (tVar 7) tNil)))) (q := qR) rfl T rfl TB rfl (hr.mono (by decide)) (LamX.lamS_by (by kernel_rfl)) rfl (fun _ _ _ _ _ => rfl) (fun A2 out2 s2 H2 E f2 c2 hr2 => (pe_cR (ok_level T) (hr2.mono (by decide)) rfl (T.glo 29 _ rfl) (T.kf 29 _ rfl) (px (L2.takes_of rfl rfl rfl rfl)) (pa_cons (pv 6) (pa_cons (pv 7) pa_nil))))))) (pss_one (ps_ret pe_bl)) pss_nil)
  (pss_one (ps_ret (pe_heardQ (k := 30) (t := fun E => (tcR (SpO (cR K) (cN K) S_is_level) E (tCons (tVar 6) (tCons (tVar 7) (tCons (tOp (rMul (cR K) (cN K)) (tLst (tCons (tC (.int 0)) tNil)) (tVar 1)) tNil))))) (q := qR) rfl T rfl TB rfl (hr.mono (by decide)) (LamX.lamS_by (by kernel_rfl)) rfl (fun _ _ _ _ _ => rfl) (fun A2 out2 s2 H2 E f2 c2 hr2 => (pe_cR (ok_is_level T) (hr2.mono (by decide)) rfl (T.glo 30 _ rfl) (T.kf 30 _ rfl) (px (L2.takes_of rfl rfl rfl rfl)) (pa_cons (pv 6) (pa_cons (pv 7) (pa_cons (pe_op (op_Mul T (ok_R__mul__ T) (ok_R__rmul__ T) (hr2.mono (by decide))) (pe_lst (pa_cons pe_int pa_nil)) (pv 1)) pa_nil))))))))) pss_nil)
  (pss_cons (ps_set (i := 4) sc__law_right.nd rfl (by first | exact Or.inl rfl | exact Or.inr rfl) (pe_cR (ok_level T) (hr.mono (by decide)) rfl (T.glo 29 _ rfl) (T.kf 29 _ rfl) (px (XE := E0) LamX.takes0) (pa_cons (pv 6) (pa_cons (pv 7) pa_nil))))
  (pss_cons (ps_par (i := 10) (j := 11) rfl sc__law_right.nd rfl rfl (by decide) rfl rfl (pa_cons (pe_cKN F_level (hr.mono (by decide)) rfl (T.glo 29 _ rfl) (T.kf 29 _ rfl) kb_level rfl (px (XE := E0) LamX.takes0) (pk_cons (pv 7) (pk_cons (pv 6) pk_nil))) (pa_cons (pe_callB (call_reprG T (ok_R__repr__ T) hG (hr.mono (by decide)) rfl rfl) rfl (T.free 12 _ rfl) bt_repr (pa_cons (pv 4) pa_nil)) pa_nil)) rfl)
  (pss_cons (ps_if (PW.pt (pw_or (pt_cmpR (op_NeU T (ok_R__eq__ T) (hr.mono (by decide))) (pe_cmpR (op_isN) (pv 4) pe_non (nomark _)) (pe_cmpR (op_lt) (pv 9) pe_int (nomark _)) (nomark _)) (pw_or1 (pt_cmpR (op_NeU T (ok_R__eq__ T) (hr.mono (by decide))) (pe_callB (call_reprG T (ok_R__repr__ T) hG (hr.mono (by decide)) rfl rfl) rfl (T.free 12 _ rfl) bt_repr (pa_cons (pv 10) pa_nil)) (pv 11) (nomark _))))) (pss_one (ps_ret pe_bl)) pss_nil)
  (pss_cons (ps_if (pt_cmpR (op_notN) (pv 10) pe_non (nomark _)) (pss_cons (ps_expr (pe_bm PySem.F.plainAttrs_list PySem.F.slot_list_append PySem.F.type_list_append mt_append (pv 10) (pa_cons pe_non pa_nil)))
  (pss_one (ps_if (PW.pt (pw_or (pt_cmpR (op_NeU T (ok_R__eq__ T) (hr.mono (by decide))) (pe_callB (call_reprG T (ok_R__repr__ T) hG (hr.mono (by decide)) rfl rfl) rfl (T.free 12 _ rfl) bt_repr (pa_cons (pv 4) pa_nil)) (pv 11) (nomark _)) (pw_or1 (pt_cmpR (op_NeU T (ok_R__eq__ T) (hr.mono (by decide))) (pe_callB (call_reprG T (ok_R__repr__ T) hG (hr.mono (by decide)) rfl rfl) rfl (T.free 12 _ rfl) bt_repr (pa_cons (pe_cR (ok_level T) (hr.mono (by decide)) rfl (T.glo 29 _ rfl) (T.kf 29 _ rfl) (px (XE := E0) LamX.takes0) (pa_cons (pv 6) (pa_cons (pv 7) pa_nil))) pa_nil)) (pv 11) (nomark _))))) (pss_one (ps_ret pe_bl)) pss_nil))) pss_nil)
  (pss_cons (ps_if (pt_cmpR (op_notN) (pv 4) pe_non (nomark _)) (pss_one (ps_if (PW.pt (pw_or (pt_not (pt_val (pe_callB call_isi rfl (T.free 0 _ rfl) bt_isinstance (pa_cons (pv 4) (pa_cons (pe_bltn rfl (T.free 3 _ rfl) bt_list rfl) pa_nil))))) (pw_or (pt_not (pt_val (pe_callB (cr_all rfl) rfl (T.free 6 _ rfl) bt_all (pa_cons (pe_lc (own := [("_law_one", 15)]) (wi := (iSeq K (tVar 4))) (g := (gName 15)) (tt := tYes) (te := (tCB (rIsi K) (tCons (tVar 15) (tCons (tC (.ref (cR K))) tNil)))) rfl sc__law_right.nd (pi_seq (pv 4)) (blkOk_by (by kernel_rfl)) (fun _ _ _ _ _ => (pg_name (i := 15) sc__law_right.nd rfl (by first | exact Or.inl rfl | exact Or.inr rfl))) (fun _ _ _ _ _ => pts_nil) (fun _ _ _ _ _ => (pe_callB call_isi rfl (T.free 0 _ rfl) bt_isinstance (pa_cons (pv 15) (pa_cons (pe_glob rfl (T.glo 62 _ rfl) rfl) pa_nil))))) pa_nil)))) (pw_or1 (pt_not (pt_val (pe_cR (ok__law_looks T) (hr.mono (by decide)) rfl (T.glo 48 _ rfl) (T.kf 48 _ rfl) pz (pa_cons (pv 2) (pa_cons (pv 3) (pa_cons (pv 4) pa_nil)))))))))) (pss_one (ps_ret pe_bl)) pss_nil)) (pss_one (ps_if (pt_not (pt_val (pe_cR (ok__law_bound_right T) (hr.mono (by decide)) rfl (T.glo 51 _ rfl) (T.kf 51 _ rfl) pz (pa_cons (pv 0) (pa_cons (pv 2) (pa_cons (pv 3) pa_nil)))))) (pss_one (ps_ret pe_bl)) pss_nil)))
  (pss_cons (ps_for PassesOwn.never rfl (pi_seq (pe_op (op_Add T (ok_R__add__ T) (hr.mono (by decide))) (pe_lst (pa_cons (pv 4) pa_nil)) (pe_cR (ok__law_values T) (hr.mono (by decide)) rfl (T.glo 50 _ rfl) (T.kf 50 _ rfl) pz (pa_cons (pv 0) (pa_cons (pv 2) (pa_cons (pv 3) (pa_cons (pv 4) pa_nil))))))) (pg_name (i := 5) sc__law_right.nd rfl (by first | exact Or.inl rfl | exact Or.inr rfl)) (pss_cons (ps_set (i := 12) sc__law_right.nd rfl (by first | exact Or.inl rfl | exact Or.inr rfl) (pe_cR (ok__law_looks T) (hr.mono (by decide)) rfl (T.glo 48 _ rfl) (T.kf 48 _ rfl) pz (pa_cons (pv 2) (pa_cons (pv 3) (pa_cons (pv 5) pa_nil)))))
  (pss_cons (ps_set (i := 13) sc__law_right.nd rfl (by first | exact Or.inl rfl | exact Or.inr rfl) (pe_ifExp (pt_cmpR (op_EqU hr) (pe_cR (ok__law_draw T) (hr.mono (by decide)) rfl (T.glo 32 _ rfl) (T.kf 32 _ rfl) pz (pa_cons (pv 0) (pa_cons pe_int pa_nil))) pe_int (nomark _)) (pe_cR (ok_is_level T) (hr.mono (by decide)) rfl (T.glo 30 _ rfl) (T.kf 30 _ rfl) (px (XE := E0) LamX.takes0) (pa_cons (pv 6) (pa_cons (pv 7) (pa_cons (pv 5) pa_nil)))) (pe_cKN F_is_level (hr.mono (by decide)) rfl (T.glo 30 _ rfl) (T.kf 30 _ rfl) kb_is_level rfl (px (XE := E0) LamX.takes0) (pk_cons (pv 5) (pk_cons (pv 3) (pk_cons (pv 2) pk_nil))))))
  (pss_one (ps_if (PW.pt (pw_or (pt_cmpR (op_NeU T (ok_R__eq__ T) (hr.mono (by decide))) (pe_callB (call_reprG T (ok_R__repr__ T) hG (hr.mono (by decide)) rfl rfl) rfl (T.free 12 _ rfl) bt_repr (pa_cons (pv 13) pa_nil)) (pe_callB (call_reprG T (ok_R__repr__ T) hG (hr.mono (by decide)) rfl rfl) rfl (T.free 12 _ rfl) bt_repr (pa_cons (pv 12) pa_nil)) (nomark _)) (pw_or1 (PW.pt (pw_and (pt_val (pv 12)) (pw_and1 (pt_cmpR (op_lt) (pv 9) pe_int (nomark _)))))))) (pss_one (ps_ret pe_bl)) pss_nil)))))
  (pss_one (ps_ret (pe_cmpR (op_EqU hr) (pe_callB (call_reprG T (ok_R__repr__ T) hG (hr.mono (by decide)) rfl rfl) rfl (T.free 12 _ rfl) bt_repr (pa_cons (pe_lst (pa_cons (pv 6) (pa_cons (pv 7) pa_nil))) pa_nil)) (pv 8) (nomark _))))))))))))))))
end
end OC
set_option maxHeartbeats 4000000
/-! OcR0: sizes of texts of data. -/
namespace OC
open PySem PySem.Spec PyProof.Rows L2
theorem Bd.num {x : Nat} {q : Rat} (h : Bd x q) : q.num.natAbs < 2 ^ x ∧ q.den < 2 ^ x := by
  obtain ⟨d, d0, d1, z, z1, z2⟩ := h
  have hd : (d : Rat) ≠ 0 := cast_ne (by omega)
  have e : q = Rat.divInt z d := by
    rw [Rat.divInt_eq_div, ← z2, Rat.mul_div_cancel hd]
  refine ⟨?_, ?_⟩
  · rw [e, Rat.num_divInt, Int.sign_eq_one_of_pos d0, Int.one_mul]
    exact Nat.lt_of_le_of_lt (Int.natAbs_ediv_le_natAbs _ _) z1
  · rw [e, Rat.den_divInt, if_neg (by omega)]
    exact Nat.lt_of_le_of_lt (Nat.div_le_self _ _) d1
theorem listText_len (ts : List Str) : (listText ts).length ≤ piled ts + 2 := by
  have h := textFrom_len_le ts 0 "["
  have e : (("[" : String) : Str).length = 1 := rfl
  have e2 : (("]" : String) : Str).length = 1 := rfl
  have e3 : piled ts = (ts.map (·.length)).sum + 2 * ts.length := by
    induction ts with
    | nil => rfl
    | cons t ts ih =>
      have h' := textFrom_len_le ts 0 "["
      rw [piled_cons, ih h', List.map_cons, List.sum_cons, List.length_cons]; omega
  unfold listText
  rw [strLen_append]
  omega
theorem tupleText_len (ts : List Str) : (tupleText ts).length ≤ piled ts + 3 := by
  unfold tupleText
  rw [strLen_append, strLen_append]
  have e : (("(" : String) : Str).length = 1 := rfl
  have e1 : (if ts.length == 1 then ((",)" : String) : Str) else ((")" : String) : Str)).length ≤ 2 := by split <;> decide
  have e2 : (Str.join ", " ts).length ≤ piled ts := by
    by_cases h : ts = []
    · subst h; decide
    · have := join_length_add ts h
      omega
  have e3 : (if (ts.length == 1) = true then (",)" : String) else (")" : String) : String) = (if (ts.length == 1) = true then (",)" : String) else (")" : String)) := rfl
  have e4 : (Str.ofString (if (ts.length == 1) = true then ",)" else ")")).length ≤ 2 := by split <;> decide
  have e5 : ((Str.ofString "(")).length = 1 := rfl
  omega
theorem piled_ds {m : Nat} : ∀ {ds : List D}, (∀ d ∈ ds, (reprD d).length ≤ m) → piled (reprDs ds) ≤ ds.length * (m + 2)
  | [], _ => by rw [List.length_nil, Nat.zero_mul]; exact Nat.le_refl _
  | d :: ds, h => by
    show piled (reprD d :: reprDs ds) ≤ _
    rw [piled_cons, List.length_cons, Nat.add_mul]
    have h1 := h d List.mem_cons_self
    have h2 := piled_ds (ds := ds) fun x hx => h x (List.mem_cons_of_mem _ hx)
    omega
/-- a list or a tuple -/
theorem seq_len {v : D} {xs : List D} {m n : Nat} (hs : SeqD v xs) (hl : xs.length ≤ n) (h : ∀ d ∈ xs, (reprD d).length ≤ m) : (reprD v).length ≤ n * (m + 2) + 3 := by
  have h1 := piled_ds h
  have h2 : xs.length * (m + 2) ≤ n * (m + 2) := Nat.mul_le_mul_right _ hl
  cases hs with
  | lst xs =>
    unfold reprD
    split
    · show 2 ≤ _; omega
    · have := listText_len (reprDs xs); omega
  | tup xs =>
    unfold reprD
    have := tupleText_len (reprDs xs); omega
theorem repOks_of : ∀ {ds : List D}, (∀ d ∈ ds, RepOk d) → RepOks ds
  | [], _ => trivial
  | d :: ds, h => ⟨h d List.mem_cons_self, repOks_of fun x hx => h x (List.mem_cons_of_mem _ hx)⟩
theorem deps_le {m : Nat} : ∀ {ds : List D}, (∀ d ∈ ds, dep d ≤ m) → deps ds ≤ m
  | [], _ => Nat.zero_le _
  | d :: ds, h => Nat.max_le.mpr ⟨h d List.mem_cons_self, deps_le fun x hx => h x (List.mem_cons_of_mem _ hx)⟩
theorem seq_rep {v : D} {xs : List D} {m : Nat} (hs : SeqD v xs) (h : ∀ d ∈ xs, RepOk d ∧ dep d ≤ m) : RepOk v ∧ dep v ≤ m + 1 := by
  have h1 := repOks_of fun d hd => (h d hd).1
  have h2 := deps_le fun d hd => (h d hd).2
  cases hs with
  | lst xs => exact ⟨h1, Nat.succ_le_succ h2⟩
  | tup xs => exact ⟨h1, Nat.succ_le_succ h2⟩
theorem log2_of {a k : Nat} (h : a < 2 ^ k) (hk : 0 < k) : a.log2 < k := by
  by_cases z : a = 0
  · subst z; exact hk
  · exact (Nat.log2_lt z).mpr h
theorem nm_text {x : D} {q : Rat} (h : Nm x q) (hb : Bd 20 q) : RepOk x ∧ dep x ≤ 0 ∧ (reprD x).length ≤ 130000 := by
  cases h with
  | rat _ => exact ⟨hb.sm (by omega), Nat.le_refl _, reprQ_len (hb.sm (by omega))⟩
  | int i =>
    have h1 := hb.num.1
    rw [Rat.num_intCast] at h1
    have h2 := log2_of h1 (by decide)
    refine ⟨Nat.lt_of_lt_of_le h2 (by decide), Nat.le_refl _, ?_⟩
    have := int_text_length_le (k := 20) (by decide) h2
    show (Str.ofString (toString i)).length ≤ 130000
    rw [PySem.ofString_length]
    omega
theorem nms_text : ∀ {xs : List D} {r : Row}, Nms xs r → (∀ q ∈ r, Bd 20 q) → ∀ x ∈ xs, RepOk x ∧ dep x ≤ 0 ∧ (reprD x).length ≤ 130000
  | _, _, .nil, _, x, hx => nomatch hx
  | _, _, .cons h t, hb, x, hx => by
    rcases List.mem_cons.mp hx with z | z
    · rw [z]; exact nm_text h (hb _ List.mem_cons_self)
    · exact nms_text t (fun q hq => hb q (List.mem_cons_of_mem _ hq)) x z
theorem row_text {v : D} {xs : List D} {r : Row} (hs : SeqD v xs) (hn : Nms xs r) (hb : ∀ q ∈ r, Bd 20 q) (hl : r.length ≤ 4) : RepOk v ∧ dep v ≤ 1 ∧ (reprD v).length ≤ 530000 := by
  have h := nms_text hn hb
  obtain ⟨h1, h2⟩ := seq_rep (m := 0) hs fun d hd => ⟨(h d hd).1, (h d hd).2.1⟩
  have h3 := seq_len (n := 4) (m := 130000) hs (by rw [hn.length]; exact hl) fun d hd => (h d hd).2.2
  exact ⟨h1, h2, by omega⟩
theorem tab_text : ∀ {ts : List D} {A : Mat}, TabD ts A → (∀ r ∈ A, (∀ q ∈ r, Bd 20 q) ∧ r.length ≤ 4) → ∀ x ∈ ts, RepOk x ∧ dep x ≤ 1 ∧ (reprD x).length ≤ 530000
  | _, _, .nil, _, x, hx => nomatch hx
  | _, _, .cons h n g, hb, x, hx => by
    rcases List.mem_cons.mp hx with z | z
    · rw [z]
      obtain ⟨h1, h2⟩ := hb _ List.mem_cons_self
      exact row_text h n h1 h2
    · exact tab_text g (fun r hr => hb r (List.mem_cons_of_mem _ hr)) x z
section
variable {A : Mat} {w : Row} {n : Nat}
theorem Src.giv_text (S : Src A w n) (t : Pot) : RepOk (givF A t).1 ∧ dep (givF A t).1 ≤ 2 ∧ (reprD (givF A t).1).length ≤ 2200000 := by
  have h := tab_text (tabD_map A t) fun r hr => ⟨S.bA r hr, S.rl hr⟩
  obtain ⟨h1, h2⟩ := seq_rep (m := 1) (seq_either (mapS handF A t)) fun d hd => ⟨(h d hd).1, (h d hd).2.1⟩
  have h3 := seq_len (n := 4) (m := 530000) (seq_either (mapS handF A t)) (by rw [mapS_length]; exact S.al) fun d hd => (h d hd).2.2
  exact ⟨h1, h2, by unfold givF; omega⟩
theorem Src.hand_text (S : Src A w n) (t : Pot) : RepOk (handF w t).1 ∧ dep (handF w t).1 ≤ 1 ∧ (reprD (handF w t).1).length ≤ 530000 := by
  obtain ⟨xs, h1, h2⟩ := hand_seq w t
  have h4 := S.n4
  exact row_text h1 h2 (fun q hq => (S.bw q hq).mono (by omega)) (by rw [S.wl]; omega)
/-- the text of what is given -/
theorem Src.stay (S : Src A w n) (t t' : Pot) : RepOk (.lst [(givF A t).1, (handF w t').1]) ∧ dep (.lst [(givF A t).1, (handF w t').1]) ≤ 3 ∧ (reprD (.lst [(givF A t).1, (handF w t').1])).length ≤ sizeLine := by
  obtain ⟨a1, a2, a3⟩ := S.giv_text t
  obtain ⟨b1, b2, b3⟩ := S.hand_text t'
  have ha : ∀ d ∈ [(givF A t).1, (handF w t').1], RepOk d ∧ dep d ≤ 2 ∧ (reprD d).length ≤ 2200000 := by
    intro d hd
    rcases List.mem_cons.mp hd with z | z
    · rw [z]; exact ⟨a1, a2, a3⟩
    · rw [List.mem_singleton.mp z]; exact ⟨b1, by omega, by omega⟩
  obtain ⟨h1, h2⟩ := seq_rep (m := 2) (.lst _) fun d hd => ⟨(ha d hd).1, (ha d hd).2.1⟩
  have h3 := seq_len (n := 2) (m := 2200000) (.lst [(givF A t).1, (handF w t').1]) (Nat.le_refl _) fun d hd => (ha d hd).2.2
  refine ⟨h1, h2, ?_⟩
  rw [sizeLine_eq]; omega
/-- the text of what is told -/
theorem told_text {u : Row} (hu : RB 2040 u) (hl : u.length ≤ 4) : RepOk (RLd u) ∧ dep (RLd u) ≤ 3 ∧ (reprD (RLd u)).length ≤ sizeLine := by
  have ha : ∀ d ∈ u.map D.rat, RepOk d ∧ dep d ≤ 0 ∧ (reprD d).length ≤ 130000 := by
    intro d hd
    obtain ⟨q, hq, e⟩ := List.mem_map.mp hd
    rw [← e]
    have hs := (hu.bd q hq).sm (by omega)
    exact ⟨hs, Nat.le_refl _, reprQ_len hs⟩
  obtain ⟨h1, h2⟩ := seq_rep (m := 0) (.lst _) fun d hd => ⟨(ha d hd).1, (ha d hd).2.1⟩
  have h3 := seq_len (n := 4) (m := 130000) (.lst (u.map D.rat)) (by rw [List.length_map]; exact hl) fun d hd => (ha d hd).2.2
  refine ⟨h1, Nat.le_trans h2 (by decide), Nat.le_trans h3 ?_⟩
  rw [sizeLine_eq]; decide
end
end OC
set_option maxHeartbeats 4000000
/-! OcR2: right: the last stretch, the loop. -/
namespace OC
open PySem PySem.Spec PyProof.Rows L2 LamX
section
variable {C CN : Addr} {K : Frg} {mg : Str → Option Value} {ρ : Sto} {μ μ1 : Mu} {te : TE} {t : Pot} {p : Addr} {A : Mat} {w : Row} {n : Nat} {E : AEn} {Γ : Gam}
theorem valsF_ok {told : Option Row} (h0 : 0 < A.length) (h : PotOk t) : PotOk (valsF A w told t).2 := by
  have hw := waysL_ok (A := A) (w := w) (n := A.length) (s := (vals0 w A.length, t)) h 4
  unfold valsF
  cases told with
  | none => exact hw
  | some v => exact (draw_ok (draw_ok (n := (A.length : Int)) hw (by omega)).2.2 (by decide)).2.2
/-- what the names stand for in the last stretch -/
structure Rho (A : Mat) (w : Row) (n : Nat) (p : Addr) (g pw : D) (ρ : Sto) : Prop where
  l : ρ.length = 16
  r0 : ρ[0]? = some (some (.ptr p))
  r1 : ρ[1]? = some (some (natD n))
  r2 : ρ[2]? = some (some (RMd A))
  r3 : ρ[3]? = some (some (RLd w))
  r6 : ρ[6]? = some (some g)
  r7 : ρ[7]? = some (some pw)
  r8 : ρ[8]? = some (some (.str (reprD (.lst [g, pw]))))
  r9 : ρ[9]? = some (some (natD (aboveN A)))
theorem Rho.set {g pw : D} (h : Rho A w n p g pw ρ) (i : Nat) (d : D) (hi : i ∉ [0, 1, 2, 3, 6, 7, 8, 9]) : Rho A w n p g pw (ρ.set i (some d)) := by
  simp only [List.mem_cons, List.not_mem_nil, or_false, not_or] at hi
  obtain ⟨a0, a1, a2, a3, a6, a7, a8, a9⟩ := hi
  exact ⟨by rw [List.length_set]; exact h.l, get_set_ne a0 h.r0, get_set_ne a1 h.r1, get_set_ne a2 h.r2, get_set_ne a3 h.r3, get_set_ne a6 h.r6, get_set_ne a7 h.r7, get_set_ne a8 h.r8, get_set_ne a9 h.r9⟩
/-- what is given -/
structure Giv (A : Mat) (w : Row) (g pw : D) : Prop where
  tab : TabOk g A
  wt : WtOk A pw w
  rep : RepOk (.lst [g, pw])
  dp : dep (.lst [g, pw]) ≤ 3
  sz : (reprD (.lst [g, pw])).length ≤ sizeLine
theorem eqD_s (s : Str) : eqD (.str s) (.str s) = true := decide_eq_true rfl
theorem ac_bl {b : Bool} : AC C (rReprG C) μ [.bl b] (.str (reprD (.bl b))) μ := ac_reprG trivial rfl (by cases b <;> decide) (Nat.zero_le _)
theorem one_loop {g pw : D} (S : Src A w n) (c0 : 0 < valF A w) (G : Giv A w g pw) (hR : Rho A w n p g pw ρ) (hp : p ∈ dom μ) (ht : PotOk t) {v : D} (r5 : ρ[5]? = some (some v)) (hv : Vq n v) (hE : ∀ ρ', Rho A w n p g pw ρ' → ρ'[4]? = ρ[4]? → E.nx ρ' (MP μ p (draw t 2).2)) :
    AS C (t_one__law_right K C CN) ρ (MP μ p t) E := by
  unfold t_one__law_right
  have e1 : AE C (tcR (SpO C CN S__law_looks) E0 (tCons (tVar 2) (tCons (tVar 3) (tCons (tVar 5) tNil)))) ρ (MP μ p t) (.bl (looksB A w v)) (MP μ p t) := (ae_call (aa3 (ae_var hR.r2) (ae_var hR.r3) (ae_var r5)) (pS.mk ⟨A, w, v, rfl, hv.lookok S, rfl⟩)).is (by rw [look_eq S])
  refine as_seq (as_set e1 ?_)
  have hR1 := hR.set 12 (.bl (looksB A w v)) (by decide)
  have s5 := get_set_ne (i := 12) (x := some (D.bl (looksB A w v))) (by decide) r5
  have s12 : (ρ.set 12 (some (D.bl (looksB A w v))))[12]? = some (some (.bl (looksB A w v))) := get_set_eq (by rw [hR.l]; decide)
  have s4 : (ρ.set 12 (some (D.bl (looksB A w v))))[4]? = ρ[4]? := List.getElem?_set_ne (by decide)
  show AS C _ (ρ.set 12 (some (D.bl (looksB A w v)))) _ _
  generalize ρ.set 12 (some (D.bl (looksB A w v))) = ρ1 at hR1 s5 s12 s4
  have e2 : AE C (tIf (tTest (tOp (rEqU K) (tcR (SpO C CN S__law_draw) E0 (tCons (tVar 0) (tCons (tC (.int 2)) tNil))) (tC (.int 0)))) (tcR (SpO C CN S_is_level) E0 (tCons (tVar 6) (tCons (tVar 7) (tCons (tVar 5) tNil)))) (tcKR (SpO C CN S_is_level) E0 (tCons (tVar 5) (tCons (tVar 3) (tCons (tVar 2) tNil))))) ρ1 (MP μ p t) (.bl (looksB A w v)) (MP μ p (draw t 2).2) :=
    ae_if (at_test (ae_op (ae_draw hp ht hR1.r0 ae_int (by decide) (by decide)) ae_int (eq_s rfl)))
      (fun _ => ae_call (aa3 (ae_var hR1.r6) (ae_var hR1.r7) (ae_var s5)) ⟨rfl, g, pw, v, A, w, rfl, G.tab, G.wt, .inl ⟨c0, hv.vlok S, rfl⟩⟩)
      (fun _ => ae_callKR (aa3 (ae_var s5) (ae_var hR1.r3) (ae_var hR1.r2)) ⟨rfl, RMd A, RLd w, v, A, w, rfl, S.tab_rows, S.wt_row, .inl ⟨c0, hv.vlok S, rfl⟩⟩)
  refine as_seq (as_set e2 ?_)
  have hR2 := hR1.set 13 (.bl (looksB A w v)) (by decide)
  have u12 := get_set_ne (i := 13) (x := some (D.bl (looksB A w v))) (by decide) s12
  have u13 : (ρ1.set 13 (some (D.bl (looksB A w v))))[13]? = some (some (.bl (looksB A w v))) := get_set_eq (by rw [hR1.l]; decide)
  have u4 : (ρ1.set 13 (some (D.bl (looksB A w v))))[4]? = ρ1[4]? := List.getElem?_set_ne (by decide)
  show AS C _ (ρ1.set 13 (some (D.bl (looksB A w v)))) _ _
  generalize ρ1.set 13 (some (D.bl (looksB A w v))) = ρ2 at hR2 u12 u13 u4
  have f1 : AT C (tTest (tOp (rNeU C CN K) (tCB (rReprG C) (tCons (tVar 13) tNil)) (tCB (rReprG C) (tCons (tVar 12) tNil)))) ρ2 (MP μ p (draw t 2).2) false (MP μ p (draw t 2).2) :=
    at_test ((ae_op (ae_cb (aa1 (ae_var u13)) ac_bl) (ae_cb (aa1 (ae_var u12)) ac_bl) (ne_s rfl)).is (by rw [eqD_s]; rfl))
  have f2 : AT C (tAnd (tB (tVar 12)) (tTest (tOp rLtI (tVar 9) (tC (.int 2))))) ρ2 (MP μ p (draw t 2).2) false (MP μ p (draw t 2).2) := by
    cases hl : looksB A w v with
    | false => rw [hl] at u12; exact at_and0 (at_B (ae_var u12))
    | true =>
      rw [hl] at u12
      have h2 : ¬ aboveN A < 2 := S.due_two c0 (v := v) (by rw [look_eq S, hl])
      exact at_and1 (at_B (ae_var u12)) (at_test ((ae_op (ae_var hR2.r9) ae_int a2_lt).is (by rw [decide_eq_false (by omega)])))
  exact as_ifF (at_or0 f1 f2) (as_next (hE ρ2 hR2 (u4.trans s4)))
theorem ag_loop {g pw : D} (S : Src A w n) (c0 : 0 < valF A w) (G : Giv A w g pw) (hR : Rho A w n p g pw ρ) (hp : p ∈ dom μ) (ht : PotOk t) (r4 : ρ[4]? = some (some (optR (levelV A w 4)))) (hE : ∀ μ, E.rt (.val (.bl true)) μ) :
    AS C (t_loop__law_right K C CN) ρ (MP μ p t) E := by
  unfold t_loop__law_right
  have hA := S.h.1
  have h0 := S.n0
  have hvl : (valsF A w (levelV A w 4) t).1.length ≤ 99000 := by
    have hlk : (waysL A w A.length (vals0 w A.length, t) 4).1.length = 16 := waysL_len 4
    unfold valsF
    cases levelV A w 4 with
    | none => show (waysL A w A.length (vals0 w A.length, t) 4).1.length ≤ _; omega
    | some v =>
      show ((waysL A w A.length (vals0 w A.length, t) 4).1 ++ toldVals v w _ _).length ≤ _
      rw [List.length_append, hlk]
      unfold toldVals oddsD
      simp
  have hp2 := valsF_ok (w := w) (told := levelV A w 4) (show 0 < A.length by omega) ht
  have hi : AI C (iSeq K (tOp (rAdd C CN) (tLst (tCons (tVar 4) tNil)) (tcR (SpO C CN S__law_values) E0 (tCons (tVar 0) (tCons (tVar 2) (tCons (tVar 3) (tCons (tVar 4) tNil))))))) ρ (MP μ p t) (optR (levelV A w 4) :: (valsF A w (levelV A w 4) t).1) (MP μ p (valsF A w (levelV A w 4) t).2) :=
    ai_seqL (ae_op (AF.e (af_lst (aa1 (ae_var r4)) (Nat.le_of_ble_eq_true rfl))) (ae_callP hp ht (aa_cons (ae_var hR.r0) (aa_cons (ae_var hR.r2) (aa_cons (ae_var hR.r3) (aa_cons (ae_var r4) aa_nil)))) ⟨A, w, levelV A w 4, rfl, S.vals_ok c0, rfl, rfl⟩) (add_l (by show 1 + _ ≤ _; omega)))
  have hvq : ∀ v ∈ optR (levelV A w 4) :: (valsF A w (levelV A w 4) t).1, Vq n v := by
    intro v hv
    rcases List.mem_cons.mp hv with z | z
    · rw [z]; exact S.vq_told c0
    · exact S.vals c0 ht v z
  refine as_seq (as_for (fun _ ρ' μ' => Rho A w n p g pw ρ' ∧ ∃ t', PotOk t' ∧ μ' = MP μ p t') hi ⟨hR, _, hp2, rfl⟩ (fun k v ρ' μ' hk hP => ?_) fun ρ' μ' hP => ?_)
  · obtain ⟨hR', t', ht', rfl⟩ := hP
    refine ⟨_, _, ag_name, ?_⟩
    exact one_loop S c0 G (hR'.set 5 v (by decide)) hp ht' (get_set_eq (by rw [hR'.l]; decide)) (hvq v (List.mem_of_getElem? hk)) fun ρ2 h2 _ => ⟨h2, _, (draw_ok ht' (by decide)).2.2, rfl⟩
  · obtain ⟨hR', t', ht', rfl⟩ := hP
    have fin : AE C (tOp (rEqU K) (tCB (rReprG C) (tCons (tLst (tCons (tVar 6) (tCons (tVar 7) tNil))) tNil)) (tVar 8)) ρ' (MP μ p t') (.bl true) (MP μ p t') :=
      (ae_op (ae_cb (aa1 (AF.e (af_lst (aa2 (ae_var hR'.r6) (ae_var hR'.r7)) (Nat.le_of_ble_eq_true rfl)))) (ac_reprG G.rep rfl G.sz G.dp)) (ae_var hR'.r8) (eq_s rfl)).is (by rw [eqD_s])
    exact as_ret fin (hE _)
end
end OC
set_option maxHeartbeats 4000000
/-! OcR3: right: from its first word to its last. -/
namespace OC
open PySem PySem.Spec PyProof.Rows L2 LamX
section
variable {K : Frg} {mg : Str → Option Value} {ρ : Sto} {μ μ1 : Mu} {te : TE} {t : Pot} {p q : Addr} {A : Mat} {w : Row} {n : Nat} {E : AEn} {Γ : Gam} {ds : List D} {C CN : Addr}
theorem a2_notP : A2 C rNotN0 μ (.ptr q) .non (.bl true) μ := ⟨rfl, fun B H v u ok rx ry Q k => ⟨ry, k _ B H (Gr.refl _ _ _) ok (by rw [show v = V.ref q from rx]; rfl)⟩⟩
theorem setM_ne {q p : Addr} (h : q ≠ p) : setM ((q, ds) :: μ) p (potD t) = (q, ds) :: setM μ p (potD t) := by
  unfold setM
  rw [List.map_cons, if_neg h]
theorem chk_ok {u : Row} {t0 : List D} (T : Tx K mg) (S : Src A w n) (c0 : 0 < valF A w) (hu : levelV A w 4 = some u) (r2 : ρ[2]? = some (some (RMd A))) (r3 : ρ[3]? = some (some (RLd w))) (r4 : ρ[4]? = some (some (RLd u))) (hl : ρ.length = 16) (h : E.nx ρ μ) :
    AS (cR K) (t_chk__law_right K (cR K) (cN K)) ρ μ E := by
  unfold t_chk__law_right
  have h4 := S.n4
  obtain ⟨ul, _⟩ := (S.lv c0).looks u hu
  have f1 : AT (cR K) (tNot (tB (tCB (rIsi K) (tCons (tVar 4) (tCons (tC (.ty "list")) tNil))))) ρ μ false μ := at_not (b := true) (at_B ((ae_cb (aa2 (ae_var r4) ae_ty) (ac_isi T (by decide) rfl)).is rfl))
  have hall : AE (cR K) (tCB (rAll K) (tCons (tLc (iSeq K (tVar 4)) (gName 15) tYes (tCB (rIsi K) (tCons (tVar 15) (tCons (tC (.ref (cR K))) tNil))) [15]) tNil)) ρ μ (.bl true) μ := by
    have hm : AF (cR K) (tLc (iSeq K (tVar 4)) (gName 15) tYes (tCB (rIsi K) (tCons (tVar 15) (tCons (tC (.ref (cR K))) tNil))) [15]) ρ μ ((List.range (u.map D.rat).length).map fun _ => D.bl true) μ := by
      refine af_map (fun _ => D.bl true) (ai_seqL (ae_var r4)) (by rw [List.length_map]; omega) fun i d hd => ⟨_, _, ag_name, by simp, at_yes, ?_⟩
      rw [List.getElem?_map] at hd
      obtain ⟨z, _, rfl⟩ := Option.map_eq_some_iff.mp hd
      exact (ae_cb (aa2 (ae_var (get_set_eq (by show 15 < (ρ.set 15 none).length; rw [List.length_set, hl]; decide))) ae_ptr) (ac_isiR T rfl)).is rfl
    have e : (List.range (u.map D.rat).length).map (fun _ => D.bl true) = ((List.range (u.map D.rat).length).map fun _ => true).map D.bl := by rw [List.map_map]; rfl
    rw [e] at hm
    refine (ae_cb (aa1 (AF.e hm)) ac_all).is ?_
    congr 1
    rw [List.all_eq_true]
    intro x hx
    obtain ⟨_, _, rfl⟩ := List.mem_map.mp hx
    rfl
  have f2 : AT (cR K) (tNot (tB (tCB (rAll K) (tCons (tLc (iSeq K (tVar 4)) (gName 15) tYes (tCB (rIsi K) (tCons (tVar 15) (tCons (tC (.ref (cR K))) tNil))) [15]) tNil)))) ρ μ false μ := at_not (b := true) (at_B hall)
  have hq : Vq n (RLd u) := vq_rats ((S.told_rb c0 u hu).mono (by omega)) (by omega) (Or.inl rfl)
  have f3 : AT (cR K) (tNot (tB (tcR (SpO (cR K) (cN K) S__law_looks) E0 (tCons (tVar 2) (tCons (tVar 3) (tCons (tVar 4) tNil)))))) ρ μ false μ :=
    at_not (b := true) (at_B ((ae_call (aa3 (ae_var r2) (ae_var r3) (ae_var r4)) (pS.mk ⟨A, w, RLd u, rfl, hq.lookok S, rfl⟩)).is (by rw [S.look_told c0 hu])))
  exact as_ifF (at_or0 f1 (at_or0 f2 f3)) (as_next h)
theorem ag_tail {g pw : D} (T : Tx K mg) (S : Src A w n) (c0 : 0 < valF A w) (G : Giv A w g pw) (hR : Rho A w n p g pw ρ) (hp : p ∈ dom μ) (ht : PotOk t) (hE : ∀ μ, E.rt (.val (.bl true)) μ) :
    AS (cR K) (t_tail__law_right K (cR K) (cN K)) ρ (MP μ p t) E := by
  unfold t_tail__law_right
  have L := S.lv c0
  have h4 := S.n4
  have tt := L.told_two
  cases hu : levelV A w 4 with
  | none =>
    have hab : aboveN A < 2 := tt.mp hu
    have hS : ∀ ν : Mu, S_level [g, pw] ν (.val .non) ν := fun ν => ⟨rfl, g, pw, A, w, 4, rfl, G.tab, G.wt, .inl ⟨c0, S.lvok c0, by rw [hu]; rfl⟩⟩
    refine as_seq (as_set (d := .non) (ae_call (aa2 (ae_var hR.r6) (ae_var hR.r7)) (hS _)) ?_)
    have hR1 := hR.set 4 .non (by decide)
    have r4 : (ρ.set 4 (some D.non))[4]? = some (some .non) := get_set_eq (by rw [hR.l]; decide)
    show AS _ _ (ρ.set 4 (some D.non)) _ _
    generalize ρ.set 4 (some D.non) = ρ1 at hR1 r4
    refine as_seq (as_par (x := .non) (y := .str (reprD .non)) (aa_cons (ae_callKR (aa2 (ae_var hR1.r7) (ae_var hR1.r6)) (hS _)) (aa_cons (ae_cb (aa1 (ae_var r4)) (ac_reprG trivial rfl (by decide) (Nat.zero_le _))) aa_nil)) ?_)
    have hR2 := (hR1.set 10 .non (by decide)).set 11 (.str (reprD .non)) (by decide)
    have s4 : ((ρ1.set 10 (some D.non)).set 11 (some (D.str (reprD .non))))[4]? = some (some .non) := get_set_ne (by decide) (get_set_ne (by decide) r4)
    have s10 : ((ρ1.set 10 (some D.non)).set 11 (some (D.str (reprD .non))))[10]? = some (some .non) := get_set_ne (by decide) (get_set_eq (by rw [hR1.l]; decide))
    have s11 : ((ρ1.set 10 (some D.non)).set 11 (some (D.str (reprD .non))))[11]? = some (some (.str (reprD .non))) := get_set_eq (by rw [List.length_set, hR1.l]; decide)
    show AS _ _ ((ρ1.set 10 (some D.non)).set 11 (some (D.str (reprD .non)))) _ _
    generalize (ρ1.set 10 (some D.non)).set 11 (some (D.str (reprD .non))) = ρ2 at hR2 s4 s10 s11
    refine as_seq (as_ifF (at_or0 (at_test ((ae_op (ae_op (ae_var s4) ae_non (a2_isN rfl)) (ae_op (ae_var hR2.r9) ae_int a2_lt) (ne_s rfl)).is (by rw [decide_eq_true (show (aboveN A : Int) < 2 by omega)]; rfl))) (at_test ((ae_op (ae_cb (aa1 (ae_var s10)) (ac_reprG trivial rfl (by decide) (Nat.zero_le _))) (ae_var s11) (ne_s rfl)).is (by rw [eqD_s]; rfl)))) (as_next ?_))
    refine as_seq (as_ifF (at_test ((ae_op (ae_var s10) ae_non (a2_notN rfl)).is rfl)) (as_next ?_))
    refine as_seq (as_ifF (at_test ((ae_op (ae_var s4) ae_non (a2_notN rfl)).is rfl)) (as_ifF (at_not (b := true) (at_B (ae_callP hp ht (aa3 (ae_var hR2.r0) (ae_var hR2.r2) (ae_var hR2.r3)) ⟨A, w, rfl, S.br_ok c0 hu, rfl, rfl⟩))) (as_next ?_)))
    exact ag_loop S c0 G hR2 hp (brS_ok ht 3) (by rw [hu]; exact s4) hE
  | some u =>
    obtain ⟨ul, _⟩ := L.looks u hu
    have hab : ¬ aboveN A < 2 := fun z => by rw [tt.mpr z] at hu; exact nomatch hu
    obtain ⟨k1, k2, k3⟩ := told_text (S.told_rb c0 u hu) (by omega)
    have top : topD (RLd u) = true := by
      have h0 := S.n0
      cases u with
      | nil => have : (0 : Nat) = n := ul; omega
      | cons a u => rfl
    have hS : ∀ ν : Mu, S_level [g, pw] ν (.fresh (u.map D.rat)) ν := fun ν => ⟨rfl, g, pw, A, w, 4, rfl, G.tab, G.wt, .inl ⟨c0, S.lvok c0, by rw [hu]; rfl⟩⟩
    refine as_seq (as_set (d := RLd u) (AF.e (af_call (aa2 (ae_var hR.r6) (ae_var hR.r7)) (hS _))) ?_)
    have hR1 := hR.set 4 (RLd u) (by decide)
    have r4 : (ρ.set 4 (some (RLd u)))[4]? = some (some (RLd u)) := get_set_eq (by rw [hR.l]; decide)
    show AS _ _ (ρ.set 4 (some (RLd u))) _ _
    generalize ρ.set 4 (some (RLd u)) = ρ1 at hR1 r4
    refine as_seq (as_parF (ds := u.map D.rat) (d := .str (reprD (RLd u))) (af_callKR (aa2 (ae_var hR1.r7) (ae_var hR1.r6)) (hS _)) (ae_cb (aa1 (ae_var r4)) (ac_reprG k1 top k3 k2)) fun q hq => ?_)
    have hR2 := (hR1.set 10 (.ptr q) (by decide)).set 11 (.str (reprD (RLd u))) (by decide)
    have s4 : ((ρ1.set 10 (some (D.ptr q))).set 11 (some (D.str (reprD (RLd u)))))[4]? = some (some (RLd u)) := get_set_ne (by decide) (get_set_ne (by decide) r4)
    have s10 : ((ρ1.set 10 (some (D.ptr q))).set 11 (some (D.str (reprD (RLd u)))))[10]? = some (some (.ptr q)) := get_set_ne (by decide) (get_set_eq (by rw [hR1.l]; decide))
    have s11 : ((ρ1.set 10 (some (D.ptr q))).set 11 (some (D.str (reprD (RLd u)))))[11]? = some (some (.str (reprD (RLd u)))) := get_set_eq (by rw [List.length_set, hR1.l]; decide)
    show AS _ _ ((ρ1.set 10 (some (D.ptr q))).set 11 (some (D.str (reprD (RLd u))))) _ _
    generalize (ρ1.set 10 (some (D.ptr q))).set 11 (some (D.str (reprD (RLd u)))) = ρ2 at hR2 s4 s10 s11
    have qp : q ≠ p := fun z => hq (by rw [dom_setM, z]; exact hp)
    refine as_seq (as_ifF (at_or0 (at_test ((ae_op (ae_op (ae_var s4) ae_non (a2_isN rfl)) (ae_op (ae_var hR2.r9) ae_int a2_lt) (ne_s rfl)).is (by rw [decide_eq_false (show ¬ (aboveN A : Int) < 2 by omega)]; rfl))) (at_test ((ae_op (ae_cb (aa1 (ae_var s10)) (ac_reprO (List.mem_cons_self ..) k1 top k3 k2)) (ae_var s11) (ne_s rfl)).is (by rw [show (RLd u) = D.lst (u.map D.rat) from rfl, eqD_s]; rfl)))) (as_next ?_))
    refine as_seq (as_ifT (at_test (ae_op (ae_var s10) ae_non a2_notP)) (as_seq (as_append (ae_var s10) ae_non (List.mem_cons_self ..) (by rw [List.length_map]; omega) ?_)))
    show AS _ _ ρ2 (setM ((q, u.map D.rat) :: MP μ p t) q (u.map D.rat ++ [.non])) _
    rw [setM_head hq]
    refine as_ifF (at_or0 (at_test ((ae_op (ae_cb (aa1 (ae_var s4)) (ac_reprG k1 top k3 k2)) (ae_var s11) (ne_s rfl)).is (by rw [eqD_s]; rfl))) (at_test ((ae_op (ae_cb (aa1 (AF.e (af_call (aa2 (ae_var hR2.r6) (ae_var hR2.r7)) (hS _)))) (ac_reprG k1 top k3 k2)) (ae_var s11) (ne_s rfl)).is (by rw [show (RLd u) = D.lst (u.map D.rat) from rfl, eqD_s]; rfl)))) (as_next ?_)
    refine as_seq (as_ifT (at_test ((ae_op (ae_var s4) ae_non (a2_notN rfl)).is rfl)) (chk_ok (t0 := []) T S c0 hu hR2.r2 hR2.r3 s4 hR2.l ?_))
    show AS _ _ ρ2 ((q, u.map D.rat ++ [.non]) :: MP μ p t) _
    rw [← setM_ne qp]
    exact ag_loop S c0 G hR2 (μ := (q, u.map D.rat ++ [.non]) :: μ) (List.mem_cons_of_mem _ hp) ht (by rw [hu]; exact s4) hE
theorem ae_wOne (hd : p ∈ dom μ) (ht : PotOk t) (h0 : ρ[0]? = some (some (.ptr p))) : AE C (StX.tMakeR C (spIni C []) E0 (tCons (tOp (rAdd C CN) (tC (.int 1)) (tcR (SpO C CN S__law_draw) E0 (tCons (tVar 0) (tCons (tC (.int 9)) tNil)))) (tCons (tcR (SpO C CN S__law_pick) E0 (tCons (tVar 0) (tCons (tLst (tCons (tC (.int 1)) (tCons (tC (.int 1)) (tCons (tC (.int 2)) (tCons (tC (.int 3)) tNil))))) tNil))) tNil))) ρ (MP μ p t) (.rat (wOne t).1) (MP μ p (wOne t).2) := by
  obtain ⟨k1, k2, k3⟩ := draw_ok (n := 9) ht (by decide)
  obtain ⟨l1, l2, l3⟩ := draw_ok (n := 4) k3 (by decide)
  have hb : ∃ b : Int, (([1, 1, 2, 3] : List Int).map D.int)[(draw (draw t 9).2 4).1.toNat]? = some (.int b) ∧ ([1, 1, 2, 3] : List Int).getD (draw (draw t 9).2 4).1.toNat 1 = b ∧ 0 < b ∧ b < 4 := by
    generalize hz : (draw (draw t 9).2 4).1.toNat = z
    have hz6 : z < 4 := by omega
    clear hz l1 l2
    match z, hz6 with
    | 0, _ => exact ⟨1, rfl, rfl, by decide, by decide⟩
    | 1, _ => exact ⟨1, rfl, rfl, by decide, by decide⟩
    | 2, _ => exact ⟨2, rfl, rfl, by decide, by decide⟩
    | 3, _ => exact ⟨3, rfl, rfl, by decide, by decide⟩
    | n + 4, h => omega
  obtain ⟨b, e1, e2, e3, e4⟩ := hb
  have pick : AE C (tcR (SpO C CN S__law_pick) E0 (tCons (tVar 0) (tCons (tLst (tCons (tC (.int 1)) (tCons (tC (.int 1)) (tCons (tC (.int 2)) (tCons (tC (.int 3)) tNil))))) tNil))) ρ (MP μ p (draw t 9).2) (.int b) (MP μ p (draw (draw t 9).2 4).2) :=
    ae_callP hd k3 (aa2 (ae_var h0) (AF.e (af_lst (aa_cons ae_int (aa_cons ae_int (aa_cons ae_int (aa_cons ae_int aa_nil)))) (Nat.le_of_ble_eq_true rfl)))) ⟨([1, 1, 2, 3] : List Int).map D.int, .int b, rfl, by decide, by decide, e1, rfl, rfl⟩
  refine (ae_make2 (t := 1 + (draw t 9).1) (b := b) (aa_cons (ae_op ae_int (ae_draw hd ht h0 ae_int (by decide) (by decide)) add_i) (aa_cons pick aa_nil)) (by omega) ?_ ?_).is ?_
  · exact Nat.lt_of_lt_of_le (log2_pos (a := 64) (by decide) (show (1 + (draw t 9).1).natAbs < 2 ^ 64 by omega)) (by decide)
  · exact Nat.lt_of_lt_of_le (log2_pos (a := 64) (by decide) (show b.natAbs < 2 ^ 64 by omega)) (by decide)
  · unfold wOne
    rw [e2]
end
end OC
set_option maxHeartbeats 4000000
/-! OcR5: right, from its promise. -/
namespace OC
open PySem PySem.Spec PyProof.Rows L2 LamX
section
variable {K : Frg} {mg : Str → Option Value} {ρ : Sto} {μ : Mu} {t : Pot} {p : Addr} {A : Mat} {w : Row} {n : Nat} {E : AEn} {Γ : Gam} {Tb : List (Addr × Str)}
theorem sgn_lt1 {q : Rat} : decide (sgn q < 1) = !decide (0 < q) := by
  have h := sgn_pos (q := q)
  by_cases z : 0 < q
  · rw [decide_eq_true z, h.mpr z]; rfl
  · rw [decide_eq_false z]
    have : sgn q ≠ 1 := fun y => z (h.mp y)
    have : sgn q ≤ 1 := by unfold sgn; split <;> (try split) <;> omega
    exact decide_eq_true (by omega)
theorem ar__law_right (T : Tx K mg) (hT : Tabs Tb Γ.H0) (hdm : ∀ p ∈ Γ.dm, ∃ vs, Γ.H0 p = some (.lst vs)) (hp : p ∈ dom μ) (ht : PotOk t) :
    ASr (cR K) Γ Tb (t__law_right K (cR K) (cN K) Tb) (startA 16 [.ptr p]) (MP μ p t) { nx := fun _ _ => False, rt := fun r _ => r = .val (.bl true) } := by
  unfold t__law_right
  obtain ⟨a1, a2, a3⟩ := draw_ok (n := 4) ht (by decide)
  obtain ⟨n, hn⟩ : ∃ n : Nat, 1 + (draw t 4).1 = (n : Int) := ⟨(1 + (draw t 4).1).toNat, by omega⟩
  have n0 : 0 < n := by omega
  have n4 : n ≤ 4 := by omega
  refine ar_seq (as_set (d := natD n) ((ae_op ae_int (ae_draw hp ht rfl ae_int (by decide) (by decide)) add_i).is (by rw [hn])) ?_)
  generalize (draw t 4).2 = t1 at a3
  have ht2 := tableF_ok (n := n) a3
  refine ar_seq (as_set (d := RMd (tableF n t1).1) (ae_callP hp a3 (aa2 (ae_var rfl) (ae_var rfl)) ⟨n, rfl, n0, n4, grow_ok n4, rfl, rfl⟩) ?_)
  have S : Src (tableF n t1).1 (wtF n (tableF n t1).2).1 n := src_of n0 n4 a3 ht2
  obtain ⟨_, _, ht3⟩ := wtF_ok (n := n) ht2
  have hsq := tableF_sq n t1
  generalize (tableF n t1).1 = A at S hsq
  generalize (tableF n t1).2 = t2 at S ht2 ht3
  refine ar_seq (as_set (d := RLd (wtF n t2).1) (μ1 := MP μ p (wtF n t2).2) (AF.e (af_iterM (f := wOne) D.rat (n := n) (fun t h => (wOne_ok t h).2) ht2 (ai_range1 (n := n) (aa1 (ae_var rfl)) (by omega)) (by omega) fun i t' hi ht' => ae_wOne hp ht' rfl)) ?_)
  generalize (wtF n t2).1 = w at S
  generalize (wtF n t2).2 = t3 at ht3
  have hwl : w.length ≤ 1000 := by rw [S.wl]; omega
  have hg := givF_ok A t3 ht3
  have hh := handF_ok w (givF A t3).2 hg
  have G : Giv A w (givF A t3).1 (handF w (givF A t3).2).1 := ⟨S.tab_giv t3, S.wt_hand _, (S.stay t3 (givF A t3).2).1, (S.stay t3 (givF A t3).2).2.1, (S.stay t3 (givF A t3).2).2.2⟩
  refine ar_seq (as_asg (d := .tup [(givF A t3).1, (handF w (givF A t3).2).1]) (ae_tup (aa_cons (ae_callP hp ht3 (aa2 (ae_var rfl) (ae_var rfl)) ⟨A, rfl, by have := S.al; omega, fun r hr => by have := S.rl hr; omega, rfl, rfl⟩) (aa_cons (ae_callP hp hg (aa2 (ae_var rfl) (ae_var rfl)) ⟨w, rfl, hwl, rfl, rfl⟩) aa_nil)) (Nat.le_of_ble_eq_true rfl)) (ag_tup rfl (ags_cons ag_name (ags_cons ag_name ags_nil))) ?_)
  generalize (handF w (givF A t3).2).2 = t5 at hh
  generalize (handF w (givF A t3).2).1 = pw at G
  generalize (givF A t3).1 = g at G
  refine ar_seq (as_par (x := .str (reprD (.lst [g, pw]))) (y := natD (aboveN A)) (aa_cons (ae_cb (aa1 (AF.e (af_lst (aa2 (ae_var rfl) (ae_var rfl)) (Nat.le_of_ble_eq_true rfl)))) (ac_reprG G.rep rfl G.sz G.dp)) (aa_cons (ae_op (ae_call (aa1 (ae_var rfl)) (pS.mk ⟨A, rfl, S.sums.1, S.sums.2, rfl⟩)) ae_int (ix_t rfl)) aa_nil)) ?_)
  have hf := (S.form_ok S.rbw S.rbw S.wl S.wl (by omega)).1
  have hc : AT (cR K) (tTest (tOp rLtI (tPrR (cR K) (SpO (cR K) (cN K) S_Rsign) E0 (tcR (SpO (cR K) (cN K) S__law_form) E0 (tCons (tVar 2) (tCons (tVar 3) (tCons (tVar 3) tNil))))) (tC (.int 1))))
      [some (.ptr p), some (natD n), some (RMd A), some (RLd w), none, none, some g, some pw, some (.str (reprD (.lst [g, pw]))), some (natD (aboveN A)), none, none, none, none, none, none] (MP μ p t5) (!decide (0 < valF A w)) (MP μ p t5) :=
    at_test ((ae_op (ae_sign (ae_call (aa3 (ae_var rfl) (ae_var rfl) (ae_var rfl)) (pS.mk ⟨A, w, w, w.map D.rat, w.map D.rat, RLd w, RLd w, rfl, .lst _, .lst _, Nms.of w, Nms.of w, hf, rfl⟩))) ae_int a2_lt).is (by rw [S.formF_w, sgn_lt1]))
  show ASr (cR K) Γ Tb _ [some (.ptr p), some (natD n), some (RMd A), some (RLd w), none, none, some g, some pw, some (.str (reprD (.lst [g, pw]))), some (natD (aboveN A)), none, none, none, none, none, none] (MP μ p t5) _
  by_cases c0 : 0 < valF A w
  · refine ar_ifSeq (hc.is (by rw [decide_eq_true c0])) (fun z => by cases z) fun _ => ar_of (AS.toG ?_)
    exact ag_tail T S c0 G ⟨rfl, rfl, rfl, rfl, rfl, rfl, rfl, rfl, rfl⟩ hp hh fun _ => rfl
  · refine ar_ifSeq (hc.is (by rw [decide_eq_false c0])) (fun _ _ _ => ?_) fun z => by cases z
    refine ar_heard hT hdm (fun XE => ax_call (aa2 (ae_var rfl) (ae_var rfl)) ⟨rfl, g, pw, A, w, 0, rfl, G.tab, G.wt, .inr ⟨c0, rfl⟩⟩) (fun XE => ?_) T.exm
    exact ax_call (aa3 (ae_var rfl) (ae_var rfl) (ae_op (AF.e (af_lst (aa1 ae_int) (Nat.le_of_ble_eq_true rfl))) (ae_var rfl) (mul_l (n := n) (by show 1 * n ≤ _; omega) (by omega)))) ⟨rfl, g, pw, _, A, w, rfl, G.tab, G.wt, .inr ⟨c0, rfl⟩⟩
theorem run__law_right (T : Tx K mg) {vs : List V} {H : Hp} {Q : VK} {E : XK} (h : SpRt (cR K) Tb vs H Q E) : t__law_right K (cR K) (cN K) Tb { nx := fun _ H1 => Q .non H1, rt := Q } (L2.start N__law_right vs) H := by
  obtain ⟨p, t, B, rfl, ok, ht, hT, hq⟩ := h
  have hdm : ∀ q ∈ ([p] : List Addr), ∃ vs, H q = some (.lst vs) := fun q hq => by
    rw [List.mem_singleton.mp hq]
    obtain ⟨_, vs, e, _⟩ := ok.own.mem (List.mem_cons_self ..)
    exact ⟨vs, e⟩
  have e0 : MP [(p, potD t)] p t = [(p, potD t)] := by simp [setM]
  have main := ar__law_right (Γ := ⟨B, H, [p], fun _ => False⟩) (Tb := Tb) (μ := [(p, potD t)]) (p := p) (t := t) T hT hdm (by simp [dom]) ht
  rw [e0] at main
  have gx0 : Gx ⟨B, H, [p], fun _ => False⟩ [(p, potD t)] B H := ⟨Same.refl _, fun _ _ h _ => h, fun _ _ h => .inl h, fun _ o h => ⟨o, h⟩, fun q hq => .inl hq⟩
  refine main _ B H _ (rs_start (N := N__law_right) ⟨_, _, rfl, rfl, rfl⟩) ok gx0 ⟨fun _ _ _ _ _ z => z.elim, fun r μ v B' H' e ok' gx rv => ?_, fun _ _ _ _ _ z => z.elim, fun _ _ _ _ _ z => z.elim, fun _ _ _ z => z.elim⟩ fun H' ex tb => ?_
  · have e' : r = .val (.bl true) := e
    subst e'
    rw [show v = V.bl true from rv]
    exact hq H' (fun b o e n _ => gx.hh b o e (by simpa using n)) (gx.tabs hdm hT)
  · exact hq H' (fun b o e n nt => ex b o e (by simpa using n) nt) tb
end
end OC
set_option maxHeartbeats 4000000
/-! OcR6: the law, from its promise. -/
namespace OC
open PySem PySem.Spec PyProof.Rows L2 LamX
section
variable {K : Frg} {mg : Str → Option Value} {Tb : List (Addr × Str)}
/-- the law's promise -/
def SpLaw (K : Frg) (Tb : List (Addr × Str)) : Sp := fun vs H Q E => ∃ (a : Addr) (ns : List Int), vs = [.ref a] ∧ ns.length ≤ 1000 ∧ SqL K H a (ns.map V.int) ∧ Tabs Tb H ∧ ∀ H', Q (.bl true) H'
theorem tabs_upd {H : Hp} {L : Addr} {vs ws : List V} (hT : Tabs Tb H) (hL : H L = some (.lst vs)) : Tabs Tb (upd H L (.lst ws)) := fun p hp => by
  obtain ⟨ps, h1, h2, h3⟩ := hT p hp
  refine ⟨ps, by rw [upd_ne (fun z => by rw [z, hL] at h1; cases h1)]; exact h1, h2, fun pos cv hc => ?_⟩
  obtain ⟨c, e1, e2⟩ := h3 pos cv hc
  refine ⟨c, e1, ?_⟩
  rw [upd_ne (fun z => by rw [z, hL] at e2; unfold CodeO at e2; cases e2)]
  exact e2
def only1 (a : Addr) (o : HO) : Hp := fun b => if b = a then some o else none
theorem only1_self {a : Addr} {o : HO} : only1 a o a = some o := if_pos rfl
theorem only1_some {a b : Addr} {o u : HO} (h : only1 a o b = some u) : b = a ∧ o = u := by
  unfold only1 at h
  split at h
  · exact ⟨by assumption, Option.some.inj h⟩
  · cases h
theorem scr_known {H : Hp} {a : Addr} {xs : List V} (h : SqL K H a xs) : ∃ B : Hp, Same B H ∧ SqL K B a xs ∧ ∀ b ps, B b ≠ some (.tbl ps) := by
  rcases h with (h | ⟨o, h⟩) | h
  · refine ⟨only1 a (.lst xs), fun b u e => ?_, .inl (.inl only1_self), fun b ps e => ?_⟩
    · obtain ⟨e1, e2⟩ := only1_some e
      rw [e1, ← e2]; exact h
    · cases (only1_some e).2
  · refine ⟨only1 a (.frz o (.lst xs)), fun b u e => ?_, .inl (.inr ⟨o, only1_self⟩), fun b ps e => ?_⟩
    · obtain ⟨e1, e2⟩ := only1_some e
      rw [e1, ← e2]; exact h
    · cases (only1_some e).2
  · exact ⟨fun _ => none, (fun b u e => by cases e), .inr h, fun b ps e => by cases e⟩
theorem yes_then {σ : L2.St} {H : Hp} {P R : Hp → Prop} (h : P H) : tYes σ H fun b H3 => if b = true then P H3 else R H3 := by
  show if true = true then P H else R H
  rw [if_pos rfl]; exact h
theorem ret_all {te : TE} {D : Ends} {σ : L2.St} {H : Hp} (h : te σ H fun v H1 => rAll K [v] H1 D.rt) : tRet (tCB (rAll K) (tCons te tNil)) D σ H := h
theorem run_law (T : Tx K mg) {vs : List V} {H : Hp} {Q : VK} {E : XK} (h : SpLaw K Tb vs H Q E) : t_law K (cR K) (cN K) Tb { nx := fun _ H1 => Q .non H1, rt := Q } (L2.start N_law vs) H := by
  obtain ⟨a, ns, rfl, hl, hs, hT, hq⟩ := h
  obtain ⟨B, bH, bS, nB⟩ := scr_known hs
  have rs : RS (cR K) B (startA 2 [.scr K ns]) (L2.start N_law [.ref a]) := rs_start (N := N_law) ⟨_, _, rfl, ⟨a, rfl, bS⟩, rfl⟩
  have ha : AA (cR K) (tCons (tCB rMax2 (tCons (tC (.int 1)) (tCons (tCB rMin2 (tCons (tC (.int 2)) (tCons (tCB (rLen K) (tCons (tVar 0) tNil)) tNil))) tNil))) tNil) (startA 2 [.scr K ns]) [] [.int (if (if (ns.length : Int) < 2 then (ns.length : Int) else 2) > 1 then (if (ns.length : Int) < 2 then (ns.length : Int) else 2) else 1)] [] :=
    aa1 (ae_cb (aa2 ae_int (ae_cb (aa2 ae_int (ae_cb (aa1 (ae_var rfl)) ac_len_s)) ac_min)) ac_max)
  obtain ⟨m, hm, hm2⟩ : ∃ m : Nat, (if (if (ns.length : Int) < 2 then (ns.length : Int) else 2) > 1 then (if (ns.length : Int) < 2 then (ns.length : Int) else 2) else 1) = (m : Int) ∧ m ≤ 2 := by
    refine ⟨(if (if (ns.length : Int) < 2 then (ns.length : Int) else 2) > 1 then (if (ns.length : Int) < 2 then (ns.length : Int) else 2) else 1).toNat, ?_, ?_⟩ <;> split <;> split <;> omega
  rw [hm] at ha
  unfold t_law
  refine ret_all ?_
  unfold tLc iRng1
  refine ha.2 _ B H rs ⟨bH, trivial⟩ _ fun vs B1 H1 g1 ok1 r1 => ?_
  obtain ⟨v, r, rfl, h1, h2⟩ := r1
  refine ⟨(m : Nat), by rw [show v = V.int (m : Nat) from h1, show r = [] from h2], by omega, by omega, ?_⟩
  rw [Int.toNat_natCast]
  intro L hL
  have T1 : Tabs Tb H1 := hT.ext fun b o e => g1.hh b o e (by simp [dom])
  have bH1 : Same B H1 := fun b o e => g1.hh b o (bH b o e) (by simp [dom])
  obtain ⟨G, Y, w, hG, hY⟩ := wk_range (C := cR K) (lo := 0) (n := m) (B := fun _ => none)
  rw [rngD_length] at w hY
  have hLB : B L = none := Same.free (show Same B H1 from bH1) hL
  have T1' : Tabs Tb (upd H1 L (.lst [])) := T1.ext fun b o e => by rw [upd_ne (ne_of_none e hL)]; exact e
  refine lc_it w (fun i H' => Same B H' ∧ Tabs Tb H' ∧ H' L = some (.lst (List.replicate i (.bl true)))) ⟨Same.upd_right (show Same B H1 from bH1) hLB, T1', upd_same⟩ (fun i H' _ inv => hG H' fun _ _ z => by cases z) (fun i x H' H2 hlt inv hy => ?_) fun H' inv => ?_
  · obtain ⟨i1, i2, i3⟩ := inv
    obtain ⟨B3, d, g3, s3, hd, hr⟩ := hY i x H' H2 hlt hy B (fun _ _ z => by cases z) i1
    obtain ⟨hin, rfl⟩ := rng_get hd
    rw [Int.zero_add] at hr
    have T2 : Tabs Tb H2 := i2.ext fun b o e => g3.hh b o e (by simp)
    have L2' : H2 L = some (.lst (List.replicate i (.bl true))) := g3.hh _ _ i3 (by simp)
    refine ag_name (C := cR K) (d := .int (i : Nat)) (L2.wipe _ [1]) B3 H2 x ((rs.mono g3.bb).wipe [1]) s3 hr _ fun σ2 rs2 w2 => ⟨(w2 [1] (fun j hj => hj)).trans (wipe_idem _ [1] [1] fun v hv => hv), ?_⟩
    refine yes_then ?_
    have hpot : AF (cR K) (tcR (SpO (cR K) (cN K) (S__law_pot K)) E0 (tCons (tVar 0) (tCons (tVar 1) tNil))) ((wipeA (startA 2 [.scr K ns]) [1]).set 1 (some (.int (i : Nat)))) [] (potD (potF ns i)) [] :=
      af_call (aa2 (ae_var rfl) (ae_var rfl)) ⟨rfl, ns, i, rfl, by omega, hl, rfl⟩
    refine hpot.2 σ2 B3 H2 rs2 ⟨s3, trivial⟩ _ fun p vs B4 H4 g4 ok4 hp hB hv rv => ?_
    have e4 : ∀ b o, H2 b = some o → H4 b = some o := fun b o e => g4.hh b o e (by simp [dom])
    refine ⟨p, potF ns i, B4, rfl, ⟨ok4.bh, ⟨hB, by simp [dom], vs, hv, rv⟩, trivial⟩, potF_ok ns i, T2.ext e4, fun H5 e5 T5 => ?_⟩
    have nLp : L ≠ p := fun z => by rw [z, hp] at L2'; cases L2'
    have L5 : H5 L = some (.lst (List.replicate i (.bl true))) := e5 L _ (e4 L _ L2') nLp fun ps z => by cases z
    refine ⟨List.replicate i (.bl true), L5, by rw [List.length_replicate]; exact Nat.lt_of_lt_of_le (show i < 3 by omega) (by decide), ?_, tabs_upd T5 L5, ?_⟩
    · refine Same.upd_right (fun b o e => ?_) hLB
      have e2 : H2 b = some o := g3.hh b o (i1 b o e) (by simp)
      exact e5 b o (e4 b o e2) (fun z => by rw [z, hp] at e2; cases e2) fun ps z => nB b ps (by rw [e, z])
    · rw [upd_same, List.replicate_succ']
  · refine ⟨L, List.replicate m true, rfl, SqL.of (by rw [inv.2.2, List.map_replicate]), ?_⟩
    have : (List.replicate m true).all id = true := by
      rw [List.all_eq_true]
      intro x hx
      rw [(List.mem_replicate.mp hx).2]; rfl
    rw [this]
    exact hq H'
end
end OC
set_option maxHeartbeats 4000000
/-! OcR7: the law: the walk. -/
namespace OC
open PySem PySem.Spec PyProof.Rows L2
section
variable {P : Program} {w : World} {K : Frg} {mg : Str → Option Value} {base : Heap}
theorem sc_law : FnScope N_law ["_law_script"] (defScope st_law) := ⟨rfl, rfl, rfl, by decide +kernel, rfl, by decide +kernel, by decide +kernel⟩
theorem okG_law (T : Tx K mg) {c P0 : Addr} (htab : PySem.W.tabIn K "_law_right" = some (c, P0)) (TB : LamX.TabB base mg c P0) : FnG P w K mg base CX0 43 (aF "law" K) (SpLaw K [(P0, qR ++ "<lambda>")]) := by
  obtain ⟨fd, F⟩ := T.def_ 54 df_law rfl
  have b : Binds K fd ["_law_script"] [] := F.bindsN fun _ _ _ _ _ _ us hl => match us, hl with | [_], _ => rfl
  obtain ⟨oc, od, dV, kV, doc, pm, an, cdv, ct, osl, rfl, lk, hcd, _, _⟩ := F.ex
  refine fng_of lk hcd sc_law (fun vs H Q E ⟨a, ns, e, _⟩ => by rw [e]; rfl) b fun A outer s H vs Q E hG hr h => ⟨t_law K (cR K) (cN K) _, PSs.nox ?_, run_law T h⟩
  exact (pss_one (ps_ret (pe_callB (cr_all rfl) rfl (T.free 6 _ rfl) bt_all (pa_cons (pe_lc (own := [("_law_k", 1)]) (wi := (iRng1 (tCons (tCB rMax2 (tCons (tC (.int 1)) (tCons (tCB rMin2 (tCons (tC (.int 2)) (tCons (tCB (rLen K) (tCons (tVar 0) tNil)) tNil))) tNil))) tNil))) (g := (gName 1)) (tt := tYes) (te := (tcR (SpRt (cR K) [(P0, qR ++ "<lambda>")]) E0 (tCons (tcR (SpO (cR K) (cN K) (S__law_pot K)) E0 (tCons (tVar 0) (tCons (tVar 1) tNil))) tNil))) rfl sc_law.nd (pi_range1 rfl (T.free 10 _ rfl) (pa_cons (pe_callB (call_max2 rfl) rfl (T.free 14 _ rfl) bt_max (pa_cons pe_int (pa_cons (pe_callB (call_min2 rfl) rfl (T.free 15 _ rfl) bt_min (pa_cons pe_int (pa_cons (pe_callB (call_len) rfl (T.free 5 _ rfl) bt_len (pa_cons (pv 0) pa_nil)) pa_nil))) pa_nil))) pa_nil)) (blkOk_by (by kernel_rfl)) (fun _ _ _ _ _ => (pg_name (i := 1) sc_law.nd rfl (by first | exact Or.inl rfl | exact Or.inr rfl))) (fun _ _ _ _ _ => pts_nil) (fun _ _ _ _ _ => (pe_cG (okG__law_right T (run__law_right T) htab TB) hG (hr.mono (by decide)) rfl (T.glo 53 _ rfl) (T.kf 53 _ rfl) pz (pa_cons (pe_cR (ok__law_pot T) (hr.mono (by decide)) rfl (T.glo 31 _ rfl) (T.kf 31 _ rfl) pz (pa_cons (pv 0) (pa_cons (pv 1) pa_nil))) pa_nil)))) pa_nil))))
end
end OC
set_option maxHeartbeats 4000000
/-! OcZ1: the law, called from outside, where a table of code objects may grow. -/
namespace OC
open PySem PySem.Spec PyProof.Rows L2 LamX

section
variable {P : Program} {w : World} {K : PySem.W.Frag} {mg mb : Str → Option Value} {k : Nat} {law_ at_ c T0 : Addr} {sp : Sp} {st : Shared} {words : List Value} {ns : List Int} {H : Hp}
abbrev noObj : Obj := { cls := .none, data := .fields #[] }
abbrev lstObj (words : List Value) : Obj := { cls := .type "list", data := .seq words.toArray }
/-- what may be tracked at first: the table, the script -/
structure First (K : PySem.W.Frag) (T0 at_ : Addr) (words : List Value) (ns : List Int) (H : Hp) : Prop where
  tab : H T0 = some (.tbl #[])
  els : ∀ b u, H b = some u → (b = T0 ∧ u = .tbl #[]) ∨ (b = at_ ∧ K.lookup at_ = none ∧ u = .frz (lstObj words) (.lst (ns.map V.int)))
  scr : SqL K H at_ (ns.map V.int)
theorem first_of (found : ns.length ≤ sizeLine) (areI : IntsAre words ns) (ne : at_ ≠ T0) (inK : K.In st.heap) (here : st.heap.get? at_ = some (lstObj words)) : ∃ H, First K T0 at_ words ns H := by
  have told := vals_ints areI
  have count := areI.length
  cases e : K.lookup at_ with
  | some o =>
    have got := inK at_ o e
    rw [here] at got
    have go := Option.some.inj got
    subst go
    refine ⟨fun b => if b = T0 then some (.tbl #[]) else none, if_pos rfl, fun b u h => ?_, .inr ⟨_, words.toArray, _, e, rfl, rfl, rfl, by rw [List.size_toArray, count]; exact found, by simpa using told⟩⟩
    by_cases z : b = T0
    · have h' := (if_pos z).symm.trans h
      exact .inl ⟨z, (Option.some.inj h').symm⟩
    · have h' := (if_neg z).symm.trans h
      cases h'
  | none =>
    refine ⟨fun b => if b = T0 then some (.tbl #[]) else if b = at_ then some (.frz (lstObj words) (.lst (ns.map V.int))) else none, if_pos rfl, fun b u h => ?_, .inl (.inr ⟨lstObj words, (if_neg ne).trans (if_pos rfl)⟩)⟩
    by_cases z : b = T0
    · have h' := (if_pos z).symm.trans h
      exact .inl ⟨z, (Option.some.inj h').symm⟩
    · have h' := (if_neg z).symm.trans h
      by_cases y : b = at_
      · have h'' := (if_pos y).symm.trans h'
        exact .inr ⟨y, e, (Option.some.inj h'').symm⟩
      · have h'' := (if_neg y).symm.trans h'
        cases h''
/-- an object with a dict, or one of another kind, is not tracked at first -/
theorem First.free (F : First K T0 at_ words ns H) (here : st.heap.get? at_ = some (lstObj words)) (table : st.heap.get? T0 = some noObj) {b : Addr} {o : Obj} (e : st.heap.get? b = some o) (h1 : o ≠ noObj) (h2 : o ≠ lstObj words) : H b = none := by
  cases q : H b with
  | none => rfl
  | some u =>
    rcases F.els b u q with ⟨z, _⟩ | ⟨z, _, _⟩
    · rw [z, table] at e
      exact absurd (Option.some.inj e).symm h1
    · rw [z, here] at e
      exact absurd (Option.some.inj e).symm h2
theorem law_callT (inK : K.In st.heap) (nK : K.lookup T0 = none) (glob : st.heap.Ns mainGlobals mg) (blt : st.heap.Ns builtinsNs mb) (same : ∀ x : Str, x ≠ "__name__" → mb x = bootBuiltins x) (free : st.heap.NoLimit) (nog : st.gens = #[])
    (table : st.heap.get? T0 = some noObj) (code : PySem.W.CodeHd st.heap c T0)
    (main_ : ∃ (bm : Addr) (ob : Obj), mg "__builtins__" = some (.ref bm) ∧ bm ≠ builtinsNs ∧ st.heap.get? bm = some ob ∧ ob.cls = .type "module" ∧ ob.dict = some builtinsNs ∧ ob.data = .plain)
    (here : st.heap.get? at_ = some (lstObj words)) (areI : IntsAre words ns) (few : ns.length ≤ sizeLine) (room : Room k callerA)
    (F : ∀ base : Heap, K.In base → base.Ns mainGlobals mg → TabB base mg c T0 → FnG P w K mg base CX0 k law_ sp)
    (holds : ∀ H : Hp, H T0 = some (.tbl #[]) → SqL K H at_ (ns.map V.int) → sp [.ref at_] H (fun v _ => v = .bl true) fun _ _ _ => False) :
    codeAny (model P w) callerA (.call (.ref law_) { pos := [.ref at_], kw := [] }) (fun r s' => r = .ok (.ret (.bool true)) ∧ OldK st.heap s'.heap ∧ s'.os = st.os ∧ AllBare s'.gens) st := by
  have ne : at_ ≠ T0 := fun z => by
    rw [z, table] at here
    have z' := congrArg Obj.data (Option.some.inj here)
    cases (show Data.fields #[] = Data.seq words.toArray _ from z')
  obtain ⟨H, fst⟩ := first_of (K := K) (T0 := T0) few areI ne inK here
  have told := vals_ints areI
  have okH : HOk P w H st.heap := fun b u q => by
    rcases fst.els b u q with ⟨rfl, rfl⟩ | ⟨rfl, _, rfl⟩
    · exact table
    · exact ⟨here, by rw [List.length_map]; exact few, words, _, told, here⟩
  have unseen := fun {b : Addr} {o : Obj} (e : st.heap.get? b = some o) (h1 : o ≠ noObj) (h2 : o ≠ lstObj words) => fst.free here table e h1 h2
  have dictFree : ∀ {b : Addr} {o : Obj} {es : Array DictEntry} {ep : Nat}, st.heap.get? b = some o → o.data = .dict es ep → H b = none := fun {b o es ep} e d =>
    unseen e (fun z => by rw [z] at d; cases d) fun z => by rw [z] at d; cases d
  have nsIn : ∀ {b : Addr} {m : Str → Option Value}, st.heap.Ns b m → (hidT st.heap H).Ns b m := by
    rintro b m ⟨o, es, ep, got, isD, rest⟩
    exact ⟨o, es, ep, hidT_get got (dictFree got isD), isD, rest⟩
  have baseK : K.In (hidT st.heap H) := fun b o e => by
    refine hidT_get (inK b o e) ?_
    cases q : H b with
    | none => rfl
    | some u =>
      rcases fst.els b u q with ⟨rfl, _⟩ | ⟨rfl, hk, _⟩
      · rw [nK] at e; cases e
      · rw [hk] at e; cases e
  have modK : Mod K mg (hidT st.heap H) := ⟨baseK, nsIn glob, ⟨mb, nsIn blt, same⟩, by
    obtain ⟨mc, l1, l2⟩ := free
    exact ⟨mc, nsIn l1, l2⟩⟩
  have gT : mainGlobals ≠ T0 := fun z => by
    obtain ⟨o, es, ep, got, isD, _⟩ := glob
    rw [z, table] at got
    rw [← Option.some.inj got] at isD
    cases isD
  have tabB : TabB (hidT st.heap H) mg c T0 := by
    refine ⟨?_, ?_, gT⟩
    · obtain ⟨o, us, file, tf, flags, tg, inF, text, tt, got, isC, dat, at11, rest⟩ := code
      refine ⟨o, us, file, tf, flags, tg, inF, text, tt, hidT_get got (unseen got (fun z => ?_) fun z => ?_), isC, dat, at11, rest⟩
      · rw [z] at isC; cases isC
      · rw [z] at dat; cases dat
    · obtain ⟨bm, ob, b1, b2, b3, b4, b5, b6⟩ := main_
      refine ⟨bm, ob, b1, b2, fun z => ?_, fun z => ?_, hidT_get b3 (unseen b3 (fun z => ?_) fun z => ?_), b4, b5, b6⟩
      · obtain ⟨o, es, ep, got, isD, _⟩ := glob
        rw [z, got] at b3
        rw [Option.some.inj b3, b6] at isD
        cases isD
      · rw [z, table] at b3
        rw [← Option.some.inj b3] at b6
        cases b6
      · rw [z] at b6; cases b6
      · rw [z] at b6; cases b6
  have begin_ : Env0 P w K mg (hidT st.heap H) callerA [] st H := ⟨rfl, modK, fun b o e => of_hidT e, Nat.le_of_eq (hidT_size _ _), trivial, (fun b hb => by cases hb), okH, .of_eq nog⟩
  refine codeAny_mono (F _ baseK (nsIn glob) tabB callerA [] st H [.ref at_] [.ref at_] _ _ rfl room begin_ (.cons rfl .nil) (holds H fst.tab fst.scr)) ?_
  intro out s' left
  match out, left with
  | .error er, left => exact left.elim
  | .ok .next, left => exact left.elim
  | .ok .brk, left => exact left.elim
  | .ok .cont, left => exact left.elim
  | .ok (.ret u), left =>
    obtain ⟨v, H', sameOs, bare, un, okH', rel, isT⟩ := left
    have isT' : v = V.bl true := isT
    rw [isT'] at rel
    have hu : u = Value.bool true := rel
    have others : ∀ b o, b ≠ T0 → st.heap.get? b = some o → s'.heap.get? b = some o := fun b o nb e => by
      cases q : H b with
      | none => exact un.keep b o e q (fun z => by cases z) (fun z => by cases z)
      | some y =>
        rcases fst.els b y q with ⟨z, _⟩ | ⟨rfl, _, rfl⟩
        · exact absurd z nb
        · obtain ⟨e1, _⟩ := okH b _ q
          obtain ⟨e2, _⟩ := okH' b _ (un.frzs b _ _ q)
          rw [e1] at e
          rw [← Option.some.inj e]
          exact e2
    obtain ⟨more, grown⟩ := un.tbls T0 #[] fst.tab
    have grown' : s'.heap.get? T0 = some { cls := .none, data := .fields (#[] ++ more) } := okH' T0 _ grown
    refine ⟨by rw [hu], ⟨fun b o e => ?_, fun b o e => ?_⟩, sameOs, bare⟩
    · by_cases z : b = T0
      · subst z
        rw [table] at e
        have eo := Option.some.inj e
        subst eo
        exact .inr (.inl ⟨(code.tab table).isCodeTable, rfl, #[], more, rfl, grown'⟩)
      · exact .inl (others b o z e)
    · by_cases z : b = T0
      · subst z; exact ⟨_, grown'⟩
      · exact ⟨o, others b o z e⟩
/-- the walk of the law, from its promise, where a table of code objects may grow -/
theorem walk_ofT {l : PySem.W.OpenLaw} {n k : Nat} {q : Program} {loose : List Str} {XP : (Str → Option Value) → Heap → Prop} {YP : World → Heap → Prop} {d : DefRec}
    (most : l.most = some n) (most2 : n ≤ sizeLine) (nodef : d.params.defaults = []) (room : Room k callerA)
    (F : ∀ (w : World) (mg mb : Str → Option Value) (mean : ExcName → Option Value) (lo : List Str) (law_ : Addr) (h : Heap), YP w h → Top q lo mean mg mb h → mg d.name = some (.ref law_) →
      ∃ (K : PySem.W.Frag) (sp : Sp) (c T0 : Addr), K.In h ∧ K.lookup T0 = none ∧ PySem.W.CodeHd h c T0 ∧ h.get? T0 = some noObj ∧
        (∀ (H : Hp) (a : Addr) (ns : List Int), ns.length ≤ n → H T0 = some (.tbl #[]) → SqL K H a (ns.map V.int) → sp [.ref a] H (fun v _ => v = .bl true) fun _ _ _ => False) ∧
        ∀ base : Heap, K.In base → base.Ns mainGlobals mg → TabB base mg c T0 → FnG l.prog w K mg base CX0 k law_ sp) :
    PySem.W.WalkO q loose XP YP l.row.toRowW d [] (fun f vs => PySem.call f vs) := by
  refine Att.attach_call most nodef ?_
  intro w s0 s1 mg mb law_ o pm cd doc a words ns G Y _ _ _ named here areI few nog
  obtain ⟨K, sp, c, T0, inK, nK, code, table, holds, all_⟩ := F w mg mb _ _ law_ _ Y G.T named
  exact law_callT inK nK G.T.g G.T.b G.T.builtins G.T.nolimit nog table code G.T.bmain here areI (Nat.le_trans few most2) room all_ (fun H tab script => holds H a ns few tab script)
end
end OC
set_option maxHeartbeats 0
open PySem PySem.W PySem.Calls PyProof.Rows
theorem PySem.Challenge.cw_onecrest_k38_whole_level_directions_holds : PySem.Challenge.rw_onecrest_k38_whole_level_directions.Holds := by
  w_on; o_law
  refine HandSHeadRun.head_any (r := OcHead.R) (q := OcHead.qv) (H := OcHead.hk) (ob := OcHead.ob) (M := 40000) (loose := OcHead.names) (d := HandSHeadRun.topDef OcHead.R.prog 72) (kwd := []) OcHead.ob_eq
    (by kernel_rfl) (fun s => by kernel_rfl) OcHead.run (by kernel_rfl) (by kernel_rfl) (by kernel_rfl) (by rfl) (by first | assumption | decide +kernel) (by decide +kernel) ⟨rfl, rfl, rfl, rfl, rfl, by decide +kernel⟩ ?hw ?hc
  case hw => w_witness2
  case hc =>
    refine OC.walk_ofT (l := PySem.Challenge.rw_onecrest_k38_whole_level_directions) (n := 63) (k := 43) rfl (by decide) (by kernel_rfl) ⟨rfl, by decide, by decide⟩ ?F
    intro w mg mb mean lo law_ h Y G named
    obtain ⟨K, KX, says⟩ := Y
    have T := OC.tx_of KX G.g says
    obtain ⟨c, T0, htab, nK⟩ := T.tb
    obtain ⟨code, table⟩ := tab_of (d := HandSHeadRun.topDef OcHead.R.prog 71) G KX (by kernel_rfl) htab
    have named' : mg ("law" : PySem.Str) = some (.ref law_) := by
      have e : (HandSHeadRun.topDef OcHead.R.prog 72).name = ("law" : PySem.Str) := by kernel_rfl
      rw [← e]
      exact named
    have e := named'.symm.trans (T.glo 54 _ rfl)
    cases e
    exact ⟨K, OC.SpLaw K [(T0, OC.qR ++ "<lambda>")], c, T0, KX, nK, code, table,
      fun H a ns hl tab script => ⟨a, ns, rfl, Nat.le_trans hl (by decide), script, fun p hp => by rw [List.mem_singleton.mp hp]; exact LamX.TabS.nil tab, fun _ => rfl⟩,
      fun base _ _ TB => OC.okG_law T htab TB⟩
