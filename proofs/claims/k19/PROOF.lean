import PyProof.Rows.All
import Wide.All
import OpenK.AllK
import Wide.FinOn
import HandS.ForMost
import KE.KeyNested
import KE.KDictKeyed
import HandS.ForExc
import HandS.Flow
import HandS.TryOnly
import HandS.ExcOwn
import HandS.WordsExc
import HandS.Small
import HandS.Zip
import HandS.Ends
import HandS.Deep
import HandS.IsInst
import HandS.TupAny
import HandS.TupMul
import HandS.Text
import PyProof.ReprRoads
import PyProof.CallFns
import HandS.RaiseMore
import HandS.WordsDict
import HandS.ExcIs
import HandS.Iter
import PyProof.SumWalkG
import PyProof.ListOps
import PyProof.WalkInts
import KE.SortData
import KE.KDictSum
import HandS.Conv
import HandS.More
import KE.KDictWalk
import KE.DataMinMax
import HandS.Style
import PySem.Challenge.RW_mergewright_k19_systems_over_counts
set_option Elab.async false
set_option linter.all false
set_option maxRecDepth 100000
set_option maxHeartbeats 0
/-! A layer over HandS: an expression, a statement, a def by what it computes over plain data. -/
namespace DL
open PySem PySem.Spec L2

/-- the world, for the hashes of tuples -/
class HasW where
  w : World
variable [HasW]
/-- plain data -/
inductive D where
  | non | bl (b : Bool) | int (i : Int) | str (x : Str) | tup (xs : List D) | lst (xs : List D) | scr (xs : List D) | dic (ks : List Key) (xs : List D) | dct (ks xs : List D) | raw (v : V)

/-- a part of the abstract heap -/
def Sub (F H : Hp) : Prop := ∀ a o, F a = some o → H a = some o
theorem Sub.refl (F : Hp) : Sub F F := fun _ _ e => e
theorem Sub.trans {F G H : Hp} (a : Sub F G) (b : Sub G H) : Sub F H := fun c o e => b c o (a c o e)
theorem Sub.rd {F H : Hp} (s : Sub F H) {a : Addr} {u : HO} (r : Rd F a u) : Rd H a u := by
  rcases r with r | ⟨o, r⟩
  · exact .inl (s _ _ r)
  · exact .inr ⟨o, s _ _ r⟩
theorem Sub.sqL {K : PySem.W.Frag} {F H : Hp} (s : Sub F H) {a : Addr} {xs : List V} (r : SqL K F a xs) : SqL K H a xs := by
  rcases r with r | r
  · exact .inl (s.rd r)
  · exact .inr r
theorem Sub.sqT {K : PySem.W.Frag} {F H : Hp} (s : Sub F H) {a : Addr} {xs : List V} (r : SqT K F a xs) : SqT K H a xs := by
  rcases r with r | r
  · exact .inl (s.rd r)
  · exact .inr r
theorem Sub.free {F H : Hp} (s : Sub F H) {a : Addr} (h : H a = none) : F a = none := by
  cases q : F a with
  | none => rfl
  | some o => rw [s _ _ q] at h; cases h

/-! ### dicts with tuples as keys -/
mutual
def nk : D → Option NestedKey
  | .non => some .none
  | .int i => some (.num i)
  | .str x => some (.text x)
  | .tup xs => (nks xs).map .tup
  | _ => none
def nks : List D → Option (List NestedKey)
  | [] => some []
  | x :: xs => match nk x, nks xs with
    | some k, some ks => some (k :: ks)
    | _, _ => none
end
/-- a tuple as a key -/
def kOf : D → Option NestedKey
  | .tup xs => match nks xs with
    | some ks => if (NestedKey.tup ks).depth ≤ 8 then some (.tup ks) else none
    | none => none
  | _ => none
abbrev Ent := NestedKey × Addr × V
def entryH (k : NestedKey) (b : Addr) (u : Value) : DictEntry := ⟨k.hash HasW.w, .ref b, u⟩
def entsOf : List Ent → List Value → List DictEntry
  | e :: es, u :: us => entryH e.1 e.2.1 u :: entsOf es us
  | _, _ => []
def DxOk (a : Addr) (es : List Ent) (h : Heap) : Prop := es.length ≤ sizeLine ∧ (a == sysModules) = false ∧ (es.map (·.1)).Nodup ∧ ∃ us, Vals (es.map (·.2.2)) us ∧
  ∃ o des ep, h.get? a = some o ∧ o.ExactDict ∧ o.data = .dict des ep ∧ des.toList = entsOf es us
def dxO (a : Addr) (es : List Ent) : HO := .ext (DxOk a es)
mutual
/-- v stands for d, by what F tells -/
def Rep (K : PySem.W.Frag) (F : Hp) : D → V → Prop
  | .non, v => v = .non
  | .bl b, v => v = .bl b
  | .int i, v => v = .int i
  | .str x, v => v = .str x
  | .raw u, v => v = u
  | .tup xs, v => ∃ a vs, v = .ref a ∧ SqT K F a vs ∧ Reps K F xs vs
  | .lst xs, v => ∃ a vs, v = .ref a ∧ F a = some (.lst vs) ∧ Reps K F xs vs
  | .scr xs, v => ∃ a vs, v = .ref a ∧ SqL K F a vs ∧ Reps K F xs vs
  | .dic ks xs, v => ∃ a vs, v = .ref a ∧ Rd F a (.dK (ks.zip vs)) ∧ ks.length = xs.length ∧ ks.Nodup ∧ Reps K F xs vs
  | .dct ks xs, v => ∃ a es, v = .ref a ∧ Rd F a (dxO a es) ∧ ks.map kOf = es.map (fun e => some e.1) ∧ Reps K F ks (es.map fun e => .ref e.2.1) ∧ Reps K F xs (es.map (·.2.2))
def Reps (K : PySem.W.Frag) (F : Hp) : List D → List V → Prop
  | [], vs => vs = []
  | x :: xs, vs => ∃ v r, vs = v :: r ∧ Rep K F x v ∧ Reps K F xs r
end
theorem Reps.nil {K : PySem.W.Frag} {F : Hp} : Reps K F [] [] := rfl
theorem Reps.cons {K : PySem.W.Frag} {F : Hp} {x : D} {xs : List D} {v : V} {vs : List V} (a : Rep K F x v) (b : Reps K F xs vs) : Reps K F (x :: xs) (v :: vs) := ⟨v, vs, rfl, a, b⟩
section
variable {K : PySem.W.Frag} {F F' : Hp}
mutual
theorem Rep.mono (s : Sub F F') : ∀ (d : D) (v : V), Rep K F d v → Rep K F' d v
  | .non, _, h => h
  | .bl _, _, h => h
  | .int _, _, h => h
  | .str _, _, h => h
  | .raw _, _, h => h
  | .tup xs, v, h => by
    obtain ⟨a, vs, e, q, r⟩ := h
    exact ⟨a, vs, e, s.sqT q, Reps.mono s xs vs r⟩
  | .lst xs, v, h => by
    obtain ⟨a, vs, e, q, r⟩ := h
    exact ⟨a, vs, e, s _ _ q, Reps.mono s xs vs r⟩
  | .scr xs, v, h => by
    obtain ⟨a, vs, e, q, r⟩ := h
    exact ⟨a, vs, e, s.sqL q, Reps.mono s xs vs r⟩
  | .dic ks xs, v, h => by
    obtain ⟨a, vs, e, q, l, n, r⟩ := h
    exact ⟨a, vs, e, s.rd q, l, n, Reps.mono s xs vs r⟩
  | .dct ks xs, v, h => by
    obtain ⟨a, es, e, q, l, rk, r⟩ := h
    exact ⟨a, es, e, s.rd q, l, Reps.mono s ks _ rk, Reps.mono s xs _ r⟩
theorem Reps.mono (s : Sub F F') : ∀ (ds : List D) (vs : List V), Reps K F ds vs → Reps K F' ds vs
  | [], _, h => h
  | d :: ds, _, h => by
    obtain ⟨v, r, e, a, b⟩ := h
    exact ⟨v, r, e, Rep.mono s d v a, Reps.mono s ds r b⟩
end
theorem Reps.length : ∀ {ds : List D} {vs : List V}, Reps K F ds vs → vs.length = ds.length
  | [], _, h => by cases h; rfl
  | d :: ds, _, h => by
    obtain ⟨v, r, rfl, a, b⟩ := h
    simp [Reps.length b]
theorem Reps.get : ∀ {ds : List D} {vs : List V} {i : Nat} {d : D}, Reps K F ds vs → ds[i]? = some d → ∃ v, vs[i]? = some v ∧ Rep K F d v
  | [], _, i, d, h, e => by simp at e
  | x :: ds, _, 0, d, h, e => by
    obtain ⟨v, r, rfl, a, b⟩ := h
    simp at e
    subst e
    exact ⟨v, rfl, a⟩
  | x :: ds, _, i + 1, d, h, e => by
    obtain ⟨v, r, rfl, a, b⟩ := h
    simpa using Reps.get (i := i) b (by simpa using e)
theorem Reps.of_get : ∀ {ds : List D} {vs : List V} {i : Nat} {v : V}, Reps K F ds vs → vs[i]? = some v → ∃ d, ds[i]? = some d ∧ Rep K F d v
  | [], _, i, v, h, e => by cases h; simp at e
  | x :: ds, _, 0, v, h, e => by
    obtain ⟨v, r, rfl, a, b⟩ := h
    simp at e
    subst e
    exact ⟨x, rfl, a⟩
  | x :: ds, _, i + 1, v, h, e => by
    obtain ⟨v, r, rfl, a, b⟩ := h
    simpa using Reps.of_get (i := i) b (by simpa using e)
theorem Reps.append : ∀ {ds es : List D} {vs ws : List V}, Reps K F ds vs → Reps K F es ws → Reps K F (ds ++ es) (vs ++ ws)
  | [], _, _, _, h, k => by cases h; exact k
  | d :: ds, es, _, ws, h, k => by
    obtain ⟨v, r, rfl, a, b⟩ := h
    exact ⟨v, r ++ ws, rfl, a, Reps.append b k⟩
theorem Reps.snoc {ds : List D} {vs : List V} {d : D} {v : V} (h : Reps K F ds vs) (r : Rep K F d v) : Reps K F (ds ++ [d]) (vs ++ [v]) := h.append (.cons r .nil)
theorem Reps.take : ∀ (n : Nat) {ds : List D} {vs : List V}, Reps K F ds vs → Reps K F (ds.take n) (vs.take n)
  | 0, _, _, _ => by simp [Reps]
  | n + 1, [], _, h => by cases h; simp [Reps]
  | n + 1, d :: ds, _, h => by
    obtain ⟨v, r, rfl, a, b⟩ := h
    exact ⟨v, r.take n, rfl, a, Reps.take n b⟩
theorem Reps.drop : ∀ (n : Nat) {ds : List D} {vs : List V}, Reps K F ds vs → Reps K F (ds.drop n) (vs.drop n)
  | 0, _, _, h => by simpa using h
  | n + 1, [], _, h => by cases h; simp [Reps]
  | n + 1, d :: ds, _, h => by
    obtain ⟨v, r, rfl, a, b⟩ := h
    simpa using Reps.drop n b
theorem Reps.set : ∀ {ds : List D} {vs : List V} (i : Nat) {d : D} {v : V}, Reps K F ds vs → Rep K F d v → Reps K F (ds.set i d) (vs.set i v)
  | [], _, i, d, v, h, r => by cases h; simp [Reps]
  | x :: ds, _, 0, d, v, h, r => by
    obtain ⟨w, t, rfl, a, b⟩ := h
    exact ⟨v, t, rfl, r, b⟩
  | x :: ds, _, i + 1, d, v, h, r => by
    obtain ⟨w, t, rfl, a, b⟩ := h
    exact ⟨w, t.set i v, rfl, a, Reps.set i b r⟩
theorem Reps.rev : ∀ {ds : List D} {vs : List V}, Reps K F ds vs → Reps K F ds.reverse vs.reverse
  | [], _, h => by cases h; exact .nil
  | d :: ds, _, h => by
    obtain ⟨v, r, rfl, a, b⟩ := h
    rw [List.reverse_cons, List.reverse_cons]
    exact (Reps.rev b).snoc a
theorem Reps.ints : ∀ {ns : List Int} {vs : List V}, Reps K F (ns.map .int) vs → vs = ns.map V.int
  | [], _, h => h
  | n :: ns, _, h => by
    obtain ⟨v, r, rfl, a, b⟩ := h
    rw [Reps.ints b]
    exact congrArg (· :: _) a
theorem Reps.strs : ∀ {ns : List Str} {vs : List V}, Reps K F (ns.map .str) vs → vs = ns.map V.str
  | [], _, h => h
  | n :: ns, _, h => by
    obtain ⟨v, r, rfl, a, b⟩ := h
    rw [Reps.strs b]
    exact congrArg (· :: _) a
theorem Reps.bools : ∀ {ns : List Bool} {vs : List V}, Reps K F (ns.map .bl) vs → vs = ns.map V.bl
  | [], _, h => h
  | n :: ns, _, h => by
    obtain ⟨v, r, rfl, a, b⟩ := h
    rw [Reps.bools b]
    exact congrArg (· :: _) a
theorem Reps.mk_ints (ns : List Int) : Reps K F (ns.map .int) (ns.map V.int) := by
  induction ns with
  | nil => exact .nil
  | cons n r ih => exact .cons rfl ih
theorem Reps.mk_strs (ns : List Str) : Reps K F (ns.map .str) (ns.map V.str) := by
  induction ns with
  | nil => exact .nil
  | cons n r ih => exact .cons rfl ih
end

/-- what is owned at a: a list or a dict that may be changed -/
def Cell (K : PySem.W.Frag) (F H : Hp) (a : Addr) : D → Prop
  | .lst xs => ∃ vs, H a = some (.lst vs) ∧ Reps K F xs vs
  | .dic ks xs => ∃ vs, H a = some (.dK (ks.zip vs)) ∧ ks.length = xs.length ∧ ks.Nodup ∧ Reps K F xs vs
  | .dct ks xs => ∃ es, H a = some (dxO a es) ∧ ks.map kOf = es.map (fun e => some e.1) ∧ Reps K F ks (es.map fun e => .ref e.2.1) ∧ Reps K F xs (es.map (·.2.2))
  | _ => False
theorem Cell.there {K : PySem.W.Frag} {F H : Hp} {a : Addr} : ∀ {d : D}, Cell K F H a d → ∃ o, H a = Option.some o
  | .lst _, h => let ⟨_, e, _⟩ := h; ⟨_, e⟩
  | .dic _ _, h => let ⟨_, e, _⟩ := h; ⟨_, e⟩
  | .dct _ _, h => let ⟨_, e, _⟩ := h; ⟨_, e⟩
  | .non, h => h.elim
  | .bl _, h => h.elim
  | .int _, h => h.elim
  | .str _, h => h.elim
  | .tup _, h => h.elim
  | .scr _, h => h.elim
  | .raw _, h => h.elim
theorem Cell.mono {K : PySem.W.Frag} {F F' H H' : Hp} {a : Addr} (s : Sub F F') (e : ∀ o, H a = some o → H' a = some o) : ∀ {d : D}, Cell K F H a d → Cell K F' H' a d
  | .lst _, h => let ⟨vs, q, r⟩ := h; ⟨vs, e _ q, Reps.mono s _ _ r⟩
  | .dic _ _, h => let ⟨vs, q, l, n, r⟩ := h; ⟨vs, e _ q, l, n, Reps.mono s _ _ r⟩
  | .dct _ _, h => let ⟨es, q, l, rk, r⟩ := h; ⟨es, e _ q, l, Reps.mono s _ _ rk, Reps.mono s _ _ r⟩
  | .non, h => h.elim
  | .bl _, h => h.elim
  | .int _, h => h.elim
  | .str _, h => h.elim
  | .tup _, h => h.elim
  | .scr _, h => h.elim
  | .raw _, h => h.elim
/-- frozen: what is owned at a becomes plain data -/
theorem Cell.freeze {K : PySem.W.Frag} {F F' H : Hp} {a : Addr} (s : Sub F F') (e : ∀ o, H a = Option.some o → F' a = Option.some o) : ∀ {d : D}, Cell K F H a d → Rep K F' d (.ref a)
  | .lst _, h => let ⟨vs, q, r⟩ := h; ⟨a, vs, rfl, e _ q, Reps.mono s _ _ r⟩
  | .dic _ _, h => let ⟨vs, q, l, n, r⟩ := h; ⟨a, vs, rfl, .inl (e _ q), l, n, Reps.mono s _ _ r⟩
  | .dct _ _, h => let ⟨es, q, l, rk, r⟩ := h; ⟨a, es, rfl, .inl (e _ q), l, Reps.mono s _ _ rk, Reps.mono s _ _ r⟩
  | .non, h => h.elim
  | .bl _, h => h.elim
  | .int _, h => h.elim
  | .str _, h => h.elim
  | .tup _, h => h.elim
  | .scr _, h => h.elim
  | .raw _, h => h.elim

/-- what a name holds: nothing, plain data, something of its own that may be changed (bor: lent by the caller) -/
inductive Slot where
  | non | val (d : D) | own (d : D) | bor (d : D)
abbrev Env := List Slot

/-- what a name's value is, by F (data), H (what is owned), α (where what is lent stands) -/
def SlotOk (K : PySem.W.Frag) (F G H : Hp) (x : Option V) (α : Addr) : Slot → Prop
  | .non => True
  | .val d => ∃ v, x = some v ∧ Rep K F d v
  | .own d => ∃ a, x = some (.ref a) ∧ F a = none ∧ G a = none ∧ Cell K F H a d
  | .bor d => x = some (.ref α) ∧ F α = none ∧ G α = none ∧ Cell K F H α d
def Slot.owns : Slot → Bool
  | .own _ => true
  | .bor _ => true
  | _ => false

/-- the names' values σ and the heap H bear ρ: F the data, G the ground that stays as it is -/
structure Fits (K : PySem.W.Frag) (α : Nat → Addr) (ρ : Env) (σ : L2.St) (H F G : Hp) : Prop where
  fh : Sub F H
  gh : Sub G H
  len : σ.length = ρ.length
  slot : ∀ (i : Nat) (s : Slot), ρ[i]? = some s → ∃ x, σ[i]? = some x ∧ SlotOk K F G H x (α i) s
  sep : ∀ (i j : Nat) (s t : Slot) (a : Addr), ρ[i]? = some s → ρ[j]? = some t → s.owns = true → t.owns = true → σ[i]? = some (some (.ref a)) → σ[j]? = some (some (.ref a)) → i = j

/-- the data grow by what is new -/
structure Grow (G F F' : Hp) : Prop where
  sub : Sub F F'
  new : ∀ a o, F' a = some o → F a = some o ∨ (F a = none ∧ G a = none)
theorem Grow.refl (G F : Hp) : Grow G F F := ⟨Sub.refl F, fun _ _ e => .inl e⟩
theorem Grow.trans {G F F' F'' : Hp} (a : Grow G F F') (b : Grow G F' F'') : Grow G F F'' := ⟨a.sub.trans b.sub, fun c o e => by
  rcases b.new c o e with h | ⟨h1, h2⟩
  · exact a.new c o h
  · exact .inr ⟨a.sub.free h1, h2⟩⟩

/-- the heap grows by new objects, the data by some of them -/
structure Ext (H F H' F' : Hp) : Prop where
  hh : Sub H H'
  ff : Sub F F'
  fh : Sub F' H'
  new : ∀ a o, F' a = some o → F a = some o ∨ H a = none
theorem Ext.refl {H F : Hp} (h : Sub F H) : Ext H F H F := ⟨Sub.refl H, Sub.refl F, h, fun _ _ e => .inl e⟩
theorem Ext.trans {H F H1 F1 H2 F2 : Hp} (a : Ext H F H1 F1) (b : Ext H1 F1 H2 F2) : Ext H F H2 F2 :=
  ⟨a.hh.trans b.hh, a.ff.trans b.ff, b.fh, fun c o e => by
    rcases b.new c o e with h | h
    · exact a.new c o h
    · exact .inr (a.hh.free h)⟩
theorem Sub.upd_none {H : Hp} {p : Addr} {o : HO} (h : H p = none) : Sub H (upd H p o) := fun b u q => by rw [upd_ne (ne_of_none q h)]; exact q
theorem Sub.upd2 {F H : Hp} {p : Addr} {o : HO} (s : Sub F H) : Sub (upd F p o) (upd H p o) := fun b u q => by
  by_cases e : b = p
  · subst e; rw [upd_same] at q ⊢; exact q
  · rw [upd_ne e] at q ⊢; exact s _ _ q
/-- a new object, as data -/
theorem Ext.alloc {H F : Hp} {p : Addr} {o : HO} (s : Sub F H) (h : H p = none) : Ext H F (upd H p o) (upd F p o) :=
  ⟨Sub.upd_none h, Sub.upd_none (s.free h), s.upd2, fun b u q => by
    by_cases e : b = p
    · subst e; exact .inr h
    · rw [upd_ne e] at q; exact .inl q⟩
/-- a new object, not (yet) data -/
theorem Ext.allocO {H F : Hp} {p : Addr} {o : HO} (s : Sub F H) (h : H p = none) : Ext H F (upd H p o) F :=
  ⟨Sub.upd_none h, Sub.refl F, s.trans (Sub.upd_none h), fun b u q => .inl q⟩

section
variable {K : PySem.W.Frag} {α : Nat → Addr} {ρ : Env} {σ : L2.St} {H F G H' F' : Hp}
theorem SlotOk.ext {x : Option V} {a : Addr} (e : Ext H F H' F') (gh : Sub G H) : ∀ {s : Slot}, SlotOk K F G H x a s → SlotOk K F' G H' x a s
  | .non, h => trivial
  | .val d, h => let ⟨v, q, r⟩ := h; ⟨v, q, Rep.mono e.ff _ _ r⟩
  | .own d, h => by
    obtain ⟨b, q, f, g, c⟩ := h
    refine ⟨b, q, ?_, g, c.mono e.ff fun o z => e.hh _ _ z⟩
    obtain ⟨o, ho⟩ := c.there
    cases z : F' b with
    | none => rfl
    | some u =>
      rcases e.new _ _ z with w | w
      · rw [f] at w; cases w
      · rw [ho] at w; cases w
  | .bor d, h => by
    obtain ⟨q, f, g, c⟩ := h
    refine ⟨q, ?_, g, c.mono e.ff fun o z => e.hh _ _ z⟩
    obtain ⟨o, ho⟩ := c.there
    cases z : F' a with
    | none => rfl
    | some u =>
      rcases e.new _ _ z with w | w
      · rw [f] at w; cases w
      · rw [ho] at w; cases w
theorem Fits.ext (h : Fits K α ρ σ H F G) (e : Ext H F H' F') : Fits K α ρ σ H' F' G :=
  ⟨e.fh, h.gh.trans e.hh, h.len, fun i s q => let ⟨x, z, k⟩ := h.slot i s q; ⟨x, z, k.ext e h.gh⟩, h.sep⟩
theorem Fits.grow (h : Fits K α ρ σ H F G) (e : Ext H F H' F') : Grow G F F' := ⟨e.ff, fun a o q => by
  cases w : F a with
  | some u => left; rw [e.ff _ _ w] at q; cases q; rfl
  | none =>
    rcases e.new a o q with z | z
    · rw [w] at z; cases z
    · exact .inr ⟨rfl, h.gh.free z⟩⟩
end
end DL

namespace DL
open PySem PySem.Spec L2
variable [HasW]

/-- what an expression gives: data; the thing that a name owns; something new -/
inductive RV where | val (d : D) | loc (i : Nat) | new (d : D)
/-- a class of exceptions: one of the program's own, a built-in one -/
inductive ECls where | own (x : Str) | bi (T : String)
  deriving DecidableEq
/-- an exception: its class, what its own dict holds -/
structure Exn where
  cls : ECls
  fs : List (Str × D)
/-- the class object -/
def ClsIs (K : PySem.W.Frag) : ECls → Value → Prop
  | .own x, v => PySem.W.nsIn K mainGlobals x = some (some v)
  | .bi T, v => v = .type T
theorem ClsIs.eq {K : PySem.W.Frag} {c : ECls} {u v : Value} (a : ClsIs K c u) (b : ClsIs K c v) : u = v := by
  cases c with
  | own x => have a' : PySem.W.nsIn K mainGlobals x = some (some u) := a; have b' : PySem.W.nsIn K mainGlobals x = some (some v) := b; rw [a'] at b'; cases b'; rfl
  | bi T => exact Eq.trans (show u = _ from a) (Eq.symm (show v = _ from b))
inductive ER where | ok (r : RV) (ρ : Env) | ex (x : Exn) (ρ : Env) | no
abbrev Ev := Env → ER
def RV.settle : RV → RV
  | .new d => .val d
  | r => r
def ER.settle : ER → ER
  | .ok r ρ => .ok r.settle ρ
  | e => e
def ER.bind (e : ER) (k : RV → Env → ER) : ER := match e with
  | .ok r ρ => k r ρ
  | .ex x ρ => .ex x ρ
  | .no => .no
def ER.of (r : Option RV) (ρ : Env) : ER := match r with
  | some r => .ok r ρ
  | none => .no
/-- what is read -/
def peek (r : RV) (ρ : Env) : Option D := match r with
  | .val d => some d
  | .loc i => match ρ[i]? with
    | some (.val d) => some d
    | some (.own d) => some d
    | some (.bor d) => some d
    | _ => none
  | .new _ => none
/-- made plain data for good -/
def frz (r : RV) (ρ : Env) : Option (D × Env) := match r with
  | .val d => some (d, ρ)
  | .loc i => match ρ[i]? with
    | some (.val d) => some (d, ρ)
    | some (.own d) => some (d, ρ.set i (.val d))
    | _ => none
  | .new _ => none
def frzs : List RV → Env → Option (List D × Env)
  | [], ρ => some ([], ρ)
  | r :: rs, ρ => match frz r ρ with
    | some (d, ρ1) => match frzs rs ρ1 with
      | some (ds, ρ2) => some (d :: ds, ρ2)
      | none => none
    | none => none
def peeks : List RV → Env → Option (List D)
  | [], _ => some []
  | r :: rs, ρ => match peek r ρ, peeks rs ρ with
    | some d, some ds => some (d :: ds)
    | _, _ => none

/-- v is what r says -/
def RRep (K : PySem.W.Frag) (F G H : Hp) (σ : L2.St) (ρ : Env) : RV → V → Prop
  | .val d, v => Rep K F d v
  | .loc i, v => σ[i]? = some (some v)
  | .new d, v => ∃ a, v = .ref a ∧ F a = none ∧ G a = none ∧ Cell K F H a d ∧ ∀ (i : Nat) (s : Slot), ρ[i]? = some s → s.owns = true → σ[i]? ≠ some (some (V.ref a))
/-- .. of what is settled -/
def SRep (K : PySem.W.Frag) (F : Hp) (σ : L2.St) : RV → V → Prop
  | .val d, v => Rep K F d v
  | .loc i, v => σ[i]? = some (some v)
  | .new _, _ => False
def SReps (K : PySem.W.Frag) (F : Hp) (σ : L2.St) : List RV → List V → Prop
  | [], vs => vs = []
  | r :: rs, vs => ∃ v t, vs = v :: t ∧ SRep K F σ r v ∧ SReps K F σ rs t
def RepX (K : PySem.W.Frag) (F H : Hp) (x : Exn) (cls : Value) (d : Option Addr) : Prop :=
  ClsIs K x.cls cls ∧ (x.fs = [] ∨ ∃ dd vs, d = some dd ∧ H dd = some (.xd ((x.fs.map (·.1)).zip vs)) ∧ Reps K F (x.fs.map (·.2)) vs)

/-- what must follow -/
def EC (K : PySem.W.Frag) (W : WX) (α : Nat → Addr) (σ : L2.St) (F G : Hp) (Q : VK) : ER → Prop
  | .ok r ρ => ∀ v H' F', Grow G F F' → Fits K α ρ σ H' F' G → RRep K F' G H' σ ρ r v → Q v H'
  | .ex x ρ => ∀ cls d H' F', Grow G F F' → Fits K α ρ σ H' F' G → RepX K F' H' x cls d → W cls d σ H'
  | .no => False
/-- the reading of an expression that does g -/
def tE (K : PySem.W.Frag) (W : WX) (g : Ev) : TE := fun σ H Q => ∃ (α : Nat → Addr) (ρ : Env) (F G : Hp), Fits K α ρ σ H F G ∧ EC K W α σ F G Q (g ρ)

section
variable {K : PySem.W.Frag} {W : WX} {α : Nat → Addr} {ρ : Env} {σ : L2.St} {H F G H' F' : Hp} {Q : VK}
theorem EC.mono (g : Grow G F F') : ∀ {e : ER}, EC K W α σ F G Q e → EC K W α σ F' G Q e
  | .ok r ρ, h => fun v H1 F1 g1 f1 r1 => h v H1 F1 (g.trans g1) f1 r1
  | .ex x ρ, h => fun c d H1 F1 g1 f1 r1 => h c d H1 F1 (g.trans g1) f1 r1
  | .no, h => h
theorem EC.imp {Q' : VK} (w : ∀ v H, Q v H → Q' v H) : ∀ {e : ER}, EC K W α σ F G Q e → EC K W α σ F G Q' e
  | .ok r ρ, h => fun v H1 F1 g1 f1 r1 => w _ _ (h v H1 F1 g1 f1 r1)
  | .ex x ρ, h => h
  | .no, h => h
/-- one after another: k reads what the first gave -/
theorem EC.bind {g : Ev} {k : RV → Env → ER} {R : V → Hp → Prop} (hk : ∀ r ρ1, ∀ v H1 F1, Grow G F F1 → Fits K α ρ1 σ H1 F1 G → RRep K F1 G H1 σ ρ1 r v → EC K W α σ F1 G Q (k r ρ1) → R v H1) :
    ∀ {e : ER}, EC K W α σ F G Q (e.bind k) → EC K W α σ F G R e
  | .ok r ρ1, h => fun v H1 F1 g1 f1 r1 => hk r ρ1 v H1 F1 g1 f1 r1 (EC.mono g1 h)
  | .ex x ρ1, h => h
  | .no, h => h
/-- what is new is settled -/
theorem RRep.settle (f : Fits K α ρ σ H F G) : ∀ {r : RV} {v : V}, RRep K F G H σ ρ r v → ∃ F', Grow G F F' ∧ Fits K α ρ σ H F' G ∧ SRep K F' σ r.settle v
  | .val d, v, h => ⟨F, Grow.refl _ _, f, h⟩
  | .loc i, v, h => ⟨F, Grow.refl _ _, f, h⟩
  | .new d, v, h => by
    obtain ⟨a, rfl, fa, ga, c, sp⟩ := h
    obtain ⟨o, ho⟩ := c.there
    have s1 : Sub F (upd F a o) := Sub.upd_none fa
    refine ⟨upd F a o, ⟨s1, fun b u q => ?_⟩, ⟨fun b u q => ?_, f.gh, f.len, fun i s q => ?_, f.sep⟩, ?_⟩
    · by_cases e : b = a
      · subst e; exact .inr ⟨fa, ga⟩
      · rw [upd_ne e] at q; exact .inl q
    · by_cases e : b = a
      · subst e; rw [upd_same] at q; cases q; exact ho
      · rw [upd_ne e] at q; exact f.fh _ _ q
    · obtain ⟨x, hx, so⟩ := f.slot i s q
      refine ⟨x, hx, ?_⟩
      cases s with
      | non => trivial
      | val d' => obtain ⟨v, e, r⟩ := so; exact ⟨v, e, Rep.mono s1 _ _ r⟩
      | own d' =>
        obtain ⟨b, e, fb, gb, cb⟩ := so
        have ne : b ≠ a := fun z => sp i _ q rfl (by rw [hx, e, z])
        exact ⟨b, e, by rw [upd_ne ne]; exact fb, gb, cb.mono s1 fun _ z => z⟩
      | bor d' =>
        obtain ⟨e, fb, gb, cb⟩ := so
        have ne : α i ≠ a := fun z => sp i _ q rfl (by rw [hx, e, z])
        exact ⟨e, by rw [upd_ne ne]; exact fb, gb, cb.mono s1 fun _ z => z⟩
    · exact c.freeze s1 fun u hu => by rw [ho] at hu; cases hu; exact upd_same
theorem SRep.rrep : ∀ {r : RV} {v : V}, SRep K F σ r v → RRep K F G H σ ρ r v
  | .val _, _, h => h
  | .loc _, _, h => h
  | .new _, _, h => h.elim
theorem SRep.mono (s : Sub F F') : ∀ {r : RV} {v : V}, SRep K F σ r v → SRep K F' σ r v
  | .val _, _, h => Rep.mono s _ _ h
  | .loc _, _, h => h
  | .new _, _, h => h.elim
theorem SReps.mono (s : Sub F F') : ∀ {rs : List RV} {vs : List V}, SReps K F σ rs vs → SReps K F' σ rs vs
  | [], _, h => h
  | r :: rs, _, h => by
    obtain ⟨v, t, rfl, a, b⟩ := h
    exact ⟨v, t, rfl, a.mono s, SReps.mono s b⟩
theorem EC.settle : ∀ {e : ER}, EC K W α σ F G Q e.settle → EC K W α σ F G Q e
  | .ok r ρ1, h => fun v H1 F1 g1 f1 r1 => by
    obtain ⟨F2, g2, f2, s2⟩ := r1.settle f1
    exact h v H1 F2 (g1.trans g2) f2 s2.rrep
  | .ex x ρ1, h => h
  | .no, h => h
theorem settle_srep : ∀ {r : RV} {v : V}, RRep K F G H σ ρ r.settle v → SRep K F σ r.settle v
  | .val _, _, h => h
  | .loc _, _, h => h
  | .new _, _, h => h
/-- one operand after another -/
theorem EC.bindS {k : RV → Env → ER} {R : V → Hp → Prop} (hk : ∀ r ρ1, ∀ v H1 F1, Grow G F F1 → Fits K α ρ1 σ H1 F1 G → SRep K F1 σ r v → EC K W α σ F1 G Q (k r ρ1) → R v H1) :
    ∀ {e : ER}, EC K W α σ F G Q (e.settle.bind k) → EC K W α σ F G R e
  | .ok r ρ1, h => fun v H1 F1 g1 f1 r1 => by
    obtain ⟨F2, g2, f2, s2⟩ := r1.settle f1
    exact hk r.settle ρ1 v H1 F2 (g1.trans g2) f2 s2 (EC.mono (g1.trans g2) h)
  | .ex x ρ1, h => h
  | .no, h => h
end

theorem _root_.L2.PE.weak {X : Cx} {e : Expr} {t t' : TE} (h : PE X e t) (w : ∀ σ H Q, t' σ H Q → t σ H Q) : PE X e t' := ⟨fun pins s σ H Q I q => h.run pins s σ H Q I (w σ H Q q)⟩
theorem _root_.L2.PT.weak {X : Cx} {e : Expr} {t t' : TT} (h : PT X e t) (w : ∀ σ H Q, t' σ H Q → t σ H Q) : PT X e t' := ⟨fun pins s σ H Q I q => h.run pins s σ H Q I (w σ H Q q)⟩
theorem _root_.L2.PW.weak {X : Cx} {e : Expr} {t t' : TT} (h : PW X e t) (w : ∀ σ H Q, t' σ H Q → t σ H Q) : PW X e t' := ⟨fun wh pins s σ H Q I q => h.run wh pins s σ H Q I (w σ H Q q)⟩
theorem _root_.L2.PA.weak {X : Cx} {es : List Expr} {t t' : TA} (h : PA X es t) (w : ∀ σ H Q, t' σ H Q → t σ H Q) : PA X es t' := ⟨fun pos pins s σ H Q I q => h.run pos pins s σ H Q I (w σ H Q q)⟩
theorem _root_.L2.PS.weak {X : Cx} {st : Stmt} {t t' : TS} (h : PS X st t) (w : ∀ D σ H, t' D σ H → t D σ H) : PS X st t' := ⟨fun pins s σ H D I q => h.run pins s σ H D I (w D σ H q)⟩
theorem _root_.L2.PSs.weak {X : Cx} {st : List Stmt} {t t' : TS} (h : PSs X st t) (w : ∀ D σ H, t' D σ H → t D σ H) : PSs X st t' := ⟨fun pins s σ H D I q => h.run pins s σ H D I (w D σ H q)⟩

/-- one level seen: what an operator reads -/
def View (K : PySem.W.Frag) (F H : Hp) : D → V → Prop
  | .tup xs, v => ∃ a vs, v = .ref a ∧ SqT K F a vs ∧ Reps K F xs vs
  | .lst xs, v => ∃ a vs, v = .ref a ∧ H a = some (.lst vs) ∧ Reps K F xs vs
  | .scr xs, v => ∃ a vs, v = .ref a ∧ SqL K F a vs ∧ Reps K F xs vs
  | .dic ks xs, v => ∃ a vs, v = .ref a ∧ Rd H a (.dK (ks.zip vs)) ∧ ks.length = xs.length ∧ ks.Nodup ∧ Reps K F xs vs
  | .dct ks xs, v => ∃ a es, v = .ref a ∧ Rd H a (dxO a es) ∧ ks.map kOf = es.map (fun e => some e.1) ∧ Reps K F ks (es.map fun e => .ref e.2.1) ∧ Reps K F xs (es.map (·.2.2))
  | d, v => Rep K F d v
def Views (K : PySem.W.Frag) (F H : Hp) : List D → List V → Prop
  | [], vs => vs = []
  | d :: ds, vs => ∃ v t, vs = v :: t ∧ View K F H d v ∧ Views K F H ds t
section
variable {K : PySem.W.Frag} {W : WX} {α : Nat → Addr} {ρ ρ' : Env} {σ : L2.St} {H F G H' F' : Hp} {Q : VK}
theorem Rep.view (s : Sub F H) : ∀ {d : D} {v : V}, Rep K F d v → View K F H d v
  | .non, _, h => h
  | .bl _, _, h => h
  | .int _, _, h => h
  | .str _, _, h => h
  | .raw _, _, h => h
  | .tup _, _, h => h
  | .lst _, _, h => let ⟨a, vs, e, q, r⟩ := h; ⟨a, vs, e, s _ _ q, r⟩
  | .scr _, _, h => h
  | .dic _ _, _, h => let ⟨a, vs, e, q, l, n, r⟩ := h; ⟨a, vs, e, s.rd q, l, n, r⟩
  | .dct _ _, _, h => let ⟨a, es, e, q, l, rk, r⟩ := h; ⟨a, es, e, s.rd q, l, rk, r⟩
theorem Cell.view {a : Addr} : ∀ {d : D}, Cell K F H a d → View K F H d (.ref a)
  | .lst _, h => let ⟨vs, q, r⟩ := h; ⟨a, vs, rfl, q, r⟩
  | .dic _ _, h => let ⟨vs, q, l, n, r⟩ := h; ⟨a, vs, rfl, .inl q, l, n, r⟩
  | .dct _ _, h => let ⟨es, q, l, rk, r⟩ := h; ⟨a, es, rfl, .inl q, l, rk, r⟩
  | .non, h => h.elim
  | .bl _, h => h.elim
  | .int _, h => h.elim
  | .str _, h => h.elim
  | .tup _, h => h.elim
  | .scr _, h => h.elim
  | .raw _, h => h.elim
theorem Fits.peek (f : Fits K α ρ σ H F G) {r : RV} {v : V} {d : D} (s : SRep K F σ r v) (p : peek r ρ = some d) : View K F H d v := by
  cases r with
  | val d' => cases p; exact Rep.view f.fh s
  | new d' => cases p
  | loc i =>
    unfold DL.peek at p
    cases e : ρ[i]? with
    | none => simp [e] at p
    | some sl =>
      obtain ⟨x, hx, so⟩ := f.slot i sl e
      have hv : σ[i]? = some (some v) := s
      rw [hx] at hv
      cases hv
      cases sl with
      | non => simp [e] at p
      | val d' =>
        simp [e] at p
        subst p
        obtain ⟨w, q, r⟩ := so
        cases q
        exact Rep.view f.fh r
      | own d' =>
        simp [e] at p
        subst p
        obtain ⟨a, q, _, _, c⟩ := so
        cases q
        exact c.view
      | bor d' =>
        simp [e] at p
        subst p
        obtain ⟨q, _, _, c⟩ := so
        cases q
        exact c.view
theorem Fits.peeks (f : Fits K α ρ σ H F G) : ∀ {rs : List RV} {vs : List V} {ds : List D}, SReps K F σ rs vs → peeks rs ρ = some ds → Views K F H ds vs
  | [], _, ds, s, p => by cases p; exact s
  | r :: rs, _, ds, s, p => by
    obtain ⟨v, t, rfl, a, b⟩ := s
    unfold DL.peeks at p
    cases e1 : DL.peek r ρ with
    | none => simp [e1] at p
    | some d =>
      cases e2 : DL.peeks rs ρ with
      | none => simp [e1, e2] at p
      | some ds' =>
        simp [e1, e2] at p
        subst p
        exact ⟨v, t, rfl, f.peek a e1, f.peeks b e2⟩
/-- a name's own thing becomes data -/
theorem Fits.freeze (f : Fits K α ρ σ H F G) {i : Nat} {d : D} {v : V} (e : ρ[i]? = some (.own d)) (hv : σ[i]? = some (some v)) :
    ∃ F', Grow G F F' ∧ Fits K α (ρ.set i (.val d)) σ H F' G ∧ Rep K F' d v := by
  obtain ⟨x, hx, a, q, fa, ga, c⟩ := f.slot i _ e
  rw [hx] at hv
  cases hv
  cases q
  obtain ⟨o, ho⟩ := c.there
  have s1 : Sub F (upd F a o) := Sub.upd_none fa
  have hi : i < ρ.length := (List.getElem?_eq_some_iff.mp e).1
  have rp : Rep K (upd F a o) d (.ref a) := c.freeze s1 fun u hu => by rw [ho] at hu; cases hu; exact upd_same
  refine ⟨upd F a o, ⟨s1, fun b u q => ?_⟩, ⟨fun b u q => ?_, f.gh, by rw [List.length_set]; exact f.len, fun j s q => ?_, fun j k s t b q1 q2 o1 o2 => ?_⟩, rp⟩
  · by_cases z : b = a
    · subst z; exact .inr ⟨fa, ga⟩
    · rw [upd_ne z] at q; exact .inl q
  · by_cases z : b = a
    · subst z; rw [upd_same] at q; cases q; exact ho
    · rw [upd_ne z] at q; exact f.fh _ _ q
  · by_cases hj : i = j
    · subst hj
      rw [List.getElem?_set_self hi] at q
      cases q
      exact ⟨_, hx, .ref a, rfl, rp⟩
    · rw [List.getElem?_set_ne hj] at q
      obtain ⟨y, hy, so⟩ := f.slot j s q
      refine ⟨y, hy, ?_⟩
      cases s with
      | non => trivial
      | val d' => obtain ⟨w, z, r⟩ := so; exact ⟨w, z, Rep.mono s1 _ _ r⟩
      | own d' =>
        obtain ⟨b, z, fb, gb, cb⟩ := so
        have ne : b ≠ a := fun w => hj (f.sep i j _ _ a e q rfl rfl hx (by rw [hy, z, w]))
        exact ⟨b, z, by rw [upd_ne ne]; exact fb, gb, cb.mono s1 fun _ z => z⟩
      | bor d' =>
        obtain ⟨z, fb, gb, cb⟩ := so
        have ne : α j ≠ a := fun w => hj (f.sep i j _ _ a e q rfl rfl hx (by rw [hy, z, w]))
        exact ⟨z, by rw [upd_ne ne]; exact fb, gb, cb.mono s1 fun _ z => z⟩
  · have go : ∀ {k : Nat} {s : Slot}, (ρ.set i (.val d))[k]? = some s → s.owns = true → ρ[k]? = some s := fun {k s} q o => by
      by_cases hk : i = k
      · subst hk
        rw [List.getElem?_set_self hi] at q
        cases q
        cases o
      · rwa [List.getElem?_set_ne hk] at q
    exact f.sep j k s t b (go q1 o1) (go q2 o2) o1 o2
theorem Fits.frz (f : Fits K α ρ σ H F G) {r : RV} {v : V} {d : D} (s : SRep K F σ r v) (p : frz r ρ = some (d, ρ')) : ∃ F', Grow G F F' ∧ Fits K α ρ' σ H F' G ∧ Rep K F' d v := by
  cases r with
  | val d' => cases p; exact ⟨F, Grow.refl _ _, f, s⟩
  | new d' => cases p
  | loc i =>
    unfold DL.frz at p
    have hv : σ[i]? = some (some v) := s
    cases e : ρ[i]? with
    | none => simp [e] at p
    | some sl =>
      cases sl with
      | non => simp [e] at p
      | bor d' => simp [e] at p
      | val d' =>
        simp [e] at p
        obtain ⟨rfl, rfl⟩ := p
        obtain ⟨x, hx, w, q, r⟩ := f.slot i _ e
        rw [hx] at hv
        cases hv
        cases q
        exact ⟨F, Grow.refl _ _, f, r⟩
      | own d' =>
        simp [e] at p
        obtain ⟨rfl, rfl⟩ := p
        exact f.freeze e hv
theorem Fits.frzs : ∀ {rs : List RV} {vs : List V} {ds : List D} {ρ ρ' : Env} {F : Hp}, Fits K α ρ σ H F G → SReps K F σ rs vs → frzs rs ρ = some (ds, ρ') → ∃ F', Grow G F F' ∧ Fits K α ρ' σ H F' G ∧ Reps K F' ds vs
  | [], _, ds, ρ, ρ', F, f, s, p => by cases p; exact ⟨F, Grow.refl _ _, f, s⟩
  | r :: rs, _, ds, ρ, ρ', F, f, s, p => by
    obtain ⟨v, t, rfl, a, b⟩ := s
    unfold DL.frzs at p
    cases e1 : DL.frz r ρ with
    | none => simp [e1] at p
    | some w =>
      obtain ⟨d, ρ1⟩ := w
      cases e2 : DL.frzs rs ρ1 with
      | none => simp [e1, e2] at p
      | some w2 =>
        obtain ⟨ds', ρ2⟩ := w2
        simp [e1, e2] at p
        obtain ⟨rfl, rfl⟩ := p
        obtain ⟨F1, g1, f1, r1⟩ := f.frz a e1
        obtain ⟨F2, g2, f2, r2⟩ := Fits.frzs f1 (b.mono g1.sub) e2
        exact ⟨F2, g1.trans g2, f2, .cons (Rep.mono g2.sub _ _ r1) r2⟩
end

/-! ### what an operator gives -/
/-- w is what r says, behind the heap H -/
def ORep (K : PySem.W.Frag) (H F' H' : Hp) : RV → V → Prop
  | .val d, v => Rep K F' d v
  | .new d, v => ∃ a, v = .ref a ∧ H a = none ∧ F' a = none ∧ Cell K F' H' a d
  | .loc _, _ => False
/-- an operation of one, of two, of several values by what it computes -/
def Op1 (K : PySem.W.Frag) (r : V → Hp → VK → Prop) (f : D → Option RV) : Prop :=
  ∀ (F H : Hp) (d : D) (v : V) (z : RV) (Q : VK), Sub F H → View K F H d v → f d = some z → (∀ w H' F', Ext H F H' F' → ORep K H F' H' z w → Q w H') → r v H Q
def Op2 (K : PySem.W.Frag) (r : V → V → Hp → VK → Prop) (f : D → D → Option RV) : Prop :=
  ∀ (F H : Hp) (d e : D) (v u : V) (z : RV) (Q : VK), Sub F H → View K F H d v → View K F H e u → f d e = some z → (∀ w H' F', Ext H F H' F' → ORep K H F' H' z w → Q w H') → r v u H Q
def OpN (K : PySem.W.Frag) (r : List V → Hp → VK → Prop) (f : List D → Option RV) : Prop :=
  ∀ (F H : Hp) (ds : List D) (vs : List V) (z : RV) (Q : VK), Sub F H → Views K F H ds vs → f ds = some z → (∀ w H' F', Ext H F H' F' → ORep K H F' H' z w → Q w H') → r vs H Q
section
variable {K : PySem.W.Frag} {W : WX} {α : Nat → Addr} {ρ ρ' : Env} {σ : L2.St} {H F G H' F' : Hp} {Q : VK}
theorem ORep.rrep (f : Fits K α ρ σ H F G) (e : Ext H F H' F') : ∀ {z : RV} {w : V}, ORep K H F' H' z w → RRep K F' G H' σ ρ z w
  | .val _, _, h => h
  | .loc _, _, h => h.elim
  | .new d, w, h => by
    obtain ⟨a, rfl, ha, fa, c⟩ := h
    refine ⟨a, rfl, fa, f.gh.free ha, c, fun i s q o z => ?_⟩
    obtain ⟨x, hx, so⟩ := f.slot i s q
    rw [hx] at z
    cases z
    cases s with
    | non => cases o
    | val d' => cases o
    | own d' =>
      obtain ⟨b, e', _, _, cb⟩ := so
      cases e'
      obtain ⟨u, hu⟩ := cb.there
      rw [ha] at hu
      cases hu
    | bor d' =>
      obtain ⟨e', _, _, cb⟩ := so
      cases e'
      obtain ⟨u, hu⟩ := cb.there
      rw [ha] at hu
      cases hu
/-- an operator's end -/
theorem EC.op (f : Fits K α ρ σ H F G) {z : RV} (h : EC K W α σ F G Q (.ok z ρ)) : ∀ w H' F', Ext H F H' F' → ORep K H F' H' z w → Q w H' := fun w H' F' e o =>
  h w H' F' (f.grow e) (f.ext e) (o.rrep f e)
end

/-! ### expressions -/
section
variable {X : Cx} {W : WX} {e a b : Expr} {g ga gb : Ev} {pos : Pos}
/-- a name's value -/
def dVar (i : Nat) : Ev := fun ρ => match ρ[i]? with
  | some (.val d) => .ok (.val d) ρ
  | some (.own _) => .ok (.loc i) ρ
  | some (.bor _) => .ok (.loc i) ρ
  | _ => .no
theorem ed_var (i : Nat) {x : Str} (hN : X.N[i]? = some x := by rfl) (hv : Vis X.env.scope x := by first | exact Or.inl rfl | exact Or.inr (Or.inl rfl) | exact Or.inr (Or.inr rfl)) (hd : (x == ("__debug__" : Str)) = false := by decide)
    (hcd : (x == ("__classdict__" : Str)) = false := by decide) : PE X (.Name x pos) (tE X.K W (dVar i)) := by
  refine (pe_var hN hv hd hcd).weak fun σ H Q h => ?_
  obtain ⟨α, ρ, F, G, f, h⟩ := h
  unfold dVar at h
  cases q : ρ[i]? with
  | none => simp [q, EC] at h
  | some s =>
    obtain ⟨x, hx, so⟩ := f.slot i s q
    cases s with
    | non => simp [q, EC] at h
    | val d =>
      simp only [q] at h
      obtain ⟨v, rfl, r⟩ := so
      exact ⟨v, hx, h v H F (Grow.refl _ _) f r⟩
    | own d =>
      simp only [q] at h
      obtain ⟨c, rfl, _⟩ := so
      exact ⟨_, hx, h _ H F (Grow.refl _ _) f hx⟩
    | bor d =>
      simp only [q] at h
      obtain ⟨rfl, _⟩ := so
      exact ⟨_, hx, h _ H F (Grow.refl _ _) f hx⟩
/-- a constant -/
def dC (d : D) : Ev := fun ρ => .ok (.val d) ρ
theorem ed_const {v : V} {d : D} (h : PE X e (tC v)) (r : ∀ F, Rep X.K F d v) : PE X e (tE X.K W (dC d)) :=
  h.weak fun σ H Q ⟨α, ρ, F, G, f, q⟩ => q v H F (Grow.refl _ _) f (r F)
theorem ed_int {i : Int} {j} : PE X (.Constant (.int i) j pos) (tE X.K W (dC (.int i))) := ed_const pe_int fun _ => rfl
theorem ed_bl {i : Bool} {j} : PE X (.Constant (.bool i) j pos) (tE X.K W (dC (.bl i))) := ed_const pe_bl fun _ => rfl
theorem ed_non {j} : PE X (.Constant .none j pos) (tE X.K W (dC .non)) := ed_const pe_non fun _ => rfl
theorem ed_str {x : Str} {j} : PE X (.Constant (.str x) j pos) (tE X.K W (dC (.str x))) := ed_const pe_str fun _ => rfl
/-- a module's constant -/
theorem ed_glob {x : Str} {v : V} {u : Value} {d : D} (hg : Gl X x) (hm : X.mg x = some u) (r : RelV v u) (rd : ∀ F, Rep X.K F d v) (hd : (x == ("__debug__" : Str)) = false := by decide) : PE X (.Name x pos) (tE X.K W (dC d)) := ed_const (pe_glob hg hm r hd) rd
/-- a built-in's name as a value -/
theorem ed_bltn {x : Str} {v : V} {u : Value} (hg : Gl X x) (hm : X.mg x = none) (hv : bootBuiltins x = some u) (r : RelV v u) (hn : x ≠ "__name__" := by decide) (hd : (x == ("__debug__" : Str)) = false := by decide) : PE X (.Name x pos) (tE X.K W (dC (.raw v))) := ed_const (pe_bltn hg hm hv r hn hd) fun _ => rfl
/-- two operands, an operator -/
def dOp2 (f : D → D → Option RV) (ga gb : Ev) : Ev := fun ρ => (ga ρ).settle.bind fun r1 ρ1 => (gb ρ1).settle.bind fun r2 ρ2 => match peek r1 ρ2, peek r2 ρ2 with
  | some x, some y => ER.of (f x y) ρ2
  | _, _ => .no
theorem ec_op2 {K : PySem.W.Frag} {r : V → V → Hp → VK → Prop} {f : D → D → Option RV} (o : Op2 K r f) {σ : L2.St} {H : Hp} {Q : VK} (h : tE K W (dOp2 f ga gb) σ H Q) : tE K W ga σ H fun x H1 => tE K W gb σ H1 fun y H2 => r x y H2 Q := by
  obtain ⟨α, ρ, F, G, ft, h⟩ := h
  refine ⟨α, ρ, F, G, ft, EC.bindS (fun r1 ρ1 v H1 F1 g1 f1 s1 h1 => ?_) h⟩
  refine ⟨α, ρ1, F1, G, f1, EC.bindS (fun r2 ρ2 u H2 F2 g2 f2 s2 h2 => ?_) h1⟩
  cases e1 : peek r1 ρ2 with
  | none => simp [e1, EC] at h2
  | some x =>
    cases e2 : peek r2 ρ2 with
    | none => simp [e1, e2, EC] at h2
    | some y =>
      simp only [e1, e2] at h2
      cases e3 : f x y with
      | none => simp [e3, ER.of, EC] at h2
      | some z =>
        simp only [e3, ER.of] at h2
        exact o F2 H2 x y v u z Q f2.fh (f2.peek (s1.mono g2.sub) e1) (f2.peek s2 e2) e3 (EC.op f2 h2)
theorem ed_bin {op : Operator} {r : R2} {f : D → D → Option RV} (ho : OpR X (binaryOp op) r) (o : Op2 X.K r f) (ha : PE X a (tE X.K W ga)) (hb : PE X b (tE X.K W gb)) : PE X (.BinOp a op b pos) (tE X.K W (dOp2 f ga gb)) :=
  (pe_op ho ha hb).weak fun _ _ _ h => ec_op2 o h
theorem ed_cmp {op : CmpOp} {r : R2} {f : D → D → Option RV} (ho : OpR X (compareOp op) r) (o : Op2 X.K r f) (ha : PE X a (tE X.K W ga)) (hb : PE X b (tE X.K W gb)) (hm : behindInMarks op b = false := by first | exact nomark _ | rfl) : PE X (.Compare a [op] [b] pos) (tE X.K W (dOp2 f ga gb)) :=
  (pe_cmpR ho ha hb hm).weak fun _ _ _ h => ec_op2 o h
theorem ed_ix {r : R2} {f : D → D → Option RV} (ho : IxR X r) (o : Op2 X.K r f) (ha : PE X a (tE X.K W ga)) (hb : PE X b (tE X.K W gb)) (hs : PlainIx b := by exact fun _ _ => rfl) : PE X (.Subscript a b pos) (tE X.K W (dOp2 f ga gb)) :=
  (pe_ix ho ha hb hs).weak fun _ _ _ h => ec_op2 o h
def dOp1 (f : D → Option RV) (ga : Ev) : Ev := fun ρ => (ga ρ).settle.bind fun r1 ρ1 => match peek r1 ρ1 with
  | some x => ER.of (f x) ρ1
  | _ => .no
theorem ec_op1 {K : PySem.W.Frag} {r : V → Hp → VK → Prop} {f : D → Option RV} (o : Op1 K r f) {σ : L2.St} {H : Hp} {Q : VK} (h : tE K W (dOp1 f ga) σ H Q) : tE K W ga σ H fun x H1 => r x H1 Q := by
  obtain ⟨α, ρ, F, G, ft, h⟩ := h
  refine ⟨α, ρ, F, G, ft, EC.bindS (fun r1 ρ1 v H1 F1 g1 f1 s1 h1 => ?_) h⟩
  cases e1 : peek r1 ρ1 with
  | none => simp [e1, EC] at h1
  | some x =>
    simp only [e1] at h1
    cases e3 : f x with
    | none => simp [e3, ER.of, EC] at h1
    | some z =>
      simp only [e3, ER.of] at h1
      exact o F1 H1 x v z Q f1.fh (f1.peek s1 e1) e3 (EC.op f1 h1)
theorem ed_un {op : UnaryOp} {r : V → Hp → VK → Prop} {f : D → Option RV} (ho : UnR X (unaryOp op) r) (o : Op1 X.K r f) (ha : PE X a (tE X.K W ga)) : PE X (.UnaryOp op a pos) (tE X.K W (dOp1 f ga)) :=
  (pe_un ho ha).weak fun _ _ _ h => ec_op1 o h
end
end DL

namespace DL
open PySem PySem.Spec L2
variable [HasW]

/-! ### tests -/
def BC (K : PySem.W.Frag) (W : WX) (α : Nat → Addr) (σ : L2.St) (F G : Hp) (Q : Bool → Hp → Prop) : ER → Prop
  | .ok (.val (.bl b)) ρ => ∀ H' F', Grow G F F' → Fits K α ρ σ H' F' G → Q b H'
  | .ok _ _ => False
  | .ex x ρ => ∀ cls d H' F', Grow G F F' → Fits K α ρ σ H' F' G → RepX K F' H' x cls d → W cls d σ H'
  | .no => False
def tT (K : PySem.W.Frag) (W : WX) (g : Ev) : TT := fun σ H Q => ∃ (α : Nat → Addr) (ρ : Env) (F G : Hp), Fits K α ρ σ H F G ∧ BC K W α σ F G Q (g ρ)
def truth : D → Option Bool
  | .non => some false
  | .bl b => some b
  | .int i => some (i != 0)
  | .str x => if x.length ≤ sizeLine then some ((x.length : Int) != 0) else none
  | .tup xs => some (!xs.isEmpty)
  | .lst xs => some (!xs.isEmpty)
  | .scr xs => some (!xs.isEmpty)
  | .dic _ _ => none
  | .dct _ _ => none
  | .raw _ => none
def dTru (g : Ev) : Ev := fun ρ => (g ρ).settle.bind fun r ρ1 => match peek r ρ1 with
  | some d => match truth d with
    | some b => .ok (.val (.bl b)) ρ1
    | none => .no
  | none => .no
def dNot (g : Ev) : Ev := fun ρ => (g ρ).bind fun r ρ1 => match r with
  | .val (.bl b) => .ok (.val (.bl (!b))) ρ1
  | _ => .no
def dAndT (g g2 : Ev) : Ev := fun ρ => (g ρ).bind fun r ρ1 => match r with
  | .val (.bl true) => g2 ρ1
  | .val (.bl false) => .ok (.val (.bl false)) ρ1
  | _ => .no
def dOrT (g g2 : Ev) : Ev := fun ρ => (g ρ).bind fun r ρ1 => match r with
  | .val (.bl true) => .ok (.val (.bl true)) ρ1
  | .val (.bl false) => g2 ρ1
  | _ => .no
theorem Reps.isEmpty {K : PySem.W.Frag} {F : Hp} {ds : List D} {vs : List V} (r : Reps K F ds vs) : vs.isEmpty = ds.isEmpty := by
  cases ds with
  | nil => cases r; rfl
  | cons d ds => obtain ⟨v, t, rfl, _⟩ := r; rfl
theorem View.tru {K : PySem.W.Frag} {F H : Hp} (s : Sub F H) : ∀ {d : D} {v : V} {b : Bool}, View K F H d v → truth d = some b → TruV K v H b
  | .non, _, b, h, e => by cases h; cases e; rfl
  | .bl _, _, b, h, e => by cases h; cases e; rfl
  | .int _, _, b, h, e => by cases h; cases e; rfl
  | .raw _, _, b, h, e => by cases e
  | .dct _ _, _, b, h, e => by cases e
  | .str x, _, b, h, e => by
    cases h
    have e' : (if x.length ≤ sizeLine then some ((x.length : Int) != 0) else none) = some b := e
    by_cases hl : x.length ≤ sizeLine
    · rw [if_pos hl] at e'
      cases e'
      exact ⟨hl, rfl⟩
    · rw [if_neg hl] at e'
      cases e'
  | .tup xs, _, b, h, e => by
    obtain ⟨a, vs, rfl, q, r⟩ := h
    cases e
    exact .inr (.inl ⟨vs, s.sqT q, by rw [r.isEmpty]⟩)
  | .lst xs, _, b, h, e => by
    obtain ⟨a, vs, rfl, q, r⟩ := h
    cases e
    exact .inl ⟨vs, SqL.of q, by rw [r.isEmpty]⟩
  | .scr xs, _, b, h, e => by
    obtain ⟨a, vs, rfl, q, r⟩ := h
    cases e
    exact .inl ⟨vs, s.sqL q, by rw [r.isEmpty]⟩
  | .dic _ _, _, b, h, e => by cases e
section
variable {K : PySem.W.Frag} {W : WX} {α : Nat → Addr} {ρ : Env} {σ : L2.St} {H F G H' F' : Hp} {Q : Bool → Hp → Prop}
theorem BC.mono (g : Grow G F F') {e : ER} (h : BC K W α σ F G Q e) : BC K W α σ F' G Q e := by
  cases e with
  | no => exact h
  | ex x ρ => exact fun c d H1 F1 g1 f1 r1 => h c d H1 F1 (g.trans g1) f1 r1
  | ok r ρ =>
    cases r with
    | loc i => exact h
    | new d => exact h
    | val d =>
      cases d with
      | bl b => exact fun H1 F1 g1 f1 => h H1 F1 (g.trans g1) f1
      | _ => exact h
/-- an expression, then a test -/
theorem EC.bindB {k : RV → Env → ER} {R : V → Hp → Prop} (hk : ∀ r ρ1, ∀ v H1 F1, Grow G F F1 → Fits K α ρ1 σ H1 F1 G → SRep K F1 σ r v → BC K W α σ F1 G Q (k r ρ1) → R v H1) :
    ∀ {e : ER}, BC K W α σ F G Q (e.settle.bind k) → EC K W α σ F G R e
  | .ok r ρ1, h => fun v H1 F1 g1 f1 r1 => by
    obtain ⟨F2, g2, f2, s2⟩ := r1.settle f1
    exact hk r.settle ρ1 v H1 F2 (g1.trans g2) f2 s2 (BC.mono (g1.trans g2) h)
  | .ex x ρ1, h => h
  | .no, h => h
/-- a test, then a test -/
theorem BC.bindB {k : RV → Env → ER} {R : Bool → Hp → Prop} (hn : ∀ r ρ1, (∀ b, r ≠ .val (.bl b)) → k r ρ1 = .no) (hk : ∀ b ρ1, ∀ H1 F1, Grow G F F1 → Fits K α ρ1 σ H1 F1 G → BC K W α σ F1 G Q (k (.val (.bl b)) ρ1) → R b H1)
    {e : ER} (h : BC K W α σ F G Q (e.bind k)) : BC K W α σ F G R e := by
  cases e with
  | no => exact h
  | ex x ρ1 => exact h
  | ok r ρ1 =>
    have h' : BC K W α σ F G Q (k r ρ1) := h
    by_cases q : ∃ b, r = .val (.bl b)
    · obtain ⟨b, rfl⟩ := q
      exact fun H1 F1 g1 f1 => hk b ρ1 H1 F1 g1 f1 (BC.mono g1 h')
    · rw [hn r ρ1 fun b z => q ⟨b, z⟩] at h'
      exact h'.elim
/-- a test, then an expression -/
theorem BC.bindE {Q : VK} {k : RV → Env → ER} {R : Bool → Hp → Prop} (hn : ∀ r ρ1, (∀ b, r ≠ .val (.bl b)) → k r ρ1 = .no) (hk : ∀ b ρ1, ∀ H1 F1, Grow G F F1 → Fits K α ρ1 σ H1 F1 G → EC K W α σ F1 G Q (k (.val (.bl b)) ρ1) → R b H1)
    {e : ER} (h : EC K W α σ F G Q (e.bind k)) : BC K W α σ F G R e := by
  cases e with
  | no => exact h
  | ex x ρ1 => exact h
  | ok r ρ1 =>
    have h' : EC K W α σ F G Q (k r ρ1) := h
    by_cases q : ∃ b, r = .val (.bl b)
    · obtain ⟨b, rfl⟩ := q
      exact fun H1 F1 g1 f1 => hk b ρ1 H1 F1 g1 f1 (EC.mono g1 h')
    · rw [hn r ρ1 fun b z => q ⟨b, z⟩] at h'
      exact h'.elim
end
section
variable {X : Cx} {W : WX} {e a b : Expr} {g ga gb gc : Ev} {pos : Pos} {rest : List Expr}
theorem bc_tru {K : PySem.W.Frag} {σ : L2.St} {H : Hp} {Q : Bool → Hp → Prop} (h : tT K W (dTru g) σ H Q) : tE K W g σ H fun x H1 => ∃ k, TruV K x H1 k ∧ Q k H1 := by
  obtain ⟨α, ρ, F, G, f, h⟩ := h
  refine ⟨α, ρ, F, G, f, EC.bindB (fun r ρ1 v H1 F1 g1 f1 s1 h1 => ?_) h⟩
  cases e1 : peek r ρ1 with
  | none => simp [e1, BC] at h1
  | some d =>
    simp only [e1] at h1
    cases e2 : truth d with
    | none => simp [e2, BC] at h1
    | some b =>
      simp only [e2] at h1
      exact ⟨b, (f1.peek s1 e1).tru f1.fh e2, h1 H1 F1 (Grow.refl _ _) f1⟩
theorem td_truth (ha : PE X a (tE X.K W g)) (he : ∀ whole, isTrue a X.env whole = (do let v ← whole; standAt a.pos; holding [v] (truthy v)) := by intro _; rfl) : PT X a (tT X.K W (dTru g)) :=
  (pt_truth ha he).weak fun _ _ _ h => bc_tru h
theorem TruV.of_bool {K : PySem.W.Frag} {H : Hp} {k c : Bool} (h : TruV K (.bl c) H k) : c = k := by cases h; rfl
theorem td_cmp {op : CmpOp} {r : R2} {f : D → D → Option RV} (ho : OpR X (compareOp op) r) (o : Op2 X.K r f) (hf : ∀ x y z, f x y = some z → ∃ c, z = .val (.bl c)) (ha : PE X a (tE X.K W ga)) (hb : PE X b (tE X.K W gb)) (hm : behindInMarks op b = false := by first | exact nomark _ | rfl) :
    PT X (.Compare a [op] [b] pos) (tT X.K W (dOp2 f ga gb)) := by
  refine (pt_cmpR ho ha hb hm).weak fun σ H Q h => ?_
  obtain ⟨α, ρ, F, G, ft, h⟩ := h
  refine ec_op2 (Q := fun x H' => ∃ k, x = .bl k ∧ Q k H') o ⟨α, ρ, F, G, ft, ?_⟩
  -- the comparison's end is a bool
  have key : ∀ {e : ER}, (∀ r ρ', e = .ok r ρ' → ∃ c, r = .val (.bl c)) → BC X.K W α σ F G Q e → EC X.K W α σ F G (fun x H' => ∃ k, x = .bl k ∧ Q k H') e := by
    intro e he hb
    cases e with
    | no => exact hb
    | ex x ρ1 => exact hb
    | ok r ρ1 =>
      obtain ⟨c, rfl⟩ := he r ρ1 rfl
      exact fun v H1 F1 g1 f1 r1 => ⟨c, r1, hb H1 F1 g1 f1⟩
  refine key (fun r ρ' q => ?_) h
  unfold dOp2 at q
  cases e1 : (ga ρ).settle with
  | no => simp [e1, ER.bind] at q
  | ex x ρ1 => simp [e1, ER.bind] at q
  | ok r1 ρ1 =>
    simp only [e1, ER.bind] at q
    cases e2 : (gb ρ1).settle with
    | no => simp [e2] at q
    | ex x ρ1 => simp [e2] at q
    | ok r2 ρ2 =>
      simp only [e2] at q
      cases e3 : peek r1 ρ2 with
      | none => simp [e3] at q
      | some x =>
        cases e4 : peek r2 ρ2 with
        | none => simp [e3, e4] at q
        | some y =>
          simp only [e3, e4] at q
          cases e5 : f x y with
          | none => simp [e5, ER.of] at q
          | some z =>
            simp only [e5, ER.of] at q
            obtain ⟨c, hc⟩ := hf x y z e5
            cases q
            exact ⟨c, hc⟩
theorem td_not (ha : PT X a (tT X.K W g)) : PT X (.UnaryOp .Not a pos) (tT X.K W (dNot g)) := by
  refine (pt_not ha).weak fun σ H Q ⟨α, ρ, F, G, f, h⟩ => ⟨α, ρ, F, G, f, BC.bindB (fun r ρ1 hr => ?_) (fun b ρ1 H1 F1 g1 f1 h1 => ?_) h⟩
  · cases r with
    | val d =>
      cases d with
      | bl b => exact absurd rfl (hr b)
      | _ => rfl
    | _ => rfl
  · exact h1 H1 F1 (Grow.refl _ _) f1
theorem tw_and1 (ha : PT X a (tT X.K W g)) : PW X (.BoolOp .And [a] pos) (tT X.K W g) := pw_and1 ha
theorem tw_or1 (ha : PT X a (tT X.K W g)) : PW X (.BoolOp .Or [a] pos) (tT X.K W g) := pw_or1 ha
theorem tw_and (ha : PT X a (tT X.K W ga)) (hb : PW X (.BoolOp .And (b :: rest) pos) (tT X.K W gb)) : PW X (.BoolOp .And (a :: b :: rest) pos) (tT X.K W (dAndT ga gb)) := by
  refine (pw_and ha hb).weak fun σ H Q ⟨α, ρ, F, G, f, h⟩ => ⟨α, ρ, F, G, f, BC.bindB (fun r ρ1 hr => ?_) (fun b ρ1 H1 F1 g1 f1 h1 => ?_) h⟩
  · cases r with
    | val d =>
      cases d with
      | bl b => exact absurd rfl (hr b)
      | _ => rfl
    | _ => rfl
  · cases b with
    | true => exact iteT ⟨α, ρ1, F1, G, f1, h1⟩
    | false => exact iteF (h1 H1 F1 (Grow.refl _ _) f1)
theorem tw_or (ha : PT X a (tT X.K W ga)) (hb : PW X (.BoolOp .Or (b :: rest) pos) (tT X.K W gb)) : PW X (.BoolOp .Or (a :: b :: rest) pos) (tT X.K W (dOrT ga gb)) := by
  refine (pw_or ha hb).weak fun σ H Q ⟨α, ρ, F, G, f, h⟩ => ⟨α, ρ, F, G, f, BC.bindB (fun r ρ1 hr => ?_) (fun b ρ1 H1 F1 g1 f1 h1 => ?_) h⟩
  · cases r with
    | val d =>
      cases d with
      | bl b => exact absurd rfl (hr b)
      | _ => rfl
    | _ => rfl
  · cases b with
    | true => exact iteT (h1 H1 F1 (Grow.refl _ _) f1)
    | false => exact iteF ⟨α, ρ1, F1, G, f1, h1⟩
/-- not x, as a value -/
def dNotV (g : Ev) : Ev := fun ρ => (g ρ).settle.bind fun r ρ1 => match peek r ρ1 with
  | some d => match truth d with
    | some b => .ok (.val (.bl (!b))) ρ1
    | none => .no
  | none => .no
theorem ed_not (ha : PE X a (tE X.K W g)) : PE X (.UnaryOp .Not a pos) (tE X.K W (dNotV g)) := by
  refine (pe_notT ha).weak fun σ H Q ⟨α, ρ, F, G, f, h⟩ => ⟨α, ρ, F, G, f, EC.bindS (fun r ρ1 v H1 F1 g1 f1 s1 h1 => ?_) h⟩
  cases e1 : peek r ρ1 with
  | none => simp [e1, EC] at h1
  | some d =>
    simp only [e1] at h1
    cases e2 : truth d with
    | none => simp [e2, EC] at h1
    | some b =>
      simp only [e2] at h1
      exact ⟨b, (f1.peek s1 e1).tru f1.fh e2, h1 _ H1 F1 (Grow.refl _ _) f1 rfl⟩
/-- x and y, x or y, as values -/
def dAndV (ga gb : Ev) : Ev := fun ρ => (ga ρ).settle.bind fun r ρ1 => match peek r ρ1 with
  | some d => match truth d with
    | some true => gb ρ1
    | some false => .ok r ρ1
    | none => .no
  | none => .no
def dOrV (ga gb : Ev) : Ev := fun ρ => (ga ρ).settle.bind fun r ρ1 => match peek r ρ1 with
  | some d => match truth d with
    | some true => .ok r ρ1
    | some false => gb ρ1
    | none => .no
  | none => .no
theorem ed_one {op} (ha : PE X a (tE X.K W g)) : PE X (.BoolOp op [a] pos) (tE X.K W g) := pe_one ha
theorem ed_and (ha : PE X a (tE X.K W ga)) (hb : PE X (.BoolOp .And (b :: rest) pos) (tE X.K W gb)) : PE X (.BoolOp .And (a :: b :: rest) pos) (tE X.K W (dAndV ga gb)) := by
  refine (pe_andT ha hb).weak fun σ H Q ⟨α, ρ, F, G, f, h⟩ => ⟨α, ρ, F, G, f, EC.bindS (fun r ρ1 v H1 F1 g1 f1 s1 h1 => ?_) h⟩
  cases e1 : peek r ρ1 with
  | none => simp [e1, EC] at h1
  | some d =>
    simp only [e1] at h1
    cases e2 : truth d with
    | none => simp [e2, EC] at h1
    | some b =>
      simp only [e2] at h1
      refine ⟨b, (f1.peek s1 e1).tru f1.fh e2, ?_⟩
      cases b with
      | true => exact iteT ⟨α, ρ1, F1, G, f1, h1⟩
      | false => exact iteF (h1 v H1 F1 (Grow.refl _ _) f1 s1.rrep)
theorem ed_or (ha : PE X a (tE X.K W ga)) (hb : PE X (.BoolOp .Or (b :: rest) pos) (tE X.K W gb)) : PE X (.BoolOp .Or (a :: b :: rest) pos) (tE X.K W (dOrV ga gb)) := by
  refine (pe_orT ha hb).weak fun σ H Q ⟨α, ρ, F, G, f, h⟩ => ⟨α, ρ, F, G, f, EC.bindS (fun r ρ1 v H1 F1 g1 f1 s1 h1 => ?_) h⟩
  cases e1 : peek r ρ1 with
  | none => simp [e1, EC] at h1
  | some d =>
    simp only [e1] at h1
    cases e2 : truth d with
    | none => simp [e2, EC] at h1
    | some b =>
      simp only [e2] at h1
      refine ⟨b, (f1.peek s1 e1).tru f1.fh e2, ?_⟩
      cases b with
      | true => exact iteT (h1 v H1 F1 (Grow.refl _ _) f1 s1.rrep)
      | false => exact iteF ⟨α, ρ1, F1, G, f1, h1⟩
/-- a if t else b -/
def dIf (gc ga gb : Ev) : Ev := fun ρ => (gc ρ).bind fun r ρ1 => match r with
  | .val (.bl true) => ga ρ1
  | .val (.bl false) => gb ρ1
  | _ => .no
theorem dIf_no {ga gb : Ev} (r : RV) (ρ1 : Env) (hr : ∀ b, r ≠ .val (.bl b)) : (match r with
  | .val (.bl true) => ga ρ1
  | .val (.bl false) => gb ρ1
  | _ => ER.no) = .no := by
  cases r with
  | val d =>
    cases d with
    | bl b => exact absurd rfl (hr b)
    | _ => rfl
  | _ => rfl
theorem ed_if {c : Expr} (hc : PT X c (tT X.K W gc)) (ha : PE X a (tE X.K W ga)) (hb : PE X b (tE X.K W gb)) : PE X (.IfExp c a b pos) (tE X.K W (dIf gc ga gb)) := by
  refine (pe_ifExp hc ha hb).weak fun σ H Q ⟨α, ρ, F, G, f, h⟩ => ⟨α, ρ, F, G, f, BC.bindE dIf_no (fun b ρ1 H1 F1 g1 f1 h1 => ?_) h⟩
  cases b with
  | true => exact iteT ⟨α, ρ1, F1, G, f1, h1⟩
  | false => exact iteF ⟨α, ρ1, F1, G, f1, h1⟩
/-- a < b < c -/
def dChain (f f' : D → D → Option RV) (ga gb gc : Ev) : Ev := fun ρ => (ga ρ).settle.bind fun r1 ρ1 => (gb ρ1).settle.bind fun r2 ρ2 => match peek r1 ρ2, peek r2 ρ2 with
  | some x, some y => match f x y with
    | some (.val (.bl true)) => (gc ρ2).settle.bind fun r3 ρ3 => match peek r2 ρ3, peek r3 ρ3 with
      | some y', some z => ER.of (f' y' z) ρ3
      | _, _ => .no
    | some (.val (.bl false)) => .ok (.val (.bl false)) ρ2
    | _ => .no
  | _, _ => .no
theorem ec_chain {K : PySem.W.Frag} {r r' : R2} {f f' : D → D → Option RV} (o : Op2 K r f) (o' : Op2 K r' f') {σ : L2.St} {H : Hp} {Q : VK} (h : tE K W (dChain f f' ga gb gc) σ H Q) : tChain r r' (tE K W ga) (tE K W gb) (tE K W gc) σ H Q := by
  obtain ⟨α, ρ, F, G, ft, h⟩ := h
  refine ⟨α, ρ, F, G, ft, EC.bindS (fun r1 ρ1 v H1 F1 g1 f1 s1 h1 => ?_) h⟩
  refine ⟨α, ρ1, F1, G, f1, EC.bindS (fun r2 ρ2 u H2 F2 g2 f2 s2 h2 => ?_) h1⟩
  cases e1 : peek r1 ρ2 with
  | none => simp [e1, EC] at h2
  | some x =>
    cases e2 : peek r2 ρ2 with
    | none => simp [e1, e2, EC] at h2
    | some y =>
      simp only [e1, e2] at h2
      cases e3 : f x y with
      | none => simp [e3, EC] at h2
      | some z =>
        have big : ∀ {c : Bool}, z = .val (.bl c) → r v u H2 fun z H3 => ∃ k, z = .bl k ∧ (if k = true then tE K W gc σ H3 fun w' H4 => r' u w' H4 Q else Q (.bl false) H3) := fun {c} hz => by
          refine o F2 H2 x y v u z _ f2.fh (f2.peek (s1.mono g2.sub) e1) (f2.peek s2 e2) e3 fun w H3 F3 ex or => ?_
          subst hz
          refine ⟨c, or, ?_⟩
          have f3 := f2.ext ex
          have g3 := f2.grow ex
          cases c with
          | true =>
            simp only [e3] at h2
            refine iteT ⟨α, ρ2, F3, G, f3, EC.bindS (fun r3 ρ3 w4 H4 F4 g4 f4 s4 h4 => ?_) (EC.mono g3 h2)⟩
            cases e4 : peek r2 ρ3 with
            | none => simp [e4, EC] at h4
            | some y' =>
              cases e5 : peek r3 ρ3 with
              | none => simp [e4, e5, EC] at h4
              | some z' =>
                simp only [e4, e5] at h4
                cases e6 : f' y' z' with
                | none => simp [e6, ER.of, EC] at h4
                | some z3 =>
                  simp only [e6, ER.of] at h4
                  exact o' F4 H4 y' z' u w4 z3 Q f4.fh (f4.peek (s2.mono (g3.trans g4).sub) e4) (f4.peek s4 e5) e6 (EC.op f4 h4)
          | false =>
            simp only [e3] at h2
            exact iteF (h2 _ H3 F3 g3 f3 rfl)
        cases z with
        | loc i => simp [e3, EC] at h2
        | new d => simp [e3, EC] at h2
        | val d =>
          cases d with
          | bl c => exact big rfl
          | _ => simp [e3, EC] at h2
theorem ed_chain {op op' : CmpOp} {r r' : R2} {f f' : D → D → Option RV} {c : Expr} (ho : OpR X (compareOp op) r) (ho' : OpR X (compareOp op') r') (o : Op2 X.K r f) (o' : Op2 X.K r' f') (ha : PE X a (tE X.K W ga)) (hb : PE X b (tE X.K W gb)) (hc : PE X c (tE X.K W gc))
    (h2 : PE X (.Compare a [op, op'] [b, c] pos) (tChain r r' (tE X.K W ga) (tE X.K W gb) (tE X.K W gc))) : PE X (.Compare a [op, op'] [b, c] pos) (tE X.K W (dChain f f' ga gb gc)) :=
  h2.weak fun _ _ _ h => ec_chain o o' h
/-- its value is a bool -/
def dBool (g : Ev) : Ev := fun ρ => (g ρ).bind fun r ρ1 => match r with
  | .val (.bl b) => .ok (.val (.bl b)) ρ1
  | _ => .no
theorem bc_bool {K : PySem.W.Frag} {σ : L2.St} {H : Hp} {Q : Bool → Hp → Prop} (h : tT K W (dBool g) σ H Q) : tE K W g σ H fun x H1 => ∃ k, x = .bl k ∧ Q k H1 := by
  obtain ⟨α, ρ, F, G, f, h⟩ := h
  refine ⟨α, ρ, F, G, f, ?_⟩
  unfold dBool at h
  cases e : g ρ with
  | no => rw [e] at h; exact h
  | ex x ρ1 => rw [e] at h; exact h
  | ok r ρ1 =>
    rw [e] at h
    cases r with
    | loc i => exact h.elim
    | new d => exact h.elim
    | val d =>
      cases d with
      | bl b => exact fun v H1 F1 g1 f1 r1 => ⟨b, r1, h H1 F1 g1 f1⟩
      | _ => exact h.elim
theorem td_chain {op op' : CmpOp} {r r' : R2} {f f' : D → D → Option RV} {c : Expr} (o : Op2 X.K r f) (o' : Op2 X.K r' f')
    (h2 : PT X (.Compare a [op, op'] [b, c] pos) (tTest (tChain r r' (tE X.K W ga) (tE X.K W gb) (tE X.K W gc)))) : PT X (.Compare a [op, op'] [b, c] pos) (tT X.K W (dBool (dChain f f' ga gb gc))) :=
  h2.weak fun _ _ _ h => ec_chain o o' (bc_bool h)
end

/-! ### arguments -/
inductive AR where | ok (rs : List RV) (ρ : Env) | ex (x : Exn) (ρ : Env) | no
abbrev Av := Env → AR
def AC (K : PySem.W.Frag) (W : WX) (α : Nat → Addr) (σ : L2.St) (F G : Hp) (Q : List V → Hp → Prop) : AR → Prop
  | .ok rs ρ => ∀ vs H' F', Grow G F F' → Fits K α ρ σ H' F' G → SReps K F' σ rs vs → Q vs H'
  | .ex x ρ => ∀ cls d H' F', Grow G F F' → Fits K α ρ σ H' F' G → RepX K F' H' x cls d → W cls d σ H'
  | .no => False
def tA (K : PySem.W.Frag) (W : WX) (g : Av) : TA := fun σ H Q => ∃ (α : Nat → Addr) (ρ : Env) (F G : Hp), Fits K α ρ σ H F G ∧ AC K W α σ F G Q (g ρ)
def dNil : Av := fun ρ => .ok [] ρ
def dCons (g : Ev) (gs : Av) : Av := fun ρ => match (g ρ).settle with
  | .ok r ρ1 => match gs ρ1 with
    | .ok rs ρ2 => .ok (r :: rs) ρ2
    | .ex x ρ2 => .ex x ρ2
    | .no => .no
  | .ex x ρ1 => .ex x ρ1
  | .no => .no
section
variable {X : Cx} {W : WX} {e : Expr} {es : List Expr} {g : Ev} {gs : Av} {pos : Pos}
theorem ad_nil : PA X [] (tA X.K W dNil) := pa_nil.weak fun σ H Q ⟨α, ρ, F, G, f, h⟩ => h [] H F (Grow.refl _ _) f rfl
theorem ad_cons (ha : PE X e (tE X.K W g)) (hr : PA X es (tA X.K W gs)) (hs : starEach (e :: es) X.env = (false, eval e X.env) :: starEach es X.env := by rfl) : PA X (e :: es) (tA X.K W (dCons g gs)) := by
  refine (pa_cons ha hr hs).weak fun σ H Q ⟨α, ρ, F, G, f, h⟩ => ⟨α, ρ, F, G, f, EC.settle ?_⟩
  unfold dCons at h
  cases e1 : (g ρ).settle with
  | no => simp [e1, AC] at h
  | ex x ρ1 => simp only [e1] at h; exact h
  | ok r ρ1 =>
    simp only [e1] at h
    intro v H1 F1 g1 f1 r1
    have rs : r.settle = r := by
      cases q : g ρ with
      | no => rw [q] at e1; cases e1
      | ex x ρ => rw [q] at e1; cases e1
      | ok r0 ρ0 =>
        rw [q] at e1
        have e2 : r0.settle = r := by cases e1; rfl
        rw [← e2]
        cases r0 <;> rfl
    have s1 : SRep X.K F1 σ r v := by
      rw [← rs] at r1 ⊢
      exact settle_srep r1
    refine ⟨α, ρ1, F1, G, f1, ?_⟩
    cases e2 : gs ρ1 with
    | no => simp [e2, AC] at h
    | ex x ρ2 =>
      simp only [e2] at h
      exact fun c d H2 F2 g2 f2 x2 => h c d H2 F2 (g1.trans g2) f2 x2
    | ok rs' ρ2 =>
      simp only [e2] at h
      exact fun vs H2 F2 g2 f2 r2 => h (v :: vs) H2 F2 (g1.trans g2) f2 ⟨v, vs, rfl, s1.mono g2.sub, r2⟩
/-- what is made of the arguments -/
def dFz (gs : Av) (k : List D → Env → ER) : Ev := fun ρ => match gs ρ with
  | .ok rs ρ1 => match frzs rs ρ1 with
    | some (ds, ρ2) => k ds ρ2
    | none => .no
  | .ex x ρ1 => .ex x ρ1
  | .no => .no
theorem ac_fz {K : PySem.W.Frag} {k : List D → Env → ER} {σ : L2.St} {H : Hp} {Q : VK} {R : List V → Hp → Prop} (h : tE K W (dFz gs k) σ H Q)
    (hk : ∀ (α : Nat → Addr) (ρ2 : Env) (F G H1 : Hp) ds vs, Fits K α ρ2 σ H1 F G → Reps K F ds vs → EC K W α σ F G Q (k ds ρ2) → R vs H1) : tA K W gs σ H R := by
  obtain ⟨α, ρ, F, G, f, h⟩ := h
  refine ⟨α, ρ, F, G, f, ?_⟩
  unfold dFz at h
  cases e1 : gs ρ with
  | no => simp [e1, EC] at h
  | ex x ρ1 => simp only [e1] at h; exact h
  | ok rs ρ1 =>
    simp only [e1] at h
    intro vs H1 F1 g1 f1 s1
    cases e2 : frzs rs ρ1 with
    | none => simp [e2, EC] at h
    | some w =>
      obtain ⟨ds, ρ2⟩ := w
      simp only [e2] at h
      obtain ⟨F2, g2, f2, r2⟩ := Fits.frzs f1 s1 e2
      exact hk α ρ2 F2 G H1 ds vs f2 r2 (EC.mono (g1.trans g2) h)
def dTup (gs : Av) : Ev := dFz gs fun ds ρ => if ds.length ≤ 1000 then .ok (.val (.tup ds)) ρ else .no
def dLst (gs : Av) : Ev := dFz gs fun ds ρ => if ds.length ≤ 1000 then .ok (.new (.lst ds)) ρ else .no
theorem le_line {n : Nat} (h : n ≤ 1000) : n ≤ sizeLine := Nat.le_of_lt (small1000 h)
theorem ed_tup {x1} (h : PA X es (tA X.K W gs)) : PE X (.Tuple es x1 pos) (tE X.K W (dTup gs)) := by
  refine (pe_tup h).weak fun σ H Q q => ac_fz q fun α ρ2 F G H1 ds vs f r hh => ?_
  by_cases hl : ds.length ≤ 1000
  · rw [if_pos hl] at hh
    refine ⟨by rw [r.length]; exact le_line hl, fun p hp => ?_⟩
    have ex : Ext H1 F (upd H1 p (.tup vs)) (upd F p (.tup vs)) := Ext.alloc f.fh hp
    exact hh _ _ _ (f.grow ex) (f.ext ex) ⟨p, vs, rfl, SqT.of upd_same, Reps.mono ex.ff _ _ r⟩
  · rw [if_neg hl] at hh
    exact hh.elim
theorem ed_lst (h : PA X es (tA X.K W gs)) : PE X (.List es pos) (tE X.K W (dLst gs)) := by
  refine (pe_lst h).weak fun σ H Q q => ac_fz q fun α ρ2 F G H1 ds vs f r hh => ?_
  by_cases hl : ds.length ≤ 1000
  · rw [if_pos hl] at hh
    refine ⟨by rw [r.length]; exact le_line hl, fun p hp => ?_⟩
    have ex : Ext H1 F (upd H1 p (.lst vs)) F := Ext.allocO f.fh hp
    exact EC.op f hh _ _ _ ex ⟨p, rfl, hp, f.fh.free hp, vs, upd_same, r⟩
  · rw [if_neg hl] at hh
    exact hh.elim
/-- a built-in's call -/
def dB (f : List D → Option RV) (gs : Av) : Ev := fun ρ => match gs ρ with
  | .ok rs ρ1 => match peeks rs ρ1 with
    | some ds => ER.of (f ds) ρ1
    | none => .no
  | .ex x ρ1 => .ex x ρ1
  | .no => .no
theorem ec_b {K : PySem.W.Frag} {r : List V → Hp → VK → Prop} {f : List D → Option RV} (o : OpN K r f) {σ : L2.St} {H : Hp} {Q : VK} (h : tE K W (dB f gs) σ H Q) : tA K W gs σ H fun vs H1 => r vs H1 Q := by
  obtain ⟨α, ρ, F, G, ft, h⟩ := h
  refine ⟨α, ρ, F, G, ft, ?_⟩
  unfold dB at h
  cases e1 : gs ρ with
  | no => simp [e1, EC] at h
  | ex x ρ1 => simp only [e1] at h; exact h
  | ok rs ρ1 =>
    simp only [e1] at h
    intro vs H1 F1 g1 f1 s1
    cases e2 : peeks rs ρ1 with
    | none => simp [e2, EC] at h
    | some ds =>
      simp only [e2] at h
      cases e3 : f ds with
      | none => simp [e3, ER.of, EC] at h
      | some z =>
        simp only [e3, ER.of] at h
        exact o F1 H1 ds vs z Q f1.fh (f1.peeks s1 e2) e3 (EC.op f1 (EC.mono g1 h))
theorem ed_callB {x : Str} {p : Pos} {id : String} {r : List V → Hp → VK → Prop} {f : List D → Option RV} (hc : CallR X (.builtin id) r) (o : OpN X.K r f) (hg : Gl X x) (hm : X.mg x = none) (hv : bootBuiltins x = some (.builtin id)) (ha : PA X (e :: es) (tA X.K W gs)) (hn : x ≠ "__name__" := by decide) (hdb : (x == ("__debug__" : Str)) = false := by decide)
    (he : starEach (e :: es) X.env = (false, eval e X.env) :: starEach es X.env := by rfl) (hpl : (backTo pos (starEach es X.env)).any (·.1) = false := by rfl) : PE X (.Call (.Name x p) (e :: es) [] pos) (tE X.K W (dB f gs)) :=
  (pe_callB hc hg hm hv ha hn hdb he hpl).weak fun _ _ _ h => ec_b o h
theorem ed_callTy {x : Str} {p : Pos} {T : String} {r : List V → Hp → VK → Prop} {f : List D → Option RV} (hc : CallR X (.type T) r) (o : OpN X.K r f) (hg : Gl X x) (hm : X.mg x = none) (hv : bootBuiltins x = some (.type T)) (ha : PA X (e :: es) (tA X.K W gs)) (hn : x ≠ "__name__" := by decide) (hdb : (x == ("__debug__" : Str)) = false := by decide)
    (he : starEach (e :: es) X.env = (false, eval e X.env) :: starEach es X.env := by rfl) (hpl : (backTo pos (starEach es X.env)).any (·.1) = false := by rfl) : PE X (.Call (.Name x p) (e :: es) [] pos) (tE X.K W (dB f gs)) :=
  (pe_callTy hc hg hm hv ha hn hdb he hpl).weak fun _ _ _ h => ec_b o h
end
end DL

namespace DL
open PySem PySem.Spec L2
variable [HasW]

/-! ### a def by what it computes -/
inductive DR where | ok (r : RV) (outs : List D) | ex (x : Exn) (outs : List D) | no
/-- the parameters' slots: true: lent -/
def argEnv : List Bool → List D → Env
  | true :: ms, d :: ds => .bor d :: argEnv ms ds
  | false :: ms, d :: ds => .val d :: argEnv ms ds
  | _, _ => []
theorem argEnv_length : ∀ {ms : List Bool} {ds : List D}, ds.length = ms.length → (argEnv ms ds).length = ms.length
  | [], [], _ => rfl
  | true :: ms, d :: ds, h => by simp [argEnv, argEnv_length (ms := ms) (ds := ds) (by simpa using h)]
  | false :: ms, d :: ds, h => by simp [argEnv, argEnv_length (ms := ms) (ds := ds) (by simpa using h)]
  | [], _ :: _, h => by simp at h
  | _ :: _, [], h => by simp at h
def DC (K : PySem.W.Frag) (ms : List Bool) (α : Nat → Addr) (vs : List V) (F G : Hp) (Q : VK) (E : XK) : DR → Prop
  | .ok r outs => ∀ v H' F', Grow G F F' → outs.length = ms.length → Fits K α (argEnv ms outs) (vs.map some) H' F' G → RRep K F' G H' (vs.map some) (argEnv ms outs) r v → Q v H'
  | .ex x outs => ∀ cls d H' F', Grow G F F' → outs.length = ms.length → Fits K α (argEnv ms outs) (vs.map some) H' F' G → RepX K F' H' x cls d → E cls d H'
  | .no => False
/-- the promise of a def that computes f -/
def spD (K : PySem.W.Frag) (ms : List Bool) (f : List D → DR) : Sp := fun vs H Q E => ∃ (α : Nat → Addr) (F G : Hp) (ds : List D), ds.length = ms.length ∧ Fits K α (argEnv ms ds) (vs.map some) H F G ∧ DC K ms α vs F G Q E (f ds)
theorem spD_len {K : PySem.W.Frag} {ms : List Bool} {f : List D → DR} (vs : List V) (H : Hp) (Q : VK) (E : XK) (h : spD K ms f vs H Q E) : vs.length = ms.length := by
  obtain ⟨α, F, G, ds, hl, ft, _⟩ := h
  have := ft.len
  rw [List.length_map, argEnv_length hl] at this
  exact this

/-- the arguments of a call: lent ones stand in a name's slot -/
def passes : List Bool → List RV → Env → Option (List D × Env)
  | [], [], ρ => some ([], ρ)
  | false :: ms, r :: rs, ρ => match frz r ρ with
    | some (d, ρ1) => match passes ms rs ρ1 with
      | some (ds, ρ2) => some (d :: ds, ρ2)
      | none => none
    | none => none
  | true :: ms, .loc i :: rs, ρ => match passes ms rs ρ with
    | some (ds, ρ2) => match ρ2[i]? with
      | some (.own d) => some (d :: ds, ρ2)
      | some (.bor d) => some (d :: ds, ρ2)
      | _ => none
    | none => none
  | _, _, _ => none
def lents : List Bool → List RV → List Nat
  | true :: ms, .loc i :: rs => i :: lents ms rs
  | _ :: ms, _ :: rs => lents ms rs
  | _, _ => []
def setO (ρ : Env) (i : Nat) (d : D) : Env := match ρ[i]? with
  | some (.own _) => ρ.set i (.own d)
  | some (.bor _) => ρ.set i (.bor d)
  | _ => ρ
def backs : List Bool → List RV → List D → Env → Env
  | true :: ms, .loc i :: rs, d :: ds, ρ => setO (backs ms rs ds ρ) i d
  | _ :: ms, _ :: rs, _ :: ds, ρ => backs ms rs ds ρ
  | _, _, _, ρ => ρ
def dCall (ms : List Bool) (f : List D → DR) (gs : Av) : Ev := fun ρ => match gs ρ with
  | .ok rs ρ1 => match passes ms rs ρ1 with
    | some (ds, ρ2) => if (lents ms rs).Nodup then match f ds with
        | .ok r outs => .ok r (backs ms rs outs ρ2)
        | .ex x outs => .ex x (backs ms rs outs ρ2)
        | .no => .no
      else .no
    | none => .no
  | .ex x ρ1 => .ex x ρ1
  | .no => .no

/-- what is passed, as it stands -/
inductive PassOk (K : PySem.W.Frag) (F : Hp) (ρ : Env) (σ : L2.St) : List Bool → List RV → List D → List V → Prop
  | nil : PassOk K F ρ σ [] [] [] []
  | val {ms rs ds vs} {r : RV} {d : D} {v : V} : Rep K F d v → PassOk K F ρ σ ms rs ds vs → PassOk K F ρ σ (false :: ms) (r :: rs) (d :: ds) (v :: vs)
  | lent {ms rs ds vs} {i : Nat} {d : D} {a : Addr} : σ[i]? = some (some (.ref a)) → (ρ[i]? = some (.own d) ∨ ρ[i]? = some (.bor d)) → PassOk K F ρ σ ms rs ds vs → PassOk K F ρ σ (true :: ms) (.loc i :: rs) (d :: ds) (.ref a :: vs)
section
variable {K : PySem.W.Frag} {W : WX} {α : Nat → Addr} {ρ ρ' : Env} {σ : L2.St} {H F G H' F' : Hp}
theorem PassOk.mono (s : Sub F F') : ∀ {ms rs ds vs}, PassOk K F ρ σ ms rs ds vs → PassOk K F' ρ σ ms rs ds vs := by
  intro ms rs ds vs h
  induction h with
  | nil => exact .nil
  | val r _ ih => exact .val (Rep.mono s _ _ r) ih
  | lent a b _ ih => exact .lent a b ih
theorem PassOk.lens : ∀ {ms rs ds vs}, PassOk K F ρ σ ms rs ds vs → ds.length = ms.length ∧ vs.length = ms.length := by
  intro ms rs ds vs h
  induction h with
  | nil => exact ⟨rfl, rfl⟩
  | val r _ ih => simp [ih.1, ih.2]
  | lent a b _ ih => simp [ih.1, ih.2]
theorem Fits.passes : ∀ {ms : List Bool} {rs : List RV} {vs : List V} {ds : List D} {ρ ρ' : Env} {F : Hp}, Fits K α ρ σ H F G → SReps K F σ rs vs → passes ms rs ρ = some (ds, ρ') → ∃ F', Grow G F F' ∧ Fits K α ρ' σ H F' G ∧ PassOk K F' ρ' σ ms rs ds vs
  | [], [], _, ds, ρ, ρ', F, f, s, p => by
    cases p
    cases s
    exact ⟨F, Grow.refl _ _, f, .nil⟩
  | false :: ms, r :: rs, _, ds, ρ, ρ', F, f, s, p => by
    obtain ⟨v, t, rfl, a, b⟩ := s
    unfold DL.passes at p
    cases e1 : DL.frz r ρ with
    | none => simp [e1] at p
    | some w =>
      obtain ⟨d, ρ1⟩ := w
      cases e2 : DL.passes ms rs ρ1 with
      | none => simp [e1, e2] at p
      | some w2 =>
        obtain ⟨ds', ρ2⟩ := w2
        simp [e1, e2] at p
        obtain ⟨rfl, rfl⟩ := p
        obtain ⟨F1, g1, f1, r1⟩ := f.frz a e1
        obtain ⟨F2, g2, f2, r2⟩ := Fits.passes f1 (b.mono g1.sub) e2
        exact ⟨F2, g1.trans g2, f2, .val (Rep.mono g2.sub _ _ r1) r2⟩
  | true :: ms, .loc i :: rs, _, ds, ρ, ρ', F, f, s, p => by
    obtain ⟨v, t, rfl, a, b⟩ := s
    unfold DL.passes at p
    cases e2 : DL.passes ms rs ρ with
    | none => simp [e2] at p
    | some w2 =>
      obtain ⟨ds', ρ2⟩ := w2
      obtain ⟨F2, g2, f2, r2⟩ := Fits.passes f b e2
      have hv : σ[i]? = some (some v) := a
      cases e3 : ρ2[i]? with
      | none => simp [e2, e3] at p
      | some sl =>
        obtain ⟨x, hx, so⟩ := f2.slot i sl e3
        rw [hx] at hv
        cases hv
        cases sl with
        | non => simp [e2, e3] at p
        | val d => simp [e2, e3] at p
        | own d =>
          simp [e2, e3] at p
          obtain ⟨rfl, rfl⟩ := p
          obtain ⟨c, q, _⟩ := so
          cases q
          exact ⟨F2, g2, f2, .lent hx (.inl e3) r2⟩
        | bor d =>
          simp [e2, e3] at p
          obtain ⟨rfl, rfl⟩ := p
          obtain ⟨q, _⟩ := so
          cases q
          exact ⟨F2, g2, f2, .lent hx (.inr e3) r2⟩
  | true :: ms, .val _ :: rs, _, ds, ρ, ρ', F, f, s, p => by cases p
  | true :: ms, .new _ :: rs, _, ds, ρ, ρ', F, f, s, p => by cases p
  | [], _ :: _, _, ds, ρ, ρ', F, f, s, p => by cases p
  | _ :: _, [], _, ds, ρ, ρ', F, f, s, p => by
    unfold DL.passes at p
    split at p <;> first | contradiction | cases p

/-- the ground of a callee: all but what is lent -/
def lentAt (ms : List Bool) (vs : List V) (a : Addr) : Prop := ∃ j : Nat, ms[j]? = some true ∧ vs[j]? = some (.ref a)
open Classical in
noncomputable def ground (ms : List Bool) (vs : List V) (H : Hp) : Hp := fun a => if lentAt ms vs a then none else H a
theorem ground_sub {ms : List Bool} {vs : List V} : Sub (ground ms vs H) H := fun a o e => by
  unfold ground at e
  split at e
  · cases e
  · exact e
theorem ground_at {ms : List Bool} {vs : List V} {a : Addr} (h : lentAt ms vs a) : ground ms vs H a = none := by unfold ground; rw [if_pos h]
theorem ground_of {ms : List Bool} {vs : List V} {a : Addr} (h : ¬ lentAt ms vs a) : ground ms vs H a = H a := by unfold ground; rw [if_neg h]
def refAt (vs : List V) (j : Nat) : Addr := match vs[j]? with
  | some (.ref a) => a
  | _ => 0
/-- what stands at a lent place -/
theorem PassOk.lentAt {ms : List Bool} {rs : List RV} {ds : List D} {vs : List V} (p : PassOk K F ρ σ ms rs ds vs) {a : Addr} (h : DL.lentAt ms vs a) :
    ∃ (i : Nat) (d : D), i ∈ lents ms rs ∧ σ[i]? = some (some (.ref a)) ∧ (ρ[i]? = some (.own d) ∨ ρ[i]? = some (.bor d)) := by
  obtain ⟨j, h1, h2⟩ := h
  induction p generalizing j with
  | nil => simp at h1
  | val r _ ih =>
    cases j with
    | zero => simp at h1
    | succ j => exact ih j (by simpa using h1) (by simpa using h2)
  | @lent ms rs ds vs i d b hs hr _ ih =>
    cases j with
    | zero =>
      simp at h2
      subst h2
      exact ⟨i, d, List.mem_cons_self, hs, hr⟩
    | succ j =>
      obtain ⟨i', d', m, q⟩ := ih j (by simpa using h1) (by simpa using h2)
      exact ⟨i', d', List.mem_cons_of_mem _ m, q⟩
theorem PassOk.argGet {ms : List Bool} {rs : List RV} {ds : List D} {vs : List V} (p : PassOk K F ρ σ ms rs ds vs) : ∀ {j : Nat} {s : Slot}, (argEnv ms ds)[j]? = some s →
    (∃ d v, s = .val d ∧ vs[j]? = some v ∧ Rep K F d v) ∨ ∃ d a i, s = .bor d ∧ vs[j]? = some (.ref a) ∧ ms[j]? = some true ∧ rs[j]? = some (.loc i) ∧ σ[i]? = some (some (.ref a)) ∧ (ρ[i]? = some (.own d) ∨ ρ[i]? = some (.bor d)) := by
  induction p with
  | nil => intro j s h; simp [argEnv] at h
  | @val ms rs ds vs r d v hr _ ih =>
    intro j s h
    cases j with
    | zero => simp [argEnv] at h; subst h; exact .inl ⟨d, v, rfl, rfl, hr⟩
    | succ j => simpa using ih (j := j) (s := s) (by simpa [argEnv] using h)
  | @lent ms rs ds vs i d a hs hr _ ih =>
    intro j s h
    cases j with
    | zero => simp [argEnv] at h; subst h; exact .inr ⟨d, a, i, rfl, rfl, rfl, rfl, hs, hr⟩
    | succ j => simpa using ih (j := j) (s := s) (by simpa [argEnv] using h)
theorem lents_mem : ∀ {ms : List Bool} {rs : List RV} {j i : Nat}, ms[j]? = some true → rs[j]? = some (.loc i) → i ∈ lents ms rs
  | [], _, j, i, h, _ => by simp at h
  | _ :: _, [], j, i, _, h => by simp at h
  | true :: ms, .loc k :: rs, 0, i, h1, h2 => by simp at h2; subst h2; exact List.mem_cons_self
  | true :: ms, .loc k :: rs, j + 1, i, h1, h2 => List.mem_cons_of_mem _ (lents_mem (ms := ms) (rs := rs) (j := j) (by simpa using h1) (by simpa using h2))
  | false :: ms, r :: rs, 0, i, h1, h2 => by simp at h1
  | false :: ms, r :: rs, j + 1, i, h1, h2 => by
    have := lents_mem (ms := ms) (rs := rs) (j := j) (i := i) (by simpa using h1) (by simpa using h2)
    cases r <;> exact this
  | true :: ms, .val _ :: rs, 0, i, h1, h2 => by simp at h2
  | true :: ms, .new _ :: rs, 0, i, h1, h2 => by simp at h2
  | true :: ms, .val _ :: rs, j + 1, i, h1, h2 => lents_mem (ms := ms) (rs := rs) (j := j) (by simpa using h1) (by simpa using h2)
  | true :: ms, .new _ :: rs, j + 1, i, h1, h2 => lents_mem (ms := ms) (rs := rs) (j := j) (by simpa using h1) (by simpa using h2)
/-- two lent places of one name are one place -/
theorem lents_inj : ∀ {ms : List Bool} {rs : List RV} {j k i : Nat}, (lents ms rs).Nodup → ms[j]? = some true → rs[j]? = some (.loc i) → ms[k]? = some true → rs[k]? = some (.loc i) → j = k
  | [], _, j, k, i, _, h, _, _, _ => by simp at h
  | _ :: _, [], j, k, i, _, _, h, _, _ => by simp at h
  | true :: ms, .loc x :: rs, 0, 0, i, _, _, _, _, _ => rfl
  | true :: ms, .loc x :: rs, 0, k + 1, i, n, _, h2, h3, h4 => by
    simp at h2
    subst h2
    exact absurd (lents_mem (ms := ms) (rs := rs) (j := k) (by simpa using h3) (by simpa using h4)) (List.nodup_cons.mp n).1
  | true :: ms, .loc x :: rs, j + 1, 0, i, n, h1, h2, _, h4 => by
    simp at h4
    subst h4
    exact absurd (lents_mem (ms := ms) (rs := rs) (j := j) (by simpa using h1) (by simpa using h2)) (List.nodup_cons.mp n).1
  | true :: ms, .loc x :: rs, j + 1, k + 1, i, n, h1, h2, h3, h4 => by
    rw [lents_inj (ms := ms) (rs := rs) (j := j) (k := k) (List.nodup_cons.mp n).2 (by simpa using h1) (by simpa using h2) (by simpa using h3) (by simpa using h4)]
  | false :: ms, r :: rs, j, k, i, n, h1, h2, h3, h4 => by
    cases j with
    | zero => simp at h1
    | succ j =>
      cases k with
      | zero => simp at h3
      | succ k =>
        have n' : (lents ms rs).Nodup := by cases r <;> exact n
        rw [lents_inj (ms := ms) (rs := rs) (j := j) (k := k) n' (by simpa using h1) (by simpa using h2) (by simpa using h3) (by simpa using h4)]
  | true :: ms, .val _ :: rs, j, k, i, n, h1, h2, h3, h4 => by
    cases j with
    | zero => simp at h2
    | succ j =>
      cases k with
      | zero => simp at h4
      | succ k => rw [lents_inj (ms := ms) (rs := rs) (j := j) (k := k) n (by simpa using h1) (by simpa using h2) (by simpa using h3) (by simpa using h4)]
  | true :: ms, .new _ :: rs, j, k, i, n, h1, h2, h3, h4 => by
    cases j with
    | zero => simp at h2
    | succ j =>
      cases k with
      | zero => simp at h4
      | succ k => rw [lents_inj (ms := ms) (rs := rs) (j := j) (k := k) n (by simpa using h1) (by simpa using h2) (by simpa using h3) (by simpa using h4)]
/-- an owner's slot -/
theorem Fits.owner (f : Fits K α ρ σ H F G) {i : Nat} {d : D} {a : Addr} (h : ρ[i]? = some (.own d) ∨ ρ[i]? = some (.bor d)) (hs : σ[i]? = some (some (.ref a))) : F a = none ∧ G a = none ∧ Cell K F H a d := by
  rcases h with h | h
  · obtain ⟨x, hx, b, e, fb, gb, c⟩ := f.slot i _ h
    rw [hx] at hs
    cases hs
    cases e
    exact ⟨fb, gb, c⟩
  · obtain ⟨x, hx, e, fb, gb, c⟩ := f.slot i _ h
    rw [hx] at hs
    cases hs
    cases e
    exact ⟨fb, gb, c⟩
theorem owns_of {i : Nat} {d : D} (h : ρ[i]? = some (.own d) ∨ ρ[i]? = some (.bor d)) : ∃ s, ρ[i]? = some s ∧ s.owns = true := by
  rcases h with h | h
  · exact ⟨_, h, rfl⟩
  · exact ⟨_, h, rfl⟩
/-- the state that a callee meets -/
theorem Fits.callee (f : Fits K α ρ σ H F G) {ms : List Bool} {rs : List RV} {ds : List D} {vs : List V} (p : PassOk K F ρ σ ms rs ds vs) (nd : (lents ms rs).Nodup) :
    Fits K (refAt vs) (argEnv ms ds) (vs.map some) H F (ground ms vs H) := by
  obtain ⟨l1, l2⟩ := p.lens
  refine ⟨f.fh, ground_sub, by rw [List.length_map, argEnv_length l1, l2], fun j s q => ?_, fun j k s t a q1 q2 o1 o2 h1 h2 => ?_⟩
  · rcases p.argGet q with ⟨d, v, rfl, hv, r⟩ | ⟨d, a, i, rfl, hv, hm, hr, hs, ho⟩
    · exact ⟨some v, by rw [List.getElem?_map, hv]; rfl, v, rfl, r⟩
    · obtain ⟨fa, ga, c⟩ := f.owner ho hs
      have e : refAt vs j = a := by unfold refAt; rw [hv]
      refine ⟨some (.ref a), by rw [List.getElem?_map, hv]; rfl, ?_⟩
      rw [e]
      exact ⟨rfl, fa, ground_at ⟨j, hm, hv⟩, c⟩
  · rcases p.argGet q1 with ⟨d, v, rfl, hv, r⟩ | ⟨d, b, i, rfl, hv, hm, hr, hs, ho⟩
    · cases o1
    · rcases p.argGet q2 with ⟨d', v', rfl, hv', r'⟩ | ⟨d', b', i', rfl, hv', hm', hr', hs', ho'⟩
      · cases o2
      · rw [List.getElem?_map, hv] at h1
        rw [List.getElem?_map, hv'] at h2
        cases h1
        cases h2
        obtain ⟨s1, e1, w1⟩ := owns_of ho
        obtain ⟨s2, e2, w2⟩ := owns_of ho'
        have ei : i = i' := f.sep i i' s1 s2 a e1 e2 w1 w2 hs hs'
        subst ei
        exact lents_inj nd hm hr hm' hr'
theorem setO_length (ρ : Env) (i : Nat) (d : D) : (setO ρ i d).length = ρ.length := by
  unfold setO
  split <;> simp
theorem backs_r0 (ms : List Bool) (ds : List D) (ρ : Env) : backs ms [] ds ρ = ρ := by
  cases ms with
  | nil => rfl
  | cons m ms => cases m <;> rfl
theorem backs_d0 (ms : List Bool) (rs : List RV) (ρ : Env) : backs ms rs [] ρ = ρ := by
  cases ms with
  | nil => rfl
  | cons m ms =>
    cases rs with
    | nil => exact backs_r0 _ _ _
    | cons r rs => cases m <;> cases r <;> rfl
theorem backs_length : ∀ (ms : List Bool) (rs : List RV) (ds : List D) (ρ : Env), (backs ms rs ds ρ).length = ρ.length
  | [], rs, ds, ρ => by unfold backs; rfl
  | m :: ms, [], ds, ρ => by rw [backs_r0]
  | m :: ms, r :: rs, [], ρ => by rw [backs_d0]
  | m :: ms, r :: rs, d :: ds, ρ => by
    have ih := backs_length ms rs ds ρ
    cases m <;> cases r <;> simp only [backs, setO_length, ih]
/-- a slot behind a call -/
theorem setO_get {ρ : Env} {i k : Nat} {d : D} {s : Slot} (h : (setO ρ i d)[k]? = some s) : (k ≠ i ∧ ρ[k]? = some s) ∨ (k = i ∧ ((∃ d', ρ[i]? = some (.own d') ∧ s = .own d) ∨ (∃ d', ρ[i]? = some (.bor d') ∧ s = .bor d) ∨ (ρ[i]? = some s ∧ s.owns = false))) := by
  unfold setO at h
  by_cases hk : k = i
  · subst hk
    right
    refine ⟨rfl, ?_⟩
    cases e : ρ[k]? with
    | none => simp [e] at h
    | some t =>
      have hl : k < ρ.length := (List.getElem?_eq_some_iff.mp e).1
      cases t with
      | own d' =>
        simp only [e] at h
        rw [List.getElem?_set_self hl] at h
        cases h
        exact .inl ⟨d', rfl, rfl⟩
      | bor d' =>
        simp only [e] at h
        rw [List.getElem?_set_self hl] at h
        cases h
        exact .inr (.inl ⟨d', rfl, rfl⟩)
      | non => simp [e] at h; subst h; exact .inr (.inr ⟨rfl, rfl⟩)
      | val d' => simp [e] at h; subst h; exact .inr (.inr ⟨rfl, rfl⟩)
  · left
    refine ⟨hk, ?_⟩
    split at h
    · rwa [List.getElem?_set_ne (Ne.symm hk)] at h
    · rwa [List.getElem?_set_ne (Ne.symm hk)] at h
    · exact h
theorem backs_get : ∀ {ms : List Bool} {rs : List RV} {ds : List D} {ρ : Env} {k : Nat} {s : Slot}, (lents ms rs).Nodup → (backs ms rs ds ρ)[k]? = some s →
    ρ[k]? = some s ∧ (∀ j : Nat, ms[j]? = some true → rs[j]? = some (.loc k) → s.owns = true → ds[j]? = none) ∨ ∃ (j : Nat) (d : D), ms[j]? = some true ∧ rs[j]? = some (.loc k) ∧ ds[j]? = some d ∧ ((∃ d', ρ[k]? = some (.own d') ∧ s = .own d) ∨ (∃ d', ρ[k]? = some (.bor d') ∧ s = .bor d))
  | [], rs, ds, ρ, k, s, nd, h => by
    unfold backs at h
    exact .inl ⟨h, fun j z => by simp at z⟩
  | m :: ms, [], ds, ρ, k, s, nd, h => by
    rw [backs_r0] at h
    exact .inl ⟨h, fun j _ z => by simp at z⟩
  | m :: ms, r :: rs, [], ρ, k, s, nd, h => by
    rw [backs_d0] at h
    exact .inl ⟨h, fun j _ _ _ => by simp⟩
  | m :: ms, r :: rs, d :: ds, ρ, k, s, nd, h => by
    by_cases hm : m = true ∧ ∃ i, r = .loc i
    · obtain ⟨rfl, i, rfl⟩ := hm
      obtain ⟨hni, nd'⟩ := List.nodup_cons.mp (show (i :: lents ms rs).Nodup from nd)
      have h' : (setO (backs ms rs ds ρ) i d)[k]? = some s := h
      rcases setO_get h' with ⟨hk, h1⟩ | ⟨rfl, h1⟩
      · rcases backs_get nd' h1 with ⟨a, b⟩ | ⟨j, d', a, b, c, e⟩
        · refine .inl ⟨a, fun j z1 z2 o => ?_⟩
          cases j with
          | zero => simp at z2; exact absurd z2.symm hk
          | succ j => simpa using b j (by simpa using z1) (by simpa using z2) o
        · exact .inr ⟨j + 1, d', by simpa using a, by simpa using b, by simpa using c, e⟩
      · have base : ∀ {t : Slot}, (backs ms rs ds ρ)[k]? = some t → ρ[k]? = some t := fun {t} z => by
          rcases backs_get nd' z with ⟨a, _⟩ | ⟨j, d', a, b, _, _⟩
          · exact a
          · exact absurd (lents_mem a b) hni
        rcases h1 with ⟨d', e, rfl⟩ | ⟨d', e, rfl⟩ | ⟨e, o⟩
        · exact .inr ⟨0, d, rfl, rfl, rfl, .inl ⟨d', base e, rfl⟩⟩
        · exact .inr ⟨0, d, rfl, rfl, rfl, .inr ⟨d', base e, rfl⟩⟩
        · exact .inl ⟨base e, fun j z1 z2 o' => by rw [o] at o'; cases o'⟩
    · have e1 : backs (m :: ms) (r :: rs) (d :: ds) ρ = backs ms rs ds ρ := by
        cases m with
        | false => cases r <;> rfl
        | true =>
          cases r with
          | loc i => exact absurd ⟨rfl, i, rfl⟩ hm
          | _ => rfl
      have e2 : lents (m :: ms) (r :: rs) = lents ms rs := by
        cases m with
        | false => cases r <;> rfl
        | true =>
          cases r with
          | loc i => exact absurd ⟨rfl, i, rfl⟩ hm
          | _ => rfl
      rw [e1] at h
      rw [e2] at nd
      rcases backs_get nd h with ⟨a, b⟩ | ⟨j, d', a, b, c, e⟩
      · refine .inl ⟨a, fun j z1 z2 o => ?_⟩
        cases j with
        | zero => simp at z1 z2; exact absurd ⟨z1, k, z2⟩ hm
        | succ j => simpa using b j (by simpa using z1) (by simpa using z2) o
      · exact .inr ⟨j + 1, d', by simpa using a, by simpa using b, by simpa using c, e⟩
theorem argEnv_at : ∀ {ms : List Bool} {ds : List D} {j : Nat}, ds.length = ms.length → ms[j]? = some true → ∃ d, ds[j]? = some d ∧ (argEnv ms ds)[j]? = some (.bor d)
  | [], _, j, _, h => by simp at h
  | _ :: _, [], j, h, _ => by simp at h
  | true :: ms, d :: ds, 0, _, _ => ⟨d, rfl, rfl⟩
  | false :: ms, d :: ds, 0, _, h => by simp at h
  | true :: ms, d :: ds, j + 1, hl, h => by simpa [argEnv] using argEnv_at (ms := ms) (ds := ds) (j := j) (by simpa using hl) (by simpa using h)
  | false :: ms, d :: ds, j + 1, hl, h => by simpa [argEnv] using argEnv_at (ms := ms) (ds := ds) (j := j) (by simpa using hl) (by simpa using h)
/-- back in the caller -/
theorem Fits.back (f : Fits K α ρ σ H F G) {ms : List Bool} {rs : List RV} {ds outs : List D} {vs : List V} (p : PassOk K F ρ σ ms rs ds vs) (nd : (lents ms rs).Nodup) (hl : outs.length = ms.length)
    (g : Grow (ground ms vs H) F F') (f' : Fits K (refAt vs) (argEnv ms outs) (vs.map some) H' F' (ground ms vs H)) : Fits K α (backs ms rs outs ρ) σ H' F' G ∧ Grow G F F' := by
  have stays : ∀ a o, H a = some o → ¬ lentAt ms vs a → H' a = some o := fun a o e n => f'.gh a o (by rw [ground_of n]; exact e)
  have gl : ∀ a o, G a = some o → ¬ lentAt ms vs a := fun a o e n => by
    obtain ⟨i, d, _, hs, ho⟩ := p.lentAt n
    obtain ⟨_, ga, _⟩ := f.owner ho hs
    rw [e] at ga
    cases ga
  have gr : Grow G F F' := ⟨g.sub, fun a o e => by
    rcases g.new a o e with z | ⟨z1, z2⟩
    · exact .inl z
    · refine .inr ⟨z1, ?_⟩
      cases q : G a with
      | none => rfl
      | some u =>
        have n := gl a u q
        rw [ground_of n, f.gh _ _ q] at z2
        cases z2⟩
  have fn : ∀ a o, H a = some o → F a = none → ¬ lentAt ms vs a → F' a = none := fun a o e z n => by
    cases q : F' a with
    | none => rfl
    | some u =>
      rcases g.new a u q with w | ⟨_, w⟩
      · rw [z] at w; cases w
      · rw [ground_of n, e] at w; cases w
  -- a slot that is not lent
  have keep : ∀ (k : Nat) (s : Slot), ρ[k]? = some s → (s.owns = true → k ∉ lents ms rs) → ∃ x, σ[k]? = some x ∧ SlotOk K F' G H' x (α k) s := fun k s q hn => by
    obtain ⟨x, hx, so⟩ := f.slot k s q
    refine ⟨x, hx, ?_⟩
    cases s with
    | non => trivial
    | val d => obtain ⟨v, e, r⟩ := so; exact ⟨v, e, Rep.mono g.sub _ _ r⟩
    | own d =>
      obtain ⟨a, e, fa, ga, c⟩ := so
      have n : ¬ lentAt ms vs a := fun z => by
        obtain ⟨i, d', mi, hs, ho⟩ := p.lentAt z
        obtain ⟨s2, e2, w2⟩ := owns_of ho
        have := f.sep k i _ s2 a q e2 rfl w2 (by rw [hx, e]) hs
        exact hn rfl (this ▸ mi)
      obtain ⟨o, ho⟩ := c.there
      exact ⟨a, e, fn a o ho fa n, ga, c.mono g.sub fun u hu => stays a u hu n⟩
    | bor d =>
      obtain ⟨e, fa, ga, c⟩ := so
      have n : ¬ lentAt ms vs (α k) := fun z => by
        obtain ⟨i, d', mi, hs, ho⟩ := p.lentAt z
        obtain ⟨s2, e2, w2⟩ := owns_of ho
        have := f.sep k i _ s2 (α k) q e2 rfl w2 (by rw [hx, e]) hs
        exact hn rfl (this ▸ mi)
      obtain ⟨o, ho⟩ := c.there
      exact ⟨e, fn _ o ho fa n, ga, c.mono g.sub fun u hu => stays _ u hu n⟩
  -- a lent slot
  have lent : ∀ (k j : Nat) (d : D), ms[j]? = some true → rs[j]? = some (.loc k) → outs[j]? = some d → ∃ a, σ[k]? = some (some (.ref a)) ∧ F' a = none ∧ G a = none ∧ Cell K F' H' a d := fun k j d hm hr hd => by
    obtain ⟨d', e1, e2⟩ := argEnv_at hl hm
    rw [hd] at e1
    cases e1
    obtain ⟨x, hx, so⟩ := f'.slot j _ e2
    obtain ⟨d0, e3, e4⟩ := argEnv_at (p.lens).1 hm
    rcases p.argGet e4 with ⟨_, _, z, _⟩ | ⟨_, a, i, z, hv, _, hr', hs, ho⟩
    · cases z
    · rw [hr] at hr'
      cases hr'
      have ea : refAt vs j = a := by unfold refAt; rw [hv]
      rw [ea] at so
      obtain ⟨_, fa, _, c⟩ := so
      exact ⟨a, hs, fa, (f.owner ho hs).2.1, c⟩
  refine ⟨⟨f'.fh, fun a o e => stays a o (f.gh _ _ e) (gl a o e), by rw [backs_length]; exact f.len, fun k s q => ?_, fun j k s t a q1 q2 o1 o2 h1 h2 => ?_⟩, gr⟩
  · rcases backs_get nd q with ⟨a, b⟩ | ⟨j, d, hm, hr, hd, hh⟩
    · refine keep k s a fun o m => ?_
      -- lent, and without an end: there is none
      have : ∀ {ms : List Bool} {rs : List RV}, k ∈ lents ms rs → ∃ j : Nat, ms[j]? = some true ∧ rs[j]? = some (.loc k) := by
        intro ms
        induction ms with
        | nil => intro rs z; simp [lents] at z
        | cons m ms ih =>
          intro rs z
          cases rs with
          | nil => cases m <;> simp [lents] at z
          | cons r rs =>
            by_cases hm : m = true ∧ ∃ i, r = .loc i
            · obtain ⟨rfl, i, rfl⟩ := hm
              have z' : k ∈ i :: lents ms rs := z
              rcases List.mem_cons.mp z' with rfl | z'
              · exact ⟨0, rfl, rfl⟩
              · obtain ⟨j, a, b⟩ := ih z'
                exact ⟨j + 1, by simpa using a, by simpa using b⟩
            · have z' : k ∈ lents ms rs := by
                cases m with
                | false => cases r <;> exact z
                | true =>
                  cases r with
                  | loc i => exact absurd ⟨rfl, i, rfl⟩ hm
                  | _ => exact z
              obtain ⟨j, a, b⟩ := ih z'
              exact ⟨j + 1, by simpa using a, by simpa using b⟩
      obtain ⟨j, j1, j2⟩ := this m
      have := b j j1 j2 o
      obtain ⟨d, e, _⟩ := argEnv_at hl j1
      rw [this] at e
      cases e
    · obtain ⟨a, hs, fa, ga, c⟩ := lent k j d hm hr hd
      refine ⟨_, hs, ?_⟩
      rcases hh with ⟨d', e, rfl⟩ | ⟨d', e, rfl⟩
      · exact ⟨a, rfl, fa, ga, c⟩
      · obtain ⟨x, hx, e', _⟩ := f.slot k _ e
        rw [hx] at hs
        cases hs
        cases e'
        exact ⟨rfl, fa, ga, c⟩
  · have old : ∀ {k : Nat} {s : Slot}, (backs ms rs outs ρ)[k]? = some s → s.owns = true → ∃ s', ρ[k]? = some s' ∧ s'.owns = true := fun {k s} q o => by
      rcases backs_get nd q with ⟨a, _⟩ | ⟨j, d, _, _, _, ⟨d', e, _⟩ | ⟨d', e, _⟩⟩
      · exact ⟨s, a, o⟩
      · exact ⟨_, e, rfl⟩
      · exact ⟨_, e, rfl⟩
    obtain ⟨s1, e1, w1⟩ := old q1 o1
    obtain ⟨s2, e2, w2⟩ := old q2 o2
    exact f.sep j k s1 s2 a e1 e2 w1 w2 h1 h2
theorem RRep.back (f : Fits K α ρ σ H F G) {ms : List Bool} {rs : List RV} {ds outs : List D} {vs : List V} (p : PassOk K F ρ σ ms rs ds vs) (hl : outs.length = ms.length) {v : V} (ρ2 : Env) (ho2 : ∀ (k : Nat) (s : Slot), ρ2[k]? = some s → s.owns = true → ∃ s', ρ[k]? = some s' ∧ s'.owns = true)
    (f' : Fits K (refAt vs) (argEnv ms outs) (vs.map some) H' F' (ground ms vs H)) :
    ∀ {r : RV}, (∀ i, r ≠ .loc i) → RRep K F' (ground ms vs H) H' (vs.map some) (argEnv ms outs) r v → RRep K F' G H' σ ρ2 r v
  | .val _, _, h => h
  | .loc i, n, _ => absurd rfl (n i)
  | .new d, _, h => by
    obtain ⟨a, rfl, fa, ga, c, sp⟩ := h
    have na : ¬ lentAt ms vs a := fun ⟨j, h1, h2⟩ => by
      obtain ⟨d', _, e2⟩ := argEnv_at hl h1
      exact sp j _ e2 rfl (by rw [List.getElem?_map, h2]; rfl)
    have ha : H a = none := by rw [← ground_of (H := H) na]; exact ga
    refine ⟨a, rfl, fa, f.gh.free ha, c, fun k s q o z => ?_⟩
    obtain ⟨s', e, w⟩ := ho2 k s q o
    have : ∃ d', ρ[k]? = some (.own d') ∨ ρ[k]? = some (.bor d') := by
      cases s' with
      | non => cases w
      | val d => cases w
      | own d => exact ⟨d, .inl e⟩
      | bor d => exact ⟨d, .inr e⟩
    obtain ⟨d', q'⟩ := this
    obtain ⟨u, hu⟩ := (f.owner q' z).2.2.there
    rw [ha] at hu
    cases hu
end
section
variable {X : Cx} {W : WX} {e : Expr} {es : List Expr} {gs : Av} {pos p : Pos} {k : Nat} {f : Addr} {fd : FuncData} {ps : List Str} {ms : List Bool} {den : List D → DR} {x : Str}
theorem ec_call {K : PySem.W.Frag} (hd : ∀ ds r outs, den ds = .ok r outs → ∀ i, r ≠ .loc i) {σ : L2.St} {H : Hp} {Q : VK} (h : tE K W (dCall ms den gs) σ H Q) : tA K W gs σ H fun vs H1 => spD K ms den vs H1 Q (WE W σ) := by
  obtain ⟨α, ρ, F, G, ft, h⟩ := h
  refine ⟨α, ρ, F, G, ft, ?_⟩
  unfold dCall at h
  cases e1 : gs ρ with
  | no => simp [e1, EC] at h
  | ex x ρ1 => simp only [e1] at h; exact h
  | ok rs ρ1 =>
    simp only [e1] at h
    intro vs H1 F1 g1 f1 s1
    cases e2 : passes ms rs ρ1 with
    | none => simp [e2, EC] at h
    | some w =>
      obtain ⟨ds, ρ2⟩ := w
      simp only [e2] at h
      by_cases nd : (lents ms rs).Nodup
      · rw [if_pos nd] at h
        obtain ⟨F2, g2, f2, pk⟩ := Fits.passes f1 s1 e2
        refine ⟨refAt vs, F2, ground ms vs H1, ds, pk.lens.1, f2.callee pk nd, ?_⟩
        have old : ∀ (outs : List D) (k : Nat) (s : Slot), (backs ms rs outs ρ2)[k]? = some s → s.owns = true → ∃ s', ρ2[k]? = some s' ∧ s'.owns = true := fun outs k s q o => by
          rcases backs_get nd q with ⟨a, _⟩ | ⟨j, d, _, _, _, ⟨d', e, _⟩ | ⟨d', e, _⟩⟩
          · exact ⟨s, a, o⟩
          · exact ⟨_, e, rfl⟩
          · exact ⟨_, e, rfl⟩
        cases e3 : den ds with
        | no => simp [e3, EC] at h
        | ok r outs =>
          simp only [e3] at h
          intro v H3 F3 g3 hl f3 r3
          obtain ⟨f4, g4⟩ := f2.back pk nd hl g3 f3
          exact h v H3 F3 ((g1.trans g2).trans g4) f4 (RRep.back f2 pk hl _ (old outs) f3 (hd _ _ _ e3) r3)
        | ex x outs =>
          simp only [e3] at h
          intro c d H3 F3 g3 hl f3 r3
          obtain ⟨f4, g4⟩ := f2.back pk nd hl g3 f3
          exact h c d H3 F3 ((g1.trans g2).trans g4) f4 r3
      · rw [if_neg nd] at h
        exact h.elim
theorem ed_call (hd : ∀ ds r outs, den ds = .ok r outs → ∀ i, r ≠ .loc i) (F : FnOk X.prog X.w X.K X.mg X.base (L2.CX X.prog X.w) k f fd ps (spD X.K ms den)) (hr : Room k X.A) (hg : Gl X x) (hm : X.mg x = some (.ref f)) (hk : PySem.W.keepIn X.K (.ref f) = true) (hb : Binds X.K fd ps []) (tk : Takes X W)
    (ha : PA X (e :: es) (tA X.K W gs)) (hdb : (x == ("__debug__" : Str)) = false := by decide) (he : starEach (e :: es) X.env = (false, eval e X.env) :: starEach es X.env := by rfl) (hpl : (backTo pos (starEach es X.env)).any (·.1) = false := by rfl) :
    PE X (.Call (.Name x p) (e :: es) [] pos) (tE X.K W (dCall ms den gs)) :=
  (pe_callS F hr hg hm hk hb (fun σ => passAt tk σ) ha hdb he hpl).weak fun _ _ _ h => ec_call hd h
end
end DL

namespace DL
open PySem PySem.Spec L2
variable [HasW]

/-! ### statements -/
inductive SR where | nx (ρ : Env) | rt (r : RV) (ρ : Env) | bk (ρ : Env) | ct (ρ : Env) | ex (x : Exn) (ρ : Env) | no
abbrev Sv := Env → SR
def SC (K : PySem.W.Frag) (W : WX) (α : Nat → Addr) (F G : Hp) (D : Ends) : SR → Prop
  | .nx ρ => ∀ σ' H' F', Grow G F F' → Fits K α ρ σ' H' F' G → D.nx σ' H'
  | .rt r ρ => ∀ v σ' H' F', Grow G F F' → Fits K α ρ σ' H' F' G → RRep K F' G H' σ' ρ r v → D.rt v H'
  | .bk ρ => ∀ σ' H' F', Grow G F F' → Fits K α ρ σ' H' F' G → D.bk σ' H'
  | .ct ρ => ∀ σ' H' F', Grow G F F' → Fits K α ρ σ' H' F' G → D.ct σ' H'
  | .ex x ρ => ∀ cls d σ' H' F', Grow G F F' → Fits K α ρ σ' H' F' G → RepX K F' H' x cls d → W cls d σ' H'
  | .no => False
def tS (K : PySem.W.Frag) (W : WX) (g : Sv) : TS := fun D σ H => ∃ (α : Nat → Addr) (ρ : Env) (F G : Hp), Fits K α ρ σ H F G ∧ SC K W α F G D (g ρ)
def SR.bind (s : SR) (k : Env → SR) : SR := match s with
  | .nx ρ => k ρ
  | .rt r ρ => .rt r ρ
  | .bk ρ => .bk ρ
  | .ct ρ => .ct ρ
  | .ex x ρ => .ex x ρ
  | .no => .no
def ER.st (e : ER) (k : RV → Env → SR) : SR := match e with
  | .ok r ρ => k r ρ
  | .ex x ρ => .ex x ρ
  | .no => .no
section
variable {K : PySem.W.Frag} {W : WX} {α : Nat → Addr} {ρ : Env} {σ : L2.St} {H F G H' F' : Hp} {D : Ends}
theorem SC.mono (g : Grow G F F') : ∀ {s : SR}, SC K W α F G D s → SC K W α F' G D s
  | .nx ρ, h => fun s H1 F1 g1 f1 => h s H1 F1 (g.trans g1) f1
  | .rt r ρ, h => fun v s H1 F1 g1 f1 r1 => h v s H1 F1 (g.trans g1) f1 r1
  | .bk ρ, h => fun s H1 F1 g1 f1 => h s H1 F1 (g.trans g1) f1
  | .ct ρ, h => fun s H1 F1 g1 f1 => h s H1 F1 (g.trans g1) f1
  | .ex x ρ, h => fun c d s H1 F1 g1 f1 r1 => h c d s H1 F1 (g.trans g1) f1 r1
  | .no, h => h
/-- an expression within a statement -/
theorem EC.st {k : RV → Env → SR} {R : V → Hp → Prop} (hk : ∀ r ρ1, ∀ v H1 F1, Grow G F F1 → Fits K α ρ1 σ H1 F1 G → RRep K F1 G H1 σ ρ1 r v → SC K W α F1 G D (k r ρ1) → R v H1) :
    ∀ {e : ER}, SC K W α F G D (e.st k) → EC K W α σ F G R e
  | .ok r ρ1, h => fun v H1 F1 g1 f1 r1 => hk r ρ1 v H1 F1 g1 f1 r1 (SC.mono g1 h)
  | .ex x ρ1, h => fun c d H1 F1 g1 f1 x1 => h c d σ H1 F1 g1 f1 x1
  | .no, h => h
theorem EC.stS {k : RV → Env → SR} {R : V → Hp → Prop} (hk : ∀ r ρ1, ∀ v H1 F1, Grow G F F1 → Fits K α ρ1 σ H1 F1 G → SRep K F1 σ r v → SC K W α F1 G D (k r ρ1) → R v H1) :
    ∀ {e : ER}, SC K W α F G D (e.settle.st k) → EC K W α σ F G R e
  | .ok r ρ1, h => fun v H1 F1 g1 f1 r1 => by
    obtain ⟨F2, g2, f2, s2⟩ := r1.settle f1
    exact hk r.settle ρ1 v H1 F2 (g1.trans g2) f2 s2 (SC.mono (g1.trans g2) h)
  | .ex x ρ1, h => fun c d H1 F1 g1 f1 x1 => h c d σ H1 F1 g1 f1 x1
  | .no, h => h
/-- a test within a statement -/
theorem BC.st {k : RV → Env → SR} {R : Bool → Hp → Prop} (hn : ∀ r ρ1, (∀ b, r ≠ .val (.bl b)) → k r ρ1 = .no) (hk : ∀ b ρ1, ∀ H1 F1, Grow G F F1 → Fits K α ρ1 σ H1 F1 G → SC K W α F1 G D (k (.val (.bl b)) ρ1) → R b H1)
    {e : ER} (h : SC K W α F G D (e.st k)) : BC K W α σ F G R e := by
  cases e with
  | no => exact h
  | ex x ρ1 => exact fun c d H1 F1 g1 f1 x1 => h c d σ H1 F1 g1 f1 x1
  | ok r ρ1 =>
    have h' : SC K W α F G D (k r ρ1) := h
    by_cases q : ∃ b, r = .val (.bl b)
    · obtain ⟨b, rfl⟩ := q
      exact fun H1 F1 g1 f1 => hk b ρ1 H1 F1 g1 f1 (SC.mono g1 h')
    · rw [hn r ρ1 fun b z => q ⟨b, z⟩] at h'
      exact h'.elim
/-- a name is bound -/
theorem Fits.setSlot (f : Fits K α ρ σ H F G) {i : Nat} {s t : Slot} {v : V} (e : ρ[i]? = some t) (ok : SlotOk K F G H (some v) (α i) s) (own : s.owns = true → ∀ (j : Nat) (u : Slot) a, v = .ref a → j ≠ i → ρ[j]? = some u → u.owns = true → σ[j]? ≠ some (some (.ref a))) :
    Fits K α (ρ.set i s) (σ.set i (some v)) H F G := by
  have hi : i < ρ.length := (List.getElem?_eq_some_iff.mp e).1
  have hσ : i < σ.length := by rw [f.len]; exact hi
  refine ⟨f.fh, f.gh, by rw [List.length_set, List.length_set]; exact f.len, fun j u q => ?_, fun j k u w a q1 q2 o1 o2 h1 h2 => ?_⟩
  · by_cases hj : i = j
    · subst hj
      rw [List.getElem?_set_self hi] at q
      cases q
      exact ⟨some v, List.getElem?_set_self hσ, ok⟩
    · rw [List.getElem?_set_ne hj] at q ⊢
      exact f.slot j u q
  · by_cases hj : i = j
    · subst hj
      by_cases hk : i = k
      · exact hk
      · rw [List.getElem?_set_self hi] at q1
        rw [List.getElem?_set_ne hk] at q2
        rw [List.getElem?_set_self hσ] at h1
        rw [List.getElem?_set_ne hk] at h2
        cases q1
        have e1 : v = .ref a := by cases h1; rfl
        exact absurd h2 (own o1 k w a e1 (Ne.symm hk) q2 o2)
    · rw [List.getElem?_set_ne hj] at q1 h1
      by_cases hk : i = k
      · subst hk
        rw [List.getElem?_set_self hi] at q2
        rw [List.getElem?_set_self hσ] at h2
        cases q2
        have e1 : v = .ref a := by cases h2; rfl
        exact absurd h1 (own o2 j u a e1 (Ne.symm hj) q1 o1)
      · rw [List.getElem?_set_ne hk] at q2 h2
        exact f.sep j k u w a q1 q2 o1 o2 h1 h2
end
def setV (ρ : Env) (i : Nat) (s : Slot) : Option Env := match ρ[i]? with
  | some (.bor _) => none
  | some _ => some (ρ.set i s)
  | none => none
theorem setV_some {ρ ρ' : Env} {i : Nat} {s : Slot} (h : setV ρ i s = some ρ') : (∃ t, ρ[i]? = some t ∧ t.owns = false ∨ ∃ d, ρ[i]? = some (.own d)) ∧ ρ' = ρ.set i s := by
  unfold setV at h
  cases e : ρ[i]? with
  | none => simp [e] at h
  | some t =>
    cases t with
    | bor d => simp [e] at h
    | own d => simp [e] at h; exact ⟨⟨.non, .inr ⟨d, rfl⟩⟩, h.symm⟩
    | non => simp [e] at h; exact ⟨⟨.non, .inl ⟨rfl, rfl⟩⟩, h.symm⟩
    | val d => simp [e] at h; exact ⟨⟨.val d, .inl ⟨rfl, rfl⟩⟩, h.symm⟩
theorem setV_there {ρ ρ' : Env} {i : Nat} {s : Slot} (h : setV ρ i s = some ρ') : ∃ t, ρ[i]? = some t ∧ ρ' = ρ.set i s := by
  obtain ⟨⟨t, ⟨e, _⟩ | ⟨d, e⟩⟩, q⟩ := setV_some h
  · exact ⟨t, e, q⟩
  · exact ⟨_, e, q⟩
/-- what a name is given -/
def asgn (i : Nat) (r : RV) (ρ : Env) : Option Env := match r with
  | .val d => setV ρ i (.val d)
  | .new d => setV ρ i (.own d)
  | .loc j => match frz (.loc j) ρ with
    | some (d, ρ1) => setV ρ1 i (.val d)
    | none => none
def SR.of (o : Option Env) : SR := match o with
  | some ρ => .nx ρ
  | none => .no
def dSet (i : Nat) (g : Ev) : Sv := fun ρ => (g ρ).st fun r ρ1 => SR.of (asgn i r ρ1)
section
variable {K : PySem.W.Frag} {W : WX} {α : Nat → Addr} {ρ ρ' : Env} {σ : L2.St} {H F G H' F' : Hp} {D : Ends}
theorem Fits.asgn (f : Fits K α ρ σ H F G) {i : Nat} {r : RV} {v : V} (rr : RRep K F G H σ ρ r v) (h : asgn i r ρ = some ρ') : ∃ F', Grow G F F' ∧ Fits K α ρ' (σ.set i (some v)) H F' G := by
  cases r with
  | val d =>
    obtain ⟨t, e, rfl⟩ := setV_there h
    exact ⟨F, Grow.refl _ _, f.setSlot e ⟨v, rfl, rr⟩ fun o => by cases o⟩
  | new d =>
    obtain ⟨t, e, rfl⟩ := setV_there h
    obtain ⟨a, rfl, fa, ga, c, sp⟩ := rr
    exact ⟨F, Grow.refl _ _, f.setSlot e ⟨a, rfl, fa, ga, c⟩ fun _ j u b q _ q1 q2 => by cases q; exact sp j u q1 q2⟩
  | loc j =>
    unfold DL.asgn at h
    cases e1 : DL.frz (.loc j) ρ with
    | none => simp [e1] at h
    | some w =>
      obtain ⟨d, ρ1⟩ := w
      simp only [e1] at h
      obtain ⟨F1, g1, f1, r1⟩ := f.frz (r := .loc j) (v := v) rr e1
      obtain ⟨t, e, rfl⟩ := setV_there h
      exact ⟨F1, g1, f1.setSlot e ⟨v, rfl, r1⟩ fun o => by cases o⟩
theorem sc_of {o : Option Env} (h : SC K W α F G D (SR.of o)) : ∃ ρ, o = some ρ ∧ ∀ σ' H' F', Grow G F F' → Fits K α ρ σ' H' F' G → D.nx σ' H' := by
  cases o with
  | none => exact h.elim
  | some ρ => exact ⟨ρ, rfl, h⟩
end
section
variable {X : Cx} {W : WX} {e : Expr} {g gc : Ev} {g1 g2 : Sv} {pos : Pos} {st : Stmt} {rest : List Stmt}
theorem sd_nil : PSs X [] (tS X.K W fun ρ => .nx ρ) := pss_nil.weak fun D σ H ⟨α, ρ, F, G, f, h⟩ => h σ H F (Grow.refl _ _) f
def dSeq (g1 g2 : Sv) : Sv := fun ρ => (g1 ρ).bind g2
theorem sd_cons (h1 : PS X st (tS X.K W g1)) (h2 : PSs X rest (tS X.K W g2)) : PSs X (st :: rest) (tS X.K W (dSeq g1 g2)) := by
  refine (pss_cons h1 h2).weak fun D σ H ⟨α, ρ, F, G, f, h⟩ => ⟨α, ρ, F, G, f, ?_⟩
  unfold dSeq at h
  cases e1 : g1 ρ with
  | nx ρ1 =>
    rw [e1] at h
    exact fun σ' H1 F1 gr f1 => ⟨α, ρ1, F1, G, f1, SC.mono gr h⟩
  | rt r ρ1 => rw [e1] at h; exact h
  | bk ρ1 => rw [e1] at h; exact h
  | ct ρ1 => rw [e1] at h; exact h
  | ex x ρ1 => rw [e1] at h; exact h
  | no => rw [e1] at h; exact h
theorem sd_one (h1 : PS X st (tS X.K W g1)) : PSs X [st] (tS X.K W g1) := pss_one h1
theorem sd_pass : PS X (.Pass pos) (tS X.K W fun ρ => .nx ρ) := ps_pass.weak fun D σ H ⟨α, ρ, F, G, f, h⟩ => h σ H F (Grow.refl _ _) f
theorem sd_break : PS X (.Break pos) (tS X.K W fun ρ => .bk ρ) := ps_break.weak fun D σ H ⟨α, ρ, F, G, f, h⟩ => h σ H F (Grow.refl _ _) f
theorem sd_continue : PS X (.Continue pos) (tS X.K W fun ρ => .ct ρ) := ps_continue.weak fun D σ H ⟨α, ρ, F, G, f, h⟩ => h σ H F (Grow.refl _ _) f
theorem sd_set {i : Nat} {x : Str} {pos' : Pos} (hN : X.N.Nodup) (he : PE X e (tE X.K W g)) (hi : X.N[i]? = some x := by rfl) (hx : Loc X.env.scope x := by first | exact .inl rfl | exact .inr rfl) (hs : swapsWith e (some (.Name x pos')) pos.line X.env = pure false := by rfl)
    (hf : X.fn x = true ∨ X.env.scope.names.lookup x = some .local := by first | exact .inl rfl | exact .inr rfl | assumption) : PS X (.Assign [.Name x pos'] e pos) (tS X.K W (dSet i g)) := by
  refine (ps_set hN hi hx he hs hf).weak fun D σ H ⟨α, ρ, F, G, f, h⟩ => ⟨α, ρ, F, G, f, EC.st (fun r ρ1 v H1 F1 g1 f1 r1 h1 => ?_) h⟩
  obtain ⟨ρ2, e2, h2⟩ := sc_of h1
  obtain ⟨F2, g2, f2⟩ := f1.asgn r1 e2
  exact h2 _ H1 F2 g2 f2
/-- return -/
def dRet (g : Ev) : Sv := fun ρ => (g ρ).st fun r ρ1 => match r with
  | .loc i => match ρ1[i]? with
    | some (.own d) => .rt (.new d) (ρ1.set i .non)
    | some (.val d) => .rt (.val d) ρ1
    | _ => .no
  | r => .rt r ρ1
theorem sd_ret (he : PE X e (tE X.K W g)) : PS X (.Return (some e) pos) (tS X.K W (dRet g)) := by
  refine (ps_ret he).weak fun D σ H ⟨α, ρ, F, G, f, h⟩ => ⟨α, ρ, F, G, f, EC.st (fun r ρ1 v H1 F1 g1 f1 r1 h1 => ?_) h⟩
  cases r with
  | val d => exact h1 v σ H1 F1 (Grow.refl _ _) f1 r1
  | new d => exact h1 v σ H1 F1 (Grow.refl _ _) f1 r1
  | loc i =>
    have hv : σ[i]? = some (some v) := r1
    cases q : ρ1[i]? with
    | none => simp [q, SC] at h1
    | some s =>
      obtain ⟨x, hx, so⟩ := f1.slot i s q
      rw [hx] at hv
      cases hv
      cases s with
      | non => simp [q, SC] at h1
      | bor d => simp [q, SC] at h1
      | val d =>
        simp only [q] at h1
        obtain ⟨w, e', rw'⟩ := so
        cases e'
        exact h1 v σ H1 F1 (Grow.refl _ _) f1 rw'
      | own d =>
        simp only [q] at h1
        obtain ⟨a, e', fa, ga, c⟩ := so
        cases e'
        have hi : i < ρ1.length := (List.getElem?_eq_some_iff.mp q).1
        have go : ∀ {k : Nat} {s : Slot}, (ρ1.set i .non)[k]? = some s → s.owns = true → ρ1[k]? = some s ∧ k ≠ i := fun {k s} q' o => by
          by_cases hk : i = k
          · subst hk
            rw [List.getElem?_set_self hi] at q'
            cases q'
            cases o
          · rw [List.getElem?_set_ne hk] at q'
            exact ⟨q', Ne.symm hk⟩
        refine h1 _ σ H1 F1 (Grow.refl _ _) ⟨f1.fh, f1.gh, by rw [List.length_set]; exact f1.len, fun j s q' => ?_, fun j k s t b q1 q2 o1 o2 => f1.sep j k s t b (go q1 o1).1 (go q2 o2).1 o1 o2⟩ ⟨a, rfl, fa, ga, c, fun k s q' o z => ?_⟩
        · by_cases hj : i = j
          · subst hj
            rw [List.getElem?_set_self hi] at q'
            cases q'
            exact ⟨_, hx, trivial⟩
          · rw [List.getElem?_set_ne hj] at q'
            exact f1.slot j s q'
        · obtain ⟨q2, n⟩ := go q' o
          exact n (f1.sep k i s _ a q2 q o rfl z hx)
theorem sd_retN : PS X (.Return none pos) (tS X.K W fun ρ => .rt (.val .non) ρ) := ps_retN.weak fun D σ H ⟨α, ρ, F, G, f, h⟩ => h .non σ H F (Grow.refl _ _) f rfl
/-- an expression as a statement -/
def dExpr (g : Ev) : Sv := fun ρ => (g ρ).settle.st fun _ ρ1 => .nx ρ1
theorem sd_expr (he : PE X e (tE X.K W g)) (hs : swapsWith e none pos.line X.env = pure false := by rfl) : PS X (.Expr e pos) (tS X.K W (dExpr g)) :=
  (ps_expr he hs).weak fun D σ H ⟨α, ρ, F, G, f, h⟩ => ⟨α, ρ, F, G, f, EC.stS (fun r ρ1 v H1 F1 g1 f1 r1 h1 => (show SC X.K W α F1 G D (.nx ρ1) from h1) σ H1 F1 (Grow.refl _ _) f1) h⟩
def dIfS (gc : Ev) (g1 g2 : Sv) : Sv := fun ρ => (gc ρ).st fun r ρ1 => match r with
  | .val (.bl true) => g1 ρ1
  | .val (.bl false) => g2 ρ1
  | _ => .no
theorem sd_if {c : Expr} {a b : List Stmt} (hc : PT X c (tT X.K W gc)) (ha : PSs X a (tS X.K W g1)) (hb : PSs X b (tS X.K W g2)) : PS X (.If c a b pos) (tS X.K W (dIfS gc g1 g2)) := by
  refine (ps_if hc ha hb).weak fun D σ H ⟨α, ρ, F, G, f, h⟩ => ⟨α, ρ, F, G, f, BC.st (fun r ρ1 hr => ?_) (fun b ρ1 H1 F1 gr f1 h1 => ?_) h⟩
  · cases r with
    | val d =>
      cases d with
      | bl b => exact absurd rfl (hr b)
      | _ => rfl
    | _ => rfl
  · cases b with
    | true => exact iteT ⟨α, ρ1, F1, G, f1, h1⟩
    | false => exact iteF ⟨α, ρ1, F1, G, f1, h1⟩
end

/-! ### targets -/
def tG (K : PySem.W.Frag) (tch : List Nat) (ft : D → Env → Option Env) : TG := fun v σ H Q => ∃ (α : Nat → Addr) (ρ : Env) (F G : Hp) (d : D), Fits K α ρ σ H F G ∧ Rep K F d v ∧ ∃ ρ', ft d ρ = some ρ' ∧
  ∀ σ' H' F', Grow G F F' → Fits K α ρ' σ' H' F' G → Sub H H' → σ'.length = σ.length → (∀ j, j ∉ tch → σ'[j]? = σ[j]?) → Q σ' H'
def tGs (K : PySem.W.Frag) (tch : List Nat) (ft : List D → Env → Option Env) : TGs := fun vs σ H Q => ∃ (α : Nat → Addr) (ρ : Env) (F G : Hp) (ds : List D), Fits K α ρ σ H F G ∧ Reps K F ds vs ∧ ∃ ρ', ft ds ρ = some ρ' ∧
  ∀ σ' H' F', Grow G F F' → Fits K α ρ' σ' H' F' G → Sub H H' → σ'.length = σ.length → (∀ j, j ∉ tch → σ'[j]? = σ[j]?) → Q σ' H'
theorem _root_.L2.PG.weak {X : Cx} {e : Expr} {t t' : TG} (h : PG X e t) (w : ∀ v σ H Q, t' v σ H Q → t v σ H Q) : PG X e t' := ⟨fun pins s σ H v u Q I r q => h.run pins s σ H v u Q I r (w v σ H Q q)⟩
theorem _root_.L2.PGs.weak {X : Cx} {e : List Expr} {t t' : TGs} (h : PGs X e t) (w : ∀ v σ H Q, t' v σ H Q → t v σ H Q) : PGs X e t' := ⟨fun pins s σ H v u Q I r q => h.run pins s σ H v u Q I r (w v σ H Q q)⟩
def gtName (i : Nat) : D → Env → Option Env := fun d ρ => setV ρ i (.val d)
def gtNil : List D → Env → Option Env := fun ds ρ => if ds.isEmpty then some ρ else none
def gtCons (f : D → Env → Option Env) (fs : List D → Env → Option Env) : List D → Env → Option Env
  | d :: ds, ρ => match f d ρ with
    | some ρ1 => fs ds ρ1
    | none => none
  | [], _ => none
def gtTup (n : Nat) (fs : List D → Env → Option Env) : D → Env → Option Env
  | .tup ds, ρ => if ds.length = n then fs ds ρ else none
  | _, _ => none
section
variable {X : Cx} {pos : Pos}
theorem gd_name {i : Nat} {x : Str} (hN : X.N.Nodup) (hi : X.N[i]? = some x := by rfl) (hx : Loc X.env.scope x := by first | exact .inl rfl | exact .inr rfl) (hf : X.fn x = true ∨ X.env.scope.names.lookup x = some .local := by first | exact .inl rfl | exact .inr rfl | assumption) :
    PG X (.Name x pos) (tG X.K [i] (gtName i)) := by
  refine (pg_name hN hi hx hf).weak fun v σ H Q ⟨α, ρ, F, G, d, f, r, ρ', e, h⟩ => ?_
  obtain ⟨t, e1, rfl⟩ := setV_there e
  refine h _ H F (Grow.refl _ _) (f.setSlot e1 ⟨v, rfl, r⟩ fun o => by cases o) (Sub.refl _) (by rw [List.length_set]) fun j hj => ?_
  rw [List.getElem?_set_ne]
  exact fun z => hj (by simp [z])
theorem gd_nil : PGs X [] (tGs X.K [] gtNil) := by
  refine pgs_nil.weak fun vs σ H Q ⟨α, ρ, F, G, ds, f, r, ρ', e, h⟩ => ?_
  unfold gtNil at e
  cases ds with
  | cons d ds => simp at e
  | nil =>
    simp at e
    subst e
    cases r
    exact ⟨rfl, h σ H F (Grow.refl _ _) f (Sub.refl _) rfl fun _ _ => rfl⟩
theorem gd_cons {e : Expr} {es : List Expr} {t1 t2 : List Nat} {f1 : D → Env → Option Env} {f2 : List D → Env → Option Env} (h1 : PG X e (tG X.K t1 f1)) (h2 : PGs X es (tGs X.K t2 f2))
    (hs : (assignEach (e :: es) X.env).map (·.2) = assign e X.env :: (assignEach es X.env).map (·.2) := by rfl) : PGs X (e :: es) (tGs X.K (t1 ++ t2) (gtCons f1 f2)) := by
  refine (pgs_cons h1 h2 hs).weak fun vs σ H Q ⟨α, ρ, F, G, ds, f, r, ρ', e, h⟩ => ?_
  cases ds with
  | nil => cases e
  | cons d ds =>
    obtain ⟨v, t, rfl, rv, rt⟩ := r
    unfold gtCons at e
    cases e1 : f1 d ρ with
    | none => simp [e1] at e
    | some ρ1 =>
      simp only [e1] at e
      refine ⟨v, t, rfl, α, ρ, F, G, d, f, rv, ρ1, e1, fun σ1 H1 F1 g1 ft1 sb1 l1 k1 => ?_⟩
      refine ⟨α, ρ1, F1, G, ds, ft1, Reps.mono g1.sub _ _ rt, ρ', e, fun σ2 H2 F2 g2 ft2 sb2 l2 k2 => ?_⟩
      exact h σ2 H2 F2 (g1.trans g2) ft2 (sb1.trans sb2) (l2.trans l1) fun j hj => (k2 j fun z => hj (List.mem_append_right _ z)).trans (k1 j fun z => hj (List.mem_append_left _ z))
theorem gd_tup {es : List Expr} {k : Nat} {t : List Nat} {fs : List D → Env → Option Env} {n : Nat} (hc : X.calm = true) (h : PGs X es (tGs X.K t fs))
    (hn : (assignEach es X.env).length = n := by rfl) (hst : (assignEach es X.env).findIdx? (·.1) = none := by rfl) : PG X (.Tuple es k pos) (tG X.K t (gtTup n fs)) := by
  refine (pg_tup hc h hn hst).weak fun v σ H Q ⟨α, ρ, F, G, d, f, r, ρ', e, q⟩ => ?_
  cases d with
  | tup ds =>
    obtain ⟨a, vs, rfl, hq, rs⟩ := r
    replace e : (if ds.length = n then fs ds ρ else none) = some ρ' := e
    by_cases hl : ds.length = n
    · rw [if_pos hl] at e
      exact ⟨a, vs, rfl, f.fh.sqT hq, by rw [rs.length]; exact hl, α, ρ, F, G, ds, f, rs, ρ', e, q⟩
    · rw [if_neg hl] at e
      cases e
  | _ => cases e
end
/-- target = value -/
def dAsg (ft : D → Env → Option Env) (g : Ev) : Sv := fun ρ => (g ρ).settle.st fun r ρ1 => match frz r ρ1 with
  | some (d, ρ2) => SR.of (ft d ρ2)
  | none => .no
section
variable {X : Cx} {W : WX} {e tg : Expr} {g : Ev} {pos : Pos}
theorem sd_asg {tch : List Nat} {ft : D → Env → Option Env} (he : PE X e (tE X.K W g)) (hg : PG X tg (tG X.K tch ft)) (hs : swapsWithSole [tg] e pos.line X.env = pure false := by rfl) (hw : swappedStores [tg] e X.env = pure none := by rfl)
    (h1 : (assignEach [tg] X.env).map (·.2) = [assign tg X.env] := by rfl) : PS X (.Assign [tg] e pos) (tS X.K W (dAsg ft g)) := by
  refine (ps_asg he hg hs hw h1).weak fun D σ H ⟨α, ρ, F, G, f, h⟩ => ⟨α, ρ, F, G, f, EC.stS (fun r ρ1 v H1 F1 g1 f1 r1 h1 => ?_) h⟩
  cases e1 : frz r ρ1 with
  | none => simp [e1, SC] at h1
  | some w =>
    obtain ⟨d, ρ2⟩ := w
    simp only [e1] at h1
    obtain ⟨F2, g2, f2, r2⟩ := f1.frz r1 e1
    obtain ⟨ρ3, e3, h3⟩ := sc_of h1
    exact ⟨α, ρ2, F2, G, d, f2, r2, ρ3, e3, fun σ' H' F' gr ft' _ _ _ => h3 σ' H' F' (g2.trans gr) ft'⟩
/-- a, b = x, y with plain local names -/
def dPar (i j : Nat) (ga gb : Ev) : Sv := fun ρ => (ga ρ).settle.st fun r1 ρ1 => (gb ρ1).settle.st fun r2 ρ2 => match frz r1 ρ2 with
  | some (d, ρ3) => match frz r2 ρ3 with
    | some (e, ρ4) => match setV ρ4 i (.val d) with
      | some ρ5 => SR.of (setV ρ5 j (.val e))
      | none => .no
    | none => .no
  | none => .no
theorem sd_par {i j : Nat} {x y : Str} {a b : Expr} {px py pt : Pos} {kt k2 pt2} {ga gb : Ev} (hc : X.calm = true) (hN : X.N.Nodup) (ha : PE X a (tE X.K W ga)) (hb : PE X b (tE X.K W gb)) (hij : i ≠ j)
    (hi : X.N[i]? = some x := by rfl) (hj : X.N[j]? = some y := by rfl)
    (hx : X.env.scope.names.lookup x = some .local := by rfl) (hy : X.env.scope.names.lookup y = some .local := by rfl) (h1 : starEach [a, b] X.env = (false, eval a X.env) :: starEach [b] X.env := by rfl) (h2 : starEach [b] X.env = (false, eval b X.env) :: starEach [] X.env := by rfl)
    (hw : swappedStores [.Tuple [.Name x px, .Name y py] kt pt] (.Tuple [a, b] k2 pt2) X.env = pure (some [x, y]) := by rfl)
    (hs : swapsWithSole [.Tuple [.Name x px, .Name y py] kt pt] (.Tuple [a, b] k2 pt2) pos.line X.env = pure false := by rfl) :
    PS X (.Assign [.Tuple [.Name x px, .Name y py] kt pt] (.Tuple [a, b] k2 pt2) pos) (tS X.K W (dPar i j ga gb)) := by
  refine (ps_par hc hN hi hj hij hx hy (pa_cons ha (pa_cons hb pa_nil h2) h1) hw hs).weak fun D σ H ⟨α, ρ, F, G, f, h⟩ => ⟨α, ρ, F, G, f, EC.stS (fun r1 ρ1 v H1 F1 g1 f1 s1 h1 => ?_) h⟩
  refine ⟨α, ρ1, F1, G, f1, EC.stS (fun r2 ρ2 u H2 F2 g2 f2 s2 h2 => ?_) h1⟩
  cases e1 : frz r1 ρ2 with
  | none => simp [e1, SC] at h2
  | some w =>
    obtain ⟨d, ρ3⟩ := w
    simp only [e1] at h2
    obtain ⟨F3, g3, f3, r3⟩ := f2.frz (s1.mono g2.sub) e1
    cases e2 : frz r2 ρ3 with
    | none => simp [e2, SC] at h2
    | some w =>
      obtain ⟨d', ρ4⟩ := w
      simp only [e2] at h2
      obtain ⟨F4, g4, f4, r4⟩ := f3.frz (s2.mono g3.sub) e2
      cases e3 : setV ρ4 i (.val d) with
      | none => simp [e3, SC] at h2
      | some ρ5 =>
        simp only [e3] at h2
        obtain ⟨ρ6, e4, h4⟩ := sc_of h2
        obtain ⟨t, e5, rfl⟩ := setV_there e3
        have f5 := f4.setSlot (s := .val d) (v := v) e5 ⟨v, rfl, Rep.mono g4.sub _ _ r3⟩ fun o => by cases o
        obtain ⟨t', e6, rfl⟩ := setV_there e4
        have f6 := f5.setSlot (s := .val d') (v := u) e6 ⟨u, rfl, r4⟩ fun o => by cases o
        exact ⟨v, u, rfl, h4 _ H2 F4 (g3.trans g4) f6⟩
end

/-! ### what a loop walks -/
inductive IR where | ok (ds : List D) (ρ : Env) | ex (x : Exn) (ρ : Env) | no
abbrev Iv := Env → IR
/-- the iterator J gives the items ds as long as the data F and what H has stand -/
def JD (K : PySem.W.Frag) (F : Hp) (J : It) (ds : List D) : Prop := ∀ (H1 F1 : Hp), Sub F F1 → Sub F1 H1 →
  (∀ (i : Nat) (d : D), ds[i]? = some d → J.go i H1 ∧ ∀ x H2, J.yld i H1 x H2 → ∃ F2, Ext H1 F1 H2 F2 ∧ Rep K F2 d x) ∧ J.stop ds.length H1
def IC (K : PySem.W.Frag) (W : WX) (α : Nat → Addr) (σ : L2.St) (F G : Hp) (R : It → Hp → Prop) : IR → Prop
  | .ok ds ρ => ∀ J H' F', Grow G F F' → Fits K α ρ σ H' F' G → JD K F' J ds → R J H'
  | .ex x ρ => ∀ cls d H' F', Grow G F F' → Fits K α ρ σ H' F' G → RepX K F' H' x cls d → W cls d σ H'
  | .no => False
def tI (K : PySem.W.Frag) (W : WX) (g : Iv) : TI := fun σ H R => ∃ (α : Nat → Addr) (ρ : Env) (F G : Hp), Fits K α ρ σ H F G ∧ IC K W α σ F G R (g ρ)
theorem _root_.L2.PI.weak {X : Cx} {tg e : Expr} {t t' : TI} (h : PI X tg e t) (w : ∀ σ H R, t' σ H R → t σ H R) : PI X tg e t' := ⟨fun pins s σ H R I q => h.run pins s σ H R I (w σ H R q)⟩
/-- for -/
def forGo (ft : D → Env → Option Env) (gb : Sv) : List D → Env → SR
  | [], ρ => .nx ρ
  | d :: ds, ρ => match ft d ρ with
    | some ρ1 => match gb ρ1 with
      | .nx ρ2 => forGo ft gb ds ρ2
      | .ct ρ2 => forGo ft gb ds ρ2
      | .bk ρ2 => .nx ρ2
      | .rt r ρ2 => .rt r ρ2
      | .ex x ρ2 => .ex x ρ2
      | .no => .no
    | none => .no
def dFor (gi : Iv) (ft : D → Env → Option Env) (gb : Sv) : Sv := fun ρ => match gi ρ with
  | .ok ds ρ1 => forGo ft gb ds ρ1
  | .ex x ρ1 => .ex x ρ1
  | .no => .no
theorem drop_cons {α : Type} {l : List α} {i : Nat} (h : i < l.length) : ∃ x, l[i]? = some x ∧ l.drop i = x :: l.drop (i + 1) := ⟨l[i], List.getElem?_eq_getElem h, List.drop_eq_getElem_cons h⟩
section
variable {X : Cx} {W : WX} {tg iter : Expr} {body : List Stmt} {gi : Iv} {ft : D → Env → Option Env} {gb : Sv} {tch : List Nat} {pos : Pos}
theorem sd_for (hp : PassesOwn (model X.prog X.w) X.A X.env X.xe) (hc : X.calm = true) (hi : PI X tg iter (tI X.K W gi)) (hg : PG X tg (tG X.K tch ft)) (hb : PSs X body (tS X.K W gb))
    (hs : ∀ x, foldedSetIterable iter X.env x = pure x := by intro _; rfl) : PS X (.For tg iter body [] pos) (tS X.K W (dFor gi ft gb)) := by
  refine (ps_for hp hc hi hg hb hs).weak fun D σ H ⟨α, ρ, F, G, f, h⟩ => ⟨α, ρ, F, G, f, ?_⟩
  unfold dFor at h
  cases e1 : gi ρ with
  | no => simp [e1, SC] at h
  | ex x ρ1 => simp only [e1] at h; exact fun c d H1 F1 g1 f1 x1 => h c d σ H1 F1 g1 f1 x1
  | ok ds ρ1 =>
    simp only [e1] at h
    intro J H1 F1 g1 f1 jd
    refine ⟨fun i m σ H => m = ds.length - i ∧ i ≤ ds.length ∧ ∃ ρ F', Grow G F1 F' ∧ Fits X.K α ρ σ H F' G ∧ SC X.K W α F' G D (forGo ft gb (ds.drop i) ρ), ⟨ds.length, rfl, Nat.zero_le _, ρ1, F1, Grow.refl _ _, f1, by simpa using SC.mono g1 h⟩, ?_⟩
    rintro i m σ H ⟨rfl, hi, ρ, F2, g2, f2, h2⟩
    obtain ⟨j1, j2⟩ := jd H F2 g2.sub f2.fh
    by_cases hlt : i < ds.length
    · obtain ⟨d, hd, hdr⟩ := drop_cons hlt
      obtain ⟨go, yl⟩ := j1 i d hd
      rw [hdr] at h2
      refine .inr ⟨go, fun σ' H' => i + 1 ≤ ds.length ∧ ∃ ρ F', Grow G F1 F' ∧ Fits X.K α ρ σ' H' F' G ∧ SC X.K W α F' G D (forGo ft gb (ds.drop (i + 1)) ρ), fun σ' H' n => ⟨ds.length - (i + 1), by omega, rfl, n⟩, fun x H' y => ?_⟩
      obtain ⟨F3, ex, r3⟩ := yl x H' y
      have f3 := f2.ext ex
      have g3 := f2.grow ex
      unfold forGo at h2
      cases e2 : ft d ρ with
      | none => simp [e2, SC] at h2
      | some ρ2 =>
        simp only [e2] at h2
        refine ⟨α, ρ, F3, G, d, f3, r3, ρ2, e2, fun σ4 H4 F4 g4 f4 _ _ _ => ⟨α, ρ2, F4, G, f4, ?_⟩⟩
        have h4 := SC.mono (g3.trans g4) h2
        cases e3 : gb ρ2 with
        | no => simp [e3, SC] at h4
        | nx ρ5 =>
          simp only [e3] at h4
          exact fun σ5 H5 F5 g5 f5 => ⟨hlt, ρ5, F5, ((g2.trans g3).trans g4).trans g5, f5, SC.mono g5 h4⟩
        | ct ρ5 =>
          simp only [e3] at h4
          exact fun σ5 H5 F5 g5 f5 => ⟨hlt, ρ5, F5, ((g2.trans g3).trans g4).trans g5, f5, SC.mono g5 h4⟩
        | bk ρ5 =>
          simp only [e3] at h4
          exact fun σ5 H5 F5 g5 f5 => h4 σ5 H5 F5 g5 f5
        | rt r ρ5 =>
          simp only [e3] at h4
          exact h4
        | ex x ρ5 =>
          simp only [e3] at h4
          exact h4
    · have e : i = ds.length := by omega
      subst e
      rw [List.drop_length] at h2
      exact .inl ⟨j2, h2 σ H F2 (Grow.refl _ _) f2⟩
/-- while, n turns at the most -/
def whileGo (gc : Ev) (gb : Sv) : Nat → Env → SR
  | 0, _ => .no
  | n + 1, ρ => (gc ρ).st fun r ρ1 => match r with
    | .val (.bl true) => match gb ρ1 with
      | .nx ρ2 => whileGo gc gb n ρ2
      | .ct ρ2 => whileGo gc gb n ρ2
      | .bk ρ2 => .nx ρ2
      | .rt r ρ2 => .rt r ρ2
      | .ex x ρ2 => .ex x ρ2
      | .no => .no
    | .val (.bl false) => .nx ρ1
    | _ => .no
theorem sd_while {c : Expr} {gc : Ev} (n : Nat) (hp : PassesOwn (model X.prog X.w) X.A X.env X.xe) (hc : PT X c (tT X.K W gc)) (hb : PSs X body (tS X.K W gb)) : PS X (.While c body [] pos) (tS X.K W (whileGo gc gb n)) := by
  refine (ps_while hp hc hb).weak fun D σ H ⟨α, ρ, F, G, f, h⟩ => ?_
  refine ⟨fun m σ H => ∃ ρ F', Fits X.K α ρ σ H F' G ∧ SC X.K W α F' G D (whileGo gc gb m ρ), ⟨n, ρ, F, f, h⟩, fun m σ1 H1 ⟨ρ1, F1, f1, h1⟩ => ?_⟩
  cases m with
  | zero => exact h1.elim
  | succ m =>
    refine ⟨α, ρ1, F1, G, f1, BC.st (fun r ρ2 hr => ?_) (fun b ρ2 H2 F2 g2 f2 h2 => ?_) h1⟩
    · cases r with
      | val d =>
        cases d with
        | bl b => exact absurd rfl (hr b)
        | _ => rfl
      | _ => rfl
    · cases b with
      | false => exact iteF (h2 σ1 H2 F2 (Grow.refl _ _) f2)
      | true =>
        refine iteT ⟨fun σ' H' => ∃ ρ F', Fits X.K α ρ σ' H' F' G ∧ SC X.K W α F' G D (whileGo gc gb m ρ), fun σ' H' q => ⟨m, Nat.lt_succ_self _, q⟩, α, ρ2, F2, G, f2, ?_⟩
        cases e3 : gb ρ2 with
        | no => simp [e3, SC] at h2
        | nx ρ5 => simp only [e3] at h2; exact fun σ5 H5 F5 g5 f5 => ⟨ρ5, F5, f5, SC.mono g5 h2⟩
        | ct ρ5 => simp only [e3] at h2; exact fun σ5 H5 F5 g5 f5 => ⟨ρ5, F5, f5, SC.mono g5 h2⟩
        | bk ρ5 => simp only [e3] at h2; exact fun σ5 H5 F5 g5 f5 => h2 σ5 H5 F5 g5 f5
        | rt r ρ5 => simp only [e3] at h2; exact h2
        | ex x ρ5 => simp only [e3] at h2; exact h2
end

/-! ### a def -/
def outsOf : List Bool → List D → Env → Option (List D)
  | [], [], _ => some []
  | true :: ms, _ :: ds, .bor d :: ρ => match outsOf ms ds ρ with
    | some os => some (d :: os)
    | none => none
  | false :: ms, d :: ds, _ :: ρ => match outsOf ms ds ρ with
    | some os => some (d :: os)
    | none => none
  | _, _, _ => none
def dDef (n : Nat) (ms : List Bool) (g : Sv) : List D → DR := fun ds => if ds.length = ms.length then match g (argEnv ms ds ++ List.replicate (n - ms.length) .non) with
    | .nx ρ => match outsOf ms ds ρ with
      | some os => .ok (.val .non) os
      | none => .no
    | .rt r ρ => match r with
      | .loc _ => .no
      | r => match outsOf ms ds ρ with
        | some os => .ok r os
        | none => .no
    | .ex x ρ => match outsOf ms ds ρ with
      | some os => .ex x os
      | none => .no
    | _ => .no
  else .no
theorem dDef_loc (n : Nat) (ms : List Bool) (g : Sv) (ds : List D) (r : RV) (outs : List D) (h : dDef n ms g ds = .ok r outs) : ∀ i, r ≠ .loc i := by
  intro i e
  subst e
  unfold dDef at h
  split at h
  · split at h
    · split at h
      · cases h
      · cases h
    · split at h
      · cases h
      · split at h
        · rename_i hn _ _ _
          cases h
          exact hn i rfl
        · cases h
    · split at h <;> cases h
    · cases h
  · cases h
theorem outsOf_env : ∀ {ms : List Bool} {ds os : List D} {ρ : Env}, outsOf ms ds ρ = some os → os.length = ms.length ∧ ds.length = ms.length ∧
    ∀ {j : Nat} {s : Slot}, (argEnv ms os)[j]? = some s → (∃ d, s = .bor d ∧ ms[j]? = some true ∧ ρ[j]? = some (.bor d)) ∨ ∃ d, s = .val d ∧ (argEnv ms ds)[j]? = some (.val d)
  | [], [], os, ρ, h => by
    cases h
    exact ⟨rfl, rfl, fun {j s} q => by simp [argEnv] at q⟩
  | true :: ms, d :: ds, os, .bor d' :: ρ, h => by
    unfold outsOf at h
    cases e : outsOf ms ds ρ with
    | none => simp [e] at h
    | some os' =>
      simp [e] at h
      subst h
      obtain ⟨a, b, c⟩ := outsOf_env e
      refine ⟨by simp [a], by simp [b], fun {j s} q => ?_⟩
      cases j with
      | zero => simp [argEnv] at q; subst q; exact .inl ⟨d', rfl, rfl, rfl⟩
      | succ j => simpa [argEnv] using c (j := j) (s := s) (by simpa [argEnv] using q)
  | false :: ms, d :: ds, os, t :: ρ, h => by
    unfold outsOf at h
    cases e : outsOf ms ds ρ with
    | none => simp [e] at h
    | some os' =>
      simp [e] at h
      subst h
      obtain ⟨a, b, c⟩ := outsOf_env e
      refine ⟨by simp [a], by simp [b], fun {j s} q => ?_⟩
      cases j with
      | zero => simp [argEnv] at q; subst q; exact .inr ⟨d, rfl, rfl⟩
      | succ j => simpa [argEnv] using c (j := j) (s := s) (by simpa [argEnv] using q)
  | [], _ :: _, os, ρ, h => by simp [outsOf] at h
  | true :: ms, [], os, ρ, h => by simp [outsOf] at h
  | false :: ms, [], os, ρ, h => by simp [outsOf] at h
  | true :: ms, d :: ds, os, [], h => by simp [outsOf] at h
  | false :: ms, d :: ds, os, [], h => by simp [outsOf] at h
  | true :: ms, d :: ds, os, .non :: ρ, h => by simp [outsOf] at h
  | true :: ms, d :: ds, os, .val _ :: ρ, h => by simp [outsOf] at h
  | true :: ms, d :: ds, os, .own _ :: ρ, h => by simp [outsOf] at h
/-- the entry's state, with the def's other names -/
theorem Fits.start {K : PySem.W.Frag} {α : Nat → Addr} {ms : List Bool} {ds : List D} {vs : List V} {H F G : Hp} {N : List Str} (f : Fits K α (argEnv ms ds) (vs.map some) H F G) (hl : ds.length = ms.length) (hn : vs.length = ms.length) :
    Fits K α (argEnv ms ds ++ List.replicate (N.length - ms.length) .non) (L2.start N vs) H F G := by
  have l1 : (argEnv ms ds).length = ms.length := argEnv_length hl
  have hs : ∀ {j : Nat} {s : Slot}, (argEnv ms ds ++ List.replicate (N.length - ms.length) Slot.non)[j]? = some s → ((argEnv ms ds)[j]? = some s ∧ j < ms.length) ∨ (s = .non ∧ ms.length ≤ j ∧ j < ms.length + (N.length - ms.length)) := fun {j s} q => by
    by_cases hj : j < ms.length
    · rw [List.getElem?_append_left (by rw [l1]; exact hj)] at q
      exact .inl ⟨q, hj⟩
    · rw [List.getElem?_append_right (by rw [l1]; omega), List.getElem?_replicate] at q
      split at q
      · cases q
        rename_i hlt
        rw [l1] at hlt
        exact .inr ⟨rfl, by omega, by omega⟩
      · cases q
  refine ⟨f.fh, f.gh, ?_, fun j s q => ?_, fun j k s t a q1 q2 o1 o2 h1 h2 => ?_⟩
  · unfold L2.start
    rw [List.length_append, List.length_append, List.length_map, List.length_replicate, List.length_replicate, l1, hn]
  · unfold L2.start
    rcases hs q with ⟨q', hj⟩ | ⟨rfl, h1, h2⟩
    · obtain ⟨x, hx, so⟩ := f.slot j s q'
      exact ⟨x, by rw [List.getElem?_append_left (by rw [List.length_map, hn]; exact hj)]; exact hx, so⟩
    · refine ⟨none, ?_, trivial⟩
      rw [List.getElem?_append_right (by rw [List.length_map, hn]; exact h1), List.getElem?_replicate, if_pos (by rw [List.length_map]; omega)]
  · unfold L2.start at h1 h2
    rcases hs q1 with ⟨q1', hj⟩ | ⟨rfl, _, _⟩
    · rcases hs q2 with ⟨q2', hk⟩ | ⟨rfl, _, _⟩
      · rw [List.getElem?_append_left (by rw [List.length_map, hn]; exact hj)] at h1
        rw [List.getElem?_append_left (by rw [List.length_map, hn]; exact hk)] at h2
        exact f.sep j k s t a q1' q2' o1 o2 h1 h2
      · cases o2
    · cases o1
/-- the exit's state, of the parameters alone -/
theorem Fits.exit {K : PySem.W.Frag} {α : Nat → Addr} {ms : List Bool} {ds os : List D} {vs : List V} {H F G H' F' : Hp} {ρ : Env} {σ : L2.St} (f : Fits K α (argEnv ms ds) (vs.map some) H F G) (e : outsOf ms ds ρ = some os) (hn : vs.length = ms.length) (g : Grow G F F') (f' : Fits K α ρ σ H' F' G) :
    os.length = ms.length ∧ Fits K α (argEnv ms os) (vs.map some) H' F' G := by
  obtain ⟨a, b, c⟩ := outsOf_env e
  have lent : ∀ {j : Nat}, ms[j]? = some true → (vs.map some)[j]? = some (some (.ref (α j))) := fun {j} hm => by
    obtain ⟨d, _, q⟩ := argEnv_at b hm
    obtain ⟨x, hx, so⟩ := f.slot j _ q
    rw [hx, so.1]
  refine ⟨a, f'.fh, f'.gh, by rw [List.length_map, argEnv_length a, hn], fun j s q => ?_, fun j k s t z q1 q2 o1 o2 h1 h2 => ?_⟩
  · rcases c q with ⟨d, rfl, hm, hr⟩ | ⟨d, rfl, hr⟩
    · obtain ⟨x, hx, so⟩ := f'.slot j _ hr
      obtain ⟨_, fa, ga, cc⟩ := so
      exact ⟨_, lent hm, rfl, fa, ga, cc⟩
    · obtain ⟨x, hx, v, rfl, r⟩ := f.slot j _ hr
      exact ⟨_, hx, v, rfl, Rep.mono g.sub _ _ r⟩
  · rcases c q1 with ⟨d, rfl, hm, hr⟩ | ⟨d, rfl, hr⟩
    · rcases c q2 with ⟨d', rfl, hm', hr'⟩ | ⟨d', rfl, hr'⟩
      · obtain ⟨_, _, w1⟩ := argEnv_at b hm
        obtain ⟨_, _, w2⟩ := argEnv_at b hm'
        exact f.sep j k _ _ z w1 w2 rfl rfl h1 h2
      · cases o2
    · cases o1
section
variable {P : Program} {w : World} {K : PySem.W.Frag} {mg : Str → Option Value} {base : Heap}
/-- THE RULE of a def -/
theorem def_ok {x qual : Str} {st : Stmt} {f : Addr} {fd : FuncData} {N ps : List Str} {k : Nat} {ms : List Bool} {g : Sv} (F : Fun K x qual st f fd) (S : FnScope N ps (defScope st)) (hm : ms.length = ps.length)
    (hb : ∀ (cdv : Value) (A : Around) (outer : List PySem.Env) (s : Shared) (H : Hp) (E : XK), Room k (A.deeper (PyProof.Rows.envOfC qual (defScope st) s.heap.objs.size f cdv)) →
      PSs (cxOf (L2.CX P w) P w K mg base N qual (defScope st) f cdv A outer s H E) (defBody st) (tS K (fun cls d _ H' => E cls d H') g)) :
    FnOk P w K mg base (L2.CX P w) (k + 1) f fd ps (spD K ms (dDef N.length ms g)) := by
  refine F.okX S (fun vs H Q E h => (spD_len vs H Q E h).trans hm) (fun cdv A outer s H vs Q E hr h => ⟨_, hb cdv A outer s H E hr, ?_⟩)
  have hn := spD_len vs H Q E h
  obtain ⟨α, F0, G, ds, hl, ft, h⟩ := h
  refine ⟨α, _, F0, G, ft.start hl hn, ?_⟩
  unfold dDef at h
  rw [if_pos hl] at h
  cases e1 : g (argEnv ms ds ++ List.replicate (N.length - ms.length) .non) with
  | no => simp [e1, DC] at h
  | bk ρ => simp [e1, DC] at h
  | ct ρ => simp [e1, DC] at h
  | nx ρ =>
    simp only [e1] at h
    cases e2 : outsOf ms ds ρ with
    | none => simp [e2, DC] at h
    | some os =>
      simp only [e2] at h
      exact fun σ' H' F' g1 f1 => h .non H' F' g1 (ft.exit e2 hn g1 f1).1 (ft.exit e2 hn g1 f1).2 rfl
  | ex x ρ =>
    simp only [e1] at h
    cases e2 : outsOf ms ds ρ with
    | none => simp [e2, DC] at h
    | some os =>
      simp only [e2] at h
      exact fun c d σ' H' F' g1 f1 x1 => h c d H' F' g1 (ft.exit e2 hn g1 f1).1 (ft.exit e2 hn g1 f1).2 x1
  | rt r ρ =>
    simp only [e1] at h
    cases r with
    | loc i => simp [DC] at h
    | val d =>
      simp only at h
      cases e2 : outsOf ms ds ρ with
      | none => simp [e2, DC] at h
      | some os =>
        simp only [e2] at h
        exact fun v σ' H' F' g1 f1 r1 => h v H' F' g1 (ft.exit e2 hn g1 f1).1 (ft.exit e2 hn g1 f1).2 r1
    | new d =>
      simp only at h
      cases e2 : outsOf ms ds ρ with
      | none => simp [e2, DC] at h
      | some os =>
        simp only [e2] at h
        refine fun v σ' H' F' g1 f1 r1 => h v H' F' g1 (ft.exit e2 hn g1 f1).1 (ft.exit e2 hn g1 f1).2 ?_
        obtain ⟨a, rfl, fa, ga, c, sp⟩ := r1
        refine ⟨a, rfl, fa, ga, c, fun j s q o z => ?_⟩
        obtain ⟨l1, l2, k⟩ := outsOf_env e2
        rcases k q with ⟨d', rfl, hmm, hr'⟩ | ⟨d', rfl, _⟩
        · obtain ⟨_, _, q0⟩ := argEnv_at l2 hmm
          obtain ⟨x0, hx0, so0⟩ := ft.slot j _ q0
          obtain ⟨x1, hx1, so1⟩ := f1.slot j _ hr'
          have e3 : x0 = some (V.ref (α j)) := so0.1
          have e4 : x1 = some (V.ref (α j)) := so1.1
          rw [hx0, e3] at z
          cases z
          exact sp j _ hr' rfl (by rw [hx1, e4])
        · cases o
end
end DL

namespace DL
open PySem PySem.Spec L2
variable [HasW]

/-! ### a list comprehension -/
def wipeE (ρ : Env) : List Nat → Env
  | [] => ρ
  | v :: vs => (wipeE ρ vs).set v .non
def restE (ρ2 ρ1 : Env) : List Nat → Env
  | [] => ρ2
  | v :: vs => match ρ1[v]? with
    | some s => (restE ρ2 ρ1 vs).set v s
    | none => restE ρ2 ρ1 vs
/-- none of these slots owns -/
def idle (ρ : Env) : List Nat → Bool
  | [] => true
  | v :: vs => (match ρ[v]? with
    | some s => !s.owns
    | none => true) && idle ρ vs
def compGo (vs : List Nat) (ft : D → Env → Option Env) (gt ge : Ev) : List D → Env → Option (List D × Env)
  | [], ρ => some ([], ρ)
  | d :: ds, ρ => match ft d ρ with
    | some ρ1 => match gt ρ1 with
      | .ok (.val (.bl true)) ρ2 => match (ge ρ2).settle with
        | .ok r ρ3 => match frz r ρ3 with
          | some (y, ρ4) => match compGo vs ft gt ge ds (wipeE ρ4 vs) with
            | some (ys, ρ5) => some (y :: ys, ρ5)
            | none => none
          | none => none
        | _ => none
      | .ok (.val (.bl false)) ρ2 => compGo vs ft gt ge ds (wipeE ρ2 vs)
      | _ => none
    | none => none
def dLc (gi : Iv) (vs : List Nat) (ft : D → Env → Option Env) (gt ge : Ev) : Ev := fun ρ => match gi ρ with
  | .ok ds ρ1 => if idle ρ1 vs = true ∧ ds.length ≤ 1000000 then match compGo vs ft gt ge ds (wipeE ρ1 vs) with
      | some (ys, ρ2) => .ok (.new (.lst ys)) (restE ρ2 ρ1 vs)
      | none => .no
    else .no
  | .ex x ρ1 => .ex x ρ1
  | .no => .no
theorem wipeE_length (ρ : Env) : ∀ vs : List Nat, (wipeE ρ vs).length = ρ.length
  | [] => rfl
  | v :: vs => by unfold wipeE; rw [List.length_set, wipeE_length ρ vs]
theorem wipeE_get {ρ : Env} : ∀ {vs : List Nat} {j : Nat} {s : Slot}, (wipeE ρ vs)[j]? = some s → (j ∉ vs ∧ ρ[j]? = some s) ∨ (j ∈ vs ∧ s = .non)
  | [], j, s, h => .inl ⟨by simp, h⟩
  | v :: vs, j, s, h => by
    unfold wipeE at h
    by_cases e : v = j
    · subst e
      have hl : v < (wipeE ρ vs).length := by
        have := (List.getElem?_eq_some_iff.mp h).1
        rwa [List.length_set] at this
      rw [List.getElem?_set_self hl] at h
      cases h
      exact .inr ⟨List.mem_cons_self, rfl⟩
    · rw [List.getElem?_set_ne e] at h
      rcases wipeE_get h with ⟨a, b⟩ | ⟨a, b⟩
      · exact .inl ⟨by simp only [List.mem_cons, not_or]; exact ⟨fun z => e z.symm, a⟩, b⟩
      · exact .inr ⟨List.mem_cons_of_mem _ a, b⟩
theorem wipe_get {σ : L2.St} : ∀ {vs : List Nat} {j : Nat}, (j ∉ vs → (wipe σ vs)[j]? = σ[j]?) ∧ (j < σ.length → ∃ x, (wipe σ vs)[j]? = some x)
  | [], j => ⟨fun _ => rfl, fun h => ⟨_, List.getElem?_eq_getElem h⟩⟩
  | v :: vs, j => by
    obtain ⟨a, b⟩ := wipe_get (σ := σ) (vs := vs) (j := j)
    unfold wipe
    refine ⟨fun n => ?_, fun h => ?_⟩
    · simp only [List.mem_cons, not_or] at n
      rw [List.getElem?_set_ne (Ne.symm n.1)]
      exact a n.2
    · have : j < ((wipe σ vs).set v none).length := by rw [List.length_set, wipe_length]; exact h
      exact ⟨_, List.getElem?_eq_getElem this⟩
theorem restE_length (ρ2 ρ1 : Env) : ∀ vs : List Nat, (restE ρ2 ρ1 vs).length = ρ2.length
  | [] => rfl
  | v :: vs => by
    unfold restE
    split
    · rw [List.length_set, restE_length ρ2 ρ1 vs]
    · exact restE_length ρ2 ρ1 vs
theorem restE_get {ρ2 ρ1 : Env} : ∀ {vs : List Nat} {j : Nat} {s : Slot}, ρ1.length = ρ2.length → (restE ρ2 ρ1 vs)[j]? = some s → (j ∉ vs ∧ ρ2[j]? = some s) ∨ (j ∈ vs ∧ ρ1[j]? = some s)
  | [], j, s, _, h => .inl ⟨by simp, h⟩
  | v :: vs, j, s, hl, h => by
    unfold restE at h
    by_cases e : v = j
    · subst e
      cases q : ρ1[v]? with
      | some t =>
        simp only [q] at h
        have hv : v < (restE ρ2 ρ1 vs).length := by rw [restE_length, ← hl]; exact (List.getElem?_eq_some_iff.mp q).1
        rw [List.getElem?_set_self hv] at h
        cases h
        exact .inr ⟨List.mem_cons_self, rfl⟩
      | none =>
        simp only [q] at h
        have h1 := (List.getElem?_eq_some_iff.mp h).1
        rw [restE_length, ← hl] at h1
        have h2 := List.getElem?_eq_none_iff.mp q
        omega
    · have h' : (restE ρ2 ρ1 vs)[j]? = some s := by
        cases q : ρ1[v]? with
        | some t =>
          simp only [q] at h
          rwa [List.getElem?_set_ne e] at h
        | none =>
          simp only [q] at h
          exact h
      rcases restE_get hl h' with ⟨a, b⟩ | ⟨a, b⟩
      · exact .inl ⟨by simp only [List.mem_cons, not_or]; exact ⟨fun z => e z.symm, a⟩, b⟩
      · exact .inr ⟨List.mem_cons_of_mem _ a, b⟩
theorem idle_get {ρ : Env} : ∀ {vs : List Nat} {j : Nat} {s : Slot}, idle ρ vs = true → j ∈ vs → ρ[j]? = some s → s.owns = false
  | [], j, s, _, h, _ => by simp at h
  | v :: vs, j, s, h, hj, e => by
    unfold idle at h
    rw [Bool.and_eq_true] at h
    rcases List.mem_cons.mp hj with rfl | hj
    · rw [e] at h
      simpa using h.1
    · exact idle_get h.2 hj e
section
variable {K : PySem.W.Frag} {W : WX} {α : Nat → Addr} {ρ ρ' ρ1 ρ2 : Env} {σ : L2.St} {H F G H' F' H1 F1 : Hp}
theorem Fits.wiped (f : Fits K α ρ σ H F G) (vs : List Nat) : Fits K α (wipeE ρ vs) (wipe σ vs) H F G := by
  refine ⟨f.fh, f.gh, by rw [wipe_length, wipeE_length]; exact f.len, fun j s q => ?_, fun j k s t a q1 q2 o1 o2 h1 h2 => ?_⟩
  · rcases wipeE_get q with ⟨n, e⟩ | ⟨m, rfl⟩
    · obtain ⟨x, hx, so⟩ := f.slot j s e
      exact ⟨x, by rw [(wipe_get (σ := σ)).1 n]; exact hx, so⟩
    · have hj : j < σ.length := by
        have := (List.getElem?_eq_some_iff.mp q).1
        rw [wipeE_length] at this
        rw [f.len]; exact this
      obtain ⟨x, hx⟩ := (wipe_get (σ := σ) (vs := vs)).2 hj
      exact ⟨x, hx, trivial⟩
  · rcases wipeE_get q1 with ⟨n1, e1⟩ | ⟨_, rfl⟩
    · rcases wipeE_get q2 with ⟨n2, e2⟩ | ⟨_, rfl⟩
      · rw [(wipe_get (σ := σ)).1 n1] at h1
        rw [(wipe_get (σ := σ)).1 n2] at h2
        exact f.sep j k s t a e1 e2 o1 o2 h1 h2
      · cases o2
    · cases o1
theorem Fits.restored {vs : List Nat} (f1 : Fits K α ρ1 σ H1 F1 G) (hid : idle ρ1 vs = true) (f2 : Fits K α ρ2 (wipe σ vs) H' F' G) (s : Sub F1 F') : Fits K α (restE ρ2 ρ1 vs) σ H' F' G := by
  have hl : ρ1.length = ρ2.length := by
    have a := f1.len
    have b := f2.len
    rw [wipe_length] at b
    omega
  refine ⟨f2.fh, f2.gh, by rw [restE_length, ← hl]; exact f1.len, fun j t q => ?_, fun j k t u a q1 q2 o1 o2 h1 h2 => ?_⟩
  · rcases restE_get hl q with ⟨n, e⟩ | ⟨m, e⟩
    · obtain ⟨x, hx, so⟩ := f2.slot j t e
      rw [(wipe_get (σ := σ)).1 n] at hx
      exact ⟨x, hx, so⟩
    · obtain ⟨x, hx, so⟩ := f1.slot j t e
      have no := idle_get hid m e
      refine ⟨x, hx, ?_⟩
      cases t with
      | non => trivial
      | val d => obtain ⟨v, z, r⟩ := so; exact ⟨v, z, Rep.mono s _ _ r⟩
      | own d => cases no
      | bor d => cases no
  · have go : ∀ {j : Nat} {t : Slot}, (restE ρ2 ρ1 vs)[j]? = some t → t.owns = true → j ∉ vs ∧ ρ2[j]? = some t := fun {j t} q o => by
      rcases restE_get hl q with z | ⟨m, e⟩
      · exact z
      · rw [idle_get hid m e] at o; cases o
    obtain ⟨n1, e1⟩ := go q1 o1
    obtain ⟨n2, e2⟩ := go q2 o2
    exact f2.sep j k t u a e1 e2 o1 o2 (by rw [(wipe_get (σ := σ)).1 n1]; exact h1) (by rw [(wipe_get (σ := σ)).1 n2]; exact h2)
/-- an object apart is held still -/
theorem Fits.hold (f : Fits K α ρ σ H F G) {P : Addr} {o : HO} (hp : H P = some o) (ha : ∀ (j : Nat) (s : Slot), ρ[j]? = some s → s.owns = true → σ[j]? ≠ some (some (.ref P))) : Fits K α ρ σ H F (upd G P o) := by
  refine ⟨f.fh, fun b u q => ?_, f.len, fun j s q => ?_, f.sep⟩
  · by_cases e : b = P
    · subst e; rw [upd_same] at q; cases q; exact hp
    · rw [upd_ne e] at q; exact f.gh _ _ q
  · obtain ⟨x, hx, so⟩ := f.slot j s q
    refine ⟨x, hx, ?_⟩
    cases s with
    | non => trivial
    | val d => exact so
    | own d =>
      obtain ⟨a, e, fa, ga, c⟩ := so
      have n : a ≠ P := fun z => ha j _ q rfl (by rw [hx, e, z])
      exact ⟨a, e, fa, by rw [upd_ne n]; exact ga, c⟩
    | bor d =>
      obtain ⟨e, fa, ga, c⟩ := so
      have n : α j ≠ P := fun z => ha j _ q rfl (by rw [hx, e, z])
      exact ⟨e, fa, by rw [upd_ne n]; exact ga, c⟩
/-- .. is changed -/
theorem Fits.turn (f : Fits K α ρ σ H F (upd G P o)) {P : Addr} {o o' : HO} (hF : F P = none) (hG : G P = none) (f : Fits K α ρ σ H F (upd G P o)) : Fits K α ρ σ (upd H P o') F (upd G P o') := by
  have gh' : Sub G H := fun b u q => f.gh b u (by rw [upd_ne (ne_of_none q hG)]; exact q)
  refine ⟨fun b u q => by rw [upd_ne (ne_of_none q hF)]; exact f.fh _ _ q, fun b u q => ?_, f.len, fun j s q => ?_, f.sep⟩
  · by_cases e : b = P
    · subst e; rw [upd_same] at q ⊢; exact q
    · rw [upd_ne e] at q ⊢; exact gh' _ _ q
  · obtain ⟨x, hx, so⟩ := f.slot j s q
    refine ⟨x, hx, ?_⟩
    cases s with
    | non => trivial
    | val d => exact so
    | own d =>
      obtain ⟨a, e, fa, ga, c⟩ := so
      have n : a ≠ P := fun z => by rw [z, upd_same] at ga; cases ga
      rw [upd_ne n] at ga
      exact ⟨a, e, fa, by rw [upd_ne n]; exact ga, c.mono (Sub.refl _) fun u hu => by rw [upd_ne n]; exact hu⟩
    | bor d =>
      obtain ⟨e, fa, ga, c⟩ := so
      have n : α j ≠ P := fun z => by rw [z, upd_same] at ga; cases ga
      rw [upd_ne n] at ga
      exact ⟨e, fa, by rw [upd_ne n]; exact ga, c.mono (Sub.refl _) fun u hu => by rw [upd_ne n]; exact hu⟩
/-- .. is let go -/
theorem Fits.loose {P : Addr} {o : HO} (hG : G P = none) (f : Fits K α ρ σ H F (upd G P o)) : Fits K α ρ σ H F G ∧ ∀ (j : Nat) (s : Slot), ρ[j]? = some s → s.owns = true → σ[j]? ≠ some (some (.ref P)) := by
  have sl : ∀ (j : Nat) (s : Slot), ρ[j]? = some s → ∃ x, σ[j]? = some x ∧ SlotOk K F G H x (α j) s ∧ (s.owns = true → x ≠ some (.ref P)) := fun j s q => by
    obtain ⟨x, hx, so⟩ := f.slot j s q
    refine ⟨x, hx, ?_⟩
    cases s with
    | non => exact ⟨trivial, fun o => by cases o⟩
    | val d => exact ⟨so, fun o => by cases o⟩
    | own d =>
      obtain ⟨a, e, fa, ga, c⟩ := so
      have n : a ≠ P := fun z => by rw [z, upd_same] at ga; cases ga
      rw [upd_ne n] at ga
      exact ⟨⟨a, e, fa, ga, c⟩, fun _ z => n (by rw [e] at z; cases z; rfl)⟩
    | bor d =>
      obtain ⟨e, fa, ga, c⟩ := so
      have n : α j ≠ P := fun z => by rw [z, upd_same] at ga; cases ga
      rw [upd_ne n] at ga
      exact ⟨⟨e, fa, ga, c⟩, fun _ z => n (by rw [e] at z; cases z; rfl)⟩
  exact ⟨⟨f.fh, fun b u q => f.gh b u (by rw [upd_ne (ne_of_none q hG)]; exact q), f.len, fun j s q => let ⟨x, hx, so, _⟩ := sl j s q; ⟨x, hx, so⟩, f.sep⟩, fun j s q o z => by
    obtain ⟨x, hx, _, n⟩ := sl j s q
    rw [hx] at z
    cases z
    exact n o rfl⟩
theorem Grow.loose {P : Addr} {o : HO} (g : Grow (upd G P o) F F') : Grow G F F' := ⟨g.sub, fun a u q => by
  rcases g.new a u q with z | ⟨z, w⟩
  · exact .inl z
  · refine .inr ⟨z, ?_⟩
    by_cases e : a = P
    · subst e; rw [upd_same] at w; cases w
    · rwa [upd_ne e] at w⟩
theorem Grow.apart {P : Addr} {o : HO} (g : Grow (upd G P o) F F') (h : F P = none) : F' P = none := by
  cases q : F' P with
  | none => rfl
  | some u =>
    rcases g.new P u q with z | ⟨_, w⟩
    · rw [h] at z; cases z
    · rw [upd_same] at w; cases w
end
abbrev W0 : WX := fun _ _ _ _ => False
section
variable {X : Cx} {W : WX} {elt tg iter : Expr} {ifs : List Expr} {scope : Scope} {own : List (Str × Nat)} {gi : Iv} {ft : D → Env → Option Env} {gt ge : Ev} {tch : List Nat} {pos : Pos}
theorem wipe_same {σ σ2 : L2.St} {vs tch : List Nat} (hl : σ2.length = (wipe σ vs).length) (h : ∀ j, j ∉ tch → σ2[j]? = (wipe σ vs)[j]?) (ht : ∀ j ∈ tch, j ∈ vs) : wipe σ2 vs = wipe σ vs := by
  have wn : ∀ {σ : L2.St} {vs : List Nat} {j : Nat}, j ∈ vs → j < σ.length → (wipe σ vs)[j]? = some none := by
    intro σ vs
    induction vs with
    | nil => intro j hj; simp at hj
    | cons v vs ih =>
      intro j hj hlt
      unfold wipe
      by_cases e : v = j
      · subst e
        rw [List.getElem?_set_self (by rw [wipe_length]; exact hlt)]
      · rw [List.getElem?_set_ne e]
        rcases List.mem_cons.mp hj with z | z
        · exact absurd z.symm e
        · exact ih z hlt
  have hl2 : σ2.length = σ.length := by rw [hl, wipe_length]
  apply List.ext_getElem?
  intro j
  by_cases hj : j ∈ vs
  · by_cases hlt : j < σ.length
    · rw [wn hj (by rw [hl2]; exact hlt), wn hj hlt]
    · rw [List.getElem?_eq_none (by rw [wipe_length, hl2]; omega), List.getElem?_eq_none (by rw [wipe_length]; omega)]
  · rw [(wipe_get (σ := σ2)).1 hj, h j fun z => hj (ht j z)]
theorem ec_lc_at {K : PySem.W.Frag} {vs : List Nat} {ti : TI} (ht : ∀ j ∈ tch, j ∈ vs) {α : Nat → Addr} {ρ : Env} {F G : Hp} {σ : L2.St} {H : Hp} {Q : VK} (f : Fits K α ρ σ H F G) (hti : ∀ R, IC K W α σ F G R (gi ρ) → ti σ H R) (h : EC K W α σ F G Q (dLc gi vs ft gt ge ρ)) :
    tLc ti (tG K tch ft) (tT K W0 gt) (tE K W0 ge) vs σ H Q := by
  refine hti _ ?_
  unfold dLc at h
  cases e1 : gi ρ with
  | no => simp [e1, EC] at h
  | ex x ρ1 => simp only [e1] at h; exact h
  | ok ds ρ1 =>
    simp only [e1] at h
    by_cases hc : idle ρ1 vs = true ∧ ds.length ≤ 1000000
    · rw [if_pos hc] at h
      obtain ⟨hid, hsz⟩ := hc
      cases e2 : compGo vs ft gt ge ds (wipeE ρ1 vs) with
      | none => simp [e2, EC] at h
      | some w =>
        obtain ⟨ys, ρe⟩ := w
        simp only [e2] at h
        intro J H1 F1 g1 f1 jd P hP
        have fP : F1 P = none := f1.fh.free hP
        have gP : G P = none := f1.gh.free hP
        have ap : ∀ (j : Nat) (s : Slot), ρ1[j]? = some s → s.owns = true → σ[j]? ≠ some (some (.ref P)) := fun j s q o z => by
          have so : ∃ d, ρ1[j]? = some (.own d) ∨ ρ1[j]? = some (.bor d) := by
            cases s with
            | non => cases o
            | val d => cases o
            | own d => exact ⟨d, .inl q⟩
            | bor d => exact ⟨d, .inr q⟩
          obtain ⟨d, so⟩ := so
          obtain ⟨u, hu⟩ := (f1.owner so z).2.2.there
          rw [hP] at hu
          cases hu
        have fx := f1.ext (Ext.allocO (o := .lst []) f1.fh hP)
        have fh := (fx.hold upd_same ap).wiped vs
        refine ⟨fun i m H => m = ds.length - i ∧ i ≤ ds.length ∧ ∃ ρ F acc accv rest, Fits K α ρ (wipe σ vs) H F (upd G P (.lst accv)) ∧ F P = none ∧ Grow G F1 F ∧ Reps K F acc accv ∧ acc.length ≤ i ∧ compGo vs ft gt ge (ds.drop i) ρ = some (rest, ρe) ∧ acc ++ rest = ys,
          ⟨ds.length, rfl, Nat.zero_le _, wipeE ρ1 vs, F1, [], [], ys, fh, fP, Grow.refl _ _, rfl, Nat.le_refl _, by simpa using e2, rfl⟩, ?_⟩
        rintro i m H2 ⟨rfl, hi, ρ, F2, acc, accv, rest, f2, n2, g2, ra, la, eg, ey⟩
        have gsub : Sub G H2 := fun b u q => f2.gh b u (by rw [upd_ne (ne_of_none q gP)]; exact q)
        obtain ⟨j1, j2⟩ := jd H2 F2 g2.sub f2.fh
        by_cases hlt : i < ds.length
        · obtain ⟨d, hd, hdr⟩ := drop_cons hlt
          obtain ⟨go, yl⟩ := j1 i d hd
          rw [hdr] at eg
          refine .inr ⟨go, fun H' => i + 1 ≤ ds.length ∧ ∃ ρ F acc accv rest, Fits K α ρ (wipe σ vs) H' F (upd G P (.lst accv)) ∧ F P = none ∧ Grow G F1 F ∧ Reps K F acc accv ∧ acc.length ≤ i + 1 ∧ compGo vs ft gt ge (ds.drop (i + 1)) ρ = some (rest, ρe) ∧ acc ++ rest = ys,
            fun H' ⟨a, b⟩ => ⟨ds.length - (i + 1), by omega, rfl, a, b⟩, fun x H' y => ?_⟩
          obtain ⟨F3, ex, r3⟩ := yl x H' y
          have f3 := f2.ext ex
          have g3 := f2.grow ex
          unfold compGo at eg
          cases e3 : ft d ρ with
          | none => simp [e3] at eg
          | some ρ2 =>
            simp only [e3] at eg
            refine ⟨α, ρ, F3, _, d, f3, r3, ρ2, e3, fun σ4 H4 F4 g4 f4 sb4 l4 k4 => ?_⟩
            have ws : wipe σ4 vs = wipe σ vs := wipe_same l4 k4 ht
            refine ⟨ws, α, ρ2, F4, _, f4, ?_⟩
            have bad : ∀ {q : ER}, gt ρ2 = q → (∀ b ρ', q ≠ .ok (.val (.bl b)) ρ') → False := fun {q} e n => by
              subst e
              cases e4 : gt ρ2 with
              | no => simp [e4] at eg
              | ex x ρ' => simp [e4] at eg
              | ok r ρ' =>
                cases r with
                | loc i => simp [e4] at eg
                | new d => simp [e4] at eg
                | val d =>
                  cases d with
                  | bl b => exact n b ρ' e4
                  | _ => simp [e4] at eg
            cases e4 : gt ρ2 with
            | no => exact (bad e4 fun b ρ' z => by cases z).elim
            | ex x ρ' => exact (bad e4 fun b ρ' z => by cases z).elim
            | ok r ρ3 =>
              cases r with
              | loc i => exact (bad e4 fun b ρ' z => by cases z).elim
              | new d => exact (bad e4 fun b ρ' z => by cases z).elim
              | val dd =>
                by_cases hb : ∃ b, dd = .bl b
                · obtain ⟨b, rfl⟩ := hb
                  intro H5 F5 g5 f5
                  cases b with
                  | false =>
                    simp only [e4] at eg
                    refine iteF ⟨hlt, wipeE ρ3 vs, F5, acc, accv, rest, by rw [← ws]; exact f5.wiped vs, g5.apart (g4.apart (g3.apart n2)), ((g2.trans g3.loose).trans g4.loose).trans g5.loose, Reps.mono ((g3.sub.trans g4.sub).trans g5.sub) _ _ ra, by omega, eg, ey⟩
                  | true =>
                    simp only [e4] at eg
                    refine iteT ⟨α, ρ3, F5, _, f5, EC.settle ?_⟩
                    cases e5 : (ge ρ3).settle with
                    | no => simp [e5] at eg
                    | ex x ρ' => simp [e5] at eg
                    | ok r4 ρ4 =>
                      simp only [e5] at eg
                      intro v H6 F6 g6 f6 r6
                      have rs : r4.settle = r4 := by
                        cases q : ge ρ3 with
                        | no => rw [q] at e5; cases e5
                        | ex x ρ => rw [q] at e5; cases e5
                        | ok r0 ρ0 =>
                          rw [q] at e5
                          have e6 : r0.settle = r4 := by cases e5; rfl
                          rw [← e6]
                          cases r0 <;> rfl
                      have s6 : SRep K F6 σ4 r4 v := by
                        rw [← rs] at r6 ⊢
                        exact settle_srep r6
                      cases e6 : frz r4 ρ4 with
                      | none => simp [e6] at eg
                      | some w =>
                        obtain ⟨yd, ρ5⟩ := w
                        simp only [e6] at eg
                        obtain ⟨F7, g7, f7, r7⟩ := f6.frz s6 e6
                        cases e7 : compGo vs ft gt ge (ds.drop (i + 1)) (wipeE ρ5 vs) with
                        | none => simp [e7] at eg
                        | some w =>
                          obtain ⟨zs, ρ6⟩ := w
                          simp [e7] at eg
                          obtain ⟨rfl, rfl⟩ := eg
                          have ac : F7 P = none := g7.apart (g6.apart (g5.apart (g4.apart (g3.apart n2))))
                          have hPv : H6 P = some (.lst accv) := f7.gh P _ upd_same
                          have ra7 := Reps.mono ((((g3.sub.trans g4.sub).trans g5.sub).trans g6.sub).trans g7.sub) _ _ ra
                          have lv := ra.length
                          refine ⟨accv, hPv, ?_, hlt, wipeE ρ5 vs, F7, acc ++ [yd], accv ++ [v], zs, ?_, ac, ((((g2.trans g3.loose).trans g4.loose).trans g5.loose).trans g6.loose).trans g7.loose, ra7.snoc r7, by simp; omega, e7, by simpa using ey⟩
                          · have : sizeLine = 16777216 := sizeLine_eq
                            omega
                          · rw [← ws]
                            exact ((f7.turn ac gP f7).wiped vs)
                · exact (bad e4 fun b ρ' z => hb ⟨b, by cases z; rfl⟩).elim
        · have e : i = ds.length := by omega
          subst e
          rw [List.drop_length] at eg
          unfold compGo at eg
          cases eg
          refine .inl ⟨j2, ?_⟩
          obtain ⟨f5, ap5⟩ := f2.loose gP
          have f6 := f1.restored hid f5 g2.sub
          refine h _ H2 F2 (g1.trans g2) f6 ⟨P, rfl, n2, gP, ?_, fun j s q o z => ?_⟩
          · have e6 : acc = ys := by simpa using ey
            rw [← e6]
            exact ⟨accv, f2.gh P _ upd_same, ra⟩
          · have hl : ρ1.length = ρe.length := by
              have a := f1.len
              have b := f5.len
              rw [wipe_length] at b
              omega
            rcases restE_get hl q with ⟨n, e⟩ | ⟨m, e⟩
            · exact ap5 j s e o (by rw [(wipe_get (σ := σ)).1 n]; exact z)
            · rw [idle_get hid m e] at o
              cases o
    · rw [if_neg hc] at h
      exact h.elim
theorem ec_lc {K : PySem.W.Frag} {vs : List Nat} (ht : ∀ j ∈ tch, j ∈ vs) {σ : L2.St} {H : Hp} {Q : VK} (h : tE K W (dLc gi vs ft gt ge) σ H Q) :
    tLc (tI K W gi) (tG K tch ft) (tT K W0 gt) (tE K W0 ge) vs σ H Q := by
  obtain ⟨α, ρ, F, G, f, h⟩ := h
  exact ec_lc_at ht f (fun R q => ⟨α, ρ, F, G, f, q⟩) h
theorem ed_lc (hc : X.calm = true) (hN : X.N.Nodup) (ok : BlkOk X.N X.env.scope scope own) (ht : ∀ j ∈ tch, j ∈ own.map (·.2)) (hi : PI X tg iter (tI X.K W gi))
    (hg : ∀ (s : Shared) (H : Hp) (C : Addr) (cl : List (Str × Addr)) (fp : List Addr), PG (X.blk s H scope (compEnvC scope cl C X.env) fp) tg (tG X.K tch ft)) (hif : ∀ (s : Shared) (H : Hp) (C : Addr) (cl : List (Str × Addr)) (fp : List Addr), PTs (X.blk s H scope (compEnvC scope cl C X.env) fp) ifs (tT X.K W0 gt))
    (he : ∀ (s : Shared) (H : Hp) (C : Addr) (cl : List (Str × Addr)) (fp : List Addr), PE (X.blk s H scope (compEnvC scope cl C X.env) fp) elt (tE X.K W0 ge)) (hs : ∀ x, foldedSetIterable iter X.env x = pure x := by intro _; rfl) :
    PE X (.ListComp elt [⟨tg, iter, ifs, 0⟩] scope pos) (tE X.K W (dLc gi (own.map (·.2)) ft gt ge)) :=
  (pe_lc hc hN hi ok hg hif he hs).weak fun σ H Q h => ec_lc ht h
/-- no test -/
def dYes : Ev := fun ρ => .ok (.val (.bl true)) ρ
theorem id_yes : PTs X [] (tT X.K W dYes) := ⟨fun pins s σ H Q I h => pts_nil.run pins s σ H Q I (let ⟨α, ρ, F, G, f, h⟩ := h; h H F (Grow.refl _ _) f)⟩
theorem id_test {c : Expr} (h : PT X c (tT X.K W gt)) : PTs X [c] (tT X.K W gt) := pts_one h
/-- name = [..] -/
def dSetLc (i : Nat) (g : Ev) : Sv := dSet i g
theorem sd_setLc {i : Nat} {y : Str} {py spos : Pos} (hc : X.calm = true) (hN : X.N.Nodup) (ok : BlkOk X.N X.env.scope scope own) (ht : ∀ j ∈ tch, j ∈ own.map (·.2)) (hi : PI X tg iter (tI X.K W gi))
    (hg : ∀ (s : Shared) (H : Hp) (C : Addr) (cl : List (Str × Addr)) (fp : List Addr), PG (X.blk s H scope (compEnvC scope cl C X.env) fp) tg (tG X.K tch ft)) (hif : ∀ (s : Shared) (H : Hp) (C : Addr) (cl : List (Str × Addr)) (fp : List Addr), PTs (X.blk s H scope (compEnvC scope cl C X.env) fp) ifs (tT X.K W0 gt))
    (he : ∀ (s : Shared) (H : Hp) (C : Addr) (cl : List (Str × Addr)) (fp : List Addr), PE (X.blk s H scope (compEnvC scope cl C X.env) fp) elt (tE X.K W0 ge))
    (hy : X.N[i]? = some y := by rfl) (hyl : X.env.scope.names.lookup y = some .local := by rfl) (hsw : swapsWith (.ListComp elt [⟨tg, iter, ifs, 0⟩] scope pos) (some (.Name y py)) spos.line X.env = pure true := by exact sw_true rfl rfl rfl (by decide +kernel)) (hs : ∀ x, foldedSetIterable iter X.env x = pure x := by intro _; rfl) :
    PS X (.Assign [.Name y py] (.ListComp elt [⟨tg, iter, ifs, 0⟩] scope pos) spos) (tS X.K W (dSet i (dLc gi (own.map (·.2)) ft gt ge))) := by
  refine (ps_setLc hc hN hy hyl hsw hi ok hg hif he hs).weak fun D σ H ⟨α, ρ, F, G, f, h⟩ => ?_
  refine ec_lc (Q := fun x H1 => gName i x σ H1 D.nx) ht ⟨α, ρ, F, G, f, EC.st (fun r ρ1 v H1 F1 g1 f1 r1 h1 => ?_) h⟩
  obtain ⟨ρ2, e2, h2⟩ := sc_of h1
  obtain ⟨F2, g2, f2⟩ := f1.asgn r1 e2
  exact h2 _ H1 F2 g2 f2
end

/-! ### what is walked -/
section
variable {X : Cx} {W : WX} {l tg : Expr} {g : Ev} {gs : Av} {pos p : Pos}
def seqOf : D → Option (List D)
  | .lst xs => some xs
  | .tup xs => some xs
  | .scr xs => some xs
  | .str z => some (z.cps.toList.map fun c => .str ⟨#[c]⟩)
  | _ => none
def iSeq (g : Ev) : Iv := fun ρ => match (g ρ).settle with
  | .ok r ρ1 => match frz r ρ1 with
    | some (d, ρ2) => match seqOf d with
      | some xs => .ok xs ρ2
      | none => .no
    | none => .no
  | .ex x ρ1 => .ex x ρ1
  | .no => .no
theorem jd_list {K : PySem.W.Frag} {F : Hp} {a : Addr} {xs : List D} {vs : List V} (q : SqL K F a vs) (r : Reps K F xs vs) : JD K F (Itl K a) xs := fun H1 F1 s1 s2 => by
  have q1 : SqL K H1 a vs := s2.sqL (s1.sqL q)
  have r1 := Reps.mono s1 _ _ r
  refine ⟨fun i d hd => ?_, ⟨vs, q1, by rw [r.length]; exact Nat.le_refl _⟩⟩
  obtain ⟨v, hv, rv⟩ := r1.get hd
  refine ⟨⟨vs, v, q1, hv⟩, fun x H2 y => ?_⟩
  obtain ⟨rfl, y⟩ := y
  have e := y vs q1
  rw [hv] at e
  cases e
  exact ⟨F1, Ext.refl s2, rv⟩
theorem jd_tup {K : PySem.W.Frag} {F : Hp} {a : Addr} {xs : List D} {vs : List V} (q : SqT K F a vs) (r : Reps K F xs vs) : JD K F (Itt K a) xs := fun H1 F1 s1 s2 => by
  have q1 : SqT K H1 a vs := s2.sqT (s1.sqT q)
  have r1 := Reps.mono s1 _ _ r
  refine ⟨fun i d hd => ?_, ⟨vs, q1, by rw [r.length]; exact Nat.le_refl _⟩⟩
  obtain ⟨v, hv, rv⟩ := r1.get hd
  refine ⟨⟨vs, v, q1, hv⟩, fun x H2 y => ?_⟩
  obtain ⟨rfl, y⟩ := y
  have e := y vs q1
  rw [hv] at e
  cases e
  exact ⟨F1, Ext.refl s2, rv⟩
theorem jd_str {K : PySem.W.Frag} {F : Hp} (z : Str) : JD K F (Its z) (z.cps.toList.map fun c => .str ⟨#[c]⟩) := fun H1 F1 s1 s2 => by
  refine ⟨fun i d hd => ?_, by rw [List.length_map, Array.length_toList]; exact Nat.le_refl _⟩
  rw [List.getElem?_map] at hd
  cases e : z.cps.toList[i]? with
  | none => rw [e] at hd; cases hd
  | some c =>
    rw [e] at hd
    cases hd
    have e' : z.cps[i]? = some c := by rw [← Array.getElem?_toList]; exact e
    refine ⟨?_, fun x H2 y => ?_⟩
    · have := (Array.getElem?_eq_some_iff.mp e').1
      exact this
    · obtain ⟨rfl, c', e2, rfl⟩ := y
      rw [e'] at e2
      cases e2
      exact ⟨F1, Ext.refl s2, rfl⟩
theorem id_seq (he : PE X l (tE X.K W g)) : PI X tg l (tI X.K W (iSeq g)) := by
  refine ⟨fun pins s σ H R I h => ?_⟩
  obtain ⟨α, ρ, F, G, f, h⟩ := h
  unfold iSeq at h
  cases e1 : (g ρ).settle with
  | no => simp [e1, IC] at h
  | ex x ρ1 =>
    refine (pi_list he).run pins s σ H R I ⟨α, ρ, F, G, f, EC.settle ?_⟩
    rw [e1]
    simp only [e1] at h
    exact h
  | ok r ρ1 =>
    simp only [e1] at h
    cases e2 : frz r ρ1 with
    | none => simp [e2, IC] at h
    | some w =>
      obtain ⟨d, ρ2⟩ := w
      simp only [e2] at h
      cases e3 : seqOf d with
      | none => simp [e3, IC] at h
      | some xs =>
        simp only [e3] at h
        have rs : r.settle = r := by
          cases q : g ρ with
          | no => rw [q] at e1; cases e1
          | ex x ρ => rw [q] at e1; cases e1
          | ok r0 ρ0 =>
            rw [q] at e1
            have e6 : r0.settle = r := by cases e1; rfl
            rw [← e6]
            cases r0 <;> rfl
        have key : ∀ v H1 F1, Grow G F F1 → Fits X.K α ρ1 σ H1 F1 G → RRep X.K F1 G H1 σ ρ1 r v → ∃ F2, Grow G F F2 ∧ Fits X.K α ρ2 σ H1 F2 G ∧ Rep X.K F2 d v := fun v H1 F1 g1 f1 r1 => by
          have s1 : SRep X.K F1 σ r v := by
            rw [← rs] at r1 ⊢
            exact settle_srep r1
          obtain ⟨F2, g2, f2, r2⟩ := f1.frz s1 e2
          exact ⟨F2, g1.trans g2, f2, r2⟩
        have lst : ∀ {a : Addr} {vs : List V} {F2 H1 : Hp}, Grow G F F2 → Fits X.K α ρ2 σ H1 F2 G → SqL X.K F2 a vs → Reps X.K F2 xs vs → ∃ b, V.ref a = .ref b ∧ (∃ xs, SqL X.K H1 b xs) ∧ R (Itl X.K b) H1 := fun {a vs F2 H1} g2 f2 q r =>
          ⟨a, rfl, ⟨vs, f2.fh.sqL q⟩, h _ H1 F2 g2 f2 (jd_list q r)⟩
        cases d with
        | lst ys =>
          cases e3
          refine (pi_list he).run pins s σ H R I ⟨α, ρ, F, G, f, EC.settle ?_⟩
          rw [e1]
          intro v H1 F1 g1 f1 r1
          obtain ⟨F2, g2, f2, a, vs, rfl, q, rr⟩ := key v H1 F1 g1 f1 r1
          exact lst g2 f2 (SqL.of q) rr
        | scr ys =>
          cases e3
          refine (pi_list he).run pins s σ H R I ⟨α, ρ, F, G, f, EC.settle ?_⟩
          rw [e1]
          intro v H1 F1 g1 f1 r1
          obtain ⟨F2, g2, f2, a, vs, rfl, q, rr⟩ := key v H1 F1 g1 f1 r1
          exact lst g2 f2 q rr
        | tup ys =>
          cases e3
          refine (pi_tup he).run pins s σ H R I ⟨α, ρ, F, G, f, EC.settle ?_⟩
          rw [e1]
          intro v H1 F1 g1 f1 r1
          obtain ⟨F2, g2, f2, a, vs, rfl, q, rr⟩ := key v H1 F1 g1 f1 r1
          exact ⟨a, rfl, ⟨vs, f2.fh.sqT q⟩, h _ H1 F2 g2 f2 (jd_tup q rr)⟩
        | str z =>
          cases e3
          refine (pi_str he).run pins s σ H R I ⟨α, ρ, F, G, f, EC.settle ?_⟩
          rw [e1]
          intro v H1 F1 g1 f1 r1
          obtain ⟨F2, g2, f2, r2⟩ := key v H1 F1 g1 f1 r1
          exact ⟨z, r2, h _ H1 F2 g2 f2 (jd_str z)⟩
        | _ => cases e3
/-- the values of arguments, walked -/
def iArgs (k : List D → Option (List D)) (gs : Av) : Iv := fun ρ => match gs ρ with
  | .ok rs ρ1 => match frzs rs ρ1 with
    | some (ds, ρ2) => match k ds with
      | some xs => .ok xs ρ2
      | none => .no
    | none => .no
  | .ex x ρ1 => .ex x ρ1
  | .no => .no
theorem ac_args {K : PySem.W.Frag} {k : List D → Option (List D)} {σ : L2.St} {H : Hp} {R : It → Hp → Prop} {T : List V → Hp → Prop} (h : tI K W (iArgs k gs) σ H R)
    (hk : ∀ (F H1 : Hp) ds vs xs, Sub F H1 → Reps K F ds vs → k ds = some xs → (∀ J, JD K F J xs → R J H1) → T vs H1) : tA K W gs σ H T := by
  obtain ⟨α, ρ, F, G, f, h⟩ := h
  refine ⟨α, ρ, F, G, f, ?_⟩
  unfold iArgs at h
  cases e1 : gs ρ with
  | no => simp [e1, IC] at h
  | ex x ρ1 => simp only [e1] at h; exact h
  | ok rs ρ1 =>
    simp only [e1] at h
    intro vs H1 F1 g1 f1 s1
    cases e2 : frzs rs ρ1 with
    | none => simp [e2, IC] at h
    | some w =>
      obtain ⟨ds, ρ2⟩ := w
      simp only [e2] at h
      obtain ⟨F2, g2, f2, r2⟩ := Fits.frzs f1 s1 e2
      cases e3 : k ds with
      | none => simp [e3, IC] at h
      | some xs =>
        simp only [e3] at h
        exact hk F2 H1 ds vs xs f2.fh r2 e3 fun J jd => h J H1 F2 (g1.trans g2) f2 jd
def kRange1 : List D → Option (List D)
  | [.int j] => if j ≤ 1000000 ∧ -1000000 ≤ j then some ((List.range j.toNat).map fun (k : Nat) => .int (k : Int)) else none
  | _ => none
def kRange2 : List D → Option (List D)
  | [.int i, .int j] => if (j ≤ 1000000 ∧ -1000000 ≤ j) ∧ (i ≤ 1000000 ∧ -1000000 ≤ i) then some ((List.range (j - i).toNat).map fun (k : Nat) => .int (i + (k : Int))) else none
  | _ => none
theorem kRange1_some {ds xs : List D} (h : kRange1 ds = some xs) : ∃ j : Int, ds = [.int j] ∧ (j ≤ 1000000 ∧ -1000000 ≤ j) ∧ xs = (List.range j.toNat).map fun (k : Nat) => .int (k : Int) := by
  unfold kRange1 at h
  split at h
  · split at h
    · cases h
      exact ⟨_, rfl, by assumption, rfl⟩
    · cases h
  · cases h
theorem kRange2_some {ds xs : List D} (h : kRange2 ds = some xs) : ∃ i j : Int, ds = [.int i, .int j] ∧ ((j ≤ 1000000 ∧ -1000000 ≤ j) ∧ (i ≤ 1000000 ∧ -1000000 ≤ i)) ∧ xs = (List.range (j - i).toNat).map fun (k : Nat) => .int (i + (k : Int)) := by
  unfold kRange2 at h
  split at h
  · split at h
    · cases h
      exact ⟨_, _, rfl, by assumption, rfl⟩
    · cases h
  · cases h
theorem jd_range {K : PySem.W.Frag} {F : Hp} (lo : Int) (n : Nat) : JD K F (Itr lo n) ((List.range n).map fun (k : Nat) => .int (lo + (k : Int))) := fun H1 F1 s1 s2 => by
  refine ⟨fun i d hd => ?_, by rw [List.length_map, List.length_range]; exact Nat.le_refl _⟩
  rw [List.getElem?_map] at hd
  cases e : (List.range n)[i]? with
  | none => rw [e] at hd; cases hd
  | some j =>
    rw [e] at hd
    obtain ⟨h1, h2⟩ := List.getElem?_eq_some_iff.mp e
    rw [List.length_range] at h1
    rw [List.getElem_range] at h2
    subst h2
    cases hd
    refine ⟨h1, fun x H2 y => ?_⟩
    obtain ⟨rfl, rfl⟩ := y
    exact ⟨F1, Ext.refl s2, rfl⟩
theorem id_range1 {a : Expr} (hm : X.mg "range" = none) (ha : PA X [a] (tA X.K W gs)) (hg : Gl X "range" := by rfl) (hs : starEach [a] X.env = [(false, eval a X.env)] := by rfl) : PI X tg (.Call (.Name "range" p) [a] [] pos) (tI X.K W (iArgs kRange1 gs)) := by
  refine (pi_range1 hg hm ha hs).weak fun σ H R h => ac_args h fun F H1 ds vs xs s r e k => ?_
  obtain ⟨j, rfl, hj, rfl⟩ := kRange1_some e
  obtain ⟨v, t, rfl, rfl, rfl⟩ := r
  refine ⟨j, rfl, by omega, by omega, k _ ?_⟩
  have := jd_range (K := X.K) (F := F) 0 j.toNat
  simpa using this
theorem id_range2 {a b : Expr} (hm : X.mg "range" = none) (ha : PA X [a, b] (tA X.K W gs)) (hg : Gl X "range" := by rfl) (hs : starEach [a, b] X.env = [(false, eval a X.env), (false, eval b X.env)] := by rfl) (hs2 : starEach [b] X.env = [(false, eval b X.env)] := by rfl) :
    PI X tg (.Call (.Name "range" p) [a, b] [] pos) (tI X.K W (iArgs kRange2 gs)) := by
  refine (pi_range2 hg hm ha hs hs2).weak fun σ H R h => ac_args h fun F H1 ds vs xs s r e k => ?_
  obtain ⟨i, j, rfl, hj, rfl⟩ := kRange2_some e
  obtain ⟨v, t, rfl, rfl, v2, t2, rfl, rfl, rfl⟩ := r
  exact ⟨i, j, rfl, ⟨by omega, by omega, by omega, by omega⟩, k _ (jd_range i _)⟩
/-- zip of two lists, of two tuples -/
def kZip : List D → Option (List D)
  | [.lst xs, .lst ys] => some (List.zipWith (fun x y => .tup [x, y]) xs ys)
  | [.tup xs, .tup ys] => some (List.zipWith (fun x y => .tup [x, y]) xs ys)
  | _ => none
theorem zip_get {xs ys : List D} {i : Nat} {d : D} (h : (List.zipWith (fun x y => D.tup [x, y]) xs ys)[i]? = some d) : ∃ x y, xs[i]? = some x ∧ ys[i]? = some y ∧ d = .tup [x, y] := by
  rw [List.getElem?_zipWith] at h
  cases e1 : xs[i]? with
  | none => simp [e1] at h
  | some x =>
    cases e2 : ys[i]? with
    | none => simp [e1, e2] at h
    | some y =>
      simp [e1, e2] at h
      exact ⟨x, y, rfl, rfl, h.symm⟩
theorem rep_pair {K : PySem.W.Frag} {F1 : Hp} {T : Addr} {x y : V} {d e : D} (hT : F1 T = none) (r1 : Rep K F1 d x) (r2 : Rep K F1 e y) : Rep K (upd F1 T (.tup [x, y])) (.tup [d, e]) (.ref T) :=
  ⟨T, [x, y], rfl, SqT.of upd_same, .cons (Rep.mono (Sub.upd_none hT) _ _ r1) (.cons (Rep.mono (Sub.upd_none hT) _ _ r2) .nil)⟩
theorem jd_zipL {K : PySem.W.Frag} {F : Hp} {a b : Addr} {xs ys : List D} {vs ws : List V} (q1 : SqL K F a vs) (r1 : Reps K F xs vs) (q2 : SqL K F b ws) (r2 : Reps K F ys ws) : JD K F (Itz K a b) (List.zipWith (fun x y => .tup [x, y]) xs ys) := fun H1 F1 s1 s2 => by
  have p1 : SqL K H1 a vs := s2.sqL (s1.sqL q1)
  have p2 : SqL K H1 b ws := s2.sqL (s1.sqL q2)
  have t1 := Reps.mono s1 _ _ r1
  have t2 := Reps.mono s1 _ _ r2
  refine ⟨fun i d hd => ?_, ⟨vs, ws, p1, p2, ?_⟩⟩
  · obtain ⟨x, y, hx, hy, rfl⟩ := zip_get hd
    obtain ⟨v, hv, rv⟩ := t1.get hx
    obtain ⟨w, hw, rw'⟩ := t2.get hy
    refine ⟨⟨vs, ws, v, w, p1, p2, hv, hw⟩, fun z H2 yy => ?_⟩
    obtain ⟨T, x', y', rfl, hT, rfl, e1, e2⟩ := yy
    have e1 := e1 vs p1
    have e2 := e2 ws p2
    rw [hv] at e1
    rw [hw] at e2
    cases e1
    cases e2
    exact ⟨_, Ext.alloc s2 hT, rep_pair (s2.free hT) rv rw'⟩
  · have l1 := t1.length
    have l2 := t2.length
    rw [List.length_zipWith, l1, l2]
    omega
theorem jd_zipT {K : PySem.W.Frag} {F : Hp} {a b : Addr} {xs ys : List D} {vs ws : List V} (q1 : SqT K F a vs) (r1 : Reps K F xs vs) (q2 : SqT K F b ws) (r2 : Reps K F ys ws) : JD K F (RZ.ItzT K a b) (List.zipWith (fun x y => .tup [x, y]) xs ys) := fun H1 F1 s1 s2 => by
  have p1 : SqT K H1 a vs := s2.sqT (s1.sqT q1)
  have p2 : SqT K H1 b ws := s2.sqT (s1.sqT q2)
  have t1 := Reps.mono s1 _ _ r1
  have t2 := Reps.mono s1 _ _ r2
  refine ⟨fun i d hd => ?_, ⟨vs, ws, p1, p2, ?_⟩⟩
  · obtain ⟨x, y, hx, hy, rfl⟩ := zip_get hd
    obtain ⟨v, hv, rv⟩ := t1.get hx
    obtain ⟨w, hw, rw'⟩ := t2.get hy
    refine ⟨⟨vs, ws, v, w, p1, p2, hv, hw⟩, fun z H2 yy => ?_⟩
    obtain ⟨T, x', y', rfl, hT, rfl, e1, e2⟩ := yy
    have e1 := e1 vs p1
    have e2 := e2 ws p2
    rw [hv] at e1
    rw [hw] at e2
    cases e1
    cases e2
    exact ⟨_, Ext.alloc s2 hT, rep_pair (s2.free hT) rv rw'⟩
  · have l1 := t1.length
    have l2 := t2.length
    rw [List.length_zipWith, l1, l2]
    omega
theorem id_zip {a b : Expr} {tpos : Pos} {elts : List Expr} {kk : Nat} (hm : X.mg "zip" = none) (ha : PA X [a, b] (tA X.K W gs)) (hg : Gl X "zip" := by rfl) (hs : starEach [a, b] X.env = (false, eval a X.env) :: starEach [b] X.env := by rfl) (hpl : (backTo pos (starEach [b] X.env)).any (·.1) = false := by rfl) :
    PI X (.Tuple elts kk tpos) (.Call (.Name "zip" p) [a, b] [] pos) (tI X.K W (iArgs kZip gs)) := by
  refine (RZ.pi_zipA hg hm ha hs hpl).weak fun σ H R h => ac_args h fun F H1 ds vs xs s r e k => ?_
  unfold kZip at e
  split at e
  · cases e
    obtain ⟨v, t, rfl, ⟨a, vs, rfl, q1, r1⟩, w, t2, rfl, ⟨b, ws, rfl, q2, r2⟩, rfl⟩ := r
    exact ⟨a, b, vs, ws, rfl, .inl ⟨s.sqL (SqL.of q1), s.sqL (SqL.of q2), k _ (jd_zipL (SqL.of q1) r1 (SqL.of q2) r2)⟩⟩
  · cases e
    obtain ⟨v, t, rfl, ⟨a, vs, rfl, q1, r1⟩, w, t2, rfl, ⟨b, ws, rfl, q2, r2⟩, rfl⟩ := r
    exact ⟨a, b, vs, ws, rfl, .inr ⟨s.sqT q1, s.sqT q2, k _ (jd_zipT q1 r1 q2 r2)⟩⟩
  · cases e
/-- enumerate of a list -/
def enumD : Nat → List D → List D
  | _, [] => []
  | i, d :: ds => .tup [.int (i : Int), d] :: enumD (i + 1) ds
theorem enumD_length : ∀ (i : Nat) (ds : List D), (enumD i ds).length = ds.length
  | _, [] => rfl
  | i, d :: ds => by simp [enumD, enumD_length (i + 1) ds]
theorem enumD_get : ∀ (i : Nat) (ds : List D) (j : Nat) (e : D), (enumD i ds)[j]? = some e → ∃ d, ds[j]? = some d ∧ e = .tup [.int ((i + j : Nat) : Int), d]
  | i, [], j, e, h => by simp [enumD] at h
  | i, d :: ds, 0, e, h => by simp [enumD] at h; exact ⟨d, rfl, h.symm⟩
  | i, d :: ds, j + 1, e, h => by
    obtain ⟨d', a, b⟩ := enumD_get (i + 1) ds j e (by simpa [enumD] using h)
    exact ⟨d', by simpa using a, by rw [b]; congr 4; omega⟩
def kEnum : List D → Option (List D)
  | [.lst xs] => some (enumD 0 xs)
  | _ => none
theorem jd_enum {K : PySem.W.Frag} {F : Hp} {a : Addr} {xs : List D} {vs : List V} (q1 : SqL K F a vs) (r1 : Reps K F xs vs) : JD K F (Ite K a) (enumD 0 xs) := fun H1 F1 s1 s2 => by
  have p1 : SqL K H1 a vs := s2.sqL (s1.sqL q1)
  have t1 := Reps.mono s1 _ _ r1
  refine ⟨fun i d hd => ?_, ⟨vs, p1, by rw [t1.length, enumD_length]; exact Nat.le_refl _⟩⟩
  obtain ⟨x, hx, rfl⟩ := enumD_get 0 xs i d hd
  obtain ⟨v, hv, rv⟩ := t1.get hx
  refine ⟨⟨vs, v, p1, hv⟩, fun z H2 yy => ?_⟩
  obtain ⟨T, x', rfl, hT, rfl, e1⟩ := yy
  have e1 := e1 vs p1
  rw [hv] at e1
  cases e1
  refine ⟨_, Ext.alloc s2 hT, ?_⟩
  have := rep_pair (K := K) (d := .int ((0 + i : Nat) : Int)) (x := .int ((i : Nat) : Int)) (s2.free hT) (by show V.int _ = V.int _; simp) rv
  exact this
theorem id_enum {a : Expr} {tpos : Pos} {elts : List Expr} {kk : Nat} (hm : X.mg "enumerate" = none) (ha : PA X [a] (tA X.K W gs)) (hg : Gl X "enumerate" := by rfl)
    (h2 : PI X (.Tuple elts kk tpos) (.Call (.Name "enumerate" p) [a] [] pos) (iEnum X.K (tA X.K W gs)) := by exact pi_enum (by assumption) (by assumption) (by assumption)) :
    PI X (.Tuple elts kk tpos) (.Call (.Name "enumerate" p) [a] [] pos) (tI X.K W (iArgs kEnum gs)) := by
  refine h2.weak fun σ H R h => ac_args h fun F H1 ds vs xs s r e k => ?_
  unfold kEnum at e
  split at e
  · cases e
    obtain ⟨v, t, rfl, ⟨a, vs, rfl, q1, r1⟩, rfl⟩ := r
    exact ⟨a, vs, rfl, s.sqL (SqL.of q1), k _ (jd_enum (SqL.of q1) r1)⟩
  · cases e
end
end DL

/-! Defs whose bodies may ask that nothing is being shown around them (repr wants that). -/
namespace DL
open PySem PySem.Spec L2 PyProof.Rows
variable [HasW]

/-- room for k calls, and no list or dict is being shown around -/
structure RoomG (k : Nat) (A : Around) : Prop where
  room : Room k A
  quiet : A.guards = some []
theorem RoomG.mono {j k : Nat} {A : Around} (r : RoomG k A) (h : j ≤ k) : RoomG j A := ⟨r.room.mono h, r.quiet⟩
theorem RoomG.deeper {k : Nat} {A : Around} (r : RoomG (k + 1) A) (env : PySem.Env) : RoomG k (A.deeper env) := ⟨r.room.deeper env, r.quiet⟩
theorem roomG_caller {k : Nat} (h : Room k callerA) : RoomG k callerA := ⟨h, rfl⟩

structure FnG (P : Program) (w : World) (K : PySem.W.Frag) (mg : Str → Option Value) (base : Heap) (k : Nat) (f : Addr) (fd : FuncData) (ps : List Str) (sp : Sp) : Prop where
  len : ∀ vs H Q E, sp vs H Q E → vs.length = ps.length
  run : ∀ (A : Around) (up : List PySem.Env) (s : Shared) (H : Hp) (args : Args) (us : List Value) (vs : List V) (Q : VK) (E : XK), RoomG k A → Env0 P w K mg base A up s H → BindsTo s fd args (ps.zip us) → Vals vs us → sp vs H Q E →
    codeAny (model P w) A (.call (.ref f) args) (CR (L2.CX P w) up P w H s Q E) s
section
variable {P : Program} {w : World} {K : PySem.W.Frag} {mg : Str → Option Value} {base : Heap}
theorem FnG.mono {j k : Nat} {f : Addr} {fd : FuncData} {ps : List Str} {sp : Sp} (F : FnG P w K mg base j f fd ps sp) (h : j ≤ k) : FnG P w K mg base k f fd ps sp :=
  ⟨F.len, fun A up s H args us vs Q E r => F.run A up s H args us vs Q E (r.mono h)⟩
theorem FnG.weak {k : Nat} {f : Addr} {fd : FuncData} {ps : List Str} {sp sp' : Sp} (F : FnG P w K mg base k f fd ps sp) (h : ∀ vs H Q E, sp' vs H Q E → sp vs H Q E) : FnG P w K mg base k f fd ps sp' :=
  ⟨fun vs H Q E q => F.len vs H Q E (h vs H Q E q), fun A up s H args us vs Q E r e b v q => F.run A up s H args us vs Q E r e b v (h vs H Q E q)⟩
/-- a def by its body -/
theorem fnG_of {x qual : Str} {st : Stmt} {f : Addr} {fd : FuncData} {N ps : List Str} {k : Nat} {sp : Sp} (F : Fun K x qual st f fd) (S : FnScope N ps (defScope st)) (len : ∀ vs H Q E, sp vs H Q E → vs.length = ps.length)
    (body : ∀ (cdv : Value) (A : Around) (up : List PySem.Env) (s : Shared) (H : Hp) (vs : List V) (Q : VK) (E : XK), RoomG k (A.deeper (envOfC qual (defScope st) s.heap.objs.size f cdv)) → sp vs H Q E →
      ∃ t, PSs (cxOf (L2.CX P w) P w K mg base N qual (defScope st) f cdv A up s H E) (defBody st) t ∧ t { nx := fun _ H' => Q .non H', rt := Q } (start N vs) H) :
    FnG P w K mg base (k + 1) f fd ps sp := by
  obtain ⟨oc, od, kV, doc, pm, an, cdv, ct, osl, rfl, look, code⟩ := F.ex
  constructor
  · exact len
  intro A up s H args us vs Q E room e0 bind rv want
  have n := len vs H Q E want
  have same : ∀ b o, base.get? b = some o → s.heap.get? b = some o := fun b o z => (e0.bs b o z).1
  have inK : K.In s.heap := e0.mod.kin.keeps same
  have noLim : s.heap.NoLimit := e0.mod.nolimit.keeps same
  have kinds : ∀ y ∈ ps.zip us, (defScope st).names.lookup y.1 = some .local ∨ ((defScope st).names.lookup y.1 = some .cell ∧ ((cellsFrom (s.heap.objs.size + 1) (defScope st).names []).lookup y.1).isSome = true) := by
    rintro ⟨nm, v⟩ hy
    rcases S.par nm (List.of_mem_zip hy).1 with q | q
    · left; exact q
    · right; exact ⟨q, PySem.W.cellsFrom_some _ _ _ (.inl q)⟩
  refine codeAny_call_function room.room.depth (inK _ _ look) rfl S.co S.gen rfl (PySem.W.codeRec_of inK code) (bind _ _ _ _ ?_)
  refine wpAny_newFunctionEnv_cells S.kind kinds ?_
  rintro env rfl s1 x
  constructor
  · exact noLim.keeps x.toInCall.keep
  refine codeAny_func ?_
  obtain ⟨t, ht, q0⟩ := body cdv A up s H vs Q E (room.deeper _) want
  have I := inv_start (CX := L2.CX P w) (E := E) S room.room.hd e0 n rv x
  refine wpAny_mono (ht.run [] s1 _ H _ I q0) ?_ (fun e s' z => z)
  intro fl s' z
  cases fl with
  | brk => obtain ⟨_, _, _, z⟩ := z; exact z.elim
  | cont => obtain ⟨_, _, _, z⟩ := z; exact z.elim
  | next => obtain ⟨σ', H', J, z⟩ := z; exact ⟨.non, H', J.os, J.bare, J.base, J.hok, rfl, z⟩
  | ret u => obtain ⟨v, σ', H', J, r, z⟩ := z; exact ⟨v, H', J.os, J.bare, J.base, J.hok, r, z⟩
end
section
variable {X : Cx} {W : WX} {e : Expr} {es : List Expr} {gs : Av} {pos p : Pos} {k : Nat} {f : Addr} {fd : FuncData} {ps : List Str} {ms : List Bool} {den : List D → DR} {x : Str}
theorem FnG.call {sp : Sp} {E : XK} {pins : List (Addr × Obj)} {σ : L2.St} {H : Hp} {s : Shared} {Q : VK} {us : List Value} {vs : List V} (F : FnG X.prog X.w X.K X.mg X.base k f fd ps sp) (hr : RoomG k X.A) (hb : Binds X.K fd ps []) (hx : PassesAt (L2.CX X.prog X.w) X σ E)
    (I : Inv X pins σ H s) (r : Vals vs us) (h : sp vs H Q E) : wpAny (model X.prog X.w) X.A (PySem.call (.ref f) us) (EP X pins σ Q) X.xe s := by
  have n : us.length = ps.length := r.length.symm.trans (F.len vs H Q E h)
  have b := hb s us I.kIn ((List.append_nil us).symm ▸ n)
  rw [List.append_nil us] at b
  refine wpAny_call (codeAny_mono (F.run X.A X.stack s H ⟨us, []⟩ us vs Q E hr I.env0 b r h) ?_)
  intro res s' z
  match res, z with
  | .error e, z => exact hx pins H s e s' I z
  | .ok (.ret u), z => exact I.after z
  | .ok .next, z => exact False.elim z
  | .ok .brk, z => exact False.elim z
  | .ok .cont, z => exact False.elim z
/-- f(..) -/
theorem ed_callG (hd : ∀ ds r outs, den ds = .ok r outs → ∀ i, r ≠ .loc i) (F : FnG X.prog X.w X.K X.mg X.base k f fd ps (spD X.K ms den)) (hr : RoomG k X.A) (hm : X.mg x = some (.ref f)) (hk : PySem.W.keepIn X.K (.ref f) = true) (hb : Binds X.K fd ps []) (tk : Takes X W)
    (ha : PA X (e :: es) (tA X.K W gs)) (hg : Gl X x := by rfl) (hdb : (x == ("__debug__" : Str)) = false := by decide) (he : starEach (e :: es) X.env = (false, eval e X.env) :: starEach es X.env := by rfl) (hpl : (backTo pos (starEach es X.env)).any (·.1) = false := by rfl) :
    PE X (.Call (.Name x p) (e :: es) [] pos) (tE X.K W (dCall ms den gs)) := by
  constructor
  intro pins s σ H Q I h
  refine wpAny_Call_Name_kw (ld_glob I hg hm ?_ hdb)
  refine PySem.W.callWith_K (h₀ := X.base) I.ok.mod.kin hk ?_ he hpl
  refine thn (ha.run pos pins s σ H _ I (ec_call hd h)) ?_
  rintro us s1 ⟨vs, H1, I1, r, q⟩
  exact ⟨I1.kIn, F.call hr hb (passAt tk σ) I1 r q⟩
end
section
variable {P : Program} {w : World} {K : PySem.W.Frag} {mg : Str → Option Value} {base : Heap}
theorem def_okG {x qual : Str} {st : Stmt} {f : Addr} {fd : FuncData} {N ps : List Str} {k : Nat} {ms : List Bool} {g : Sv} (F : Fun K x qual st f fd) (S : FnScope N ps (defScope st)) (hm : ms.length = ps.length)
    (hb : ∀ (cdv : Value) (A : Around) (outer : List PySem.Env) (s : Shared) (H : Hp) (E : XK), RoomG k (A.deeper (envOfC qual (defScope st) s.heap.objs.size f cdv)) →
      PSs (cxOf (L2.CX P w) P w K mg base N qual (defScope st) f cdv A outer s H E) (defBody st) (tS K (fun cls d _ H' => E cls d H') g)) :
    FnG P w K mg base (k + 1) f fd ps (spD K ms (dDef N.length ms g)) := by
  refine fnG_of F S (fun vs H Q E h => (spD_len vs H Q E h).trans hm) (fun cdv A outer s H vs Q E hr h => ⟨_, hb cdv A outer s H E hr, ?_⟩)
  have hn := spD_len vs H Q E h
  obtain ⟨α, F0, G, ds, hl, ft, h⟩ := h
  refine ⟨α, _, F0, G, ft.start hl hn, ?_⟩
  unfold dDef at h
  rw [if_pos hl] at h
  cases e1 : g (argEnv ms ds ++ List.replicate (N.length - ms.length) .non) with
  | no => simp [e1, DC] at h
  | bk ρ => simp [e1, DC] at h
  | ct ρ => simp [e1, DC] at h
  | nx ρ =>
    simp only [e1] at h
    cases e2 : outsOf ms ds ρ with
    | none => simp [e2, DC] at h
    | some os =>
      simp only [e2] at h
      exact fun σ' H' F' g1 f1 => h .non H' F' g1 (ft.exit e2 hn g1 f1).1 (ft.exit e2 hn g1 f1).2 rfl
  | ex x ρ =>
    simp only [e1] at h
    cases e2 : outsOf ms ds ρ with
    | none => simp [e2, DC] at h
    | some os =>
      simp only [e2] at h
      exact fun c d σ' H' F' g1 f1 x1 => h c d H' F' g1 (ft.exit e2 hn g1 f1).1 (ft.exit e2 hn g1 f1).2 x1
  | rt r ρ =>
    simp only [e1] at h
    cases r with
    | loc i => simp [DC] at h
    | val d =>
      simp only at h
      cases e2 : outsOf ms ds ρ with
      | none => simp [e2, DC] at h
      | some os =>
        simp only [e2] at h
        exact fun v σ' H' F' g1 f1 r1 => h v H' F' g1 (ft.exit e2 hn g1 f1).1 (ft.exit e2 hn g1 f1).2 r1
    | new d =>
      simp only at h
      cases e2 : outsOf ms ds ρ with
      | none => simp [e2, DC] at h
      | some os =>
        simp only [e2] at h
        refine fun v σ' H' F' g1 f1 r1 => h v H' F' g1 (ft.exit e2 hn g1 f1).1 (ft.exit e2 hn g1 f1).2 ?_
        obtain ⟨a, rfl, fa, ga, c, sp⟩ := r1
        refine ⟨a, rfl, fa, ga, c, fun j s q o z => ?_⟩
        obtain ⟨l1, l2, k⟩ := outsOf_env e2
        rcases k q with ⟨d', rfl, hmm, hr'⟩ | ⟨d', rfl, _⟩
        · obtain ⟨_, _, q0⟩ := argEnv_at l2 hmm
          obtain ⟨x0, hx0, so0⟩ := ft.slot j _ q0
          obtain ⟨x1, hx1, so1⟩ := f1.slot j _ hr'
          have e3 : x0 = some (V.ref (α j)) := so0.1
          have e4 : x1 = some (V.ref (α j)) := so1.1
          rw [hx0, e3] at z
          cases z
          exact sp j _ hr' rfl (by rw [hx1, e4])
        · cases o
/-- no exception comes out where none is wanted -/
theorem cx_none {outer : List PySem.Env} {H : Hp} {s : Shared} {e : Value} {s' : Shared} (h : L2.CX P w outer H s (fun _ _ _ => False) e s') : False := by
  obtain ⟨_, _, _, _, _, _, _, _, _, _, _, _, z⟩ := h
  exact z
/-- THE HEAD of a law, at the heap behind the program's top, H telling of the script alone -/
theorem head_at {mb : Str → Option Value} {k : Nat} {fa a : Addr} {fd : FuncData} {x : Str} {sp : Sp} {s : Shared} {vs : List Value} {H : Hp}
    (inK : K.In s.heap) (nsM : s.heap.Ns mainGlobals mg) (nsB : s.heap.Ns builtinsNs mb) (boot : ∀ x : Str, x ≠ "__name__" → mb x = bootBuiltins x) (lim : s.heap.NoLimit) (gens : s.gens = #[])
    (scr : s.heap.get? a = some { cls := .type "list", data := .seq vs.toArray }) (r : Room k callerA)
    (F : ∀ base : Heap, K.In base → base.Ns mainGlobals mg → FnG P w K mg base k fa fd [x] sp) (bind : ∀ (s : Shared) (u : Value), BindsTo s fd ⟨[u], []⟩ [(x, u)])
    (law : sp [.ref a] H (fun v _ => v = .bl true) fun _ _ _ => False) (only : Only H) (ok : HOk P w H s.heap) (one : ∀ b, H b ≠ none → b = a) (own : H a ≠ none → K.lookup a = none) :
    codeAny (model P w) callerA (.call (.ref fa) ⟨[.ref a], []⟩) (fun res s' => res = .ok (.ret (.bool true)) ∧ OldK s.heap s'.heap ∧ s'.os = s.os ∧ AllBare s'.gens) s := by
  have free : ∀ {b : Addr} {o : Obj}, s.heap.get? b = some o → (b = a → H a = none) → H b = none := fun {b o} _ n => by
    by_cases q : H b = none
    · exact q
    · have := one b q
      subst this
      exact n rfl
  have dic : ∀ {b : Addr} {m : Str → Option Value}, s.heap.Ns b m → (hidT s.heap H).Ns b m := fun {b m} ⟨o, es, ep, e, d, t⟩ => by
    refine ⟨o, es, ep, hidT_get e ?_, d, t⟩
    by_cases q : H b = none
    · exact q
    · have := one b q
      subst this
      rw [scr] at e
      cases e
      cases d
  have inB : K.In (hidT s.heap H) := fun b o e => hidT_get (inK b o e) <| by
    by_cases q : H b = none
    · exact q
    · have := one b q
      subst this
      have := own q
      rw [this] at e
      cases e
  have md : Mod K mg (hidT s.heap H) := by
    obtain ⟨mc, l1, l2⟩ := lim
    exact ⟨inB, dic nsM, ⟨mb, dic nsB, boot⟩, ⟨mc, dic l1, l2⟩⟩
  have bare0 : AllBare s.gens := .of_eq gens
  have e0 : Env0 P w K mg (hidT s.heap H) callerA [] s H := by
    refine ⟨rfl, md, fun b o e => of_hidT e, Nat.le_of_eq (hidT_size _ _), trivial, ?_, ok, bare0⟩
    intro b z
    have z' : b ∈ ([] : List Addr) := z
    cases z'
  have rel : Vals [V.ref a] [Value.ref a] := .cons rfl .nil
  refine codeAny_mono ((F _ inB (dic nsM)).run callerA [] s H ⟨[.ref a], []⟩ [.ref a] [.ref a] _ _ (roomG_caller r) e0 (bind s (.ref a)) rel law) ?_
  intro res s' z
  match res, z with
  | .error e, z => exact (cx_none z).elim
  | .ok .next, z => exact False.elim z
  | .ok .brk, z => exact False.elim z
  | .ok .cont, z => exact False.elim z
  | .ok (.ret u), ⟨v, H', os, bare, un, ok', rv, q⟩ =>
    obtain rfl : v = V.bl true := q
    obtain rfl : u = Value.bool true := rv
    refine ⟨rfl, OldK.of_keep ?_, os, bare⟩
    intro b o e
    rcases only b with z | ⟨ob, xs, z⟩
    · refine un.keep b o e z ?_ ?_
      · intro m
        have m' : b ∈ ([] : List Addr) := m
        cases m'
      · simp
    · have was := (ok b _ z).1
      have is := (ok' b _ (un.frzs b ob _ z)).1
      rw [e] at was
      cases was
      exact is
theorem head_G {mb : Str → Option Value} {k : Nat} {fa a : Addr} {fd : FuncData} {x : Str} {sp : Sp} {s : Shared} {vs : List Value} {ns : List Int}
    (inK : K.In s.heap) (nsM : s.heap.Ns mainGlobals mg) (nsB : s.heap.Ns builtinsNs mb) (boot : ∀ x : Str, x ≠ "__name__" → mb x = bootBuiltins x) (lim : s.heap.NoLimit) (gens : s.gens = #[])
    (scr : s.heap.get? a = some { cls := .type "list", data := .seq vs.toArray }) (hints : IntsAre vs ns) (len : ns.length ≤ sizeLine) (r : Room k callerA)
    (F : ∀ base : Heap, K.In base → base.Ns mainGlobals mg → FnG P w K mg base k fa fd [x] sp) (bind : ∀ (s : Shared) (u : Value), BindsTo s fd ⟨[u], []⟩ [(x, u)])
    (law : ∀ H : Hp, Only H → SqL K H a (ns.map V.int) → sp [.ref a] H (fun v _ => v = .bl true) fun _ _ _ => False) :
    codeAny (model P w) callerA (.call (.ref fa) ⟨[.ref a], []⟩) (fun res s' => res = .ok (.ret (.bool true)) ∧ OldK s.heap s'.heap ∧ s'.os = s.os ∧ AllBare s'.gens) s := by
  have rv := vals_ints hints
  have n : vs.length = ns.length := hints.length
  by_cases hk : K.lookup a = none
  · -- a frozen list, told to the heap
    let o : Obj := { cls := .type "list", data := .seq vs.toArray }
    let H : Hp := fun b => if b = a then some (.frz o (.lst (ns.map V.int))) else none
    have ata : H a = some (.frz o (.lst (ns.map V.int))) := if_pos rfl
    have off : ∀ b, b ≠ a → H b = none := fun b q => if_neg q
    have on : Only H := fun b => by
      by_cases q : b = a
      · subst q; exact .inr ⟨o, _, ata⟩
      · exact .inl (off b q)
    refine head_at inK nsM nsB boot lim gens scr r F bind (law H on (.inl (.inr ⟨o, ata⟩))) on ?_ ?_ ?_
    · intro b u z
      by_cases q : b = a
      · subst q
        rw [ata] at z
        cases z
        refine ⟨scr, ?_, vs, _, rv, scr⟩
        rw [List.length_map]
        exact len
      · rw [off b q] at z
        cases z
    · intro b z
      by_cases q : b = a
      · exact q
      · exact absurd (off b q) z
    · intro _
      exact hk
  · -- the script is one of the module's own objects
    obtain ⟨o, ho⟩ := Option.ne_none_iff_exists'.mp hk
    have e := inK a o ho
    rw [scr] at e
    cases e
    let H : Hp := fun _ => none
    have no : ∀ b, ¬ (H b ≠ none) := fun b z => z rfl
    have on : Only H := fun _ => .inl rfl
    refine head_at inK nsM nsB boot lim gens scr r F bind (law H on (.inr ⟨_, vs.toArray, _, ho, rfl, rfl, rfl, ?_, ?_⟩)) on ?_ ?_ ?_
    · rw [List.size_toArray, n]
      exact len
    · simpa using rv
    · intro b u z
      have z' : (none : Option HO) = some u := z
      cases z'
    · exact fun b z => (no b z).elim
    · exact fun z => (no a z).elim
/-- what is asked of a law's def: at every script it computes True -/
theorem sp_of_den {den : List D → DR} {H : Hp} {a : Addr} {ns : List Int} (only : Only H) (S : SqL K H a (ns.map V.int)) (h : ∃ outs, den [.scr (ns.map .int)] = .ok (.val (.bl true)) outs) :
    spD K [false] den [.ref a] H (fun v _ => v = .bl true) fun _ _ _ => False := by
  obtain ⟨outs, h⟩ := h
  refine ⟨fun _ => a, H, fun _ => none, [.scr (ns.map .int)], rfl, ⟨Sub.refl _, fun _ _ e => (nomatch e), rfl, ?_, ?_⟩, ?_⟩
  · intro i s q
    match i with
    | 0 =>
      have q' : Slot.val (.scr (ns.map .int)) = s := by simpa [argEnv] using q
      subst q'
      exact ⟨some (.ref a), rfl, .ref a, rfl, a, _, rfl, S, Reps.mk_ints ns⟩
    | i + 1 => simp [argEnv] at q
  · intro i j s t b q1 q2 o1
    match i with
    | 0 =>
      have q' : Slot.val (.scr (ns.map .int)) = s := by simpa [argEnv] using q1
      subst q'
      cases o1
    | i + 1 => simp [argEnv] at q1
  · rw [h]
    intro v H' F' g hl f r
    exact r
end
section
open PySem.W
omit [HasW] in
/-- THE END: the goal that the kit's head leaves, from what the law's def computes -/
theorem walk_G {l : PySem.W.OpenLaw} {n k : Nat} {q : Program} {loose : List Str} {XP : (Str → Option Value) → Heap → Prop} {YP : World → Heap → Prop} {d : DefRec} {K : Params → PySem.W.Frag} {den : List D → DR} {x : Str}
    (hn : l.most = some n) (hn2 : n ≤ sizeLine) (hdf : d.params.defaults = []) (hr : Room k callerA) (hY : ∀ (w : World) (h : Heap), YP w h → (K w.params).In h)
    (F : ∀ (w : World) (mg : Str → Option Value) (fa : Addr) (h : Heap), (K w.params).In h → h.Ns mainGlobals mg → mg d.name = some (.ref fa) →
      ∃ fd : FuncData, (∀ (s : Shared) (u : Value), BindsTo s fd ⟨[u], []⟩ [(x, u)]) ∧ ∀ base : Heap, (K w.params).In base → base.Ns mainGlobals mg → FnG l.prog w (K w.params) mg base k fa fd [x] (@spD ⟨w⟩ (K w.params) [false] den))
    (law : ∀ ns : List Int, ns.length ≤ n → ∃ outs, den [.scr (ns.map .int)] = .ok (.val (.bl true)) outs) :
    PySem.W.WalkO q loose XP YP l.row.toRowW d [] (fun f vs => PySem.call f vs) := by
  refine Att.attach_call hn hdf ?_
  intro w s₀ s₁ mg mb fa o pm cd doc a vs ns G Y ho hd hcd hmg hobj hints hlen hg
  letI : HasW := ⟨w⟩
  have inK := hY w _ Y
  obtain ⟨fd, hb, hF⟩ := F w mg fa _ inK G.T.g hmg
  exact head_G inK G.T.g G.T.b G.T.builtins G.T.nolimit hg hobj hints (Nat.le_trans hlen hn2) hr hF hb fun H on S => sp_of_den on S (law ns hlen)
end
end DL

/-! Operators, built-in calls, slices, subscripts by what they compute over plain data. -/
namespace DL
open PySem PySem.Spec L2
variable [HasW]

/-! ### data as the kit's data -/
mutual
def py : D → Option PyData
  | .non => some .none
  | .bl b => some (.bool b)
  | .int i => some (.int i)
  | .str x => some (.str x)
  | .tup xs => (pys xs).map .tuple
  | .lst xs => (pys xs).map .list
  | .scr xs => (pys xs).map .list
  | .dic _ _ => none
  | .dct _ _ => none
  | .raw _ => none
def pys : List D → Option (List PyData)
  | [] => some []
  | x :: xs => match py x, pys xs with
    | some p, some ps => some (p :: ps)
    | _, _ => none
end
section
variable {K : PySem.W.Frag} {F H : Hp}
mutual
theorem Rep.dp : ∀ (d : D) (v : V) (p : PyData), Rep K F d v → py d = some p → Dp K F v p
  | .non, _, _, h, e => by cases h; cases e; exact .non
  | .bl b, _, _, h, e => by cases h; cases e; exact .bl b
  | .int i, _, _, h, e => by cases h; cases e; exact .int i
  | .str x, _, _, h, e => by cases h; cases e; exact .str x
  | .dic _ _, _, _, h, e => by cases e
  | .dct _ _, _, _, h, e => by cases e
  | .raw _, _, _, h, e => by cases e
  | .tup xs, v, p, h, e => by
    obtain ⟨a, vs, rfl, q, r⟩ := h
    obtain ⟨ps, e1, rfl⟩ := Option.map_eq_some_iff.mp (show (pys xs).map PyData.tuple = some p from e)
    exact .tup q (Reps.dp xs vs ps r e1)
  | .lst xs, v, p, h, e => by
    obtain ⟨a, vs, rfl, q, r⟩ := h
    obtain ⟨ps, e1, rfl⟩ := Option.map_eq_some_iff.mp (show (pys xs).map PyData.list = some p from e)
    exact .lst (SqL.of q) (Reps.dp xs vs ps r e1)
  | .scr xs, v, p, h, e => by
    obtain ⟨a, vs, rfl, q, r⟩ := h
    obtain ⟨ps, e1, rfl⟩ := Option.map_eq_some_iff.mp (show (pys xs).map PyData.list = some p from e)
    exact .lst q (Reps.dp xs vs ps r e1)
theorem Reps.dp : ∀ (ds : List D) (vs : List V) (ps : List PyData), Reps K F ds vs → pys ds = some ps → DpAll K F vs ps
  | [], _, _, h, e => by cases h; cases e; exact .nil
  | d :: ds, _, ps, h, e => by
    obtain ⟨v, r, rfl, a, b⟩ := h
    have e' : (match py d, pys ds with | some p, some ps => some (p :: ps) | _, _ => none) = some ps := e
    cases e1 : py d with
    | none => rw [e1] at e'; cases e'
    | some p =>
      cases e2 : pys ds with
      | none => rw [e1, e2] at e'; cases e'
      | some qs =>
        rw [e1, e2] at e'
        cases e'
        exact .cons (Rep.dp d v p a e1) (Reps.dp ds r qs b e2)
end
theorem View.dp (s : Sub F H) : ∀ {d : D} {v : V} {p : PyData}, View K F H d v → py d = some p → Dp K H v p
  | .non, _, _, h, e => by cases h; cases e; exact .non
  | .bl b, _, _, h, e => by cases h; cases e; exact .bl b
  | .int i, _, _, h, e => by cases h; cases e; exact .int i
  | .str x, _, _, h, e => by cases h; cases e; exact .str x
  | .dic _ _, _, _, h, e => by cases e
  | .dct _ _, _, _, h, e => by cases e
  | .raw _, _, _, h, e => by cases e
  | .tup xs, v, p, h, e => by
    obtain ⟨a, vs, rfl, q, r⟩ := h
    obtain ⟨ps, e1, rfl⟩ := Option.map_eq_some_iff.mp (show (pys xs).map PyData.tuple = some p from e)
    exact .tup (s.sqT q) (Reps.dp xs vs ps (Reps.mono s _ _ r) e1)
  | .lst xs, v, p, h, e => by
    obtain ⟨a, vs, rfl, q, r⟩ := h
    obtain ⟨ps, e1, rfl⟩ := Option.map_eq_some_iff.mp (show (pys xs).map PyData.list = some p from e)
    exact .lst (SqL.of q) (Reps.dp xs vs ps (Reps.mono s _ _ r) e1)
  | .scr xs, v, p, h, e => by
    obtain ⟨a, vs, rfl, q, r⟩ := h
    obtain ⟨ps, e1, rfl⟩ := Option.map_eq_some_iff.mp (show (pys xs).map PyData.list = some p from e)
    exact .lst (s.sqL q) (Reps.dp xs vs ps (Reps.mono s _ _ r) e1)
end

/-! ### comparisons -/
section
variable {X : Cx} {W : WX} {a b : Expr} {op : CmpOp} {g ga gb : Ev} {pos : Pos}
theorem _root_.L2.PC.weak {X : Cx} {op : CmpOp} {a b : Expr} {t t' : TE} (h : PC X op a b t) (w : ∀ σ H Q, t' σ H Q → t σ H Q) : PC X op a b t' := ⟨fun pins s σ H Q I q => h.run pins s σ H Q I (w σ H Q q)⟩
theorem pc_opR {r : R2} {ta tb : TE} (ho : OpR X (compareOp op) r) (ha : PE X a ta) (hb : PE X b tb) : PC X op a b (tOp r ta tb) :=
  ⟨fun pins s σ H Q I h => binT ha hb I h fun v u s2 x y H2 I2 rx ry q => ho pins s2 σ H2 x y v u Q I2 rx ry q⟩
theorem cd_op {r : R2} {f : D → D → Option RV} (ho : OpR X (compareOp op) r) (o : Op2 X.K r f) (ha : PE X a (tE X.K W ga)) (hb : PE X b (tE X.K W gb)) : PC X op a b (tE X.K W (dOp2 f ga gb)) :=
  (pc_opR ho ha hb).weak fun _ _ _ h => ec_op2 o h
/-- of two rules the one that fits -/
theorem cd_or {f f1 f2 : D → D → Option RV} (h1 : PC X op a b (tE X.K W (dOp2 f1 ga gb))) (h2 : PC X op a b (tE X.K W (dOp2 f2 ga gb))) (hf : ∀ x y, f x y = f1 x y ∨ f x y = f2 x y) : PC X op a b (tE X.K W (dOp2 f ga gb)) := by
  refine ⟨fun pins s σ H Q I ⟨α, ρ, F, G, ft, h⟩ => ?_⟩
  have key : dOp2 f ga gb ρ = dOp2 f1 ga gb ρ ∨ dOp2 f ga gb ρ = dOp2 f2 ga gb ρ := by
    unfold dOp2
    cases (ga ρ).settle with
    | no => exact .inl rfl
    | ex x ρ1 => exact .inl rfl
    | ok r1 ρ1 =>
      show (gb ρ1).settle.bind _ = (gb ρ1).settle.bind _ ∨ (gb ρ1).settle.bind _ = (gb ρ1).settle.bind _
      cases (gb ρ1).settle with
      | no => exact .inl rfl
      | ex x ρ1 => exact .inl rfl
      | ok r2 ρ2 =>
        show (match peek r1 ρ2, peek r2 ρ2 with | some x, some y => ER.of (f x y) ρ2 | _, _ => ER.no) = (match peek r1 ρ2, peek r2 ρ2 with | some x, some y => ER.of (f1 x y) ρ2 | _, _ => ER.no) ∨ (match peek r1 ρ2, peek r2 ρ2 with | some x, some y => ER.of (f x y) ρ2 | _, _ => ER.no) = (match peek r1 ρ2, peek r2 ρ2 with | some x, some y => ER.of (f2 x y) ρ2 | _, _ => ER.no)
        cases peek r1 ρ2 with
        | none => exact .inl rfl
        | some x =>
          cases peek r2 ρ2 with
          | none => exact .inl rfl
          | some y =>
            rcases hf x y with e | e
            · left; simp only [e]
            · right; simp only [e]
  rcases key with e | e
  · exact h1.run pins s σ H Q I ⟨α, ρ, F, G, ft, e ▸ h⟩
  · exact h2.run pins s σ H Q I ⟨α, ρ, F, G, ft, e ▸ h⟩
/-- its value is a bool -/
def BoolF (f : D → D → Option RV) : Prop := ∀ x y z, f x y = some z → ∃ c, z = .val (.bl c)
def nmk (op : CmpOp) (b : Expr) : Prop := behindInMarks op b = false
theorem ed_ofC {g : Ev} (h : PC X op a b (tE X.K W g)) (hm : behindInMarks op b = false := by first | exact nomark _ | rfl) : PE X (.Compare a [op] [b] pos) (tE X.K W g) := pe_cmp h hm
theorem td_ofC {f : D → D → Option RV} (h : PC X op a b (tE X.K W (dOp2 f ga gb))) (hf : BoolF f) (hm : behindInMarks op b = false := by first | exact nomark _ | rfl) : PT X (.Compare a [op] [b] pos) (tT X.K W (dOp2 f ga gb)) := by
  refine (pt_cmp h hm).weak fun σ H Q ⟨α, ρ, F, G, ft, h⟩ => ⟨α, ρ, F, G, ft, ?_⟩
  have key : ∀ {e : ER}, (∀ r ρ', e = .ok r ρ' → ∃ c, r = .val (.bl c)) → BC X.K W α σ F G Q e → EC X.K W α σ F G (fun x H' => ∃ c, x = .bl c ∧ Q c H') e := by
    intro e he hb
    cases e with
    | no => exact hb
    | ex x ρ1 => exact hb
    | ok r ρ1 =>
      obtain ⟨c, rfl⟩ := he r ρ1 rfl
      exact fun v H1 F1 g1 f1 r1 => ⟨c, r1, hb H1 F1 g1 f1⟩
  refine key (fun r ρ' q => ?_) h
  unfold dOp2 at q
  cases e1 : (ga ρ).settle with
  | no => simp [e1, ER.bind] at q
  | ex x ρ1 => simp [e1, ER.bind] at q
  | ok r1 ρ1 =>
    simp only [e1, ER.bind] at q
    cases e2 : (gb ρ1).settle with
    | no => simp [e2] at q
    | ex x ρ1 => simp [e2] at q
    | ok r2 ρ2 =>
      simp only [e2] at q
      cases e3 : peek r1 ρ2 with
      | none => simp [e3] at q
      | some x =>
        cases e4 : peek r2 ρ2 with
        | none => simp [e3, e4] at q
        | some y =>
          simp only [e3, e4] at q
          cases e5 : f x y with
          | none => simp [e5, ER.of] at q
          | some z =>
            simp only [e5, ER.of] at q
            obtain ⟨c, hc⟩ := hf x y z e5
            cases q
            exact ⟨c, hc⟩
end

/-! ### int operators -/
def onInts (f : Int → Int → Option RV) : D → D → Option RV
  | .int i, .int j => f i j
  | _, _ => none
theorem onInts_some {f : Int → Int → Option RV} {d e : D} {z : RV} (h : onInts f d e = some z) : ∃ i j, d = .int i ∧ e = .int j ∧ f i j = some z := by
  unfold onInts at h
  split at h
  · exact ⟨_, _, rfl, rfl, h⟩
  · cases h
theorem o2_ints {K : PySem.W.Frag} {g : Int → Int → D} {v : Int → Int → V} (hv : ∀ F i j, Rep K F (g i j) (v i j)) : Op2 K (rI0 v) (onInts fun i j => some (.val (g i j))) := by
  intro F H d e x y z Q s a b h q
  obtain ⟨i, j, rfl, rfl, h⟩ := onInts_some h
  cases h
  cases a
  cases b
  exact ⟨i, j, rfl, rfl, q _ H F (Ext.refl s) (hv F i j)⟩
theorem o2_intsC {K : PySem.W.Frag} {C : Int → Int → Prop} [∀ i j, Decidable (C i j)] {g : Int → Int → D} {v : Int → Int → V} (hv : ∀ F i j, Rep K F (g i j) (v i j)) :
    Op2 K (rI C v) (onInts fun i j => if C i j then some (.val (g i j)) else none) := by
  intro F H d e x y z Q s a b h q
  obtain ⟨i, j, rfl, rfl, h'⟩ := onInts_some h
  have h2 : (if C i j then some (RV.val (g i j)) else none) = some z := h'
  clear h h'
  cases a
  cases b
  by_cases c : C i j
  · rw [if_pos c] at h2
    cases h2
    exact ⟨i, j, rfl, rfl, c, q _ H F (Ext.refl s) (hv F i j)⟩
  · rw [if_neg c] at h2
    cases h2
instance (i j : Int) : Decidable (CMul i j) := inferInstanceAs (Decidable ((-(2 ^ 64) < i ∧ i < 2 ^ 64) ∨ (-(2 ^ 64) < j ∧ j < 2 ^ 64)))
instance (i j : Int) : Decidable (CDiv i j) := inferInstanceAs (Decidable (0 < j ∧ j < 1073741824))
instance (i j : Int) : Decidable (CPow i j) := inferInstanceAs (Decidable (0 ≤ j ∧ j ≤ 1000000 ∧ i.natAbs < 2 ^ 64))
theorem Op2.or {K : PySem.W.Frag} {r r' : R2} {f f1 f2 : D → D → Option RV} (h1 : Op2 K r f1) (h2 : Op2 K r' f2) (hf : ∀ x y, f x y = f1 x y ∨ f x y = f2 x y) : Op2 K (fun x y H Q => r x y H Q ∨ r' x y H Q) f := by
  intro F H d e x y z Q s a b h q
  rcases hf d e with w | w
  · exact .inl (h1 F H d e x y z Q s a b (w ▸ h) q)
  · exact .inr (h2 F H d e x y z Q s a b (w ▸ h) q)
def opSub : D → D → Option RV := onInts fun i j => some (.val (.int (i - j)))
def opFdiv : D → D → Option RV := onInts fun i j => if CDiv i j then some (.val (.int (i / j))) else none
def opMod : D → D → Option RV := onInts fun i j => if 0 < j then some (.val (.int (i % j))) else none
def opPow : D → D → Option RV := onInts fun i j => if CPow i j then some (.val (.int (i ^ j.toNat))) else none
def opMulI : D → D → Option RV := onInts fun i j => if CMul i j then some (.val (.int (i * j))) else none
def opAddI : D → D → Option RV := onInts fun i j => some (.val (.int (i + j)))
def opLt : D → D → Option RV := onInts fun i j => some (.val (.bl (decide (i < j))))
def opLe : D → D → Option RV := onInts fun i j => some (.val (.bl (decide (i ≤ j))))
def opGt : D → D → Option RV := onInts fun i j => some (.val (.bl (decide (j < i))))
def opGe : D → D → Option RV := onInts fun i j => some (.val (.bl (decide (j ≤ i))))
section
variable {K : PySem.W.Frag}
theorem o_sub : Op2 K (rI0 fun i j => .int (i - j)) opSub := o2_ints fun _ _ _ => rfl
theorem o_addI : Op2 K (rI0 fun i j => .int (i + j)) opAddI := o2_ints fun _ _ _ => rfl
theorem o_mulI : Op2 K (rI CMul fun i j => .int (i * j)) opMulI := o2_intsC (C := CMul) fun _ _ _ => rfl
theorem o_fdiv : Op2 K (rI CDiv fun i j => .int (i / j)) opFdiv := o2_intsC (C := CDiv) fun _ _ _ => rfl
theorem o_mod : Op2 K (rI (fun _ j => 0 < j) fun i j => .int (i % j)) opMod := o2_intsC (C := fun _ j => 0 < j) fun _ _ _ => rfl
theorem o_pow : Op2 K (rI CPow fun i j => .int (i ^ j.toNat)) opPow := o2_intsC (C := CPow) fun _ _ _ => rfl
theorem o_lt : Op2 K (rI0 fun i j => .bl (decide (i < j))) opLt := o2_ints fun _ _ _ => rfl
theorem o_le : Op2 K (rI0 fun i j => .bl (decide (i ≤ j))) opLe := o2_ints fun _ _ _ => rfl
theorem o_gt : Op2 K (rI0 fun i j => .bl (decide (j < i))) opGt := o2_ints fun _ _ _ => rfl
theorem o_ge : Op2 K (rI0 fun i j => .bl (decide (j ≤ i))) opGe := o2_ints fun _ _ _ => rfl
theorem bf_ints {g : Int → Int → Bool} : BoolF (onInts fun i j => some (.val (.bl (g i j)))) := fun x y z h => by
  obtain ⟨i, j, rfl, rfl, h⟩ := onInts_some h
  cases h
  exact ⟨_, rfl⟩
end
/-! ### + -/
def opAddS : D → D → Option RV
  | .str a, .str b => if a.length + b.length ≤ sizeLine then some (.val (.str (a ++ b))) else none
  | _, _ => none
def opAddT : D → D → Option RV
  | .tup xs, .tup ys => if xs.length + ys.length ≤ sizeLine then some (.val (.tup (xs ++ ys))) else none
  | _, _ => none
def opAddL : D → D → Option RV
  | .lst xs, .lst ys => if xs.length + ys.length ≤ sizeLine then some (.new (.lst (xs ++ ys))) else none
  | _, _ => none
def opAdd : D → D → Option RV
  | .int i, .int j => some (.val (.int (i + j)))
  | .str a, .str b => if a.length + b.length ≤ sizeLine then some (.val (.str (a ++ b))) else none
  | .tup xs, .tup ys => if xs.length + ys.length ≤ sizeLine then some (.val (.tup (xs ++ ys))) else none
  | .lst xs, .lst ys => if xs.length + ys.length ≤ sizeLine then some (.new (.lst (xs ++ ys))) else none
  | _, _ => none
section
variable {K : PySem.W.Frag}
theorem o_addS : Op2 K (fun x y H Q => ∃ i j, x = .str i ∧ y = .str j ∧ i.length + j.length ≤ sizeLine ∧ Q (.str (i ++ j)) H) opAddS := by
  intro F H d e x y z Q s a b h q
  unfold opAddS at h
  split at h
  · split at h
    · cases h
      cases a
      cases b
      exact ⟨_, _, rfl, rfl, by assumption, q _ H F (Ext.refl s) rfl⟩
    · cases h
  · cases h
theorem o_addT : Op2 K (rCatA K) opAddT := by
  intro F H d e x y z Q s a b h q
  unfold opAddT at h
  split at h
  · rename_i xs ys
    split at h
    · rename_i hl
      cases h
      obtain ⟨p, vs, rfl, q1, r1⟩ := a
      obtain ⟨p2, ws, rfl, q2, r2⟩ := b
      refine ⟨p, p2, vs, ws, rfl, rfl, s.sqT q1, s.sqT q2, by rw [r1.length, r2.length]; exact hl, fun e1 => ?_, fun _ e2 => ?_, fun _ _ pp hp => ?_⟩
      · -- nothing ahead
        have : xs = [] := by
          have := r1.length
          rw [e1] at this
          exact List.length_eq_zero_iff.mp this.symm
        subst this
        exact q _ H F (Ext.refl s) ⟨p2, ws, rfl, q2, r2⟩
      · have : ys = [] := by
          have := r2.length
          rw [e2] at this
          exact List.length_eq_zero_iff.mp this.symm
        subst this
        exact q _ H F (Ext.refl s) ⟨p, vs, rfl, q1, by rw [List.append_nil]; exact r1⟩
      · refine q _ _ _ (Ext.alloc s hp) ⟨pp, _, rfl, SqT.of upd_same, ?_⟩
        exact Reps.mono (Sub.upd_none (s.free hp)) _ _ (r1.append r2)
    · cases h
  · cases h
theorem o_addL : Op2 K rCat opAddL := by
  intro F H d e x y z Q s a b h q
  unfold opAddL at h
  split at h
  · rename_i xs ys
    split at h
    · rename_i hl
      cases h
      obtain ⟨p, vs, rfl, q1, r1⟩ := a
      obtain ⟨p2, ws, rfl, q2, r2⟩ := b
      refine ⟨p, p2, vs, ws, rfl, rfl, q1, q2, by rw [r1.length, r2.length]; exact hl, fun pp hp => ?_⟩
      exact q _ _ _ (Ext.allocO s hp) ⟨pp, rfl, hp, s.free hp, _, upd_same, r1.append r2⟩
    · cases h
  · cases h
/-- the reading of + -/
abbrev rAdd (K : PySem.W.Frag) : R2 := fun x y H Q => rI0 (fun i j => .int (i + j)) x y H Q ∨ (∃ i j, x = .str i ∧ y = .str j ∧ i.length + j.length ≤ sizeLine ∧ Q (.str (i ++ j)) H) ∨ rCatA K x y H Q ∨ rCat x y H Q
theorem opAdd_or (x y : D) : opAdd x y = opAddI x y ∨ opAdd x y = opAddS x y ∨ opAdd x y = opAddT x y ∨ opAdd x y = opAddL x y := by
  unfold opAdd
  split
  · exact .inl rfl
  · exact .inr (.inl rfl)
  · exact .inr (.inr (.inl rfl))
  · exact .inr (.inr (.inr rfl))
  · left
    unfold opAddI onInts
    split
    · rename_i h _ _ _ _ _
      rename_i i j hi
      first
        | exact absurd rfl (hi _ _ rfl)
        | simp_all
    · rfl
theorem o_add : Op2 K (rAdd K) opAdd := by
  intro F H d e x y z Q s a b h q
  rcases opAdd_or d e with w | w | w | w
  · exact .inl (o_addI F H d e x y z Q s a b (w ▸ h) q)
  · exact .inr (.inl (o_addS F H d e x y z Q s a b (w ▸ h) q))
  · exact .inr (.inr (.inl (o_addT F H d e x y z Q s a b (w ▸ h) q)))
  · exact .inr (.inr (.inr (o_addL F H d e x y z Q s a b (w ▸ h) q)))
end
section
variable {X : Cx} {W : WX} {a b : Expr} {g ga gb gc : Ev} {gs : Av} {pos p : Pos}
theorem op_addA : OpR X (binaryOp .Add) (rAdd X.K) := op_add.or (op_add_str.or (op_catA.or op_cat))
theorem ed_add (ha : PE X a (tE X.K W ga)) (hb : PE X b (tE X.K W gb)) : PE X (.BinOp a .Add b pos) (tE X.K W (dOp2 opAdd ga gb)) := ed_bin op_addA o_add ha hb
theorem ed_sub (ha : PE X a (tE X.K W ga)) (hb : PE X b (tE X.K W gb)) : PE X (.BinOp a .Sub b pos) (tE X.K W (dOp2 opSub ga gb)) := ed_bin op_sub o_sub ha hb
theorem ed_fdiv (ha : PE X a (tE X.K W ga)) (hb : PE X b (tE X.K W gb)) : PE X (.BinOp a .FloorDiv b pos) (tE X.K W (dOp2 opFdiv ga gb)) := ed_bin op_fdiv o_fdiv ha hb
theorem ed_mod (ha : PE X a (tE X.K W ga)) (hb : PE X b (tE X.K W gb)) : PE X (.BinOp a .Mod b pos) (tE X.K W (dOp2 opMod ga gb)) := ed_bin op_mod o_mod ha hb
theorem ed_pow (ha : PE X a (tE X.K W ga)) (hb : PE X b (tE X.K W gb)) : PE X (.BinOp a .Pow b pos) (tE X.K W (dOp2 opPow ga gb)) := ed_bin op_pow o_pow ha hb
/-! ### * -/
def opRepL : D → D → Option RV
  | .lst xs, .int k => if -(2 ^ 63) ≤ k ∧ k < 2 ^ 63 ∧ xs.length * k.toNat ≤ sizeLine then some (.new (.lst (List.replicate k.toNat xs).flatten)) else none
  | _, _ => none
def opRepT : D → D → Option RV
  | .tup xs, .int k => if xs ≠ [] ∧ 2 ≤ k ∧ k ≤ 1000 ∧ xs.length ≤ 1000 then some (.val (.tup (List.replicate k.toNat xs).flatten)) else none
  | _, _ => none
def opMul : D → D → Option RV
  | .int i, .int j => if CMul i j then some (.val (.int (i * j))) else none
  | .lst xs, .int k => if -(2 ^ 63) ≤ k ∧ k < 2 ^ 63 ∧ xs.length * k.toNat ≤ sizeLine then some (.new (.lst (List.replicate k.toNat xs).flatten)) else none
  | .tup xs, .int k => if xs ≠ [] ∧ 2 ≤ k ∧ k ≤ 1000 ∧ xs.length ≤ 1000 then some (.val (.tup (List.replicate k.toNat xs).flatten)) else none
  | _, _ => none
theorem Reps.rep {K : PySem.W.Frag} {F : Hp} {ds : List D} {vs : List V} (r : Reps K F ds vs) : ∀ n : Nat, Reps K F (List.replicate n ds).flatten (List.replicate n vs).flatten
  | 0 => .nil
  | n + 1 => by
    rw [List.replicate_succ, List.replicate_succ, List.flatten_cons, List.flatten_cons]
    exact r.append (Reps.rep r n)
end
end DL

/-! dicts whose keys are tuples, at the hand layer's level. -/
namespace DL
open PySem PySem.Spec L2
variable [HasW]
mutual
theorem nested_of_reads {h : Heap} : ∀ (k : NestedKey) (v : Value) (as : List Addr), Reads h v k.data as → NestedIs h k v
  | .none, _, _, r => by simp only [NestedKey.data] at r; cases r; exact .none
  | .num i, _, _, r => by simp only [NestedKey.data] at r; cases r; exact .int _ _
  | .text x, _, _, r => by simp only [NestedKey.data] at r; cases r; exact .text _ _
  | .tup ks, _, _, r => by
    simp only [NestedKey.data] at r
    cases r with
    | tuple h1 h2 h3 h4 => exact .tup h1 h2 h3 (nested_of_readsAll ks _ _ h4)
theorem nested_of_readsAll {h : Heap} : ∀ (ks : List NestedKey) (vs : List Value) (as : List Addr), ReadsAll h vs (NestedKey.datas ks) as → NestedAll h ks vs
  | [], _, _, r => by simp only [NestedKey.datas] at r; cases r; exact .nil
  | k :: ks, _, _, r => by
    simp only [NestedKey.datas] at r
    cases r with
    | cons a b => exact .cons (nested_of_reads k _ _ a) (nested_of_readsAll ks _ _ b)
end
mutual
theorem py_nk : ∀ (d : D) (k : NestedKey), nk d = some k → py d = some k.data
  | .non, k, h => by cases h; rfl
  | .int i, k, h => by cases h; rfl
  | .str x, k, h => by cases h; rfl
  | .tup xs, k, h => by
    obtain ⟨ks, e, rfl⟩ := Option.map_eq_some_iff.mp (show (nks xs).map NestedKey.tup = some k from h)
    have := pys_nks xs ks e
    show (pys xs).map PyData.tuple = _
    rw [this]
    rfl
  | .bl _, k, h => by cases h
  | .lst _, k, h => by cases h
  | .scr _, k, h => by cases h
  | .dic _ _, k, h => by cases h
  | .dct _ _, k, h => by cases h
  | .raw _, k, h => by cases h
theorem pys_nks : ∀ (ds : List D) (ks : List NestedKey), nks ds = some ks → pys ds = some (NestedKey.datas ks)
  | [], ks, h => by cases h; rfl
  | d :: ds, ks, h => by
    have h' : (match nk d, nks ds with | some k, some ks => some (k :: ks) | _, _ => none) = some ks := h
    cases e1 : nk d with
    | none => rw [e1] at h'; cases h'
    | some k =>
      cases e2 : nks ds with
      | none => rw [e1, e2] at h'; cases h'
      | some ks' =>
        rw [e1, e2] at h'
        cases h'
        unfold pys
        rw [py_nk d k e1, pys_nks ds ks' e2]
        rfl
end
mutual
theorem nk_inj : ∀ (d e : D) (k : NestedKey), nk d = some k → nk e = some k → d = e
  | .non, e, k, h, g => by
    cases h
    cases e with
    | non => rfl
    | tup xs => obtain ⟨ks, _, q⟩ := Option.map_eq_some_iff.mp (show (nks xs).map NestedKey.tup = some _ from g); cases q
    | _ => cases g
  | .int i, e, k, h, g => by
    cases h
    cases e with
    | int j => cases g; rfl
    | tup xs => obtain ⟨ks, _, q⟩ := Option.map_eq_some_iff.mp (show (nks xs).map NestedKey.tup = some _ from g); cases q
    | _ => cases g
  | .str i, e, k, h, g => by
    cases h
    cases e with
    | str j => cases g; rfl
    | tup xs => obtain ⟨ks, _, q⟩ := Option.map_eq_some_iff.mp (show (nks xs).map NestedKey.tup = some _ from g); cases q
    | _ => cases g
  | .tup xs, e, k, h, g => by
    obtain ⟨ks, e1, rfl⟩ := Option.map_eq_some_iff.mp (show (nks xs).map NestedKey.tup = some k from h)
    cases e with
    | tup ys =>
      obtain ⟨ls, e2, q⟩ := Option.map_eq_some_iff.mp (show (nks ys).map NestedKey.tup = some _ from g)
      injection q with q
      subst q
      rw [nks_inj xs ys ls e1 e2]
    | _ => cases g
  | .bl _, _, _, h, _ => by cases h
  | .lst _, _, _, h, _ => by cases h
  | .scr _, _, _, h, _ => by cases h
  | .dic _ _, _, _, h, _ => by cases h
  | .dct _ _, _, _, h, _ => by cases h
  | .raw _, _, _, h, _ => by cases h
theorem nks_inj : ∀ (ds es : List D) (ks : List NestedKey), nks ds = some ks → nks es = some ks → ds = es
  | [], es, ks, h, g => by
    cases h
    cases es with
    | nil => rfl
    | cons e es =>
      have g' : (match nk e, nks es with | some k, some ks => some (k :: ks) | _, _ => none) = some [] := g
      cases e1 : nk e <;> cases e2 : nks es <;> rw [e1, e2] at g' <;> cases g'
  | d :: ds, es, ks, h, g => by
    have h' : (match nk d, nks ds with | some k, some ks => some (k :: ks) | _, _ => none) = some ks := h
    cases e1 : nk d with
    | none => rw [e1] at h'; cases h'
    | some k =>
      cases e2 : nks ds with
      | none => rw [e1, e2] at h'; cases h'
      | some ks' =>
        rw [e1, e2] at h'
        cases h'
        cases es with
        | nil => cases g
        | cons e es =>
          have g' : (match nk e, nks es with | some k, some ks => some (k :: ks) | _, _ => none) = some (k :: ks') := g
          cases f1 : nk e with
          | none => rw [f1] at g'; cases g'
          | some j =>
            cases f2 : nks es with
            | none => rw [f1, f2] at g'; cases g'
            | some js =>
              rw [f1, f2] at g'
              cases g'
              rw [nk_inj d e _ e1 f1, nks_inj ds es _ e2 f2]
end
theorem kOf_some {d : D} {k : NestedKey} (h : kOf d = some k) : nk d = some k ∧ (∃ xs, d = .tup xs) ∧ (∃ ks, k = .tup ks) ∧ k.depth ≤ 8 := by
  cases d with
  | tup xs =>
    have h' : (match nks xs with | some ks => if (NestedKey.tup ks).depth ≤ 8 then some (NestedKey.tup ks) else none | none => none) = some k := h
    cases e : nks xs with
    | none => rw [e] at h'; cases h'
    | some ks =>
      rw [e] at h'
      dsimp only at h'
      split at h'
      · rename_i hd
        cases h'
        exact ⟨by show (nks xs).map NestedKey.tup = _; rw [e]; rfl, ⟨xs, rfl⟩, ⟨ks, rfl⟩, hd⟩
      · cases h'
  | _ => cases h
theorem kOf_inj {d e : D} {k : NestedKey} (h : kOf d = some k) (g : kOf e = some k) : d = e := nk_inj d e k (kOf_some h).1 (kOf_some g).1

/-! ### keys in a heap -/
def KeyAt (K : PySem.W.Frag) (H : Hp) (y : V) (k : NestedKey) : Prop := Dp K H y k.data ∧ (∃ ks, k = .tup ks) ∧ k.depth ≤ 8
def KeysAt (K : PySem.W.Frag) (H : Hp) (es : List Ent) : Prop := ∀ e ∈ es, KeyAt K H (.ref e.2.1) e.1
theorem View.keyAt {K : PySem.W.Frag} {F H : Hp} (s : Sub F H) {d : D} {v : V} {k : NestedKey} (h : View K F H d v) (e : kOf d = some k) : KeyAt K H v k :=
  have q := kOf_some e
  ⟨View.dp s h (py_nk d k q.1), q.2.2⟩
theorem keysAt_of {K : PySem.W.Frag} {F H : Hp} (s : Sub F H) : ∀ {ks : List D} {es : List Ent}, ks.map kOf = es.map (fun e => some e.1) → Reps K F ks (es.map fun e => .ref e.2.1) → KeysAt K H es
  | [], [], _, _ => fun e h => nomatch h
  | [], _ :: _, h, _ => by cases h
  | _ :: _, [], h, _ => by cases h
  | k :: ks, e :: es, h, r => by
    obtain ⟨v, t, q, a, b⟩ := r
    injection q with q1 q2
    subst q1 q2
    rw [List.map_cons, List.map_cons] at h
    injection h with h1 h2
    intro x hx
    rcases List.mem_cons.mp hx with rfl | hx
    · exact View.keyAt s (Rep.view s a) h1
    · exact keysAt_of s h2 b x hx
section
variable {X : Cx} {pins : List (Addr × Obj)} {σ : St} {H : Hp} {s : Shared} {a : Addr} {y v : V} {u r : Value} {k : NestedKey} {es : List Ent} {A : Around} {E : Value → Shared → Prop}
theorem KeyAt.is (I : Inv X pins σ H s) (h : KeyAt X.K H y k) (ry : RelV y u) : ∃ b, y = .ref b ∧ u = .ref b ∧ (nestedKind X.prog X.w).is s.heap k b := by
  obtain ⟨hd, ⟨ks, rfl⟩, h8⟩ := h
  obtain ⟨as, rd⟩ := Dp.reads I _ _ _ hd ry
  have n := nested_of_reads _ _ _ rd
  simp only [NestedKey.data] at hd
  cases hd with
  | tup q _ =>
    cases ry
    exact ⟨_, rfl, rfl, n, h8⟩
/-- the entries with the values that stand there -/
def zip3 : List Ent → List Value → List (NestedKey × Addr × Value)
  | e :: es, u :: us => (e.1, e.2.1, u) :: zip3 es us
  | _, _ => []
theorem zip3_entries {prog : Program} : ∀ (es : List Ent) (us : List Value), entsOf es us = (zip3 es us).map (entryOfKey (nestedKind prog HasW.w))
  | [], _ => by cases ‹List Value› <;> rfl
  | _ :: _, [] => rfl
  | e :: es, u :: us => by
    show _ :: entsOf es us = _ :: (zip3 es us).map _
    rw [zip3_entries es us]
    rfl
theorem zip3_keys : ∀ (es : List Ent) (us : List Value), es.length = us.length → (zip3 es us).map (·.1) = es.map (·.1)
  | [], [], _ => rfl
  | [], _ :: _, h => by simp at h
  | _ :: _, [], h => by simp at h
  | e :: es, u :: us, h => by
    show e.1 :: (zip3 es us).map _ = e.1 :: _
    rw [zip3_keys es us (by simpa using h)]
theorem zip3_length : ∀ (es : List Ent) (us : List Value), es.length = us.length → (zip3 es us).length = es.length
  | [], [], _ => rfl
  | [], _ :: _, h => by simp at h
  | _ :: _, [], h => by simp at h
  | e :: es, u :: us, h => by
    show (zip3 es us).length + 1 = es.length + 1
    rw [zip3_length es us (by simpa using h)]
theorem zip3_mem : ∀ (es : List Ent) (us : List Value) (x : NestedKey × Addr × Value), x ∈ zip3 es us → ∃ e ∈ es, e.1 = x.1 ∧ e.2.1 = x.2.1
  | [], _, _, h => by cases ‹List Value› <;> cases h
  | _ :: _, [], _, h => nomatch h
  | e :: es, u :: us, x, h => by
    rcases List.mem_cons.mp h with rfl | h
    · exact ⟨e, List.mem_cons_self, rfl, rfl⟩
    · obtain ⟨f, hf, q⟩ := zip3_mem es us x h
      exact ⟨f, List.mem_cons_of_mem _ hf, q⟩
/-- a dict with these entries: the empty one may be of either kind -/
def XAt (H : Hp) (a : Addr) (es : List Ent) : Prop := Rd H a (dxO a es) ∨ (es = [] ∧ Rd H a (.dK []))
theorem XAt.facts (hw : X.w = HasW.w) (I : Inv X pins σ H s) (x : XAt H a es) (ka : KeysAt X.K H es) : es.length ≤ sizeLine ∧ (a == sysModules) = false ∧
    ∃ us, Vals (es.map (·.2.2)) us ∧ s.heap.DictOfH (nestedKind X.prog X.w) a (zip3 es us) := by
  rcases x with x | ⟨rfl, x⟩
  · have ok : ObjOk X.prog X.w H s.heap a (dxO a es) := x.ok I.hok
    obtain ⟨⟨z, hd, nd, us, rv, o, des, ep, ho, hx, hdt, he⟩, _⟩ := ok
    refine ⟨z, hd, us, rv, o, des, ep, ho, hx, hdt, ?_, fun e hme => ?_, ?_⟩
    · rw [he, hw]
      exact zip3_entries es us
    · obtain ⟨f, hf, q1, q2⟩ := zip3_mem es us e hme
      obtain ⟨b, e1, e2, hi⟩ := (ka f hf).is I (u := .ref f.2.1) rfl
      injection e1 with e1
      subst e1
      rw [← q1, ← q2]
      exact hi
    · rw [zip3_keys es us (by have := rv.length; rwa [List.length_map] at this)]
      exact nd
  · obtain ⟨z, hd, vs, rel, dd⟩ := dk_rd I.hok x
    cases rel
    obtain ⟨o, es', ep, ho, hx, hdt, _, he, _⟩ := dd
    have e0 : es'.toList = [] := by cases q : es'.toList with
      | nil => rfl
      | cons x xs => rw [q] at he; cases he
    refine ⟨Nat.zero_le _, hd, [], .nil, o, es', ep, ho, hx, hdt, ?_, (fun e hme => nomatch hme), List.nodup_nil⟩
    rw [e0]
    rfl
def xGet (es : List Ent) (k : NestedKey) : Option V := (es.find? fun e => decide (e.1 = k)).map (·.2.2)
theorem xGet_rel : ∀ (es : List Ent) (us : List Value), Vals (es.map (·.2.2)) us → RelO (xGet es k) ((atKey (zip3 es us) k).map (·.2))
  | [], us, r => by cases r; exact True.intro
  | e :: es, _, r => by
    cases r with
    | cons a b =>
      have ih := xGet_rel es _ b
      by_cases q : e.1 = k
      · have e1 : xGet (e :: es) k = some e.2.2 := by simp [xGet, q]
        rw [e1]
        simp only [zip3, atKey, List.find?_cons, q, decide_true, Option.map_some]
        exact a
      · have e1 : xGet (e :: es) k = xGet es k := by simp [xGet, q]
        rw [e1]
        have e2 : ∀ x us', atKey ((e.1, e.2.1, x) :: zip3 es us') k = atKey (zip3 es us') k := by intro x us'; simp [atKey, q]
        show RelO _ ((atKey ((e.1, e.2.1, _) :: zip3 es _) k).map (·.2))
        rw [e2]
        exact ih
theorem room8 {A : Around} (hu : A.units + 65 < cLine) : (nestedKind X.prog X.w).room A.in1 := by
  show A.units + 1 + 8 < cLine
  omega
/-- x in d -/
def rXIn (K : PySem.W.Frag) (neg : Bool) : R2 := fun y x H Q => ∃ a es k, x = .ref a ∧ XAt H a es ∧ KeysAt K H es ∧ KeyAt K H y k ∧ Q (.bl (if neg then !(xGet es k).isSome else (xGet es k).isSome)) H
theorem op_xIn (hw : X.w = HasW.w) (hu : X.A.units + 65 < cLine) : OpR X (compareOp .In) (rXIn X.K false) := by
  rintro pins s σ H y x v u Q I ry rx ⟨a, es, k, rfl, xa, ka, kat, q⟩
  cases rx
  obtain ⟨z, hd, us, rv, dd⟩ := xa.facts hw I ka
  obtain ⟨b, rfl, rfl, hk⟩ := kat.is I ry
  refine wpAny_in_heap (room8 hu) hk hd dd ?_
  have e := (xGet_rel (k := k) es us rv).isSome_eq
  rw [Option.isSome_map] at e
  rw [← e]
  exact ⟨.bl _, H, I.tok _, rfl, q⟩
theorem op_xNotIn (hw : X.w = HasW.w) (hu : X.A.units + 65 < cLine) : OpR X (compareOp .NotIn) (rXIn X.K true) := by
  rintro pins s σ H y x v u Q I ry rx ⟨a, es, k, rfl, xa, ka, kat, q⟩
  cases rx
  obtain ⟨z, hd, us, rv, dd⟩ := xa.facts hw I ka
  obtain ⟨b, rfl, rfl, hk⟩ := kat.is I ry
  show wpAny _ _ (do return Value.bool (!(← contains (.ref a) (.ref b)))) _ _ s
  refine wpAny_bind (wpAny_contains_heap (room8 hu) hk hd dd (wpAny_pure ?_))
  have e := (xGet_rel (k := k) es us rv).isSome_eq
  rw [Option.isSome_map] at e
  rw [← e]
  exact ⟨.bl _, H, I.tok _, rfl, q⟩
/-- d[x] -/
def rXIx (K : PySem.W.Frag) : R2 := fun x y H Q => ∃ a es k v, x = .ref a ∧ Rd H a (dxO a es) ∧ KeysAt K H es ∧ KeyAt K H y k ∧ xGet es k = some v ∧ Q v H
theorem x_getItem {Q : VK} (hw : X.w = HasW.w) (hu : A.units + 65 < cLine) (I : Inv X pins σ H s) {x : V} {ov : Value} (rx : RelV x ov) (ry : RelV y u) (h : rXIx X.K x y H Q) :
    s.TypeIs ov "dict" ∧ wpAny (model X.prog X.w) A (getItem ov u) (EP X pins σ Q) E s := by
  obtain ⟨a, es, k, v, rfl, xa, ka, kat, hv, q⟩ := h
  cases rx
  obtain ⟨z, hd, us, rv, dd⟩ := XAt.facts hw I (.inl xa) ka
  obtain ⟨b, rfl, rfl, hk⟩ := kat.is I ry
  have e := xGet_rel (k := k) es us rv
  rw [hv] at e
  obtain ⟨w', hw', rw'⟩ := RelO.some_of (v := v) e
  obtain ⟨p, hp, hp2⟩ := Option.map_eq_some_iff.mp hw'
  refine ⟨dd.typeIs, wpAny_getItem_heap (room8 hu) hk dd hp ?_⟩
  rw [hp2]
  exact ⟨_, H, I.tok _, rw', q⟩
def tXIx (K : PySem.W.Frag) (td ty : TE) : TE := fun σ H Q => td σ H fun x H1 => ty σ H1 fun y H2 => rXIx K x y H2 Q
theorem pe_xget {o i : Expr} {pos : Pos} {td ty : TE} (hw : X.w = HasW.w) (hu : X.A.units + 65 < cLine) (ho : PE X o td) (hi : PE X i ty) (hs : NoSl i) : PE X (.Subscript o i pos) (tXIx X.K td ty) := by
  refine ⟨fun pins s σ H Q I h => ?_⟩
  exact subD_of PySem.F.slot_dict_getitem.lookup hs (thn (ho.run pins s σ H _ I h) fun u s1 ⟨x, H1, I1, rx, q1⟩ => thn (hi.run pins s1 σ H1 _ I1 q1) fun iv s2 ⟨y, H2, I2, ry, q2⟩ => x_getItem hw hu I2 rx ry q2)
/-! d[x] = v -/
def xPut (es : List Ent) (k : NestedKey) (b : Addr) (v : V) : List Ent := if (xGet es k).isSome then es.map (fun e => if e.1 = k then (e.1, e.2.1, v) else e) else es ++ [(k, b, v)]
def XMut (H : Hp) (a : Addr) (es : List Ent) : Prop := H a = some (dxO a es) ∨ (es = [] ∧ H a = some (.dK []))
theorem XMut.at {H : Hp} {a : Addr} {es : List Ent} (x : XMut H a es) : XAt H a es := by
  rcases x with x | ⟨e, x⟩
  · exact .inl (.inl x)
  · exact .inr ⟨e, .inl x⟩
theorem zip3_map {k : NestedKey} {v : V} {u : Value} (r : RelV v u) : ∀ (es : List Ent) (us : List Value), Vals (es.map (·.2.2)) us →
    ∃ ws, Vals ((es.map fun e => if e.1 = k then (e.1, e.2.1, v) else e).map (·.2.2)) ws ∧ (zip3 es us).map (putAt k u) = zip3 (es.map fun e => if e.1 = k then (e.1, e.2.1, v) else e) ws
  | [], us, h => by cases h; exact ⟨[], .nil, rfl⟩
  | e :: es, _, h => by
    cases h with
    | @cons _ w0 _ _ a b =>
      obtain ⟨ws, h1, h2⟩ := zip3_map r es _ b
      by_cases q : e.1 = k
      · refine ⟨u :: ws, ?_, ?_⟩
        · rw [List.map_cons, List.map_cons, if_pos q]
          exact .cons r h1
        · rw [List.map_cons, if_pos q]
          show putAt k u (e.1, e.2.1, _) :: (zip3 es _).map _ = (e.1, e.2.1, u) :: zip3 _ ws
          rw [h2]
          unfold putAt
          rw [if_pos q]
      · refine ⟨w0 :: ws, ?_, ?_⟩
        · rw [List.map_cons, List.map_cons, if_neg q]
          exact .cons a h1
        · rw [List.map_cons, if_neg q]
          show putAt k u (e.1, e.2.1, _) :: (zip3 es _).map _ = (e.1, e.2.1, _) :: zip3 _ ws
          rw [h2]
          unfold putAt
          rw [if_neg q]
theorem zip3_snoc {k : NestedKey} {b : Addr} {v : V} {u : Value} (r : RelV v u) : ∀ (es : List Ent) (us : List Value), Vals (es.map (·.2.2)) us →
    Vals ((es ++ [(k, b, v)]).map (·.2.2)) (us ++ [u]) ∧ zip3 es us ++ [(k, b, u)] = zip3 (es ++ [(k, b, v)]) (us ++ [u])
  | [], us, h => by cases h; exact ⟨.cons r .nil, rfl⟩
  | e :: es, _, h => by
    cases h with
    | cons a c =>
      obtain ⟨h1, h2⟩ := zip3_snoc r es _ c
      exact ⟨.cons a h1, congrArg _ h2⟩
theorem xPut_zip {k : NestedKey} {b : Addr} {v : V} {u : Value} (r : RelV v u) (es : List Ent) (us : List Value) (h : Vals (es.map (·.2.2)) us) : ∃ ws, Vals ((xPut es k b v).map (·.2.2)) ws ∧ storedH (zip3 es us) k b u = zip3 (xPut es k b v) ws := by
  have e := (xGet_rel (k := k) es us h).isSome_eq
  rw [Option.isSome_map] at e
  unfold xPut
  unfold storedH
  rw [← e]
  cases hs : (xGet es k).isSome with
  | true =>
    rw [if_pos rfl, if_pos rfl]
    exact zip3_map r es us h
  | false =>
    rw [if_neg Bool.false_ne_true, if_neg Bool.false_ne_true]
    obtain ⟨h1, h2⟩ := zip3_snoc (k := k) (b := b) r es us h
    exact ⟨_, h1, h2⟩
theorem xPut_length (es : List Ent) (k : NestedKey) (b : Addr) (v : V) : (xPut es k b v).length ≤ es.length + 1 := by
  unfold xPut
  split
  · rw [List.length_map]; omega
  · rw [List.length_append]; exact Nat.le_refl _
def rSetX (K : PySem.W.Frag) : TSet := fun o i v H Q => ∃ a es k b, o = .ref a ∧ i = .ref b ∧ XMut H a es ∧ KeysAt K H es ∧ KeyAt K H i k ∧ es.length < sizeLine ∧ Q (upd H a (dxO a (xPut es k b v)))
theorem set_x (hw : X.w = HasW.w) (hu : X.A.units + 65 < cLine) : PSet X (rSetX X.K) := by
  rintro pins s σ H o i v ov iv u Q I ro ri rv ⟨a, es, k, b, rfl, rfl, xm, ka, kat, hl, q⟩
  cases ro
  cases ri
  obtain ⟨z, hd, us, rvs, dd⟩ := xm.at.facts hw I ka
  obtain ⟨b', e1, e2, hk⟩ := kat.is I (u := .ref b) rfl
  injection e1 with e1
  subst e1
  have lz : (zip3 es us).length = es.length := zip3_length es us (by have := rvs.length; rwa [List.length_map] at this)
  refine wpAny_setItem_heap (hsz := by omega) (room8 hu) hk dd fun h' dd' hs => ⟨_, ?_, q⟩
  obtain ⟨ws, r1, r2⟩ := xPut_zip (k := k) (b := b) rv es us rvs
  rw [r2] at dd'
  obtain ⟨o, des, ep, ho, hx, hdt, he, _, hn⟩ := dd'
  have lw : (xPut es k b v).length = ws.length := by have := r1.length; rwa [List.length_map] at this
  have mu : Mut (H a) := by
    rcases xm with x | ⟨_, x⟩ <;> rw [x] <;> exact True.intro
  refine d_write I mu hs ⟨o, ho⟩ ⟨?_, ⟨o, ho⟩, ?_⟩
  · refine ⟨by have := xPut_length es k b v; omega, hd, by rw [← zip3_keys _ ws lw]; exact hn, ws, r1, o, des, ep, ho, hx, hdt, ?_⟩
    rw [he, hw, zip3_entries]
  · rintro h1 h2 ⟨c1, c2, c3, us', c4, o', des', ep', c5, c6⟩ hk'
    exact ⟨c1, c2, c3, us', c4, o', des', ep', hk' _ c5, c6⟩
end
/-! ### over data -/
def dctHas (ks : List D) (k : NestedKey) : Bool := ks.any fun k' => decide (kOf k' = some k)
def dctGet : List D → List D → NestedKey → Option D
  | k' :: ks, x :: xs, k => if kOf k' = some k then some x else dctGet ks xs k
  | _, _, _ => none
def dctPutXs : List D → List D → NestedKey → D → List D
  | k' :: ks, x :: xs, k, d => if kOf k' = some k then d :: dctPutXs ks xs k d else x :: dctPutXs ks xs k d
  | _, xs, _, _ => xs
/-- a dict with the key kd (it is k) told d -/
def dctPut (ks xs : List D) (kd : D) (k : NestedKey) (d : D) : D := if dctHas ks k then .dct ks (dctPutXs ks xs k d) else .dct (ks ++ [kd]) (xs ++ [d])
section
variable {K : PySem.W.Frag} {F : Hp} {k : NestedKey}
theorem dctGet_rep : ∀ {ks xs : List D} {es : List Ent}, ks.map kOf = es.map (fun e => some e.1) → Reps K F xs (es.map (·.2.2)) → (∀ d, dctGet ks xs k = some d → ∃ v, xGet es k = some v ∧ Rep K F d v) ∧ (dctGet ks xs k = none → xGet es k = none) ∧ (xGet es k).isSome = dctHas ks k
  | [], [], [], _, r => ⟨(fun d h => nomatch h), fun _ => rfl, rfl⟩
  | [], _ :: _, [], _, r => by obtain ⟨_, _, q, _⟩ := r; cases q
  | [], _, _ :: _, h, _ => by cases h
  | _ :: _, _, [], h, _ => by cases h
  | k' :: ks, xs, e :: es, h, r => by
    rw [List.map_cons, List.map_cons] at h
    injection h with h1 h2
    cases xs with
    | nil => cases r
    | cons x xs =>
      obtain ⟨v, t, q, a, b⟩ := r
      injection q with q1 q2
      subst q1 q2
      obtain ⟨i1, i0, i2⟩ := dctGet_rep h2 b
      by_cases q : e.1 = k
      · have e1 : xGet (e :: es) k = some e.2.2 := by simp [xGet, q]
        have e2 : kOf k' = some k := by rw [h1, q]
        refine ⟨fun d hd => ?_, fun hd => ?_, ?_⟩
        · unfold dctGet at hd
          rw [if_pos e2] at hd
          cases hd
          exact ⟨_, e1, a⟩
        · unfold dctGet at hd
          rw [if_pos e2] at hd
          cases hd
        · rw [e1]
          simp [dctHas, e2]
      · have e1 : xGet (e :: es) k = xGet es k := by simp [xGet, q]
        have e2 : ¬ kOf k' = some k := fun z => q (by rw [h1] at z; exact Option.some.inj z)
        refine ⟨fun d hd => ?_, fun hd => ?_, ?_⟩
        · unfold dctGet at hd
          rw [if_neg e2] at hd
          rw [e1]
          exact i1 d hd
        · unfold dctGet at hd
          rw [if_neg e2] at hd
          rw [e1]
          exact i0 hd
        · rw [e1, i2]
          simp [dctHas, e2]
theorem dctPut_rep {d : D} {v : V} (rv : Rep K F d v) : ∀ {ks xs : List D} {es : List Ent}, ks.map kOf = es.map (fun e => some e.1) → Reps K F xs (es.map (·.2.2)) →
    Reps K F (dctPutXs ks xs k d) ((es.map fun e => if e.1 = k then (e.1, e.2.1, v) else e).map (·.2.2))
  | [], [], [], _, r => .nil
  | [], _ :: _, [], _, r => by obtain ⟨_, _, q, _⟩ := r; cases q
  | [], _, _ :: _, h, _ => by cases h
  | _ :: _, _, [], h, _ => by cases h
  | k' :: ks, xs, e :: es, h, r => by
    rw [List.map_cons, List.map_cons] at h
    injection h with h1 h2
    cases xs with
    | nil => cases r
    | cons x xs =>
      obtain ⟨w, t, q, a, b⟩ := r
      injection q with q1 q2
      subst q1 q2
      have ih := dctPut_rep rv h2 b
      unfold dctPutXs
      by_cases q : e.1 = k
      · rw [if_pos (by rw [h1, q]), List.map_cons, List.map_cons, if_pos q]
        exact .cons rv ih
      · rw [if_neg (fun z => q (by rw [h1] at z; exact Option.some.inj z)), List.map_cons, List.map_cons, if_neg q]
        exact .cons a ih
theorem map_keep {β : Type} (g : Ent → β) {v : V} (hg : ∀ e : Ent, g (e.1, e.2.1, v) = g e) (es : List Ent) : (es.map fun e => if e.1 = k then (e.1, e.2.1, v) else e).map g = es.map g := by
  rw [List.map_map]
  refine List.map_congr_left fun e _ => ?_
  show g (if e.1 = k then (e.1, e.2.1, v) else e) = g e
  split
  · exact hg e
  · rfl
/-- the dict behind a store -/
theorem cell_dct {ks xs : List D} {es : List Ent} {kd d : D} {b a : Addr} {v : V} {H : Hp} (h : ks.map kOf = es.map (fun e => some e.1)) (rk : Reps K F ks (es.map fun e => .ref e.2.1)) (r : Reps K F xs (es.map (·.2.2))) (hk : kOf kd = some k) (rb : Rep K F kd (.ref b)) (rv : Rep K F d v) :
    Cell K F (upd H a (dxO a (xPut es k b v))) a (dctPut ks xs kd k d) := by
  have e := (dctGet_rep (k := k) h r).2.2
  unfold dctPut xPut
  rw [e]
  cases hs : dctHas ks k with
  | true =>
    rw [if_pos rfl, if_pos rfl]
    refine ⟨_, upd_same, ?_, ?_, dctPut_rep rv h r⟩
    · rw [map_keep (fun e => some e.1) (fun _ => rfl)]; exact h
    · rw [map_keep (fun e => V.ref e.2.1) (fun _ => rfl)]; exact rk
  | false =>
    rw [if_neg Bool.false_ne_true, if_neg Bool.false_ne_true]
    refine ⟨_, upd_same, ?_, ?_, ?_⟩
    · rw [List.map_append, List.map_append, h, List.map_cons, List.map_nil, hk]; rfl
    · rw [List.map_append]; exact rk.snoc rb
    · rw [List.map_append]; exact r.snoc rv
end
end DL

/-! * , ==, in, subscripts, slices, built-in calls. -/
namespace DL
open PySem PySem.Spec L2
variable [HasW]
section
variable {K : PySem.W.Frag}
theorem o_repL : Op2 K rRep opRepL := by
  intro F H d e x y z Q s a b h q
  unfold opRepL at h
  split at h
  · rename_i xs k
    split at h
    · rename_i hl
      cases h
      obtain ⟨p, vs, rfl, q1, r1⟩ := a
      cases b
      refine ⟨p, k, vs, rfl, rfl, q1, hl.1, hl.2.1, by rw [r1.length]; exact hl.2.2, fun pp hp => ?_⟩
      exact q _ _ _ (Ext.allocO s hp) ⟨pp, rfl, hp, s.free hp, _, upd_same, r1.rep _⟩
    · cases h
  · cases h
theorem o_repT : Op2 K (rRepT K) opRepT := by
  intro F H d e x y z Q s a b h q
  unfold opRepT at h
  split at h
  · rename_i xs k
    split at h
    · rename_i hl
      cases h
      obtain ⟨p, vs, rfl, q1, r1⟩ := a
      cases b
      have ne : vs ≠ [] := fun e => by
        have := r1.length
        rw [e] at this
        exact hl.1 (List.length_eq_zero_iff.mp this.symm)
      refine ⟨p, k, vs, rfl, rfl, s.sqT q1, ne, hl.2.1, hl.2.2.1, by rw [r1.length]; exact hl.2.2.2, fun pp hp => ?_⟩
      refine q _ _ _ (Ext.alloc s hp) ⟨pp, _, rfl, SqT.of upd_same, ?_⟩
      exact Reps.mono (Sub.upd_none (s.free hp)) _ _ (r1.rep _)
    · cases h
  · cases h
abbrev rMul (K : PySem.W.Frag) : R2 := fun x y H Q => rI CMul (fun i j => .int (i * j)) x y H Q ∨ rRep x y H Q ∨ rRepT K x y H Q
theorem opMul_or (x y : D) : opMul x y = opMulI x y ∨ opMul x y = opRepL x y ∨ opMul x y = opRepT x y := by
  unfold opMul
  split
  · exact .inl rfl
  · exact .inr (.inl rfl)
  · exact .inr (.inr rfl)
  · left
    unfold opMulI onInts
    split
    · rename_i i j hi _ _
      exact absurd rfl (hi _ _ rfl)
    · rfl
theorem o_mul : Op2 K (rMul K) opMul := by
  intro F H d e x y z Q s a b h q
  rcases opMul_or d e with w | w | w
  · exact .inl (o_mulI F H d e x y z Q s a b (w ▸ h) q)
  · exact .inr (.inl (o_repL F H d e x y z Q s a b (w ▸ h) q))
  · exact .inr (.inr (o_repT F H d e x y z Q s a b (w ▸ h) q))
/-! ### == != -/
/-- by the kit's data -/
def eqDeep (d e : D) : Option Bool := match py d, py e with
  | some p, some q => if SeqAt.shaped p = true ∧ SeqAt.shaped q = true then some (PyData.eqv p q) else none
  | _, _ => none
def eqD (d e : D) : Option Bool := match d, e with
  | .int i, .int j => some (decide (i = j))
  | .str a, .str b => some (decide (a = b))
  | .bl a, .bl b => some (decide (a = b))
  | d, e => eqDeep d e
def opEq (d e : D) : Option RV := (eqD d e).map fun b => .val (.bl b)
def opNe (d e : D) : Option RV := (eqD d e).map fun b => .val (.bl (!b))
theorem eqDeep_some {d e : D} {b : Bool} (h : eqDeep d e = some b) : ∃ p q, py d = some p ∧ py e = some q ∧ SeqAt.shaped p = true ∧ SeqAt.shaped q = true ∧ b = PyData.eqv p q := by
  unfold eqDeep at h
  split at h
  · split at h
    · rename_i hs
      cases h
      exact ⟨_, _, by assumption, by assumption, hs.1, hs.2, rfl⟩
    · cases h
  · cases h
abbrev rEqA (K : PySem.W.Frag) : R2 := fun x y H Q => rEq x y H Q ∨ rEqD K x y H Q
abbrev rNeA (K : PySem.W.Frag) : R2 := fun x y H Q => rNe x y H Q ∨ rNeD K x y H Q
theorem eqD_sound {F H : Hp} {d e : D} {x y : V} {b : Bool} {Q : VK} (s : Sub F H) (a : View K F H d x) (c : View K F H e y) (h : eqD d e = some b) : (Q (.bl b) H → rEqA K x y H Q) ∧ (Q (.bl (!b)) H → rNeA K x y H Q) := by
  have deep : eqDeep d e = some b → (Q (.bl b) H → rEqA K x y H Q) ∧ (Q (.bl (!b)) H → rNeA K x y H Q) := fun h => by
    obtain ⟨p, q, e1, e2, h1, h2, rfl⟩ := eqDeep_some h
    exact ⟨fun z => .inr ⟨p, q, a.dp s e1, c.dp s e2, h1, h2, z⟩, fun z => .inr ⟨p, q, a.dp s e1, c.dp s e2, h1, h2, z⟩⟩
  unfold eqD at h
  split at h
  · cases h
    cases a
    cases c
    exact ⟨fun q => .inl ⟨rfl, by simpa using q⟩, fun q => .inl ⟨rfl, by simpa using q⟩⟩
  · cases h
    cases a
    cases c
    exact ⟨fun q => .inl ⟨rfl, by simpa using q⟩, fun q => .inl ⟨rfl, by simpa using q⟩⟩
  · cases h
    cases a
    cases c
    exact ⟨fun q => .inl ⟨rfl, by simpa using q⟩, fun q => .inl ⟨rfl, by simpa using q⟩⟩
  · exact deep h
theorem o_eq : Op2 K (rEqA K) opEq := by
  intro F H d e x y z Q s a b h q
  obtain ⟨c, hc, rfl⟩ := Option.map_eq_some_iff.mp (show (eqD d e).map (fun b => RV.val (.bl b)) = some z from h)
  exact (eqD_sound s a b hc).1 (q _ H F (Ext.refl s) rfl)
theorem o_ne : Op2 K (rNeA K) opNe := by
  intro F H d e x y z Q s a b h q
  obtain ⟨c, hc, rfl⟩ := Option.map_eq_some_iff.mp (show (eqD d e).map (fun b => RV.val (.bl (!b))) = some z from h)
  exact (eqD_sound s a b hc).2 (q _ H F (Ext.refl s) rfl)
theorem bf_eq : BoolF opEq := fun x y z h => by
  obtain ⟨c, hc, rfl⟩ := Option.map_eq_some_iff.mp (show (eqD x y).map (fun b => RV.val (.bl b)) = some z from h)
  exact ⟨_, rfl⟩
theorem bf_ne : BoolF opNe := fun x y z h => by
  obtain ⟨c, hc, rfl⟩ := Option.map_eq_some_iff.mp (show (eqD x y).map (fun b => RV.val (.bl (!b))) = some z from h)
  exact ⟨_, rfl⟩
theorem bf_lt : BoolF opLt := bf_ints
theorem bf_le : BoolF opLe := bf_ints
theorem bf_gt : BoolF opGt := bf_ints
theorem bf_ge : BoolF opGe := bf_ints
end
section
variable {X : Cx} {W : WX} {a b : Expr} {op : CmpOp} {g ga gb gc : Ev} {gs : Av} {pos p : Pos}
theorem op_mulA : OpR X (binaryOp .Mult) (rMul X.K) := op_mul.or (op_rep.or op_repT)
theorem ed_mul (ha : PE X a (tE X.K W ga)) (hb : PE X b (tE X.K W gb)) : PE X (.BinOp a .Mult b pos) (tE X.K W (dOp2 opMul ga gb)) := ed_bin op_mulA o_mul ha hb
theorem cd_lt (ha : PE X a (tE X.K W ga)) (hb : PE X b (tE X.K W gb)) : PC X .Lt a b (tE X.K W (dOp2 opLt ga gb)) := cd_op op_lt o_lt ha hb
theorem cd_le (ha : PE X a (tE X.K W ga)) (hb : PE X b (tE X.K W gb)) : PC X .LtE a b (tE X.K W (dOp2 opLe ga gb)) := cd_op op_le o_le ha hb
theorem cd_gt (ha : PE X a (tE X.K W ga)) (hb : PE X b (tE X.K W gb)) : PC X .Gt a b (tE X.K W (dOp2 opGt ga gb)) := cd_op op_gt o_gt ha hb
theorem cd_ge (ha : PE X a (tE X.K W ga)) (hb : PE X b (tE X.K W gb)) : PC X .GtE a b (tE X.K W (dOp2 opGe ga gb)) := cd_op op_ge o_ge ha hb
theorem u64 {k : Nat} (hr : RoomG k X.A) : X.A.units + 64 < cLine := hr.room.units
theorem u65 {k : Nat} (hr : RoomG k X.A) : X.A.units + 65 < cLine := by have := hr.room.un; omega
theorem u1 {k : Nat} (hr : RoomG k X.A) : X.A.units + 1 < cLine := by have := hr.room.un; omega
theorem cd_eq {k : Nat} (hr : RoomG k X.A) (ha : PE X a (tE X.K W ga)) (hb : PE X b (tE X.K W gb)) : PC X .Eq a b (tE X.K W (dOp2 opEq ga gb)) := cd_op (op_eq.or (op_eqD (u64 hr))) o_eq ha hb
theorem cd_ne {k : Nat} (hr : RoomG k X.A) (ha : PE X a (tE X.K W ga)) (hb : PE X b (tE X.K W gb)) : PC X .NotEq a b (tE X.K W (dOp2 opNe ga gb)) := cd_op (op_ne.or (op_neD (u64 hr))) o_ne ha hb
end

/-! ### in -/
def rInDT (K : PySem.W.Frag) : R2 := fun x y H Q => ∃ d ds, Dp K H x d ∧ Dp K H y (.tuple ds) ∧ SeqAt.shaped d = true ∧ SeqAt.shaped (.tuple ds) = true ∧ Q (.bl (ds.any fun z => PyData.eqv z d)) H
def rNotInDT (K : PySem.W.Frag) : R2 := fun x y H Q => ∃ d ds, Dp K H x d ∧ Dp K H y (.tuple ds) ∧ SeqAt.shaped d = true ∧ SeqAt.shaped (.tuple ds) = true ∧ Q (.bl (!ds.any fun z => PyData.eqv z d)) H
theorem room_inT {A : Around} {d : PyData} {n : Nat} (h : SeqAt.shaped d = true) (hu : A.units + 65 < cLine) : A.units + 1 + min n d.depth < cLine := by
  have h1 := SeqAt.depth_of_shaped h
  have h2 : min n d.depth ≤ d.depth := Nat.min_le_right _ _
  omega
section
variable {X : Cx}
theorem op_inDT (hu : X.A.units + 65 < cLine) : OpR X (compareOp .In) (rInDT X.K) := by
  rintro pins s σ H x y v u Q I rx ry ⟨d, ds, hd, he, sd, se, q⟩
  obtain ⟨as, r1⟩ := Dp.reads I d x v hd rx
  obtain ⟨bs, r2⟩ := Dp.reads I (.tuple ds) y u he ry
  exact SeqAt.in_tuple_reads r2 r1 (SeqAt.canLay_of_shaped se) (SeqAt.canLay_of_shaped sd) (room_inT sd hu) ⟨.bl _, H, I, rfl, q⟩
theorem op_notInDT (hu : X.A.units + 65 < cLine) : OpR X (compareOp .NotIn) (rNotInDT X.K) := by
  rintro pins s σ H x y v u Q I rx ry ⟨d, ds, hd, he, sd, se, q⟩
  obtain ⟨as, r1⟩ := Dp.reads I d x v hd rx
  obtain ⟨bs, r2⟩ := Dp.reads I (.tuple ds) y u he ry
  exact SeqAt.notIn_tuple_reads r2 r1 (SeqAt.canLay_of_shaped se) (SeqAt.canLay_of_shaped sd) (room_inT sd hu) ⟨.bl _, H, I, rfl, q⟩
end
/-- a text in a text: of one sign by its place in the list -/
def inStr (x z : Str) : Bool := match x.cps.toList with
  | [c] => decide (c ∈ z.cps.toList)
  | _ => !(Builtin.Str.occurrences z x 0 z.length 1).isEmpty
def keyOf : D → Option Key
  | .int i => some (.inl i)
  | .str x => some (.inr x)
  | _ => none
/-- is d among the items -/
def among (d : D) (xs : List D) (mk : List PyData → PyData) : Option Bool := match py d, pys xs with
  | some p, some ps => if SeqAt.shaped p = true ∧ SeqAt.shaped (mk ps) = true then some (ps.any fun z => PyData.eqv z p) else none
  | _, _ => none
def hasKey (ks : List Key) (k : Key) : Bool := ks.any fun k' => decide (k' = k)
def memD (x y : D) : Option Bool := match y with
  | .str z => match x with
    | .str w => some (inStr w z)
    | _ => none
  | .lst ys => among x ys .list
  | .scr ys => among x ys .list
  | .tup ys => among x ys .tuple
  | .dic ks _ => match keyOf x with
    | some k => some (hasKey ks k)
    | none => none
  | _ => none
def isDic : D → Bool
  | .dic _ _ => true
  | _ => false
/-- among a dict's keys that are tuples -/
def memX (x y : D) : Option Bool := match y with
  | .dct ks _ => (kOf x).map fun k => dctHas ks k
  | .dic ks _ => if ks.isEmpty then (kOf x).map fun _ => false else none
  | _ => none
def opIn (x y : D) : Option RV := (memX x y <|> memD x y).map fun b => .val (.bl b)
def opNotIn (x y : D) : Option RV := (memX x y <|> memD x y).map fun b => .val (.bl (!b))
def opInO (x y : D) : Option RV := (memD x y).map fun b => .val (.bl b)
def opNotInO (x y : D) : Option RV := (memD x y).map fun b => .val (.bl (!b))
def opInX (x y : D) : Option RV := (memX x y).map fun b => .val (.bl b)
def opNotInX (x y : D) : Option RV := (memX x y).map fun b => .val (.bl (!b))
def opInK (x y : D) : Option RV := if isDic y then (memD x y).map fun b => .val (.bl b) else none
def opNotInK (x y : D) : Option RV := if isDic y then (memD x y).map fun b => .val (.bl (!b)) else none
def opInS (x y : D) : Option RV := if isDic y then none else (memD x y).map fun b => .val (.bl b)
def opNotInS (x y : D) : Option RV := if isDic y then none else (memD x y).map fun b => .val (.bl (!b))

def dGet : List Key → List D → Key → Option D
  | k' :: ks, x :: xs, k => if k' = k then some x else dGet ks xs k
  | _, _, _ => none
theorem dGet_rep {K : PySem.W.Frag} {F : Hp} {k : Key} : ∀ {ks : List Key} {xs : List D} {vs : List V}, Reps K F xs vs → ks.length = xs.length →
    (∀ d, dGet ks xs k = some d → ∃ v, valV (ks.zip vs) k = some v ∧ Rep K F d v) ∧ (dGet ks xs k = none → valV (ks.zip vs) k = none) ∧ (valV (ks.zip vs) k).isSome = hasKey ks k
  | [], [], vs, r, l => by cases r; exact ⟨fun d e => by simp [dGet] at e, fun _ => rfl, by simp [valV_nil, hasKey]⟩
  | [], _ :: _, _, _, l => by simp at l
  | _ :: _, [], _, _, l => by simp at l
  | k' :: ks, x :: xs, _, r, l => by
    obtain ⟨v, t, rfl, a, b⟩ := r
    obtain ⟨i1, i2, i3⟩ := dGet_rep (k := k) b (by simpa using l)
    by_cases e : k' = k
    · subst e
      refine ⟨fun d h => ?_, fun h => ?_, ?_⟩
      · simp [dGet] at h
        subst h
        exact ⟨v, valV_pos rfl, a⟩
      · simp [dGet] at h
      · rw [List.zip_cons_cons, valV_pos rfl]
        simp [hasKey]
    · refine ⟨fun d h => ?_, fun h => ?_, ?_⟩
      · rw [List.zip_cons_cons, valV_neg e]
        exact i1 d (by simpa [dGet, e] using h)
      · rw [List.zip_cons_cons, valV_neg e]
        exact i2 (by simpa [dGet, e] using h)
      · rw [List.zip_cons_cons, valV_neg e, i3]
        simp [hasKey, e]
theorem key_rep {K : PySem.W.Frag} {F : Hp} {d : D} {v : V} {k : Key} (r : Rep K F d v) (e : keyOf d = some k) : v = kV k := by
  cases d with
  | int i => cases e; exact r
  | str x => cases e; exact r
  | _ => cases e
theorem view_flat {K : PySem.W.Frag} {F H : Hp} {d : D} {v : V} {k : Key} (r : View K F H d v) (e : keyOf d = some k) : v = kV k := by
  cases d with
  | int i => cases e; exact r
  | str x => cases e; exact r
  | _ => cases e
def rDIn (neg : Bool) : R2 := fun y x H Q => ∃ a o, x = .ref a ∧ DGet H a y o ∧ Q (.bl (if neg then !o.isSome else o.isSome)) H
section
variable {K : PySem.W.Frag}
theorem memDic {F H : Hp} {d e : D} {x y : V} {b : Bool} (s : Sub F H) (a : View K F H d x) (c : View K F H e y) (hd : isDic e = true) (h : memD d e = some b) : ∃ p o, y = .ref p ∧ DGet H p x o ∧ o.isSome = b := by
  cases e with
  | dic ks xs =>
    have h' : (match keyOf d with | some k => some (hasKey ks k) | none => none) = some b := h
    cases ek : keyOf d with
    | none => rw [ek] at h'; cases h'
    | some k =>
      rw [ek] at h'
      cases h'
      obtain ⟨p, vs, rfl, q, l, nd, r⟩ := c
      have ex := view_flat a ek
      subst ex
      exact ⟨p, _, rfl, .inl ⟨_, k, q, rfl, rfl⟩, (dGet_rep r l).2.2⟩
  | _ => cases hd
theorem o_inK : Op2 K (rDIn false) opInK := by
  intro F H d e x y z Q s a b h q
  unfold opInK at h
  split at h
  · rename_i hd
    obtain ⟨c, hm, rfl⟩ := Option.map_eq_some_iff.mp h
    obtain ⟨p, o, rfl, g, rfl⟩ := memDic s a b hd hm
    exact ⟨p, o, rfl, g, q _ H F (Ext.refl s) rfl⟩
  · cases h
theorem o_notInK : Op2 K (rDIn true) opNotInK := by
  intro F H d e x y z Q s a b h q
  unfold opNotInK at h
  split at h
  · rename_i hd
    obtain ⟨c, hm, rfl⟩ := Option.map_eq_some_iff.mp h
    obtain ⟨p, o, rfl, g, rfl⟩ := memDic s a b hd hm
    exact ⟨p, o, rfl, g, q _ H F (Ext.refl s) rfl⟩
  · cases h
abbrev rInA (K : PySem.W.Frag) : R2 := fun x y H Q => (∃ (c : Nat) (z : Str), x = .str ⟨#[c]⟩ ∧ y = .str z ∧ Q (.bl (decide (c ∈ z.cps.toList))) H) ∨ (∃ i j, x = .str i ∧ y = .str j ∧ Q (.bl (!(Builtin.Str.occurrences j i 0 j.length 1).isEmpty)) H) ∨ rInD K x y H Q ∨ rInDT K x y H Q
abbrev rNotInA (K : PySem.W.Frag) : R2 := fun x y H Q => (∃ (c : Nat) (z : Str), x = .str ⟨#[c]⟩ ∧ y = .str z ∧ Q (.bl (!decide (c ∈ z.cps.toList))) H) ∨ (∃ i j, x = .str i ∧ y = .str j ∧ Q (.bl (!(!(Builtin.Str.occurrences j i 0 j.length 1).isEmpty))) H) ∨ rNotInD K x y H Q ∨ rNotInDT K x y H Q
theorem one_sign {x : Str} {c : Nat} (h : x.cps.toList = [c]) : x = ⟨#[c]⟩ := by
  obtain ⟨cps⟩ := x
  have : cps = #[c] := Array.toList_inj.mp h
  rw [this]
theorem among_some {d : D} {xs : List D} {mk : List PyData → PyData} {b : Bool} (h : among d xs mk = some b) : ∃ p ps, py d = some p ∧ pys xs = some ps ∧ SeqAt.shaped p = true ∧ SeqAt.shaped (mk ps) = true ∧ b = ps.any fun z => PyData.eqv z p := by
  unfold among at h
  split at h
  · split at h
    · rename_i hs
      cases h
      exact ⟨_, _, by assumption, by assumption, hs.1, hs.2, rfl⟩
    · cases h
  · cases h
theorem memSeq {F H : Hp} {d e : D} {x y : V} {b : Bool} {Q : VK} (s : Sub F H) (a : View K F H d x) (c : View K F H e y) (hd : isDic e = false) (h : memD d e = some b) : (Q (.bl b) H → rInA K x y H Q) ∧ (Q (.bl (!b)) H → rNotInA K x y H Q) := by
  cases e with
  | str z =>
    cases c
    cases d with
    | str w =>
      cases a
      have h' : some (inStr w z) = some b := h
      cases h'
      unfold inStr
      split
      · rename_i c hc
        have := one_sign hc
        subst this
        exact ⟨fun q => .inl ⟨c, z, rfl, rfl, q⟩, fun q => .inl ⟨c, z, rfl, rfl, q⟩⟩
      · exact ⟨fun q => .inr (.inl ⟨w, z, rfl, rfl, q⟩), fun q => .inr (.inl ⟨w, z, rfl, rfl, q⟩)⟩
    | _ => cases h
  | lst ys =>
    obtain ⟨p, ps, e1, e2, h1, h2, rfl⟩ := among_some (show among d ys .list = some b from h)
    have hy : Dp K H y (.list ps) := c.dp s (show (pys ys).map PyData.list = _ by rw [e2]; rfl)
    exact ⟨fun q => .inr (.inr (.inl ⟨p, ps, a.dp s e1, hy, h1, h2, q⟩)), fun q => .inr (.inr (.inl ⟨p, ps, a.dp s e1, hy, h1, h2, q⟩))⟩
  | scr ys =>
    obtain ⟨p, ps, e1, e2, h1, h2, rfl⟩ := among_some (show among d ys .list = some b from h)
    have hy : Dp K H y (.list ps) := c.dp s (show (pys ys).map PyData.list = _ by rw [e2]; rfl)
    exact ⟨fun q => .inr (.inr (.inl ⟨p, ps, a.dp s e1, hy, h1, h2, q⟩)), fun q => .inr (.inr (.inl ⟨p, ps, a.dp s e1, hy, h1, h2, q⟩))⟩
  | tup ys =>
    obtain ⟨p, ps, e1, e2, h1, h2, rfl⟩ := among_some (show among d ys .tuple = some b from h)
    have hy : Dp K H y (.tuple ps) := c.dp s (show (pys ys).map PyData.tuple = _ by rw [e2]; rfl)
    exact ⟨fun q => .inr (.inr (.inr ⟨p, ps, a.dp s e1, hy, h1, h2, q⟩)), fun q => .inr (.inr (.inr ⟨p, ps, a.dp s e1, hy, h1, h2, q⟩))⟩
  | dic ks xs => cases hd
  | _ => cases h
theorem o_inS : Op2 K (rInA K) opInS := by
  intro F H d e x y z Q s a b h q
  unfold opInS at h
  split at h
  · cases h
  · rename_i hd
    obtain ⟨c, hm, rfl⟩ := Option.map_eq_some_iff.mp h
    exact (memSeq s a b (by simpa using hd) hm).1 (q _ H F (Ext.refl s) rfl)
theorem o_notInS : Op2 K (rNotInA K) opNotInS := by
  intro F H d e x y z Q s a b h q
  unfold opNotInS at h
  split at h
  · cases h
  · rename_i hd
    obtain ⟨c, hm, rfl⟩ := Option.map_eq_some_iff.mp h
    exact (memSeq s a b (by simpa using hd) hm).2 (q _ H F (Ext.refl s) rfl)
theorem memX_some {F H : Hp} {d e : D} {x y : V} {b : Bool} (s : Sub F H) (a : View K F H d x) (c : View K F H e y) (h : memX d e = some b) : ∃ p es k, y = .ref p ∧ XAt H p es ∧ KeysAt K H es ∧ KeyAt K H x k ∧ (xGet es k).isSome = b := by
  cases e with
  | dct ks xs =>
    obtain ⟨k, hk, rfl⟩ := Option.map_eq_some_iff.mp (show (kOf d).map (fun k => dctHas ks k) = some b from h)
    obtain ⟨p, es, rfl, q, hm, rk, r⟩ := c
    exact ⟨p, es, k, rfl, .inl q, keysAt_of s hm rk, View.keyAt s a hk, (dctGet_rep hm r).2.2⟩
  | dic ks xs =>
    have h' : (if ks.isEmpty then (kOf d).map fun _ => false else none) = some b := h
    split at h'
    · rename_i he
      obtain ⟨k, hk, rfl⟩ := Option.map_eq_some_iff.mp h'
      have : ks = [] := List.isEmpty_iff.mp he
      subst this
      obtain ⟨p, vs, rfl, q, l, nd, r⟩ := c
      exact ⟨p, [], k, rfl, .inr ⟨rfl, q⟩, (fun e h => nomatch h), View.keyAt s a hk, rfl⟩
    · cases h'
  | _ => cases h
theorem o_inX : Op2 K (rXIn K false) opInX := by
  intro F H d e x y z Q s a b h q
  obtain ⟨c, hm, rfl⟩ := Option.map_eq_some_iff.mp h
  obtain ⟨p, es, k, rfl, h1, h2, h3, rfl⟩ := memX_some s a b hm
  exact ⟨p, es, k, rfl, h1, h2, h3, q _ H F (Ext.refl s) rfl⟩
theorem o_notInX : Op2 K (rXIn K true) opNotInX := by
  intro F H d e x y z Q s a b h q
  obtain ⟨c, hm, rfl⟩ := Option.map_eq_some_iff.mp h
  obtain ⟨p, es, k, rfl, h1, h2, h3, rfl⟩ := memX_some s a b hm
  exact ⟨p, es, k, rfl, h1, h2, h3, q _ H F (Ext.refl s) rfl⟩
theorem bf_map {g : D → D → Option Bool} {n : Bool → Bool} : BoolF fun x y => (g x y).map fun b => .val (.bl (n b)) := fun x y z h => by
  obtain ⟨c, _, rfl⟩ := Option.map_eq_some_iff.mp h
  exact ⟨_, rfl⟩
theorem bf_in : BoolF opIn := bf_map (n := id)
theorem bf_notIn : BoolF opNotIn := bf_map (n := not)
end
section
variable {X : Cx} {W : WX} {a b : Expr} {g ga gb gc : Ev} {gs : Av} {pos p : Pos} {k : Nat}
theorem op_inAll (hr : RoomG k X.A) : OpR X (compareOp .In) (rInA X.K) := op_in_sign.or (op_in_str.or ((op_inD (u65 hr)).or (op_inDT (u65 hr))))
theorem op_notInAll (hr : RoomG k X.A) : OpR X (compareOp .NotIn) (rNotInA X.K) := op_notIn_sign.or (op_notIn_str.or ((op_notInD (u65 hr)).or (op_notInDT (u65 hr))))
theorem cd_inO (hr : RoomG k X.A) (ha : PE X a (tE X.K W ga)) (hb : PE X b (tE X.K W gb)) : PC X .In a b (tE X.K W (dOp2 opInO ga gb)) := by
  refine cd_or (f1 := opInS) (f2 := opInK) (cd_op (op_inAll hr) o_inS ha hb) ?_ fun x y => ?_
  · exact (pc_din (u1 hr) ha hb).weak fun σ H Q h => by
      have := ec_op2 o_inK h
      exact this
  · unfold opInO opInS opInK
    cases isDic y
    · exact .inl rfl
    · exact .inr rfl
theorem cd_notInO (hr : RoomG k X.A) (ha : PE X a (tE X.K W ga)) (hb : PE X b (tE X.K W gb)) : PC X .NotIn a b (tE X.K W (dOp2 opNotInO ga gb)) := by
  refine cd_or (f1 := opNotInS) (f2 := opNotInK) (cd_op (op_notInAll hr) o_notInS ha hb) ?_ fun x y => ?_
  · exact (pc_dnotin (u1 hr) ha hb).weak fun σ H Q h => by
      have := ec_op2 o_notInK h
      exact this
  · unfold opNotInO opNotInS opNotInK
    cases isDic y
    · exact .inl rfl
    · exact .inr rfl
theorem cd_in (hr : RoomG k X.A) (ha : PE X a (tE X.K W ga)) (hb : PE X b (tE X.K W gb)) (hw : X.w = HasW.w := by rfl) : PC X .In a b (tE X.K W (dOp2 opIn ga gb)) := by
  refine cd_or (f1 := opInX) (f2 := opInO) (cd_op (op_xIn hw (u65 hr)) o_inX ha hb) (cd_inO hr ha hb) fun x y => ?_
  unfold opIn opInX opInO
  cases memX x y
  · exact .inr rfl
  · exact .inl rfl
theorem cd_notIn (hr : RoomG k X.A) (ha : PE X a (tE X.K W ga)) (hb : PE X b (tE X.K W gb)) (hw : X.w = HasW.w := by rfl) : PC X .NotIn a b (tE X.K W (dOp2 opNotIn ga gb)) := by
  refine cd_or (f1 := opNotInX) (f2 := opNotInO) (cd_op (op_xNotIn hw (u65 hr)) o_notInX ha hb) (cd_notInO hr ha hb) fun x y => ?_
  unfold opNotIn opNotInX opNotInO
  cases memX x y
  · exact .inr rfl
  · exact .inl rfl
end
end DL

/-! subscripts, slices, built-in calls. -/
namespace DL
open PySem PySem.Spec L2
variable [HasW]
theorem dOp2_or {f f1 f2 : D → D → Option RV} {ga gb : Ev} (hf : ∀ x y, f x y = f1 x y ∨ f x y = f2 x y) (ρ : Env) : dOp2 f ga gb ρ = dOp2 f1 ga gb ρ ∨ dOp2 f ga gb ρ = dOp2 f2 ga gb ρ := by
  unfold dOp2
  cases (ga ρ).settle with
  | no => exact .inl rfl
  | ex x ρ1 => exact .inl rfl
  | ok r1 ρ1 =>
    show (gb ρ1).settle.bind _ = (gb ρ1).settle.bind _ ∨ (gb ρ1).settle.bind _ = (gb ρ1).settle.bind _
    cases (gb ρ1).settle with
    | no => exact .inl rfl
    | ex x ρ1 => exact .inl rfl
    | ok r2 ρ2 =>
      show (match peek r1 ρ2, peek r2 ρ2 with | some x, some y => ER.of (f x y) ρ2 | _, _ => ER.no) = (match peek r1 ρ2, peek r2 ρ2 with | some x, some y => ER.of (f1 x y) ρ2 | _, _ => ER.no) ∨ (match peek r1 ρ2, peek r2 ρ2 with | some x, some y => ER.of (f x y) ρ2 | _, _ => ER.no) = (match peek r1 ρ2, peek r2 ρ2 with | some x, some y => ER.of (f2 x y) ρ2 | _, _ => ER.no)
      cases peek r1 ρ2 with
      | none => exact .inl rfl
      | some x =>
        cases peek r2 ρ2 with
        | none => exact .inl rfl
        | some y =>
          rcases hf x y with e | e
          · left; simp only [e]
          · right; simp only [e]
theorem ed_or2 {X : Cx} {W : WX} {e : Expr} {f f1 f2 : D → D → Option RV} {ga gb : Ev} (h1 : PE X e (tE X.K W (dOp2 f1 ga gb))) (h2 : PE X e (tE X.K W (dOp2 f2 ga gb))) (hf : ∀ x y, f x y = f1 x y ∨ f x y = f2 x y) : PE X e (tE X.K W (dOp2 f ga gb)) := by
  refine ⟨fun pins s σ H Q I ⟨α, ρ, F, G, ft, h⟩ => ?_⟩
  rcases dOp2_or hf ρ with e | e
  · exact h1.run pins s σ H Q I ⟨α, ρ, F, G, ft, e ▸ h⟩
  · exact h2.run pins s σ H Q I ⟨α, ρ, F, G, ft, e ▸ h⟩
/-! ### x[i] -/
def ixD (x y : D) : Option D := match x with
  | .lst xs => match y with
    | .int i => atI xs i
    | _ => none
  | .scr xs => match y with
    | .int i => atI xs i
    | _ => none
  | .tup xs => match y with
    | .int i => atI xs i
    | _ => none
  | .str z => match y with
    | .int i => if z.length ≤ sizeLine then (atI z.cps.toList i).map fun c => .str ⟨#[c]⟩ else none
    | _ => none
  | .dic ks xs => match keyOf y with
    | some k => dGet ks xs k
    | none => none
  | _ => none
/-- by a tuple, of a dict -/
def ixX (x y : D) : Option D := match x with
  | .dct ks xs => match kOf y with
    | some k => dctGet ks xs k
    | none => none
  | _ => none
def opIx (x y : D) : Option RV := (ixX x y <|> ixD x y).map .val
def opIxO (x y : D) : Option RV := (ixD x y).map .val
def opIxX (x y : D) : Option RV := (ixX x y).map .val
def opIxK (x y : D) : Option RV := if isDic x then (ixD x y).map .val else none
def opIxS (x y : D) : Option RV := if isDic x then none else (ixD x y).map .val
def rIxK : R2 := fun x y H Q => ∃ a v, x = .ref a ∧ DGet H a y (some v) ∧ Q v H
section
variable {K : PySem.W.Frag}
theorem Reps.atI {F : Hp} {ds : List D} {vs : List V} {i : Int} {d : D} (r : Reps K F ds vs) (e : L2.atI ds i = some d) : ∃ v, L2.atI vs i = some v ∧ Rep K F d v := by
  unfold L2.atI at e ⊢
  rw [r.length]
  cases h : ixN ds.length i with
  | none => rw [h] at e; cases e
  | some j =>
    rw [h] at e
    exact r.get e
theorem o_ixK : Op2 K rIxK opIxK := by
  intro F H d e x y z Q s a b h q
  unfold opIxK at h
  split at h
  · rename_i hd
    obtain ⟨c, hm, rfl⟩ := Option.map_eq_some_iff.mp h
    cases d with
    | dic ks xs =>
      have h' : (match keyOf e with | some k => dGet ks xs k | none => none) = some c := hm
      cases ek : keyOf e with
      | none => rw [ek] at h'; cases h'
      | some k =>
        rw [ek] at h'
        obtain ⟨p, vs, rfl, q1, l, nd, r⟩ := a
        have ex := view_flat b ek
        subst ex
        obtain ⟨v, hv, rv⟩ := (dGet_rep r l).1 c h'
        exact ⟨p, v, rfl, .inl ⟨_, k, q1, rfl, hv.symm⟩, q _ H F (Ext.refl s) rv⟩
    | _ => cases hd
  · cases h
theorem o_ixX : Op2 K (rXIx K) opIxX := by
  intro F H d e x y z Q s a b h q
  obtain ⟨c, hm, rfl⟩ := Option.map_eq_some_iff.mp h
  cases d with
  | dct ks xs =>
    have h' : (match kOf e with | some k => dctGet ks xs k | none => none) = some c := hm
    cases ek : kOf e with
    | none => rw [ek] at h'; cases h'
    | some k =>
      rw [ek] at h'
      obtain ⟨p, es, rfl, q1, hk, rk, r⟩ := a
      obtain ⟨v, hv, rv⟩ := (dctGet_rep hk r).1 c h'
      exact ⟨p, es, k, v, rfl, q1, keysAt_of s hk rk, View.keyAt s b ek, hv, q _ H F (Ext.refl s) rv⟩
  | _ => cases hm
theorem o_ixS : Op2 K (rIx K) opIxS := by
  intro F H d e x y z Q s a b h q
  unfold opIxS at h
  split at h
  · cases h
  · rename_i hd
    obtain ⟨c, hm, rfl⟩ := Option.map_eq_some_iff.mp h
    cases d with
    | lst xs =>
      cases e with
      | int i =>
        cases b
        obtain ⟨p, vs, rfl, q1, r⟩ := a
        obtain ⟨v, hv, rv⟩ := r.atI (show L2.atI xs i = some c from hm)
        exact .inl ⟨p, vs, i, v, rfl, rfl, SqL.of q1, hv, q _ H F (Ext.refl s) rv⟩
      | _ => cases hm
    | scr xs =>
      cases e with
      | int i =>
        cases b
        obtain ⟨p, vs, rfl, q1, r⟩ := a
        obtain ⟨v, hv, rv⟩ := r.atI (show L2.atI xs i = some c from hm)
        exact .inl ⟨p, vs, i, v, rfl, rfl, s.sqL q1, hv, q _ H F (Ext.refl s) rv⟩
      | _ => cases hm
    | tup xs =>
      cases e with
      | int i =>
        cases b
        obtain ⟨p, vs, rfl, q1, r⟩ := a
        obtain ⟨v, hv, rv⟩ := r.atI (show L2.atI xs i = some c from hm)
        exact .inr (.inl ⟨p, vs, i, v, rfl, rfl, s.sqT q1, hv, q _ H F (Ext.refl s) rv⟩)
      | _ => cases hm
    | str zz =>
      cases e with
      | int i =>
        cases a
        cases b
        have h' : (if zz.length ≤ sizeLine then (L2.atI zz.cps.toList i).map fun c => D.str ⟨#[c]⟩ else none) = some c := hm
        split at h'
        · rename_i hz
          obtain ⟨u, hu, rfl⟩ := Option.map_eq_some_iff.mp h'
          exact .inr (.inr ⟨zz, i, u, rfl, rfl, hz, hu, q _ H F (Ext.refl s) rfl⟩)
        · cases h'
      | _ => cases hm
    | dic ks xs => exact absurd rfl hd
    | _ => cases hm
end
section
variable {X : Cx} {W : WX} {a b : Expr} {g ga gb gc : Ev} {gs : Av} {pos p : Pos} {k : Nat}
theorem ed_ixO (hr : RoomG k X.A) (ha : PE X a (tE X.K W ga)) (hb : PE X b (tE X.K W gb)) (hs : PlainIx b) (hn : NoSl b) : PE X (.Subscript a b pos) (tE X.K W (dOp2 opIxO ga gb)) := by
  refine ed_or2 (f1 := opIxS) (f2 := opIxK) (ed_ix ix_seq o_ixS ha hb hs) ?_ fun x y => ?_
  · exact (pe_dget (u1 hr) ha hb hn).weak fun σ H Q h => by
      have := ec_op2 o_ixK h
      exact this
  · unfold opIxO opIxS opIxK
    cases isDic x
    · exact .inl rfl
    · exact .inr rfl
theorem ed_ixA (hr : RoomG k X.A) (ha : PE X a (tE X.K W ga)) (hb : PE X b (tE X.K W gb)) (hs : PlainIx b := by exact fun _ _ => rfl) (hn : NoSl b := by exact fun _ _ => rfl) (hw : X.w = HasW.w := by rfl) : PE X (.Subscript a b pos) (tE X.K W (dOp2 opIx ga gb)) := by
  refine ed_or2 (f1 := opIxX) (f2 := opIxO) ?_ (ed_ixO hr ha hb hs hn) fun x y => ?_
  · exact (pe_xget hw (u65 hr) ha hb hn).weak fun σ H Q h => by
      have := ec_op2 o_ixX h
      exact this
  · unfold opIx opIxX opIxO
    cases ixX x y
    · exact .inr rfl
    · exact .inl rfl
end
/-! ### x[a:b] -/
inductive PR where | ok (o : Option Int) (ρ : Env) | ex (x : Exn) (ρ : Env) | no
/-- a bound, or none -/
def dPart : Option Ev → Env → PR
  | none, ρ => .ok none ρ
  | some g, ρ => match (g ρ).settle with
    | .ok r ρ1 => match peek r ρ1 with
      | some (.int i) => .ok (some i) ρ1
      | _ => .no
    | .ex x ρ1 => .ex x ρ1
    | .no => .no
def PC0 (K : PySem.W.Frag) (W : WX) (α : Nat → Addr) (σ : L2.St) (F G : Hp) (Q : Option Int → Hp → Prop) : PR → Prop
  | .ok o ρ => ∀ H' F', Grow G F F' → Fits K α ρ σ H' F' G → Q o H'
  | .ex x ρ => ∀ cls d H' F', Grow G F F' → Fits K α ρ σ H' F' G → RepX K F' H' x cls d → W cls d σ H'
  | .no => False
def tP (K : PySem.W.Frag) (W : WX) (o : Option Ev) : TO := fun σ H Q => ∃ (α : Nat → Addr) (ρ : Env) (F G : Hp), Fits K α ρ σ H F G ∧ PC0 K W α σ F G Q (dPart o ρ)
theorem _root_.L2.PO.weak {X : Cx} {e : Option Expr} {t t' : TO} (h : PO X e t) (w : ∀ σ H Q, t' σ H Q → t σ H Q) : PO X e t' := ⟨fun pins s σ H Q I q => h.run pins s σ H Q I (w σ H Q q)⟩
section
variable {X : Cx} {W : WX} {e : Expr} {a b : Option Expr} {g ge : Ev} {ga gb : Option Ev} {pos p2 : Pos} {k : Nat}
theorem od_none : PO X none (tP X.K W none) := po_none.weak fun σ H Q ⟨α, ρ, F, G, f, h⟩ => h H F (Grow.refl _ _) f
theorem od_some (h : PE X e (tE X.K W g)) : PO X (some e) (tP X.K W (some g)) := by
  refine (po_some h).weak fun σ H Q ⟨α, ρ, F, G, f, h⟩ => ⟨α, ρ, F, G, f, EC.settle ?_⟩
  unfold dPart at h
  cases e1 : (g ρ).settle with
  | no => simp [e1, PC0] at h
  | ex x ρ1 => simp only [e1] at h; exact h
  | ok r ρ1 =>
    simp only [e1] at h
    have rs : r.settle = r := by
      cases q : g ρ with
      | no => rw [q] at e1; cases e1
      | ex x ρ => rw [q] at e1; cases e1
      | ok r0 ρ0 =>
        rw [q] at e1
        have e6 : r0.settle = r := by cases e1; rfl
        rw [← e6]
        cases r0 <;> rfl
    intro v H1 F1 g1 f1 r1
    have s1 : SRep X.K F1 σ r v := by
      rw [← rs] at r1 ⊢
      exact settle_srep r1
    cases e2 : peek r ρ1 with
    | none => simp [e2, PC0] at h
    | some d =>
      cases d with
      | int i =>
        simp only [e2] at h
        have hv : v = .int i := f1.peek s1 e2
        exact ⟨i, hv, h H1 F1 g1 f1⟩
      | _ => simp [e2, PC0] at h
/-- a[lo:hi] -/
def dSl (f : D → Option Int → Option Int → Option RV) (ge : Ev) (ga gb : Option Ev) : Ev := fun ρ => (ge ρ).settle.bind fun r ρ1 => match dPart ga ρ1 with
  | .ok lo ρ2 => match dPart gb ρ2 with
    | .ok hi ρ3 => match peek r ρ3 with
      | some d => ER.of (f d lo hi) ρ3
      | none => .no
    | .ex x ρ3 => .ex x ρ3
    | .no => .no
  | .ex x ρ2 => .ex x ρ2
  | .no => .no
def cutD (xs : List D) (lo hi : Option Int) : List D := (xs.drop (HT.sIx xs.length 0 lo)).take (HT.sIx xs.length xs.length hi - HT.sIx xs.length 0 lo)
def opSl : D → Option Int → Option Int → Option RV
  | .lst xs, lo, hi => some (.new (.lst (cutD xs lo hi)))
  | .scr xs, lo, hi => some (.new (.lst (cutD xs lo hi)))
  | .tup xs, lo, hi => some (.val (.tup (cutD xs lo hi)))
  | .str z, lo, hi => if z.length ≤ sizeLine then some (.val (.str (cutS z lo hi))) else none
  | _, _, _ => none
theorem Reps.cut {K : PySem.W.Frag} {F : Hp} {ds : List D} {vs : List V} (r : Reps K F ds vs) (lo hi : Option Int) : Reps K F (cutD ds lo hi) (cutV vs lo hi) := by
  unfold cutD cutV
  rw [r.length]
  exact (r.drop _).take _
abbrev rSlAll (K : PySem.W.Frag) : V → Option Int → Option Int → Hp → VK → Prop := fun x lo hi H Q => rSlL K x lo hi H Q ∨ rSlA K x lo hi H Q ∨ rSlS x lo hi H Q
theorem sl_sound {K : PySem.W.Frag} {F H : Hp} {d : D} {v : V} {lo hi : Option Int} {z : RV} {Q : VK} (s : Sub F H) (a : View K F H d v) (h : opSl d lo hi = some z) (q : ∀ w H' F', Ext H F H' F' → ORep K H F' H' z w → Q w H') : rSlAll K v lo hi H Q := by
  cases d with
  | lst xs =>
    cases h
    obtain ⟨p, vs, rfl, q1, r⟩ := a
    exact .inl ⟨p, vs, rfl, SqL.of q1, fun pp hp => q _ _ _ (Ext.allocO s hp) ⟨pp, rfl, hp, s.free hp, _, upd_same, r.cut lo hi⟩⟩
  | scr xs =>
    cases h
    obtain ⟨p, vs, rfl, q1, r⟩ := a
    exact .inl ⟨p, vs, rfl, s.sqL q1, fun pp hp => q _ _ _ (Ext.allocO s hp) ⟨pp, rfl, hp, s.free hp, _, upd_same, r.cut lo hi⟩⟩
  | tup xs =>
    cases h
    obtain ⟨p, vs, rfl, q1, r⟩ := a
    refine .inr (.inl ⟨p, vs, rfl, s.sqT q1, fun hw => ?_, fun _ pp hp => ?_⟩)
    · refine q _ H F (Ext.refl s) ⟨p, vs, rfl, q1, ?_⟩
      have : cutV vs lo hi = vs := by
        unfold cutV
        rw [hw.1, hw.2]
        simp
      rw [← this]
      exact r.cut lo hi
    · exact q _ _ _ (Ext.alloc s hp) ⟨pp, _, rfl, SqT.of upd_same, Reps.mono (Sub.upd_none (s.free hp)) _ _ (r.cut lo hi)⟩
  | str zz =>
    cases a
    have h' : (if zz.length ≤ sizeLine then some (RV.val (.str (cutS zz lo hi))) else none) = some z := h
    split at h'
    · rename_i hz
      cases h'
      exact .inr (.inr ⟨zz, rfl, hz, q _ H F (Ext.refl s) rfl⟩)
    · cases h'
  | _ => cases h
theorem ed_slice (he : PE X e (tE X.K W ge)) (ha : PO X a (tP X.K W ga)) (hb : PO X b (tP X.K W gb)) : PE X (.Subscript e (.Slice a b none p2) pos) (tE X.K W (dSl opSl ge ga gb)) := by
  refine (pe_slice (sl_list.or (sl_tupA.or sl_str)) he ha hb).weak fun σ H Q ⟨α, ρ, F, G, f, h⟩ => ⟨α, ρ, F, G, f, EC.bindS (fun r ρ1 v H1 F1 g1 f1 s1 h1 => ?_) h⟩
  refine ⟨α, ρ1, F1, G, f1, ?_⟩
  cases e1 : dPart ga ρ1 with
  | no => simp [e1, EC] at h1
  | ex x ρ2 => simp only [e1] at h1; exact h1
  | ok lo ρ2 =>
    simp only [e1] at h1
    intro H2 F2 g2 f2
    refine ⟨α, ρ2, F2, G, f2, ?_⟩
    have h2 := EC.mono g2 h1
    cases e2 : dPart gb ρ2 with
    | no => simp [e2, EC] at h2
    | ex x ρ3 => simp only [e2] at h2; exact h2
    | ok hi ρ3 =>
      simp only [e2] at h2
      intro H3 F3 g3 f3
      have h3 := EC.mono g3 h2
      cases e3 : peek r ρ3 with
      | none => simp [e3, EC] at h3
      | some d =>
        simp only [e3] at h3
        cases e4 : opSl d lo hi with
        | none => simp [e4, ER.of, EC] at h3
        | some z =>
          simp only [e4, ER.of] at h3
          exact sl_sound f3.fh (f3.peek (s1.mono (g2.trans g3).sub) e3) e4 (EC.op f3 h3)
end
end DL

/-! built-in calls. -/
namespace DL
open PySem PySem.Spec L2
variable [HasW]
/-! ### what they compute -/
def fLen : List D → Option RV
  | [.lst xs] => some (.val (.int xs.length))
  | [.scr xs] => some (.val (.int xs.length))
  | [.tup xs] => some (.val (.int xs.length))
  | [.dic ks _] => some (.val (.int ks.length))
  | [.str z] => if z.length ≤ sizeLine then some (.val (.int z.length)) else none
  | _ => none
def fAbs : List D → Option RV
  | [.int i] => some (.val (.int (if i < 0 then -i else i)))
  | _ => none
def fInt : List D → Option RV
  | [.int i] => some (.val (.int i))
  | [.bl b] => some (.val (.int (if b then 1 else 0)))
  | _ => none
def fMax2 : List D → Option RV
  | [.int i, .int j] => some (.val (.int (if j > i then j else i)))
  | _ => none
def fMin2 : List D → Option RV
  | [.int i, .int j] => some (.val (.int (if j < i then j else i)))
  | _ => none
/-- boolsD, intsD of data -/
def boolsD : List D → Option (List Bool)
  | [] => some []
  | .bl b :: r => (boolsD r).map (b :: ·)
  | _ => none
def intsD : List D → Option (List Int)
  | [] => some []
  | .int b :: r => (intsD r).map (b :: ·)
  | _ => none
theorem bools_eq : ∀ {ds : List D} {bs : List Bool}, boolsD ds = some bs → ds = bs.map .bl
  | [], bs, h => by cases h; rfl
  | d :: r, bs, h => by
    cases d with
    | bl b =>
      obtain ⟨cs, h1, rfl⟩ := Option.map_eq_some_iff.mp (show (boolsD r).map (b :: ·) = some bs from h)
      rw [bools_eq h1]
      rfl
    | _ => cases h
theorem ints_eq : ∀ {ds : List D} {bs : List Int}, intsD ds = some bs → ds = bs.map .int
  | [], bs, h => by cases h; rfl
  | d :: r, bs, h => by
    cases d with
    | int b =>
      obtain ⟨cs, h1, rfl⟩ := Option.map_eq_some_iff.mp (show (intsD r).map (b :: ·) = some bs from h)
      rw [ints_eq h1]
      rfl
    | _ => cases h
theorem ints_map : ∀ ns : List Int, intsD (ns.map .int) = some ns
  | [] => rfl
  | n :: r => by show (intsD (r.map .int)).map (n :: ·) = _; rw [ints_map r]; rfl
theorem bools_map : ∀ ns : List Bool, boolsD (ns.map .bl) = some ns
  | [] => rfl
  | n :: r => by show (boolsD (r.map .bl)).map (n :: ·) = _; rw [bools_map r]; rfl
/-- the items of a list -/
def listOf : List D → Option (List D)
  | [.lst xs] => some xs
  | [.scr xs] => some xs
  | _ => none
def seqsOf : List D → Option (List D)
  | [.lst xs] => some xs
  | [.scr xs] => some xs
  | [.tup xs] => some xs
  | _ => none
def fAll (ds : List D) : Option RV := ((listOf ds).bind boolsD).map fun bs => .val (.bl (bs.all id))
def fAny (ds : List D) : Option RV := ((listOf ds).bind boolsD).map fun bs => .val (.bl (bs.any id))
def fSum (ds : List D) : Option RV := ((listOf ds).bind intsD).map fun bs => .val (.int bs.sum)
def fTuple (ds : List D) : Option RV := (seqsOf ds).map fun xs => .val (.tup xs)
def fList (ds : List D) : Option RV := (seqsOf ds).map fun xs => .new (.lst xs)
def tyName : D → Option String
  | .non => some "NoneType"
  | .bl _ => some "bool"
  | .int _ => some "int"
  | .str _ => some "str"
  | .tup _ => some "tuple"
  | .lst _ => some "list"
  | .scr _ => some "list"
  | .dic _ _ => some "dict"
  | .dct _ _ => none
  | .raw _ => none
def fIsi : List D → Option RV
  | [d, .raw (.ty T)] => match tyName d with
    | some t => (kitB t T).map fun b => .val (.bl b)
    | none => none
  | _ => none
def fRepr : List D → Option RV
  | [d] => match py d with
    | some p => if p.showable = true ∧ p.depth ≤ 64 ∧ p.shown.length ≤ sizeLine then some (.val (.str p.shown)) else none
    | none => none
  | _ => none
/-! ### soundness -/
section
variable {K : PySem.W.Frag} {F H : Hp}
theorem listOf_view {ds : List D} {vs : List V} {xs : List D} (s : Sub F H) (v : Views K F H ds vs) (h : listOf ds = some xs) : ∃ a ws, vs = [.ref a] ∧ SqL K H a ws ∧ Reps K F xs ws := by
  unfold listOf at h
  split at h
  · cases h
    obtain ⟨u, t, rfl, ⟨a, ws, rfl, q, r⟩, rfl⟩ := v
    exact ⟨a, ws, rfl, SqL.of q, r⟩
  · cases h
    obtain ⟨u, t, rfl, ⟨a, ws, rfl, q, r⟩, rfl⟩ := v
    exact ⟨a, ws, rfl, s.sqL q, r⟩
  · cases h
theorem on_all : OpN K (rAll K) fAll := by
  intro F H ds vs z Q s v h q
  obtain ⟨bs, h1, rfl⟩ := Option.map_eq_some_iff.mp (show ((listOf ds).bind boolsD).map (fun bs => RV.val (.bl (bs.all id))) = some z from h)
  obtain ⟨xs, h2, h3⟩ := Option.bind_eq_some_iff.mp h1
  obtain ⟨a, ws, rfl, q1, r⟩ := listOf_view s v h2
  have := bools_eq h3
  subst this
  rw [r.bools] at q1
  exact ⟨a, bs, rfl, q1, q _ H F (Ext.refl s) rfl⟩
theorem on_any : OpN K (rAny K) fAny := by
  intro F H ds vs z Q s v h q
  obtain ⟨bs, h1, rfl⟩ := Option.map_eq_some_iff.mp (show ((listOf ds).bind boolsD).map (fun bs => RV.val (.bl (bs.any id))) = some z from h)
  obtain ⟨xs, h2, h3⟩ := Option.bind_eq_some_iff.mp h1
  obtain ⟨a, ws, rfl, q1, r⟩ := listOf_view s v h2
  have := bools_eq h3
  subst this
  rw [r.bools] at q1
  exact ⟨a, bs, rfl, q1, q _ H F (Ext.refl s) rfl⟩
theorem on_sum : OpN K (rSum K) fSum := by
  intro F H ds vs z Q s v h q
  obtain ⟨bs, h1, rfl⟩ := Option.map_eq_some_iff.mp (show ((listOf ds).bind intsD).map (fun bs => RV.val (.int bs.sum)) = some z from h)
  obtain ⟨xs, h2, h3⟩ := Option.bind_eq_some_iff.mp h1
  obtain ⟨a, ws, rfl, q1, r⟩ := listOf_view s v h2
  have := ints_eq h3
  subst this
  rw [r.ints] at q1
  exact ⟨a, bs, rfl, q1, q _ H F (Ext.refl s) rfl⟩
theorem on_tuple : OpN K (fun xs H Q => ∃ p ys, xs = [.ref p] ∧ ((SqL K H p ys ∧ ∀ l, H l = none → Q (.ref l) (upd H l (.tup ys))) ∨ (SqT K H p ys ∧ Q (.ref p) H))) fTuple := by
  intro F H ds vs z Q s v h q
  obtain ⟨xs, h1, rfl⟩ := Option.map_eq_some_iff.mp (show (seqsOf ds).map (fun xs => RV.val (.tup xs)) = some z from h)
  unfold seqsOf at h1
  split at h1
  · cases h1
    obtain ⟨u, t, rfl, ⟨a, ws, rfl, q1, r⟩, rfl⟩ := v
    exact ⟨a, ws, rfl, .inl ⟨SqL.of q1, fun l hl => q _ _ _ (Ext.alloc s hl) ⟨l, _, rfl, SqT.of upd_same, Reps.mono (Sub.upd_none (s.free hl)) _ _ r⟩⟩⟩
  · cases h1
    obtain ⟨u, t, rfl, ⟨a, ws, rfl, q1, r⟩, rfl⟩ := v
    exact ⟨a, ws, rfl, .inl ⟨s.sqL q1, fun l hl => q _ _ _ (Ext.alloc s hl) ⟨l, _, rfl, SqT.of upd_same, Reps.mono (Sub.upd_none (s.free hl)) _ _ r⟩⟩⟩
  · cases h1
    obtain ⟨u, t, rfl, ⟨a, ws, rfl, q1, r⟩, rfl⟩ := v
    exact ⟨a, ws, rfl, .inr ⟨s.sqT q1, q _ H F (Ext.refl s) ⟨a, ws, rfl, q1, r⟩⟩⟩
  · cases h1
theorem on_list : OpN K (fun xs H Q => ∃ p ys, xs = [.ref p] ∧ (SqL K H p ys ∨ SqT K H p ys) ∧ ∀ l, H l = none → Q (.ref l) (upd H l (.lst ys))) fList := by
  intro F H ds vs z Q s v h q
  obtain ⟨xs, h1, rfl⟩ := Option.map_eq_some_iff.mp (show (seqsOf ds).map (fun xs => RV.new (.lst xs)) = some z from h)
  unfold seqsOf at h1
  split at h1
  · cases h1
    obtain ⟨u, t, rfl, ⟨a, ws, rfl, q1, r⟩, rfl⟩ := v
    exact ⟨a, ws, rfl, .inl (SqL.of q1), fun l hl => q _ _ _ (Ext.allocO s hl) ⟨l, rfl, hl, s.free hl, _, upd_same, r⟩⟩
  · cases h1
    obtain ⟨u, t, rfl, ⟨a, ws, rfl, q1, r⟩, rfl⟩ := v
    exact ⟨a, ws, rfl, .inl (s.sqL q1), fun l hl => q _ _ _ (Ext.allocO s hl) ⟨l, rfl, hl, s.free hl, _, upd_same, r⟩⟩
  · cases h1
    obtain ⟨u, t, rfl, ⟨a, ws, rfl, q1, r⟩, rfl⟩ := v
    exact ⟨a, ws, rfl, .inr (s.sqT q1), fun l hl => q _ _ _ (Ext.allocO s hl) ⟨l, rfl, hl, s.free hl, _, upd_same, r⟩⟩
  · cases h1
abbrev rLen (K : PySem.W.Frag) : List V → Hp → VK → Prop := fun xs H Q => (∃ p ys, xs = [.ref p] ∧ (SqL K H p ys ∨ SqT K H p ys) ∧ Q (.int ys.length) H) ∨ (∃ z, xs = [.str z] ∧ z.length ≤ sizeLine ∧ Q (.int z.length) H) ∨ (∃ a kvs, xs = [V.ref a] ∧ Rd H a (.dK kvs) ∧ Q (.int kvs.length) H)
theorem call_lenR {X : Cx} : CallR X (.builtin "len") (fun xs H Q => ∃ a kvs, xs = [V.ref a] ∧ Rd H a (.dK kvs) ∧ Q (.int kvs.length) H) := by
  intro pins s σ H xs us Q I r h
  obtain ⟨a, kvs, rfl, ha, q⟩ := h
  obtain ⟨u, rfl, rx⟩ := vals1 r
  cases rx
  exact d_len I ha fun t s' I' => ⟨.int _, H, I', ⟨_, rfl⟩, q⟩
theorem call_lenA {X : Cx} : CallR X (.builtin "len") (rLen X.K) := call_len_seq.or (call_len_str.or call_lenR)
theorem on_len : OpN K (rLen K) fLen := by
  intro F H ds vs z Q s v h q
  unfold fLen at h
  split at h
  · cases h
    obtain ⟨u, t, rfl, ⟨a, ws, rfl, q1, r⟩, rfl⟩ := v
    exact .inl ⟨a, ws, rfl, .inl (SqL.of q1), q _ H F (Ext.refl s) (show V.int _ = V.int _ by rw [r.length])⟩
  · cases h
    obtain ⟨u, t, rfl, ⟨a, ws, rfl, q1, r⟩, rfl⟩ := v
    exact .inl ⟨a, ws, rfl, .inl (s.sqL q1), q _ H F (Ext.refl s) (show V.int _ = V.int _ by rw [r.length])⟩
  · cases h
    obtain ⟨u, t, rfl, ⟨a, ws, rfl, q1, r⟩, rfl⟩ := v
    exact .inl ⟨a, ws, rfl, .inr (s.sqT q1), q _ H F (Ext.refl s) (show V.int _ = V.int _ by rw [r.length])⟩
  · cases h
    obtain ⟨u, t, rfl, ⟨a, ws, rfl, q1, l, nd, r⟩, rfl⟩ := v
    refine .inr (.inr ⟨a, _, rfl, q1, q _ H F (Ext.refl s) (show V.int _ = V.int _ by rw [List.length_zip, r.length, l, Nat.min_self])⟩)
  · split at h
    · rename_i hz
      cases h
      obtain ⟨u, t, rfl, hu, rfl⟩ := v
      cases hu
      exact .inr (.inl ⟨_, rfl, hz, q _ H F (Ext.refl s) rfl⟩)
    · cases h
  · cases h
theorem on_abs : OpN K (fun xs H Q => ∃ i, xs = [.int i] ∧ Q (.int (if i < 0 then -i else i)) H) fAbs := by
  intro F H ds vs z Q s v h q
  unfold fAbs at h
  split at h
  · cases h
    obtain ⟨u, t, rfl, rfl, rfl⟩ := v
    exact ⟨_, rfl, q _ H F (Ext.refl s) rfl⟩
  · cases h
theorem on_int : OpN K (fun xs H Q => (∃ i, xs = [.int i] ∧ Q (.int i) H) ∨ ∃ k, xs = [.bl k] ∧ Q (.int (if k then 1 else 0)) H) fInt := by
  intro F H ds vs z Q s v h q
  unfold fInt at h
  split at h
  · cases h
    obtain ⟨u, t, rfl, rfl, rfl⟩ := v
    exact .inl ⟨_, rfl, q _ H F (Ext.refl s) rfl⟩
  · cases h
    obtain ⟨u, t, rfl, rfl, rfl⟩ := v
    exact .inr ⟨_, rfl, q _ H F (Ext.refl s) rfl⟩
  · cases h
theorem on_max2 : OpN K (fun xs H Q => ∃ i j, xs = [.int i, .int j] ∧ Q (.int (if j > i then j else i)) H) fMax2 := by
  intro F H ds vs z Q s v h q
  unfold fMax2 at h
  split at h
  · cases h
    obtain ⟨u, t, rfl, rfl, u2, t2, rfl, rfl, rfl⟩ := v
    exact ⟨_, _, rfl, q _ H F (Ext.refl s) rfl⟩
  · cases h
theorem on_min2 : OpN K (fun xs H Q => ∃ i j, xs = [.int i, .int j] ∧ Q (.int (if j < i then j else i)) H) fMin2 := by
  intro F H ds vs z Q s v h q
  unfold fMin2 at h
  split at h
  · cases h
    obtain ⟨u, t, rfl, rfl, u2, t2, rfl, rfl, rfl⟩ := v
    exact ⟨_, _, rfl, q _ H F (Ext.refl s) rfl⟩
  · cases h
theorem ty_view {d : D} {v : V} {t : String} (s : Sub F H) (a : View K F H d v) (h : tyName d = some t) : TyX K H v (.type t) := by
  cases d with
  | dct _ _ => cases h
  | non => cases h; cases a; exact .base .non
  | bl b => cases h; cases a; exact .base (.bl b)
  | int b => cases h; cases a; exact .base (.int b)
  | str b => cases h; cases a; exact .base (.str b)
  | lst xs =>
    cases h
    obtain ⟨p, vs, rfl, q, r⟩ := a
    exact .base (.lst q)
  | scr xs =>
    cases h
    obtain ⟨p, vs, rfl, q, r⟩ := a
    rcases s.sqL q with (q | ⟨o, q⟩) | ⟨o, its, n, e, c, _⟩
    · exact .base (.lst q)
    · exact .base (.frz q)
    · exact .kList e c
  | tup xs =>
    cases h
    obtain ⟨p, vs, rfl, q, r⟩ := a
    rcases s.sqT q with (q | ⟨o, q⟩) | ⟨o, its, n, e, c, _⟩
    · exact .base (.tup q)
    · exact .fTuple q
    · exact .kTuple e c
  | dic ks xs =>
    cases h
    obtain ⟨p, vs, rfl, q, _⟩ := a
    rcases q with q | ⟨o, q⟩
    · exact .base (.dK q)
    · exact .fDict q
  | raw x => cases h
theorem on_isi : OpN K (rIsi K) fIsi := by
  intro F H ds vs z Q s v h q
  unfold fIsi at h
  split at h
  · split at h
    · rename_i t ht
      obtain ⟨b, hb, rfl⟩ := Option.map_eq_some_iff.mp h
      obtain ⟨u, tt, rfl, hu, u2, t2, rfl, rfl, rfl⟩ := v
      exact ⟨_, _, _, _, b, rfl, .ty _, ty_view s hu ht, kit_ty hb, q _ H F (Ext.refl s) rfl⟩
    · cases h
  · cases h
/-! ### repr -/
def rRepr (K : PySem.W.Frag) : List V → Hp → VK → Prop := fun xs H Q => ∃ x d, xs = [x] ∧ Dp K H x d ∧ d.showable = true ∧ d.depth ≤ 64 ∧ d.shown.length ≤ sizeLine ∧ Q (.str d.shown) H
theorem on_repr : OpN K (rRepr K) fRepr := by
  intro F H ds vs z Q s v h q
  unfold fRepr at h
  split at h
  · split at h
    · rename_i p hp
      split at h
      · rename_i hs
        cases h
        obtain ⟨u, t, rfl, hu, rfl⟩ := v
        exact ⟨u, p, rfl, hu.dp s hp, hs.1, hs.2.1, hs.2.2, q _ H F (Ext.refl s) rfl⟩
      · cases h
    · cases h
  · cases h
mutual
theorem dp_noDict : ∀ {d : PyData} {v : V}, Dp K H v d → d.hasDict = false
  | .none, _, h => by simp only [PyData.hasDict]
  | .bool b, _, h => by simp only [PyData.hasDict]
  | .int i, _, h => by simp only [PyData.hasDict]
  | .str x, _, h => by simp only [PyData.hasDict]
  | .list ds, _, h => by
    cases h with
    | lst _ ha => simp only [PyData.hasDict]; exact dpAll_noDict ha
  | .tuple ds, _, h => by
    cases h with
    | tup _ ha => simp only [PyData.hasDict]; exact dpAll_noDict ha
  | .dict _, _, h => by cases h
theorem dpAll_noDict : ∀ {ds : List PyData} {vs : List V}, DpAll K H vs ds → PyData.hasDictAll ds = false
  | [], _, h => by simp only [PyData.hasDictAll]
  | d :: ds, _, h => by
    cases h with
    | cons h1 h2 => simp only [PyData.hasDictAll, Bool.or_eq_false_iff]; exact ⟨dp_noDict h1, dpAll_noDict h2⟩
end
end
section
variable {X : Cx} {W : WX} {k : Nat} {gs : Av} {e f : Expr} {es : List Expr} {pos p : Pos}
theorem call_repr (hr : RoomG k X.A) : CallR X (.builtin "repr") (rRepr X.K) := by
  intro pins s σ H xs us Q I r h
  obtain ⟨x, d, rfl, hd, h1, h2, h3, q⟩ := h
  obtain ⟨u, rfl, rx⟩ := vals1 r
  have un := hr.room.un
  obtain ⟨as, rd⟩ := Dp.reads I d x u hd rx
  cases hd with
  | non =>
    cases rx
    exact call_repr_gives (typeIs_none s) F.slot_NoneType_repr F.entry_NoneType_repr (F.args_NoneType_repr_1 _) gives_none_repr ⟨.str _, H, I.tok _, ⟨_, rfl⟩, q⟩
  | bl b =>
    cases rx
    exact call_repr_gives (typeIs_bool s b) F.slot_bool_repr F.entry_bool_repr (F.args_bool_repr_1 _) (gives_bool_repr b) ⟨.str _, H, I.tok _, ⟨_, rfl⟩, by simpa [PyData.shown] using q⟩ (hx := by cases b <;> decide)
  | int i =>
    obtain ⟨t, rfl⟩ := rx
    have hz : i.natAbs.log2 < 1920 := by simpa [PyData.showable] using h1
    exact PySem.P.repr_of_int hz ⟨.str _, H, I.tok _, ⟨_, rfl⟩, by simpa [PyData.shown] using q⟩
  | str y =>
    obtain ⟨t, rfl⟩ := rx
    exact call_repr_gives (typeIs_str s y t) F.slot_str_repr F.entry_str_repr (F.args_str_repr_1 _) (gives_str_repr y t) ⟨.str _, H, I.tok _, ⟨_, rfl⟩, by simpa [PyData.shown] using q⟩ (hx := by simpa [PyData.shown] using h3)
  | lst hs ha =>
    cases rx
    exact repr_of_reads' rd h1 (fun z => by rw [dp_noDict (.lst hs ha)] at z; cases z) hr.quiet (by omega) (fun _ _ z => z) (fun h' u tk kp => ⟨.str _, H, I.kept kp, ⟨_, rfl⟩, q⟩) h3
  | tup hs ha =>
    cases rx
    exact repr_of_reads' rd h1 (fun z => by rw [dp_noDict (.tup hs ha)] at z; cases z) hr.quiet (by omega) (fun _ _ z => z) (fun h' u tk kp => ⟨.str _, H, I.kept kp, ⟨_, rfl⟩, q⟩) h3
end
end DL

/-! what changes a list or a dict; raise, try. -/
namespace DL
open PySem PySem.Spec L2
variable [HasW]

/-! ### what is owned is written -/
section
variable {K : PySem.W.Frag} {α : Nat → Addr} {ρ : Env} {σ : L2.St} {H F G : Hp}
/-- the owner's thing is another -/
theorem Fits.write (f : Fits K α ρ σ H F G) {i : Nat} {d d' : D} {a : Addr} {o : HO} (h : ρ[i]? = some (.own d) ∨ ρ[i]? = some (.bor d)) (hs : σ[i]? = some (some (.ref a))) (c : Cell K F (upd H a o) a d') :
    Fits K α (setO ρ i d') σ (upd H a o) F G := by
  obtain ⟨fa, ga, _⟩ := f.owner h hs
  have frame : ∀ {b : Addr}, b ≠ a → ∀ u, H b = some u → upd H a o b = some u := fun n u e => by rw [upd_ne n]; exact e
  refine ⟨fun b u e => ?_, fun b u e => ?_, by rw [setO_length]; exact f.len, fun j s q => ?_, fun j k s t b q1 q2 o1 o2 h1 h2 => ?_⟩
  · rw [upd_ne (fun z => by rw [z, fa] at e; cases e)]
    exact f.fh _ _ e
  · rw [upd_ne (fun z => by rw [z, ga] at e; cases e)]
    exact f.gh _ _ e
  · have keep : ∀ {s : Slot}, ρ[j]? = some s → j ≠ i → ∃ x, σ[j]? = some x ∧ SlotOk K F G (upd H a o) x (α j) s := fun {s} q n => by
      obtain ⟨x, hx, so⟩ := f.slot j s q
      refine ⟨x, hx, ?_⟩
      have apart : ∀ {b : Addr}, s.owns = true → x = some (.ref b) → b ≠ a := fun {b} os e z => by
        rcases h with h | h
        · exact n (f.sep j i s _ a q h os rfl (by rw [hx, e, z]) hs)
        · exact n (f.sep j i s _ a q h os rfl (by rw [hx, e, z]) hs)
      cases s with
      | non => trivial
      | val d0 => exact so
      | own d0 =>
        obtain ⟨b, e, fb, gb, cb⟩ := so
        exact ⟨b, e, fb, gb, cb.mono (Sub.refl F) (frame (apart rfl e))⟩
      | bor d0 =>
        obtain ⟨e, fb, gb, cb⟩ := so
        exact ⟨e, fb, gb, cb.mono (Sub.refl F) (frame (apart rfl e))⟩
    rcases setO_get q with ⟨n, q0⟩ | ⟨rfl, z⟩
    · exact keep q0 n
    · rcases z with ⟨d0, e, rfl⟩ | ⟨d0, e, rfl⟩ | ⟨e, z⟩
      · exact ⟨_, hs, a, rfl, fa, ga, c⟩
      · obtain ⟨x, hx, e', _⟩ := f.slot j _ e
        rw [hx] at hs
        cases hs
        cases e'
        exact ⟨_, hx, rfl, fa, ga, c⟩
      · rcases h with h | h
        · rw [h] at e; cases e; cases z
        · rw [h] at e; cases e; cases z
  · have old : ∀ {k : Nat} {s : Slot}, (setO ρ i d')[k]? = some s → s.owns = true → ∃ s', ρ[k]? = some s' ∧ s'.owns = true := fun {k s} q o => by
      rcases setO_get q with ⟨_, q0⟩ | ⟨rfl, ⟨d0, e, _⟩ | ⟨d0, e, _⟩ | ⟨e, _⟩⟩
      · exact ⟨s, q0, o⟩
      · exact ⟨_, e, rfl⟩
      · exact ⟨_, e, rfl⟩
      · exact ⟨s, e, o⟩
    obtain ⟨s1, e1, w1⟩ := old q1 o1
    obtain ⟨s2, e2, w2⟩ := old q2 o2
    exact f.sep j k s1 s2 b e1 e2 w1 w2 h1 h2
end
/-- what an owner owns -/
def ownAt (ρ : Env) (i : Nat) : Option D := match ρ[i]? with
  | some (.own d) => some d
  | some (.bor d) => some d
  | _ => none
theorem ownAt_some {ρ : Env} {i : Nat} {d : D} (h : ownAt ρ i = some d) : ρ[i]? = some (.own d) ∨ ρ[i]? = some (.bor d) := by
  unfold ownAt at h
  split at h
  · cases h; exact .inl (by assumption)
  · cases h; exact .inr (by assumption)
  · cases h
theorem ownAt_ref {K : PySem.W.Frag} {α : Nat → Addr} {ρ : Env} {σ : L2.St} {H F G : Hp} (f : Fits K α ρ σ H F G) {i : Nat} {d : D} (h : ownAt ρ i = some d) : ∃ a, σ[i]? = some (some (.ref a)) ∧ F a = none ∧ G a = none ∧ Cell K F H a d := by
  rcases ownAt_some h with e | e
  · obtain ⟨x, hx, a, rfl, r⟩ := f.slot i _ e
    exact ⟨a, hx, r⟩
  · obtain ⟨x, hx, rfl, r⟩ := f.slot i _ e
    exact ⟨_, hx, r⟩
/-- a method of what a name owns: what it gives back, what is there behind it -/
def dMut (T : String) (i : Nat) (f : D → List D → Option (D × D)) (gs : Av) : Ev := fun ρ => match (ownAt ρ i).bind tyName with
  | none => .no
  | some T' => if T' = T then match gs ρ with
    | .ok rs ρ1 => match frzs rs ρ1 with
      | some (ds, ρ2) => match ownAt ρ2 i with
        | some d => match f d ds with
          | some (ret, d') => .ok (.val ret) (setO ρ2 i d')
          | none => .no
        | none => .no
      | none => .no
    | .ex x ρ1 => .ex x ρ1
    | .no => .no
    else .no
/-- soundness of such a method -/
def MtD (K : PySem.W.Frag) (T : String) (r : V → List V → Hp → VK → Prop) (f : D → List D → Option (D × D)) : Prop :=
  ∀ (F H : Hp) (a : Addr) (d : D) (ds : List D) (vs : List V) (ret d' : D) (Q : VK), Sub F H → F a = none → Cell K F H a d → Reps K F ds vs → f d ds = some (ret, d') →
    (∀ w o, Rep K F ret w → Cell K F (upd H a o) a d' → Q w (upd H a o)) → r (.ref a) vs H Q
theorem cell_ty {K : PySem.W.Frag} {F H : Hp} {a : Addr} {d : D} (c : Cell K F H a d) : ∀ {T : String}, tyName d = some T → tyV K T (.ref a) H := fun {T} h => by
  cases d with
  | dct _ _ => cases h
  | lst xs => cases h; obtain ⟨vs, e, _⟩ := c; exact .inl ⟨rfl, vs, SqL.of e⟩
  | dic ks xs => cases h; obtain ⟨vs, e, _⟩ := c; exact .inr (.inr (.inl ⟨rfl, .inl ⟨_, e⟩⟩))
  | _ => exact c.elim
section
variable {X : Cx} {W : WX} {e o : Expr} {es : List Expr} {gs : Av} {pos p cpos apos : Pos} {x : Str} {i : Nat}
/-- x.m(e, ..) of an owned list or dict -/
theorem ec_mut {K : PySem.W.Frag} {T : String} {r : V → List V → Hp → VK → Prop} {f : D → List D → Option (D × D)} (m : MtD K T r f) {σ : L2.St} {H : Hp} {Q : VK} (h : tE K W (dMut T i f gs) σ H Q) :
    tE K W (dVar i) σ H fun x H1 => tyV K T x H1 ∧ tA K W gs σ H1 fun xs H2 => r x xs H2 Q := by
  obtain ⟨α, ρ, F, G, ft, h⟩ := h
  refine ⟨α, ρ, F, G, ft, ?_⟩
  unfold dMut at h
  cases e1 : ownAt ρ i with
  | none => simp [e1, EC] at h
  | some d0 =>
    simp only [e1, Option.bind_some] at h
    cases e2 : tyName d0 with
    | none => simp [e2, EC] at h
    | some T' =>
      simp only [e2] at h
      by_cases hT : T' = T
      · subst hT
        rw [if_pos rfl] at h
        have go : ∀ v H1 F1, Grow G F F1 → Fits K α ρ σ H1 F1 G → RRep K F1 G H1 σ ρ (.loc i) v → tyV K T' v H1 ∧ tA K W gs σ H1 fun xs H2 => r v xs H2 Q := fun v H1 F1 g1 f1 r1 => by
          have hv : σ[i]? = some (some v) := r1
          obtain ⟨a, ha, fa, ga, c⟩ := ownAt_ref f1 e1
          rw [hv] at ha
          cases ha
          refine ⟨cell_ty c e2, α, ρ, F1, G, f1, ?_⟩
          cases e3 : gs ρ with
          | no => simp [e3, EC] at h
          | ex x ρ1 =>
            simp only [e3] at h
            exact EC.mono (e := .ex x ρ1) g1 h
          | ok rs ρ1 =>
            simp only [e3] at h
            intro vs H2 F2 g2 f2 s2
            cases e4 : frzs rs ρ1 with
            | none => simp [e4, EC] at h
            | some w =>
              obtain ⟨ds, ρ2⟩ := w
              simp only [e4] at h
              obtain ⟨F3, g3, f3, r3⟩ := Fits.frzs f2 s2 e4
              cases e5 : ownAt ρ2 i with
              | none => simp [e5, EC] at h
              | some d =>
                simp only [e5] at h
                cases e6 : f d ds with
                | none => simp [e6, EC] at h
                | some w =>
                  obtain ⟨ret, d'⟩ := w
                  simp only [e6] at h
                  obtain ⟨b, hb, fb, gb, cb⟩ := ownAt_ref f3 e5
                  rw [hv] at hb
                  cases hb
                  refine m F3 H2 a d ds vs ret d' Q f3.fh fb cb r3 e6 fun w o rw' co => ?_
                  exact h w _ F3 ((g1.trans g2).trans g3) (f3.write (ownAt_some e5) hv co) rw'
        unfold dVar
        rcases ownAt_some e1 with e3 | e3
        · simp only [e3]; exact go
        · simp only [e3]; exact go
      · rw [if_neg hT] at h
        exact h.elim
theorem ed_mut {T name id : String} {r : V → List V → Hp → VK → Prop} {f : D → List D → Option (D × D)} (pa : PlainAttrs T) (slot : PySem.Slot T name id) (hty : typeOf (.builtin id) = pure (.type "method_descriptor")) (hm : MtR X id r) (m : MtD X.K T r f)
    (ho : PE X o (tE X.K W (dVar i))) (ha : PA X (e :: es) (tA X.K W gs)) (hbase : attributeBase o name X.env (eval o X.env) = eval o X.env := by rfl)
    (hfew : ((backTo cpos (starEach (e :: es) X.env)).all (fun x => !x.1) && (backToKw cpos (keywordEach [] X.env)).all (fun x => x.1.isSome)
      && decide ((e :: es).length + ([] : List Keyword).length + (if ([] : List Keyword).isEmpty then 0 else 1) < 30)) = true := by rfl)
    (hline : (apos.endLine == cpos.line) = true := by rfl) (hs : starEach (e :: es) X.env = (false, eval e X.env) :: starEach es X.env := by rfl) (hplain : (backTo cpos (starEach es X.env)).any (·.1) = false := by rfl) :
    PE X (.Call (.Attribute o name apos) (e :: es) [] cpos) (tE X.K W (dMut T i f gs)) :=
  (pe_bm pa slot hty hm ho ha hbase hfew hline hs hplain).weak fun _ _ _ h => ec_mut m h
/-- x.m() -/
theorem ed_mut0 {T name id : String} {r : V → List V → Hp → VK → Prop} {f : D → List D → Option (D × D)} (pa : PlainAttrs T) (slot : PySem.Slot T name id) (hty : typeOf (.builtin id) = pure (.type "method_descriptor")) (hm : MtR X id r) (m : MtD X.K T r f)
    (ho : PE X o (tE X.K W (dVar i)))
    (h2 : PE X (.Call (.Attribute o name apos) [] [] cpos) (tBM0 X.K T r (tE X.K W (dVar i))) := by exact pe_bm0 (by assumption) (by assumption) (by assumption) (by assumption) (by assumption)) :
    PE X (.Call (.Attribute o name apos) [] [] cpos) (tE X.K W (dMut T i f fun ρ => .ok [] ρ)) :=
  h2.weak fun σ H Q h => by
    obtain ⟨α, ρ, F, G, ft, h⟩ := ec_mut m h
    refine ⟨α, ρ, F, G, ft, ?_⟩
    refine EC.imp (fun v H1 q => ?_) h
    obtain ⟨t, α', ρ', F', G', f', q⟩ := q
    exact ⟨t, q [] H1 F' (Grow.refl _ _) f' rfl⟩
end
/-! ### append, extend, pop, .. -/
def mAppend : D → List D → Option (D × D)
  | .lst xs, [d] => if xs.length < sizeLine then some (.non, .lst (xs ++ [d])) else none
  | _, _ => none
def mExtend : D → List D → Option (D × D)
  | .lst xs, [.lst ys] => if xs.length + ys.length ≤ sizeLine then some (.non, .lst (xs ++ ys)) else none
  | _, _ => none
section
variable {K : PySem.W.Frag}
theorem m_append : MtD K "list" rAppend mAppend := by
  intro F H a d ds vs ret d' Q s fa c r h q
  unfold mAppend at h
  split at h
  · rename_i xs e
    split at h
    · rename_i hl
      cases h
      obtain ⟨ws, hw, rw'⟩ := c
      obtain ⟨v, t, rfl, rv, rfl⟩ := r
      refine ⟨a, ws, v, rfl, rfl, hw, by rw [rw'.length]; exact hl, ?_⟩
      exact q .non _ rfl ⟨_, upd_same, rw'.snoc rv⟩
    · cases h
  · cases h
theorem m_extend : MtD K "list" rExtend mExtend := by
  intro F H a d ds vs ret d' Q s fa c r h q
  unfold mExtend at h
  split at h
  · rename_i xs ys
    split at h
    · rename_i hl
      cases h
      obtain ⟨ws, hw, rw'⟩ := c
      obtain ⟨v, t, rfl, ⟨b, us, rfl, hb, rb⟩, rfl⟩ := r
      refine ⟨a, b, ws, us, rfl, rfl, hw, s _ _ hb, by rw [rw'.length, rb.length]; exact hl, ?_⟩
      exact q .non _ rfl ⟨_, upd_same, rw'.append rb⟩
    · cases h
  · cases h
end
section
variable {X : Cx} {W : WX} {e o : Expr} {gs : Av} {cpos apos : Pos} {i : Nat}
theorem ed_append (ho : PE X o (tE X.K W (dVar i))) (ha : PA X [e] (tA X.K W gs)) (hbase : attributeBase o "append" X.env (eval o X.env) = eval o X.env := by rfl) (hfew : ((backTo cpos (starEach [e] X.env)).all (fun x => !x.1) && (backToKw cpos (keywordEach [] X.env)).all (fun x => x.1.isSome)
      && decide ([e].length + ([] : List Keyword).length + (if ([] : List Keyword).isEmpty then 0 else 1) < 30)) = true := by rfl) (hline : (apos.endLine == cpos.line) = true := by rfl) (hs : starEach [e] X.env = (false, eval e X.env) :: starEach [] X.env := by rfl) (hplain : (backTo cpos (starEach [] X.env)).any (·.1) = false := by rfl) :
    PE X (.Call (.Attribute o "append" apos) [e] [] cpos) (tE X.K W (dMut "list" i mAppend gs)) := ed_mut PySem.F.plainAttrs_list PySem.F.slot_list_append PySem.F.type_list_append mt_append m_append ho ha hbase hfew hline hs hplain
theorem ed_extend (ho : PE X o (tE X.K W (dVar i))) (ha : PA X [e] (tA X.K W gs)) (hbase : attributeBase o "extend" X.env (eval o X.env) = eval o X.env := by rfl) (hfew : ((backTo cpos (starEach [e] X.env)).all (fun x => !x.1) && (backToKw cpos (keywordEach [] X.env)).all (fun x => x.1.isSome)
      && decide ([e].length + ([] : List Keyword).length + (if ([] : List Keyword).isEmpty then 0 else 1) < 30)) = true := by rfl) (hline : (apos.endLine == cpos.line) = true := by rfl) (hs : starEach [e] X.env = (false, eval e X.env) :: starEach [] X.env := by rfl) (hplain : (backTo cpos (starEach [] X.env)).any (·.1) = false := by rfl) :
    PE X (.Call (.Attribute o "extend" apos) [e] [] cpos) (tE X.K W (dMut "list" i mExtend gs)) := ed_mut PySem.F.plainAttrs_list PySem.F.slot_list_extend PySem.F.type_list_extend mt_extend m_extend ho ha hbase hfew hline hs hplain
end
end DL

/-! stores, op=, raise, try. -/
namespace DL
open PySem PySem.Spec L2
variable [HasW]
/-! ### x[k] = v -/
def putXs : List Key → List D → Key → D → List D
  | k' :: ks, x :: xs, k, d => if k' = k then d :: xs else x :: putXs ks xs k d
  | _, xs, _, _ => xs
/-- a dict with k told d -/
def dicPut (ks : List Key) (xs : List D) (k : Key) (d : D) : D := if hasKey ks k then .dic ks (putXs ks xs k d) else .dic (ks ++ [k]) (xs ++ [d])
def stored1 (x k d : D) : Option D := match x with
  | .lst xs => match k with
    | .int i => (ixN xs.length i).map fun j => .lst (xs.set j d)
    | _ => none
  | .dic ks xs => match keyOf k with
    | some k => if ks.length < sizeLine then some (dicPut ks xs k d) else none
    | none => none
  | _ => none
/-- with a tuple as the key -/
def storedX (x k d : D) : Option D := match x with
  | .dct ks xs => match kOf k with
    | some kk => if ks.length < sizeLine then some (dctPut ks xs k kk d) else none
    | none => none
  | .dic ks _ => if ks.isEmpty then match kOf k with
    | some kk => some (dctPut [] [] k kk d)
    | none => none
    else none
  | _ => none
def stored (x k d : D) : Option D := storedX x k d <|> stored1 x k d
def stAt (i : Nat) (k d : D) (ρ : Env) : Option Env := match ownAt ρ i with
  | some x => (stored x k d).map fun x' => setO ρ i x'
  | none => none
section
variable {K : PySem.W.Frag} {F : Hp}
theorem putXs_length : ∀ (ks : List Key) (xs : List D) (k : Key) (d : D), (putXs ks xs k d).length = xs.length
  | [], xs, k, d => by unfold putXs; rfl
  | _ :: _, [], k, d => rfl
  | k' :: ks, x :: xs, k, d => by
    unfold putXs
    split
    · rfl
    · simp [putXs_length ks xs k d]
theorem map_same {κ : Type} [DecidableEq κ] {k : κ} {v : V} : ∀ (l : List (κ × V)), (∀ p ∈ l, ¬ p.1 = k) → l.map (fun kv => if kv.1 = k then (kv.1, v) else kv) = l
  | [], _ => rfl
  | p :: l, h => by
    rw [List.map_cons, if_neg (h p List.mem_cons_self), map_same l fun q hq => h q (List.mem_cons_of_mem _ hq)]
theorem put_rep {k : Key} {d : D} {v : V} (rv : Rep K F d v) : ∀ {ks : List Key} {xs : List D} {vs : List V}, Reps K F xs vs → ks.length = xs.length → ks.Nodup →
    ∃ ws, (ks.zip vs).map (fun kv => if kv.1 = k then (kv.1, v) else kv) = ks.zip ws ∧ Reps K F (putXs ks xs k d) ws
  | [], [], vs, r, l, n => by cases r; exact ⟨[], rfl, .nil⟩
  | [], _ :: _, _, _, l, _ => by simp at l
  | _ :: _, [], _, _, l, _ => by simp at l
  | k' :: ks, x :: xs, _, r, l, n => by
    obtain ⟨u, t, rfl, a, b⟩ := r
    obtain ⟨n1, n2⟩ := List.nodup_cons.mp n
    by_cases e : k' = k
    · subst e
      refine ⟨v :: t, ?_, ?_⟩
      · rw [List.zip_cons_cons, List.map_cons, if_pos rfl, map_same]
        · rfl
        · rintro ⟨q, w⟩ hp z
          have : q ∈ ks := (List.of_mem_zip hp).1
          exact n1 (z ▸ this)
      · unfold putXs
        rw [if_pos rfl]
        exact .cons rv b
    · obtain ⟨ws, h1, h2⟩ := put_rep rv b (by simpa using l) n2
      refine ⟨u :: ws, ?_, ?_⟩
      · rw [List.zip_cons_cons, List.map_cons, if_neg e, h1]
        rfl
      · unfold putXs
        rw [if_neg e]
        exact .cons a h2
theorem hasKey_zip {ks : List Key} {vs : List V} {k : Key} (l : ks.length = vs.length) : ((ks.zip vs).any fun kv => decide (kv.1 = k)) = hasKey ks k := by
  unfold hasKey
  induction ks generalizing vs with
  | nil => rfl
  | cons k' ks ih =>
    cases vs with
    | nil => simp at l
    | cons v vs =>
      rw [List.zip_cons_cons, List.any_cons, List.any_cons, ih (by simpa using l)]
theorem hasKey_mem {ks : List Key} {k : Key} (h : hasKey ks k = false) : k ∉ ks := fun m => by
  have : hasKey ks k = true := List.any_eq_true.mpr ⟨k, m, decide_eq_true rfl⟩
  rw [h] at this
  cases this
/-- the dict behind a store -/
theorem cell_put {ks : List Key} {xs : List D} {vs : List V} {k : Key} {d : D} {v : V} {H : Hp} {a : Addr} (r : Reps K F xs vs) (l : ks.length = xs.length) (n : ks.Nodup) (rv : Rep K F d v) : Cell K F (upd H a (.dK (putK (ks.zip vs) k v))) a (dicPut ks xs k d) := by
  unfold dicPut putK
  have lv : ks.length = vs.length := by rw [r.length]; exact l
  rw [hasKey_zip lv]
  cases h : hasKey ks k with
  | true =>
    obtain ⟨ws, h1, h2⟩ := put_rep rv r l n (k := k)
    rw [if_pos rfl, if_pos rfl, h1]
    exact ⟨ws, upd_same, by rw [putXs_length]; exact l, n, h2⟩
  | false =>
    rw [if_neg Bool.false_ne_true, if_neg Bool.false_ne_true]
    refine ⟨vs ++ [v], ?_, by simp [l], ?_, r.snoc rv⟩
    · rw [upd_same, List.zip_append lv]
      rfl
    · rw [List.nodup_append]
      exact ⟨n, by simp, fun a ha b hb => by
        have : b = k := by simpa using hb
        subst this
        exact fun z => hasKey_mem h (z ▸ ha)⟩
end
/-- o[i] = v of a list or a dict, by values -/
def rStore (K : PySem.W.Frag) : TSet := fun o i v H Q => rSetL o i v H Q ∨ rSetD o i v H Q ∨ rSetX K o i v H Q
theorem set_any {X : Cx} (hw : X.w = HasW.w) (hu : X.A.units + 65 < cLine) : PSet X (rStore X.K) := by
  intro pins s σ H o i v ov iv u Q I ro ri rv h
  rcases h with h | h | h
  · exact set_list pins s σ H o i v ov iv u Q I ro ri rv h
  · exact set_dict (by omega) pins s σ H o i v ov iv u Q I ro ri rv h
  · exact set_x hw hu pins s σ H o i v ov iv u Q I ro ri rv h
theorem kOf_rep {K : PySem.W.Frag} {F H : Hp} {d : D} {v : V} {k : NestedKey} (h : View K F H d v) (e : kOf d = some k) : Rep K F d v ∧ ∃ b, v = .ref b := by
  obtain ⟨_, ⟨xs, rfl⟩, _⟩ := kOf_some e
  obtain ⟨a, vs, rfl, q⟩ := h
  exact ⟨⟨a, vs, rfl, q⟩, a, rfl⟩
theorem storedX_some {x k d x' : D} (h : storedX x k d = some x') : ∃ kk, kOf k = some kk ∧ ((∃ ks xs, x = .dct ks xs ∧ ks.length < sizeLine ∧ x' = dctPut ks xs k kk d) ∨ ∃ xs, x = .dic [] xs ∧ x' = dctPut [] [] k kk d) := by
  cases x with
  | dct ks xs =>
    have h' : (match kOf k with | some kk => if ks.length < sizeLine then some (dctPut ks xs k kk d) else none | none => none) = some x' := h
    cases e : kOf k with
    | none => rw [e] at h'; cases h'
    | some kk =>
      rw [e] at h'
      dsimp only at h'
      split at h'
      · rename_i hl
        cases h'
        exact ⟨kk, rfl, .inl ⟨ks, xs, rfl, hl, rfl⟩⟩
      · cases h'
  | dic ks xs =>
    have h' : (if ks.isEmpty then match kOf k with | some kk => some (dctPut [] [] k kk d) | none => none else none) = some x' := h
    split at h'
    · rename_i he
      have : ks = [] := List.isEmpty_iff.mp he
      subst this
      cases e : kOf k with
      | none => rw [e] at h'; cases h'
      | some kk =>
        rw [e] at h'
        cases h'
        exact ⟨kk, rfl, .inr ⟨xs, rfl, rfl⟩⟩
    · cases h'
  | _ => cases h
section
variable {K : PySem.W.Frag} {W : WX} {α : Nat → Addr} {ρ ρ' : Env} {σ : L2.St} {H F G : Hp}
/-- a store at an owner -/
theorem Fits.store (f : Fits K α ρ σ H F G) {i : Nat} {k d : D} {vo vi v : V} {Q : Hp → Prop} (ho : σ[i]? = some (some vo)) (hk : View K F H k vi) (hd : Rep K F d v) (h : stAt i k d ρ = some ρ') (q : ∀ H', Fits K α ρ' σ H' F G → Q H') : rStore K vo vi v H Q := by
  unfold stAt at h
  cases e1 : ownAt ρ i with
  | none => simp [e1] at h
  | some x =>
    simp only [e1] at h
    obtain ⟨x', e2, rfl⟩ := Option.map_eq_some_iff.mp h
    obtain ⟨a, ha, fa, ga, c⟩ := ownAt_ref f e1
    rw [ho] at ha
    cases ha
    have fin : ∀ o, Cell K F (upd H a o) a x' → Q (upd H a o) := fun o co => q _ (f.write (ownAt_some e1) ho co)
    cases eX : storedX x k d with
    | some x2 =>
      have e2' : (storedX x k d <|> stored1 x k d) = some x' := e2
      rw [eX] at e2'
      cases e2'
      obtain ⟨kk, hkk, hx⟩ := storedX_some eX
      obtain ⟨rk, b, rfl⟩ := kOf_rep hk hkk
      have ka := View.keyAt f.fh hk hkk
      rcases hx with ⟨ks, xs, rfl, hl, rfl⟩ | ⟨xs, rfl, rfl⟩
      · obtain ⟨es, hH, hm, rks, rxs⟩ := c
        have le : ks.length = es.length := by have := congrArg List.length hm; simpa using this
        exact .inr (.inr ⟨a, es, kk, b, rfl, rfl, .inl hH, keysAt_of f.fh hm rks, ka, by omega, fin _ (cell_dct hm rks rxs hkk rk hd)⟩)
      · obtain ⟨ws, hH, l, n, rxs⟩ := c
        exact .inr (.inr ⟨a, [], kk, b, rfl, rfl, .inr ⟨rfl, hH⟩, (fun e h => nomatch h), ka, by rw [sizeLine_eq]; decide, fin _ (cell_dct (ks := []) (xs := []) (es := []) rfl .nil .nil hkk rk hd)⟩)
    | none =>
    replace e2 : stored1 x k d = some x' := by
      have e2' : (storedX x k d <|> stored1 x k d) = some x' := e2
      rw [eX] at e2'
      exact e2'
    cases x with
    | lst xs =>
      cases k with
      | int j =>
        obtain ⟨n, hn, rfl⟩ := Option.map_eq_some_iff.mp (show (ixN xs.length j).map (fun n => D.lst (xs.set n d)) = some x' from e2)
        obtain ⟨ws, hw, rw'⟩ := c
        cases hk
        exact .inl ⟨a, ws, j, n, rfl, rfl, hw, by rw [rw'.length]; exact hn, fin _ ⟨_, upd_same, rw'.set n hd⟩⟩
      | _ => cases e2
    | dic ks xs =>
      have e3 : (match keyOf k with | some k => if ks.length < sizeLine then some (dicPut ks xs k d) else none | none => none) = some x' := e2
      cases e4 : keyOf k with
      | none => rw [e4] at e3; cases e3
      | some kk =>
        rw [e4] at e3
        by_cases hl : ks.length < sizeLine
        · simp only [if_pos hl] at e3
          cases e3
          obtain ⟨ws, hw, l, n, rw'⟩ := c
          have := view_flat hk e4
          subst this
          refine .inr (.inl ⟨a, _, rfl, .inl ⟨_, kk, hw, rfl, ?_, rfl⟩, fin _ (cell_put rw' l n hd)⟩)
          rw [List.length_zip, rw'.length, l, Nat.min_self, ← l]
          exact hl
        · simp only [if_neg hl] at e3
          cases e3
    | dct ks xs => cases e2
    | _ => exact c.elim
end
/-- x[gi] = g -/
def dStore (i : Nat) (gi g : Ev) : Sv := fun ρ => (g ρ).settle.st fun r ρ1 => match frz r ρ1 with
  | some (d, ρ2) => match ownAt ρ2 i with
    | some _ => (gi ρ2).settle.st fun r2 ρ3 => match peek r2 ρ3 with
      | some k => SR.of (stAt i k d ρ3)
      | none => .no
    | none => .no
  | none => .no
theorem SC.ec {K : PySem.W.Frag} {W : WX} {α : Nat → Addr} {σ : L2.St} {F G : Hp} {Q : VK} {D : Ends} {g : Ev} {ρ : Env} {k : RV → Env → SR} {H : Hp} (f : Fits K α ρ σ H F G)
    (hk : ∀ r ρ1 v H1 F1, Grow G F F1 → Fits K α ρ1 σ H1 F1 G → SRep K F1 σ r v → SC K W α F1 G D (k r ρ1) → Q v H1) (h : SC K W α F G D ((g ρ).settle.st k)) : tE K W g σ H Q :=
  ⟨α, ρ, F, G, f, EC.stS (fun r ρ1 v H1 F1 g1 f1 r1 h1 => hk r ρ1 v H1 F1 g1 f1 r1 h1) h⟩
theorem var_own {K : PySem.W.Frag} {W : WX} {α : Nat → Addr} {ρ : Env} {σ : L2.St} {H F G : Hp} {i : Nat} {d : D} {Q : VK} (f : Fits K α ρ σ H F G) (h : ownAt ρ i = some d) (q : ∀ v H1 F1, Grow G F F1 → Fits K α ρ σ H1 F1 G → σ[i]? = some (some v) → Q v H1) : tE K W (dVar i) σ H Q := by
  refine ⟨α, ρ, F, G, f, ?_⟩
  unfold dVar
  rcases ownAt_some h with e | e
  · simp only [e]; exact q
  · simp only [e]; exact q
section
variable {X : Cx} {W : WX} {e o ix : Expr} {g gi : Ev} {pos p2 : Pos} {i k : Nat}
theorem sd_store (hr : RoomG k X.A) (ho : PE X o (tE X.K W (dVar i))) (hi : PE X ix (tE X.K W gi)) (he : PE X e (tE X.K W g))
    (hs : swapsWithSole [.Subscript o ix p2] e pos.line X.env = pure false := by rfl) (hw : swappedStores [.Subscript o ix p2] e X.env = pure none := by rfl)
    (h1 : (assignEach [.Subscript o ix p2] X.env).map (·.2) = [assign (.Subscript o ix p2) X.env] := by rfl)
    (ha : ∀ v, assign (.Subscript o ix p2) X.env v = (do
      let ov ← holding [v] (eval o X.env)
      let iv ← holding [v, ov] (eval ix X.env)
      standAt p2
      holding [v, ov, iv] (setItem ov iv v)
      release [v, ov, iv] []) := by intro _; rfl) (hww : X.w = HasW.w := by rfl) :
    PS X (.Assign [.Subscript o ix p2] e pos) (tS X.K W (dStore i gi g)) := by
  refine (ps_asg he (pg_sub ho hi (set_any hww (u65 hr)) ha) hs hw h1).weak fun D σ H ⟨α, ρ, F, G, f, h⟩ => ?_
  refine SC.ec f (fun r ρ1 v H1 F1 g1 f1 s1 h1 => ?_) h
  cases e1 : frz r ρ1 with
  | none => simp [e1, SC] at h1
  | some w =>
    obtain ⟨d, ρ2⟩ := w
    simp only [e1] at h1
    obtain ⟨F2, g2, f2, r2⟩ := f1.frz s1 e1
    have h1 := SC.mono g2 h1
    cases e2 : ownAt ρ2 i with
    | none => simp [e2, SC] at h1
    | some x =>
      simp only [e2] at h1
      refine var_own f2 e2 fun vo H3 F3 g3 f3 hv => ?_
      refine SC.ec f3 (fun r2' ρ3 vi H4 F4 g4 f4 s4 h4 => ?_) (SC.mono g3 h1)
      cases e3 : peek r2' ρ3 with
      | none => simp [e3, SC] at h4
      | some kk =>
        simp only [e3] at h4
        obtain ⟨ρ4, e4, h5⟩ := sc_of h4
        exact f4.store hv (f4.peek s4 e3) (Rep.mono (g3.trans g4).sub _ _ r2) e4 fun H' f' => h5 σ H' F4 (Grow.refl _ _) f'
end
/-! ### x[k] op= v -/
def rGetL (K : PySem.W.Frag) : V → V → Hp → VK → Prop := fun o i H Q => ∃ p xs j v, o = .ref p ∧ i = .int j ∧ SqL K H p xs ∧ atI xs j = some v ∧ Q v H
theorem get_list {X : Cx} : PGet X (rGetL X.K) := by
  rintro pins s σ H o i ov iv Q I ro ri ⟨p, xs, j, v, rfl, rfl, hq, he, q⟩
  cases ro
  obtain ⟨t, rfl⟩ := ri
  obtain ⟨its, r, pl, hz⟩ := I.list hq
  obtain ⟨n, h1, h2, h3, h4, h5⟩ := atI_get he
  obtain ⟨w, ew, rw'⟩ := r.get h2
  have hl := r.length
  have hn := line63
  have fin : EP X pins σ Q w s := ⟨v, H, I, rw', q⟩
  by_cases h0 : 0 ≤ j
  · have hj : j.toNat = n := Option.some.inj ((seqIndex_of h0 h5).symm.trans h1)
    exact wpAny_getItem_list pl.isList h0 (by omega) (by rw [hj]; simpa using ew) fin
  · have hj : (j + (its.toArray.size : Int)).toNat = n := by
      have z := Option.some.inj ((seqIndex_neg (by omega) h4).symm.trans h1)
      rw [List.size_toArray, ← hl]
      exact z
    refine wpAny_getItem_list_neg pl.isList (by omega) ?_ (by omega) ?_ fin
    · rw [List.size_toArray]
      omega
    · rw [hj]
      simpa using ew
def rGetA (K : PySem.W.Frag) : V → V → Hp → VK → Prop := fun o i H Q => rGetL K o i H Q ∨ ∃ a v, o = .ref a ∧ DGet H a i (some v) ∧ Q v H
theorem get_any {X : Cx} (hu : X.A.units + 1 < cLine) : PGet X (rGetA X.K) := by
  intro pins s σ H o i ov iv Q I ro ri h
  rcases h with h | ⟨a, v, rfl, g, q⟩
  · exact get_list pins s σ H o i ov iv Q I ro ri h
  · cases ro
    exact d_getItem hu I g ri fun w' s' I' rw' => ⟨v, H, I', rw', q⟩
def dAugS (i : Nat) (gi g : Ev) (f : D → D → Option RV) : Sv := fun ρ => match ownAt ρ i with
  | none => .no
  | some _ => (gi ρ).settle.st fun r ρ1 => match peek r ρ1, ownAt ρ1 i with
    | some kk, some x => match ixD x kk, keyOf kk with
      | some d0, some key => (g ρ1).settle.st fun r2 ρ2 => match peek r2 ρ2 with
        | some y => match f d0 y with
          | some (.val z) => SR.of (stAt i kk z ρ2)
          | _ => .no
        | none => .no
      | _, _ => .no
    | _, _ => .no
theorem rep_of_ixD {K : PySem.W.Frag} {F H : Hp} {a : Addr} {x kk d0 : D} {key : Key} {vi : V} (s : Sub F H) (c : Cell K F H a x) (hk : View K F H kk vi) (ek : keyOf kk = some key) (h : ixD x kk = some d0) {Q : VK} (q : ∀ v, Rep K F d0 v → Q v H) : rGetA K (.ref a) vi H Q := by
  cases x with
  | lst xs =>
    cases kk with
    | int j =>
      obtain ⟨ws, hw, rw'⟩ := c
      obtain ⟨v, hv, rv⟩ := rw'.atI (show L2.atI xs j = some d0 from h)
      cases hk
      exact .inl ⟨a, ws, j, v, rfl, rfl, SqL.of hw, hv, q v rv⟩
    | _ => cases h
  | dic ks xs =>
    have h' : (match keyOf kk with | some k => dGet ks xs k | none => none) = some d0 := h
    rw [ek] at h'
    obtain ⟨ws, hw, l, n, rw'⟩ := c
    obtain ⟨v, hv, rv⟩ := (dGet_rep rw' l).1 d0 h'
    have := view_flat hk ek
    subst this
    exact .inr ⟨a, v, rfl, .inl ⟨_, key, .inl hw, rfl, hv.symm⟩, q v rv⟩
  | dct ks xs => cases h
  | _ => exact c.elim
theorem key_view {K : PySem.W.Frag} {F F' H H' : Hp} {d : D} {v : V} {k : Key} (e : keyOf d = some k) (h : View K F H d v) : View K F' H' d v := by
  cases d with
  | int i => exact h
  | str x => exact h
  | _ => cases e
section
variable {X : Cx} {W : WX} {e o ix : Expr} {g gi : Ev} {pos p2 : Pos} {i k : Nat}
theorem sd_augS {op : Operator} {r : R2} {f : D → D → Option RV} (hr : RoomG k X.A) (hop : OpR X (inplaceOp op) r) (hf : Op2 X.K r f) (ho : PE X o (tE X.K W (dVar i))) (hi : PE X ix (tE X.K W gi)) (he : PE X e (tE X.K W g))
    (ha : ∀ ov iv new, augStore ix ov iv new = (do holding [new, ov, iv] (setItem ov iv new); release [new, ov, iv] []; pure .next) := by intros; rfl) (hww : X.w = HasW.w := by rfl) : PS X (.AugAssign (.Subscript o ix p2) op e pos) (tS X.K W (dAugS i gi g f)) := by
  refine (ps_augS ho hi (get_any (u1 hr)) he hop (set_any hww (u65 hr)) ha).weak fun D σ H ⟨α, ρ, F, G, ft, h⟩ => ?_
  unfold dAugS at h
  cases e1 : ownAt ρ i with
  | none => simp [e1, SC] at h
  | some x0 =>
    simp only [e1] at h
    refine var_own ft e1 fun vo H1 F1 g1 f1 hv => ?_
    refine SC.ec f1 (fun r1 ρ1 vi H2 F2 g2 f2 s2 h2 => ?_) (SC.mono g1 h)
    cases e2 : peek r1 ρ1 with
    | none => simp [e2, SC] at h2
    | some kk =>
      cases e3 : ownAt ρ1 i with
      | none => simp [e2, e3, SC] at h2
      | some x =>
        simp only [e2, e3] at h2
        cases e4 : ixD x kk with
        | none => simp [e4, SC] at h2
        | some d0 =>
          cases e5 : keyOf kk with
          | none => simp [e4, e5, SC] at h2
          | some key =>
            simp only [e4, e5] at h2
            obtain ⟨a, hva, fa, ga, c⟩ := ownAt_ref f2 e3
            rw [hv] at hva
            cases hva
            have kv := f2.peek s2 e2
            refine rep_of_ixD f2.fh c kv e5 e4 fun v0 rv0 => ?_
            refine SC.ec f2 (fun r2 ρ2 u H3 F3 g3 f3 s3 h3 => ?_) h2
            cases e6 : peek r2 ρ2 with
            | none => simp [e6, SC] at h3
            | some y =>
              simp only [e6] at h3
              cases e7 : f d0 y with
              | none => simp [e7, SC] at h3
              | some z =>
                cases z with
                | loc j => simp [e7, SC] at h3
                | new d => simp [e7, SC] at h3
                | val z =>
                  simp only [e7] at h3
                  obtain ⟨ρ4, e8, h4⟩ := sc_of h3
                  refine hf F3 H3 d0 y v0 u (.val z) _ f3.fh (Rep.view f3.fh (Rep.mono g3.sub _ _ rv0)) (f3.peek s3 e6) e7 fun w H4 F4 ex rz => ?_
                  have f4 := f3.ext ex
                  exact f4.store hv (key_view e5 kv) rz e8 fun H' f' => h4 σ H' F4 (f3.grow ex) f'
end
/-! ### x op= v -/
def dAug (i : Nat) (g : Ev) (f : D → D → Option RV) : Sv := fun ρ => match ρ[i]? with
  | some (.val d0) => (g ρ).settle.st fun r2 ρ2 => match peek r2 ρ2 with
    | some y => match f d0 y with
      | some z => SR.of (asgn i z ρ2)
      | none => .no
    | none => .no
  | _ => .no
section
variable {X : Cx} {W : WX} {e : Expr} {g : Ev} {pos p2 : Pos} {i k : Nat} {x : Str}
theorem sd_aug {op : Operator} {r : R2} {f : D → D → Option RV} (hN : X.N.Nodup) (hop : OpR X (inplaceOp op) r) (hf : Op2 X.K r f) (he : PE X e (tE X.K W g)) (hi : X.N[i]? = some x := by rfl) (hx : Loc X.env.scope x := by first | exact .inl rfl | exact .inr rfl)
    (hfn : X.fn x = true ∨ X.env.scope.names.lookup x = some .local := by first | exact .inl rfl | exact .inr rfl | assumption) : PS X (.AugAssign (.Name x p2) op e pos) (tS X.K W (dAug i g f)) := by
  refine (ps_aug hN hi hx he hop hfn).weak fun D σ H ⟨α, ρ, F, G, ft, h⟩ => ?_
  unfold dAug at h
  cases e1 : ρ[i]? with
  | none => simp [e1, SC] at h
  | some sl =>
    cases sl with
    | non => simp [e1, SC] at h
    | own d => simp [e1, SC] at h
    | bor d => simp [e1, SC] at h
    | val d0 =>
      simp only [e1] at h
      obtain ⟨xv, hx', v0, rfl, rv0⟩ := ft.slot i _ e1
      refine ⟨v0, hx', SC.ec ft (fun r2 ρ2 u H3 F3 g3 f3 s3 h3 => ?_) h⟩
      cases e6 : peek r2 ρ2 with
      | none => simp [e6, SC] at h3
      | some y =>
        simp only [e6] at h3
        cases e7 : f d0 y with
        | none => simp [e7, SC] at h3
        | some z =>
          simp only [e7] at h3
          obtain ⟨ρ4, e8, h4⟩ := sc_of h3
          refine hf F3 H3 d0 y v0 u z _ f3.fh (Rep.view f3.fh (Rep.mono g3.sub _ _ rv0)) (f3.peek s3 e6) e7 fun w H4 F4 ex rz => ?_
          have f4 := f3.ext ex
          obtain ⟨F5, g5, f5⟩ := f4.asgn (rz.rrep f3 ex) e8
          exact h4 _ H4 F5 ((f3.grow ex).trans g5) f5
theorem iop_mul' {X : Cx} : OpR X (inplaceOp .Mult) (rI CMul fun i j => .int (i * j)) := iop_mul
end
end DL

/-! raise, try, dict displays, walks over a dict. -/
namespace DL
open PySem PySem.Spec L2
variable [HasW]
/-! ### raise X() of an own class without an own __init__ -/
section
variable {X : Cx} {W : WX} {x : Str} {C : Addr} {bmB : List Value} {B newId initId : String} {p pos pos2 : Pos}
theorem pmk_bare (F : ExcBaseFacts B newId initId bmB) (q : PySem.W.excIn X.K C bmB newId = true) (gC : X.mg x = some (.ref C)) (kC : PySem.W.keepIn X.K (.ref C) = true) (r : Raises X (.ref C)) (hg : Gl X x) (hdb : (x == ("__debug__" : Str)) = false := by decide) :
    PMk X (.Call (.Name x p) [] [] pos) (fun _ H Q => Q (.ref C) none H) := by
  intro pins s σ H Q I h
  refine wpAny_Call_Name_kw (ld_glob I hg gC ?_ hdb)
  refine PySem.W.callWith_K0 I.kIn kC ?_
  show wpAny _ _ (call (.ref C) []) _ _ _
  obtain ⟨bm, N, nm, qn, bs, hdct, sn, sub, ab, col, dd, k0, k1, k2, k3, k5, mN, hC, hN, hni, T⟩ := exc_obj I.kIn q
  refine wpAny_call_exc_subT F T hC hN hni (fun h' e hm => mk_of I hm r h (I.hok.gone hm.new)) ?_
  exact Nat.zero_le _
/-- what is known of an own class of exceptions -/
structure OwnX (K : PySem.W.Frag) (mg : Str → Option Value) (x : Str) (C : Addr) : Prop where
  ns : PySem.W.nsIn K mainGlobals x = some (some (.ref C))
  gl : mg x = some (.ref C)
  keep : PySem.W.keepIn K (.ref C) = true
  base : PySem.W.subIn K (.ref C) (.type "BaseException") = some true
  ty : PySem.W.typeIn K (.ref C) = some (.type "type")
  dict : PySem.W.hasDictIn K C = true
def dRaise (x : ECls) : Sv := fun ρ => .ex ⟨x, []⟩ ρ
theorem sd_raise0 (hc : X.calm = true) (tk : Takes X W) (F : ExcBaseFacts B newId initId bmB) (q : PySem.W.excIn X.K C bmB newId = true) (o : OwnX X.K X.mg x C) (hg : Gl X x := by rfl) (hdb : (x == ("__debug__" : Str)) = false := by decide) :
    PS X (.Raise (some (.Call (.Name x p) [] [] pos)) none pos2) (tS X.K W (dRaise (.own x))) :=
  (ps_raise hc tk (pmk_bare F q o.gl o.keep (raises_own o.base o.ty) hg hdb)).weak fun D σ H ⟨α, ρ, F, G, f, h⟩ =>
    h _ none σ H F (Grow.refl _ _) f ⟨o.ns, .inl rfl⟩
end
/-! ### try: .. except X: .. -/
def noEx : SR → SR
  | .ex _ _ => .no
  | s => s
def dTry (ism : ECls → Option Bool) (gb gs : Sv) : Sv := fun ρ => match gb ρ with
  | .ex x ρ1 => match ism x.cls with
    | some true => noEx (gs ρ1)
    | some false => .ex x ρ1
    | none => .no
  | s => s
theorem SC.noEx {K : PySem.W.Frag} {W W' : WX} {α : Nat → Addr} {F G : Hp} {D : Ends} : ∀ {s : SR}, SC K W α F G D (DL.noEx s) → SC K W' α F G D s
  | .nx ρ, h => h
  | .rt r ρ, h => h
  | .bk ρ, h => h
  | .ct ρ, h => h
  | .ex x ρ, h => h.elim
  | .no, h => h
section
variable {X : Cx} {W : WX} {x : Str} {c : Value} {body suite : List Stmt} {b₀ : Stmt} {np pos pos' : Pos} {gb gs : Sv} {ism : ECls → Option Bool}
theorem sd_try (hs : X.stack = X.env :: X.outer) (hf : X.env.frame = some X.env.locals) (hc : Names X x c) (tk : Takes X W) (hx : ∀ e b, ism e = some b → ∀ v, ClsIs X.K e v → PySem.W.exmOne X.K v c = some b)
    (hb : ∀ (W' : WX) (pn : List (Addr × Obj)) (xe : Value → Shared → Prop), Takes (X.tr pn xe) W' → PassesOwn (model X.prog X.w) X.A X.env xe → PSs (X.tr pn xe) body (tS X.K W' gb))
    (hsu : ∀ (a : Addr) (oe : Obj) (cls : Value) (d : Option Addr) (pn : List (Addr × Obj)), PSs (X.suite a ((a, oe) :: pn)) (b₀ :: suite) (tS X.K W0 gs)) :
    PS X (.Try body [.ExceptHandler (some (.Name x np)) none (b₀ :: suite) pos'] [] [] pos) (tS X.K W (dTry ism gb gs)) := by
  refine (ps_try_only (tb := fun W' => tS X.K W' gb) (ts := fun _ _ _ => tS X.K W0 gs) hs hf hc tk hb (fun a oe cls d pn _ _ => hsu a oe cls d pn)).weak fun D σ H ⟨α, ρ, F, G, f, h⟩ => ⟨α, ρ, F, G, f, ?_⟩
  unfold dTry at h
  cases e1 : gb ρ with
  | nx ρ1 => rw [e1] at h; exact h
  | rt r ρ1 => rw [e1] at h; exact h
  | bk ρ1 => rw [e1] at h; exact h
  | ct ρ1 => rw [e1] at h; exact h
  | no => rw [e1] at h; exact h
  | ex x ρ1 =>
    rw [e1] at h
    intro cls d σ' H' F' g1 f1 x1
    cases e2 : ism x.cls with
    | none => simp [e2, SC] at h
    | some b =>
      simp only [e2] at h
      refine ⟨b, hx _ _ e2 cls x1.1, fun hb a _ => ?_, fun hb => ?_⟩
      · subst hb
        exact ⟨α, ρ1, F', G, f1, SC.noEx (SC.mono g1 h)⟩
      · subst hb
        exact h cls d σ' H' F' g1 f1 x1
/-- a class name in a clause -/
theorem names_own {C : Addr} (o : OwnX X.K X.mg x C) (hg : Gl X x := by rfl) (hdb : (x == ("__debug__" : Str)) = false := by decide) : Names X x (.ref C) := ⟨hg, hdb, .inl o.gl⟩
/-- the class itself is caught -/
theorem exm_own {K : PySem.W.Frag} {mg : Str → Option Value} {C : Addr} (o : OwnX K mg x C) (h : PySem.W.subIn K (.ref C) (.ref C) = some true) : PySem.W.exmOne K (.ref C) (.ref C) = some true := PySem.W.exm_ref o.base o.dict o.ty h
end
/-! ### {k: v, ..} -/
inductive PsR where | ok (ps : List (Key × D)) (ρ : Env) | ex (x : Exn) (ρ : Env) | no
/-- an item, made data at once -/
def dFrz (g : Ev) (ρ : Env) (k : D → Env → PsR) : PsR := match (g ρ).settle with
  | .ok r ρ1 => match frz r ρ1 with
    | some (d, ρ2) => k d ρ2
    | none => .no
  | .ex x ρ1 => .ex x ρ1
  | .no => .no
def dPairs : List (Ev × Ev) → Env → PsR
  | [], ρ => .ok [] ρ
  | (gk, gv) :: r, ρ => dFrz gk ρ fun dk ρ1 => match keyOf dk with
    | some k => dFrz gv ρ1 fun dv ρ2 => match dPairs r ρ2 with
      | .ok ps ρ3 => .ok ((k, dv) :: ps) ρ3
      | .ex x ρ3 => .ex x ρ3
      | .no => .no
    | none => .no
def putD (d : D) (p : Key × D) : D := match d with
  | .dic ks xs => dicPut ks xs p.1 p.2
  | d => d
def mergeD (ps : List (Key × D)) : D := ps.foldl putD (.dic [] [])
def dDisp (prs : List (Ev × Ev)) : Ev := fun ρ => match dPairs prs ρ with
  | .ok ps ρ1 => if ps.length ≤ 15 then .ok (.new (mergeD ps)) ρ1 else .no
  | .ex _ _ => .no
  | .no => .no
/-- kvs is what d says -/
def DicRel (K : PySem.W.Frag) (F : Hp) (kvs : List (Key × V)) : D → Prop
  | .dic ks xs => ∃ vs, kvs = ks.zip vs ∧ ks.length = xs.length ∧ ks.Nodup ∧ Reps K F xs vs
  | _ => False
section
variable {K : PySem.W.Frag} {F H : Hp}
theorem DicRel.put {kvs : List (Key × V)} {d e : D} {k : Key} {v : V} (r : DicRel K F kvs d) (rv : Rep K F e v) : DicRel K F (putK kvs k v) (putD d (k, e)) := by
  cases d with
  | dic ks xs =>
    obtain ⟨vs, rfl, l, n, rr⟩ := r
    have c := cell_put (H := fun _ => none) (a := 0) (k := k) rr l n rv
    have c' : Cell K F (upd (fun _ => none) 0 (.dK (putK (ks.zip vs) k v))) 0 (dicPut ks xs k e) := c
    show DicRel K F (putK (ks.zip vs) k v) (dicPut ks xs k e)
    unfold dicPut at c' ⊢
    split
    · rename_i hh
      rw [if_pos hh] at c'
      obtain ⟨ws, q, l', n', r'⟩ := c'
      rw [upd_same] at q
      exact ⟨ws, HO.dK.inj (Option.some.inj q), l', n', r'⟩
    · rename_i hh
      rw [if_neg hh] at c'
      obtain ⟨ws, q, l', n', r'⟩ := c'
      rw [upd_same] at q
      exact ⟨ws, HO.dK.inj (Option.some.inj q), l', n', r'⟩
  | _ => exact r.elim
theorem DicRel.merge : ∀ {ps : List (Key × D)} {kvs : List (Key × V)} {acc : List (Key × V)} {d : D}, DicRel K F acc d → ps.map (·.1) = kvs.map (·.1) → Reps K F (ps.map (·.2)) (kvs.map (·.2)) → DicRel K F (mergeK acc kvs) (ps.foldl putD d)
  | [], [], acc, d, r, _, _ => r
  | [], _ :: _, _, _, _, e, _ => by simp at e
  | _ :: _, [], _, _, _, e, _ => by simp at e
  | (k, x) :: ps, (k', v) :: kvs, acc, d, r, e, rr => by
    obtain ⟨u, t, e1, a, b⟩ := rr
    rw [List.map_cons] at e1
    have e2 : v = u ∧ kvs.map (·.2) = t := List.cons.inj e1
    have e3 : k = k' ∧ ps.map (·.1) = kvs.map (·.1) := List.cons.inj (show k :: ps.map (·.1) = k' :: kvs.map (·.1) from e)
    obtain ⟨rfl, rfl⟩ := e2
    obtain ⟨rfl, e4⟩ := e3
    show DicRel K F (mergeK (putK acc k v) kvs) (ps.foldl putD (putD d (k, x)))
    exact DicRel.merge (r.put a) e4 b
theorem DicRel.cell {kvs : List (Key × V)} {d : D} {a : Addr} (r : DicRel K F kvs d) : Cell K F (upd H a (.dK kvs)) a d := by
  cases d with
  | dic ks xs =>
    obtain ⟨vs, rfl, l, n, rr⟩ := r
    exact ⟨vs, upd_same, l, n, rr⟩
  | _ => exact r.elim
end
section
variable {X : Cx} {W : WX} {pos : Pos}
/-- a new object held still while the parts are made -/
theorem Fits.still {K : PySem.W.Frag} {α : Nat → Addr} {ρ : Env} {σ : L2.St} {H F G : Hp} (f : Fits K α ρ σ H F G) {P : Addr} {o : HO} (h : H P = none) : Fits K α ρ σ (upd H P o) F (upd G P o) := by
  have f1 := f.ext (Ext.allocO (o := o) f.fh h)
  refine ⟨f1.fh, f1.gh.trans (Sub.refl _) |> fun _ => (Sub.upd2 f.gh), f1.len, fun i s q => ?_, f1.sep⟩
  obtain ⟨x, hx, so⟩ := f1.slot i s q
  refine ⟨x, hx, ?_⟩
  obtain ⟨x', hx', so'⟩ := f.slot i s q
  rw [hx] at hx'
  cases hx'
  have ne : ∀ {b : Addr} {d : D}, Cell K F H b d → b ≠ P := fun {b d} c z => by
    obtain ⟨u, hu⟩ := c.there
    rw [z, h] at hu
    cases hu
  cases s with
  | non => trivial
  | val d => exact so
  | own d =>
    obtain ⟨a, e, fa, ga, c⟩ := so
    obtain ⟨a', e', _, _, c'⟩ := so'
    rw [e] at e'
    cases e'
    exact ⟨a, e, fa, by rw [upd_ne (ne c')]; exact ga, c⟩
  | bor d =>
    obtain ⟨e, fa, ga, c⟩ := so
    exact ⟨e, fa, by rw [upd_ne (ne so'.2.2.2)]; exact ga, c⟩
/-- parts of a display -/
def tPrs (K : PySem.W.Frag) (prs : List (Ev × Ev)) : List (TE × TE) := prs.map fun p => (tE K W0 p.1, tE K W0 p.2)
theorem pc_pairs {K : PySem.W.Frag} {α : Nat → Addr} {σ : L2.St} {G : Hp} : ∀ {prs : List (Ev × Ev)} {ρ ρ' : Env} {H F : Hp} {ps : List (Key × D)} {T : List (V × V) → Hp → Prop}, Fits K α ρ σ H F G → dPairs prs ρ = .ok ps ρ' →
    (∀ (kvs : List (Key × V)) H' F', Grow G F F' → Fits K α ρ' σ H' F' G → ps.map (·.1) = kvs.map (·.1) → Reps K F' (ps.map (·.2)) (kvs.map (·.2)) → T (kvs.map fun kv => (kV kv.1, kv.2)) H') → tPairs (tPrs K prs) σ H T
  | [], ρ, ρ', H, F, ps, T, f, e, h => by
    cases e
    exact h [] H F (Grow.refl _ _) f rfl .nil
  | (gk, gv) :: r, ρ, ρ', H, F, ps, T, f, e, h => by
    have part : ∀ {g : Ev} {ρ : Env} {H F : Hp} {k : D → Env → PsR} {Q : V → Hp → Prop}, Fits K α ρ σ H F G → dFrz g ρ k = .ok ps ρ' → (∀ d ρ1 v H1 F1, Grow G F F1 → Fits K α ρ1 σ H1 F1 G → Rep K F1 d v → k d ρ1 = .ok ps ρ' → Q v H1) → tE K W0 g σ H Q := by
      intro g ρ H F k Q f e h
      refine ⟨α, ρ, F, G, f, EC.settle ?_⟩
      unfold dFrz at e
      cases e1 : (g ρ).settle with
      | no => rw [e1] at e; cases e
      | ex x ρ1 => rw [e1] at e; cases e
      | ok r ρ1 =>
        rw [e1] at e
        have rs : r.settle = r := by
          cases q : g ρ with
          | no => rw [q] at e1; cases e1
          | ex x ρ => rw [q] at e1; cases e1
          | ok r0 ρ0 =>
            rw [q] at e1
            have e6 : r0.settle = r := by cases e1; rfl
            rw [← e6]
            cases r0 <;> rfl
        intro v H1 F1 g1 f1 r1
        have s1 : SRep K F1 σ r v := by
          rw [← rs] at r1 ⊢
          exact settle_srep r1
        have e' : (match frz r ρ1 with | some (d, ρ2) => k d ρ2 | none => .no) = PsR.ok ps ρ' := e
        cases e2 : frz r ρ1 with
        | none => rw [e2] at e'; cases e'
        | some w =>
          obtain ⟨d, ρ2⟩ := w
          rw [e2] at e'
          obtain ⟨F2, g2, f2, r2⟩ := f1.frz s1 e2
          exact h d ρ2 v H1 F2 (g1.trans g2) f2 r2 e'
    show tE K W0 gk σ H fun x H1 => tE K W0 gv σ H1 fun y H2 => tPairs (tPrs K r) σ H2 fun ps H3 => T ((x, y) :: ps) H3
    refine part f (show dFrz gk ρ _ = .ok ps ρ' from e) fun dk ρ1 x H1 F1 g1 f1 rk e1 => ?_
    cases ek : keyOf dk with
    | none => rw [ek] at e1; cases e1
    | some k =>
      rw [ek] at e1
      have := key_rep rk ek
      subst this
      refine part f1 e1 fun dv ρ2 y H2 F2 g2 f2 rv e2 => ?_
      cases e3 : dPairs r ρ2 with
      | no => rw [e3] at e2; cases e2
      | ex z ρ3 => rw [e3] at e2; cases e2
      | ok qs ρ3 =>
        rw [e3] at e2
        cases e2
        refine pc_pairs f2 e3 fun kvs H' F' g3 f3 k1 k2 => ?_
        exact h ((k, y) :: kvs) H' F' ((g1.trans g2).trans g3) f3 (by simp [k1]) (.cons (Rep.mono g3.sub _ _ rv) k2)
theorem ed_disp {keys : List (Option Expr)} {values : List Expr} {prs : List (Ev × Ev)} (h : PPs X pos keys values (tPrs X.K prs)) (hall : keys.all (·.isSome) = true := by rfl) (hl : keys.length = values.length := by rfl) (h0 : keys ≠ [] := by exact fun z => nomatch z)
    (h15 : keys.length ≤ 15 := by decide) : PE X (.Dict keys values pos) (tE X.K W (dDisp prs)) := by
  refine (pe_disp h hall hl h0 h15).weak fun σ H Q ⟨α, ρ, F, G, f, h⟩ => ?_
  unfold dDisp at h
  cases e1 : dPairs prs ρ with
  | no => simp [e1, EC] at h
  | ex x ρ1 => simp [e1, EC] at h
  | ok ps ρ1 =>
    simp only [e1] at h
    by_cases hlen : ps.length ≤ 15
    · rw [if_pos hlen] at h
      intro P hP
      have fP : F P = none := f.fh.free hP
      have gP : G P = none := f.gh.free hP
      refine pc_pairs (f.still hP) e1 fun kvs H' F' g1 f1 k1 k2 => ?_
      have hp : H' P = some (.dK []) := f1.gh P _ upd_same
      have nP : F' P = none := by
        cases q : F' P with
        | none => rfl
        | some u =>
          rcases g1.new P u q with z | ⟨_, z⟩
          · rw [fP] at z; cases z
          · rw [upd_same] at z; cases z
      have gr : Grow G F F' := ⟨g1.sub, fun a o e => by
        rcases g1.new a o e with z | ⟨z1, z2⟩
        · exact .inl z
        · refine .inr ⟨z1, ?_⟩
          by_cases q : a = P
          · subst q; exact gP
          · rw [upd_ne q] at z2; exact z2⟩
      refine ⟨hp, kvs, rfl, ?_, ?_⟩
      · have := congrArg List.length k1
        simp only [List.length_map] at this
        omega
      · have rel : DicRel X.K F' (mergeK [] kvs) (mergeD ps) := DicRel.merge (K := X.K) (F := F') (acc := []) (d := .dic [] []) ⟨[], rfl, rfl, List.nodup_nil, .nil⟩ k1 k2
        -- back from the ground that was held
        obtain ⟨f6, ap6⟩ := Fits.loose gP (Fits.turn (o' := .dK (mergeK [] kvs)) f1 nP gP f1)
        exact h _ _ F' gr f6 ⟨P, rfl, nP, gP, rel.cell, fun j s q o => ap6 j s q o⟩
    · rw [if_neg hlen] at h
      exact h.elim
theorem pd_nil : PPs X pos [] [] (tPrs X.K []) := pps_nil
theorem pd_cons {k v : Expr} {ks : List (Option Expr)} {vs : List Expr} {gk gv : Ev} {r : List (Ev × Ev)} (hk : PE X k (tE X.K W0 gk)) (hv : PE X v (tE X.K W0 gv)) (hr : PPs X pos ks vs (tPrs X.K r)) : PPs X pos (some k :: ks) (v :: vs) (tPrs X.K ((gk, gv) :: r)) := pps_cons hk hv hr
theorem ed_disp0 : PE X (.Dict [] [] pos) (tE X.K W fun ρ => .ok (.new (.dic [] [])) ρ) := by
  refine pe_dnewK.weak fun σ H Q ⟨α, ρ, F, G, f, h⟩ P hP => ?_
  exact EC.op f h _ _ F (Ext.allocO f.fh hP) ⟨P, rfl, hP, f.fh.free hP, [], upd_same, rfl, List.nodup_nil, .nil⟩
end
end DL

/-! a dict walked: it is locked meanwhile. -/
namespace DL
open PySem PySem.Spec L2
variable [HasW]
/-- what data say is the same by both -/
structure Alike (F F' : Hp) : Prop where
  tup : ∀ a xs, Rd F a (.tup xs) → Rd F' a (.tup xs)
  rlst : ∀ a xs, Rd F a (.lst xs) → Rd F' a (.lst xs)
  lst : ∀ a xs, F a = some (.lst xs) → F' a = some (.lst xs)
  dic : ∀ a xs, Rd F a (.dK xs) → Rd F' a (.dK xs)
  ext : ∀ a φ, Rd F a (.ext φ) → Rd F' a (.ext φ)
section
variable {K : PySem.W.Frag} {F F' : Hp}
mutual
theorem Rep.alike (s : Alike F F') : ∀ (d : D) (v : V), Rep K F d v → Rep K F' d v
  | .non, _, h => h
  | .bl _, _, h => h
  | .int _, _, h => h
  | .str _, _, h => h
  | .raw _, _, h => h
  | .tup xs, v, h => by
    obtain ⟨a, vs, e, q, r⟩ := h
    exact ⟨a, vs, e, q.imp (s.tup a vs) id, Reps.alike s xs vs r⟩
  | .lst xs, v, h => by
    obtain ⟨a, vs, e, q, r⟩ := h
    exact ⟨a, vs, e, s.lst a vs q, Reps.alike s xs vs r⟩
  | .scr xs, v, h => by
    obtain ⟨a, vs, e, q, r⟩ := h
    exact ⟨a, vs, e, q.imp (s.rlst a vs) id, Reps.alike s xs vs r⟩
  | .dic ks xs, v, h => by
    obtain ⟨a, vs, e, q, l, n, r⟩ := h
    exact ⟨a, vs, e, s.dic a _ q, l, n, Reps.alike s xs vs r⟩
  | .dct ks xs, v, h => by
    obtain ⟨a, es, e, q, l, rk, r⟩ := h
    exact ⟨a, es, e, s.ext a _ q, l, Reps.alike s ks _ rk, Reps.alike s xs _ r⟩
theorem Reps.alike (s : Alike F F') : ∀ (ds : List D) (vs : List V), Reps K F ds vs → Reps K F' ds vs
  | [], _, h => h
  | d :: ds, _, h => by
    obtain ⟨v, r, e, a, b⟩ := h
    exact ⟨v, r, e, Rep.alike s d v a, Reps.alike s ds r b⟩
end
theorem Cell.alike {H H' : Hp} {a : Addr} (s : Alike F F') (e : ∀ o, H a = some o → H' a = some o) {d : D} (c : Cell K F H a d) : Cell K F' H' a d := by
  cases d with
  | lst xs => obtain ⟨vs, q, r⟩ := c; exact ⟨vs, e _ q, Reps.alike s _ _ r⟩
  | dic ks xs => obtain ⟨vs, q, l, n, r⟩ := c; exact ⟨vs, e _ q, l, n, Reps.alike s _ _ r⟩
  | dct ks xs => obtain ⟨es, q, l, rk, r⟩ := c; exact ⟨es, e _ q, l, Reps.alike s _ _ rk, Reps.alike s _ _ r⟩
  | _ => exact c.elim
theorem alike_lock {d : Addr} {o : Obj} {kvs : List (Key × V)} (h : F d = some (.dK kvs)) : Alike F (upd F d (.frz o (.dK kvs))) := by
  refine ⟨fun a xs r => ?_, fun a xs r => ?_, fun a xs r => ?_, fun a xs r => ?_, fun a φ r => ?_⟩
  · by_cases e : a = d
    · subst e
      rcases r with r | ⟨o', r⟩ <;> (rw [h] at r; cases r)
    · rcases r with r | ⟨o', r⟩
      · exact .inl (by rw [upd_ne e]; exact r)
      · exact .inr ⟨o', by rw [upd_ne e]; exact r⟩
  · by_cases e : a = d
    · subst e
      rcases r with r | ⟨o', r⟩ <;> (rw [h] at r; cases r)
    · rcases r with r | ⟨o', r⟩
      · exact .inl (by rw [upd_ne e]; exact r)
      · exact .inr ⟨o', by rw [upd_ne e]; exact r⟩
  · by_cases e : a = d
    · subst e
      rw [h] at r; cases r
    · rw [upd_ne e]; exact r
  · by_cases e : a = d
    · subst e
      rcases r with r | ⟨o', r⟩
      · rw [h] at r; cases r
        exact .inr ⟨o, upd_same⟩
      · rw [h] at r; cases r
    · rcases r with r | ⟨o', r⟩
      · exact .inl (by rw [upd_ne e]; exact r)
      · exact .inr ⟨o', by rw [upd_ne e]; exact r⟩
  · by_cases e : a = d
    · subst e
      rcases r with r | ⟨o', r⟩ <;> (rw [h] at r; cases r)
    · rcases r with r | ⟨o', r⟩
      · exact .inl (by rw [upd_ne e]; exact r)
      · exact .inr ⟨o', by rw [upd_ne e]; exact r⟩
theorem alike_open {d : Addr} {o : Obj} {kvs : List (Key × V)} (h : F d = some (.frz o (.dK kvs))) : Alike F (upd F d (.dK kvs)) := by
  refine ⟨fun a xs r => ?_, fun a xs r => ?_, fun a xs r => ?_, fun a xs r => ?_, fun a φ r => ?_⟩
  · by_cases e : a = d
    · subst e
      rcases r with r | ⟨o', r⟩ <;> (rw [h] at r; cases r)
    · rcases r with r | ⟨o', r⟩
      · exact .inl (by rw [upd_ne e]; exact r)
      · exact .inr ⟨o', by rw [upd_ne e]; exact r⟩
  · by_cases e : a = d
    · subst e
      rcases r with r | ⟨o', r⟩ <;> (rw [h] at r; cases r)
    · rcases r with r | ⟨o', r⟩
      · exact .inl (by rw [upd_ne e]; exact r)
      · exact .inr ⟨o', by rw [upd_ne e]; exact r⟩
  · by_cases e : a = d
    · subst e
      rw [h] at r; cases r
    · rw [upd_ne e]; exact r
  · by_cases e : a = d
    · subst e
      rcases r with r | ⟨o', r⟩
      · rw [h] at r; cases r
      · rw [h] at r
        cases r
        exact .inl upd_same
    · rcases r with r | ⟨o', r⟩
      · exact .inl (by rw [upd_ne e]; exact r)
      · exact .inr ⟨o', by rw [upd_ne e]; exact r⟩
  · by_cases e : a = d
    · subst e
      rcases r with r | ⟨o', r⟩ <;> (rw [h] at r; cases r)
    · rcases r with r | ⟨o', r⟩
      · exact .inl (by rw [upd_ne e]; exact r)
      · exact .inr ⟨o', by rw [upd_ne e]; exact r⟩
end
/-- set where something stands -/
def updIf (G : Hp) (d : Addr) (o : HO) : Hp := fun b => if b = d then (match G d with
  | some _ => some o
  | none => none) else G b
theorem updIf_ne {G : Hp} {d b : Addr} {o : HO} (h : b ≠ d) : updIf G d o b = G b := if_neg h
theorem updIf_none {G : Hp} {d b : Addr} {o : HO} : updIf G d o b = none ↔ G b = none := by
  unfold updIf
  by_cases e : b = d
  · subst e
    rw [if_pos rfl]
    cases G b <;> simp
  · rw [if_neg e]
theorem upd_none {F : Hp} {d b : Addr} {o u : HO} (h : F d = some u) : upd F d o b = none ↔ F b = none := by
  by_cases e : b = d
  · subst e
    rw [upd_same, h]
    simp
  · rw [upd_ne e]
section
variable {K : PySem.W.Frag} {α : Nat → Addr} {ρ : Env} {σ : L2.St} {H F G G' : Hp} {d : Addr} {o u : HO}
/-- one object of the data told otherwise -/
theorem Fits.told (f : Fits K α ρ σ H F G) (h : F d = some u) (a : Alike F (upd F d o)) (hG : ∀ b, G' b = none ↔ G b = none) (hG2 : Sub G' (upd H d o)) : Fits K α ρ σ (upd H d o) (upd F d o) G' := by
  refine ⟨f.fh.upd2, hG2, f.len, fun i s q => ?_, f.sep⟩
  obtain ⟨x, hx, so⟩ := f.slot i s q
  refine ⟨x, hx, ?_⟩
  have ne : ∀ {b : Addr}, F b = none → b ≠ d := fun {b} z e => by rw [e, h] at z; cases z
  cases s with
  | non => trivial
  | val e => obtain ⟨v, e1, r⟩ := so; exact ⟨v, e1, Rep.alike a _ _ r⟩
  | own e =>
    obtain ⟨b, e1, fb, gb, c⟩ := so
    exact ⟨b, e1, (upd_none h).mpr fb, (hG b).mpr gb, c.alike a fun w z => by rw [upd_ne (ne fb)]; exact z⟩
  | bor e =>
    obtain ⟨e1, fb, gb, c⟩ := so
    exact ⟨e1, (upd_none h).mpr fb, (hG _).mpr gb, c.alike a fun w z => by rw [upd_ne (ne fb)]; exact z⟩
end
/-! ### what a dict gives -/
inductive DW where | keys | vals | items
def keyD : Key → D
  | .inl i => .int i
  | .inr x => .str x
def walked (w : DW) (ks : List Key) (xs : List D) : List D := match w with
  | .keys => ks.map keyD
  | .vals => xs
  | .items => List.zipWith (fun k x => .tup [keyD k, x]) ks xs
def itOf (w : DW) (d : Addr) (o : Obj) (kvs : List (Key × V)) : It := match w with
  | .keys => Itk d o kvs
  | .vals => Itd d o kvs
  | .items => Iti d o kvs
section
variable {K : PySem.W.Frag} {F : Hp}
theorem rep_key (k : Key) : Rep K F (keyD k) (kV k) := by
  cases k with
  | inl i => exact rfl
  | inr x => exact rfl
theorem zip_at {ks : List Key} {vs : List V} {i : Nat} {k : Key} {v : V} (h : (ks.zip vs)[i]? = some (k, v)) : ks[i]? = some k ∧ vs[i]? = some v := by
  have := List.getElem?_zip_eq_some.mp h
  exact this
theorem jd_dic (w : DW) {d : Addr} {o : Obj} {ks : List Key} {xs : List D} {vs : List V} (h : F d = some (.frz o (.dK (ks.zip vs)))) (l : ks.length = xs.length) (r : Reps K F xs vs) : JD K F (itOf w d o (ks.zip vs)) (walked w ks xs) := fun H1 F1 s1 s2 => by
  have hd : H1 d = some (.frz o (.dK (ks.zip vs))) := s2 _ _ (s1 _ _ h)
  have r1 := Reps.mono s1 _ _ r
  have lz : (ks.zip vs).length = ks.length := by rw [List.length_zip, r.length, l, Nat.min_self]
  have lw : (walked w ks xs).length = ks.length := by
    cases w with
    | keys => exact List.length_map _
    | vals => exact l.symm
    | items => show (List.zipWith _ ks xs).length = _; rw [List.length_zipWith, l, Nat.min_self]
  have stop : (itOf w d o (ks.zip vs)).stop (walked w ks xs).length H1 := by
    cases w <;> exact ⟨hd, by rw [lw, lz]; exact Nat.le_refl _⟩
  refine ⟨fun i e he => ?_, stop⟩
  have hi : i < ks.length := by rw [← lw]; exact (List.getElem?_eq_some_iff.mp he).1
  have go : (itOf w d o (ks.zip vs)).go i H1 := by
    cases w <;> exact ⟨hd, by rw [lz]; exact hi⟩
  refine ⟨go, fun x H2 y => ?_⟩
  cases w with
  | keys =>
    obtain ⟨rfl, k, v, e1, rfl⟩ := y
    obtain ⟨e2, _⟩ := zip_at e1
    have he' : (ks.map keyD)[i]? = some e := he
    rw [List.getElem?_map, e2] at he'
    cases he'
    exact ⟨F1, Ext.refl s2, rep_key k⟩
  | vals =>
    obtain ⟨rfl, k, e1⟩ := y
    obtain ⟨_, e2⟩ := zip_at e1
    obtain ⟨v, hv, rv⟩ := r1.get (show xs[i]? = some e from he)
    rw [e2] at hv
    cases hv
    exact ⟨F1, Ext.refl s2, rv⟩
  | items =>
    obtain ⟨T, k, v, e1, rfl, hT, rfl⟩ := y
    obtain ⟨e2, e3⟩ := zip_at e1
    have he' : (List.zipWith (fun k x => D.tup [keyD k, x]) ks xs)[i]? = some e := he
    rw [List.getElem?_zipWith, e2] at he'
    cases e4 : xs[i]? with
    | none => rw [e4] at he'; cases he'
    | some x =>
      rw [e4] at he'
      cases he'
      obtain ⟨v', hv, rv⟩ := r1.get e4
      rw [e3] at hv
      cases hv
      exact ⟨_, Ext.alloc s2 hT, rep_pair (s2.free hT) (rep_key k) rv⟩
end
/-- what a name that holds a dict gives; it is plain data from then on -/
def dicAt (ρ : Env) (i : Nat) : Option (List Key × List D × Env) := match ρ[i]? with
  | some (.val (.dic ks xs)) => some (ks, xs, ρ)
  | some (.own (.dic ks xs)) => some (ks, xs, ρ.set i (.val (.dic ks xs)))
  | _ => none
def iDic (w : DW) (i : Nat) : Iv := fun ρ => match dicAt ρ i with
  | some (ks, xs, ρ1) => .ok (walked w ks xs) ρ1
  | none => .no
def offEx : ER → ER
  | .ex _ _ => .no
  | e => e
/-- [.. for .. in d.items()] -/
def dLcD (w : DW) (i : Nat) (vs : List Nat) (ft : D → Env → Option Env) (gt ge : Ev) : Ev := fun ρ => offEx (dLc (iDic w i) vs ft gt ge ρ)
theorem PE.or {X : Cx} {e : Expr} {t1 t2 : TE} (h1 : PE X e t1) (h2 : PE X e t2) : PE X e (fun σ H Q => t1 σ H Q ∨ t2 σ H Q) := ⟨fun pins s σ H Q I h => by
  rcases h with h | h
  · exact h1.run pins s σ H Q I h
  · exact h2.run pins s σ H Q I h⟩
/-- the reading of a walk over a dict that is locked -/
def iWalk (w : DW) (td : TE) : TI := fun σ H R => td σ H fun x H1 => ∃ d o kvs, x = .ref d ∧ H1 d = some (.frz o (.dK kvs)) ∧ R (itOf w d o kvs) H1
section
variable {K : PySem.W.Frag} {W : WX} {ft : D → Env → Option Env} {gt ge : Ev} {tch : List Nat} {vs : List Nat} {w : DW} {i : Nat}
theorem EC.off {W : WX} {α : Nat → Addr} {σ : L2.St} {F G : Hp} {Q : VK} : ∀ {e : ER}, EC K W α σ F G Q (offEx e) → EC K W0 α σ F G Q e
  | .ok r ρ, h => h
  | .ex x ρ, h => h.elim
  | .no, h => h
/-- the walk, the dict being locked -/
theorem ec_walk {α : Nat → Addr} {ρ : Env} {σ : L2.St} {H F G : Hp} {R : It → Hp → Prop} {d : Addr} {o : Obj} {ks : List Key} {xs : List D} {us : List V} (f : Fits K α ρ σ H F G) (hs : ρ[i]? = some (.val (.dic ks xs))) (hv : σ[i]? = some (some (.ref d))) (hF : F d = some (.frz o (.dK (ks.zip us)))) (l : ks.length = xs.length) (r : Reps K F xs us)
    (h : IC K W0 α σ F G R (iDic w i ρ)) : iWalk w (tVar i) σ H R := by
  have e2 : iDic w i ρ = .ok (walked w ks xs) ρ := by unfold iDic dicAt; rw [hs]
  rw [e2] at h
  exact ⟨.ref d, hv, d, o, _, rfl, f.fh _ _ hF, h _ H F (Grow.refl _ _) f (jd_dic w hF l r)⟩
theorem ec_lcD_val {α : Nat → Addr} {ρ : Env} {σ : L2.St} {H F G : Hp} {Q : VK} {ks : List Key} {xs : List D} (ht : ∀ j ∈ tch, j ∈ vs) (f : Fits K α ρ σ H F G) (hs : ρ[i]? = some (.val (.dic ks xs))) (h : EC K W α σ F G Q (dLcD w i vs ft gt ge ρ)) :
    tLockE (tLc (iWalk w (tVar i)) (tG K tch ft) (tT K W0 gt) (tE K W0 ge) vs) σ H Q ∨ tLc (iWalk w (tVar i)) (tG K tch ft) (tT K W0 gt) (tE K W0 ge) vs σ H Q := by
  obtain ⟨x, hx, v, rfl, d, us, rfl, rd, l, nd, r⟩ := f.slot i _ hs
  rcases rd with hF | ⟨o, hF⟩
  · refine .inl ⟨d, _, f.fh _ _ hF, trivial, fun od => ?_⟩
    let z : HO := .frz od (.dK (ks.zip us))
    have hH : H d = some (.dK (ks.zip us)) := f.fh _ _ hF
    have al : Alike F (upd F d z) := alike_lock hF
    have f0 : Fits K α ρ σ (upd H d z) (upd F d z) (updIf G d z) := f.told hF al (fun b => updIf_none) (fun b u e => by
      by_cases q : b = d
      · subst q
        rw [upd_same]
        have e' : (match G b with | some _ => some z | none => none) = some u := by
          have := e
          unfold updIf at this
          rw [if_pos rfl] at this
          exact this
        cases e2 : G b with
        | none => rw [e2] at e'; cases e'
        | some w => rw [e2] at e'; exact e'
      · rw [updIf_ne q] at e
        rw [upd_ne q]
        exact f.gh _ _ e)
    refine ec_lc_at (W := W0) ht f0 (fun R q => ec_walk f0 hs hx upd_same l (Reps.alike al _ _ r) q) ?_
    have key : ∀ {e : ER}, EC K W α σ F G Q (offEx e) → EC K W0 α σ (upd F d z) (updIf G d z) (fun v H' => H' d = some (.frz od (.dK (ks.zip us))) ∧ Q v (upd H' d (.dK (ks.zip us)))) e := by
      intro e h
      cases e with
      | no => exact h
      | ex x ρ1 => exact h.elim
      | ok rv ρ1 =>
        intro v H' F' g1 f1 r1
        have hz : F' d = some z := g1.sub _ _ upd_same
        have hz2 : H' d = some z := f1.fh _ _ hz
        refine ⟨hz2, ?_⟩
        have al2 : Alike F' (upd F' d (.dK (ks.zip us))) := alike_open hz
        have f2 : Fits K α ρ1 σ (upd H' d (.dK (ks.zip us))) (upd F' d (.dK (ks.zip us))) G := f1.told hz al2 (fun b => updIf_none.symm) (fun b u e => by
          by_cases q : b = d
          · subst q
            have := f.gh _ _ e
            rw [hH] at this
            cases this
            exact upd_same
          · rw [upd_ne q]
            exact f1.gh _ _ (by rw [updIf_ne q]; exact e))
        have g2 : Grow G F (upd F' d (.dK (ks.zip us))) := by
          refine ⟨fun a o e => ?_, fun a o e => ?_⟩
          · by_cases q : a = d
            · subst q
              rw [hF] at e
              cases e
              exact upd_same
            · rw [upd_ne q]
              exact g1.sub _ _ (by rw [upd_ne q]; exact e)
          · by_cases q : a = d
            · subst q
              rw [upd_same] at e
              cases e
              exact .inl hF
            · rw [upd_ne q] at e
              rcases g1.new a o e with w | ⟨w1, w2⟩
              · rw [upd_ne q] at w
                exact .inl w
              · exact .inr ⟨(upd_none hF).mp w1, updIf_none.mp w2⟩
        refine h v _ _ g2 f2 ?_
        cases rv with
        | val dd => exact Rep.alike al2 _ _ r1
        | loc j => exact r1
        | new dd =>
          obtain ⟨a, rfl, fa, ga, c, sp⟩ := r1
          have ne : a ≠ d := fun q => by rw [q, hz] at fa; cases fa
          exact ⟨a, rfl, by rw [upd_ne ne]; exact fa, updIf_none.mp ga, c.alike al2 fun w q => by rw [upd_ne ne]; exact q, sp⟩
    exact key h
  · exact .inr (ec_lc_at (W := W0) ht f (fun R q => ec_walk f hs hx hF l r q) (EC.off h))
theorem dicAt_own {ρ : Env} {i : Nat} {ks : List Key} {xs : List D} (h : ρ[i]? = some (.own (.dic ks xs))) : dLcD w i vs ft gt ge ρ = dLcD w i vs ft gt ge (ρ.set i (.val (.dic ks xs))) := by
  have hi : i < ρ.length := (List.getElem?_eq_some_iff.mp h).1
  have e : iDic w i ρ = iDic w i (ρ.set i (.val (.dic ks xs))) := by
    unfold iDic dicAt
    rw [h, List.getElem?_set_self hi]
  unfold dLcD dLc
  rw [e]
theorem ec_lcD {σ : L2.St} {H : Hp} {Q : VK} (ht : ∀ j ∈ tch, j ∈ vs) (h : tE K W (dLcD w i vs ft gt ge) σ H Q) :
    tLockE (tLc (iWalk w (tVar i)) (tG K tch ft) (tT K W0 gt) (tE K W0 ge) vs) σ H Q ∨ tLc (iWalk w (tVar i)) (tG K tch ft) (tT K W0 gt) (tE K W0 ge) vs σ H Q := by
  obtain ⟨α, ρ, F, G, f, h⟩ := h
  have no : dicAt ρ i = none → False := fun e => by
    have : dLcD w i vs ft gt ge ρ = .no := by
      unfold dLcD dLc iDic
      rw [e]
      rfl
    rw [this] at h
    exact h
  cases e : ρ[i]? with
  | none => exact (no (by unfold dicAt; rw [e])).elim
  | some s =>
    cases s with
    | non => exact (no (by unfold dicAt; rw [e])).elim
    | bor d => exact (no (by unfold dicAt; rw [e])).elim
    | val d =>
      cases d with
      | dic ks xs => exact ec_lcD_val ht f e h
      | _ => exact (no (by unfold dicAt; rw [e])).elim
    | own d =>
      cases d with
      | dic ks xs =>
        obtain ⟨x, hx, a, rfl, _⟩ := f.slot i _ e
        obtain ⟨F1, g1, f1, r1⟩ := f.freeze e hx
        have hi : i < ρ.length := (List.getElem?_eq_some_iff.mp e).1
        rw [dicAt_own e] at h
        exact ec_lcD_val ht f1 (List.getElem?_set_self hi) (EC.mono g1 h)
      | _ => exact (no (by unfold dicAt; rw [e])).elim
end
section
variable {X : Cx} {W : WX} {elt tg e : Expr} {ifs : List Expr} {scope : Scope} {own : List (Str × Nat)} {ft : D → Env → Option Env} {gt ge : Ev} {tch : List Nat} {pos apos cpos : Pos} {i : Nat} {x : Str} {w : DW} {iter : Expr}
theorem ed_lcD (hc : X.calm = true) (hN : X.N.Nodup) (ok : BlkOk X.N X.env.scope scope own) (ht : ∀ j ∈ tch, j ∈ own.map (·.2)) (hi : PI X tg iter (iWalk w (tVar i)))
    (hg : ∀ (s : Shared) (H : Hp) (C : Addr) (cl : List (Str × Addr)) (fp : List Addr), PG (X.blk s H scope (compEnvC scope cl C X.env) fp) tg (tG X.K tch ft)) (hif : ∀ (s : Shared) (H : Hp) (C : Addr) (cl : List (Str × Addr)) (fp : List Addr), PTs (X.blk s H scope (compEnvC scope cl C X.env) fp) ifs (tT X.K W0 gt))
    (he : ∀ (s : Shared) (H : Hp) (C : Addr) (cl : List (Str × Addr)) (fp : List Addr), PE (X.blk s H scope (compEnvC scope cl C X.env) fp) elt (tE X.K W0 ge)) (hs : ∀ x, foldedSetIterable iter X.env x = pure x := by intro _; rfl) :
    PE X (.ListComp elt [⟨tg, iter, ifs, 0⟩] scope pos) (tE X.K W (dLcD w i (own.map (·.2)) ft gt ge)) := by
  have p := pe_lc (pos := pos) hc hN hi ok hg hif he hs
  exact (PE.or (pe_lock p) p).weak fun σ H Q h => ec_lcD ht h
theorem iw_values (he : PE X e (tVar i)) (hbase : attributeBase e "values" X.env (eval e X.env) = eval e X.env := by rfl) (hline : (apos.endLine == cpos.line) = true := by rfl) : PI X tg (.Call (.Attribute e "values" apos) [] [] cpos) (iWalk .vals (tVar i)) := pi_values he hbase hline
theorem iw_items {elts : List Expr} {kk : Nat} {tpos : Pos} (he : PE X e (tVar i)) (hbase : attributeBase e "items" X.env (eval e X.env) = eval e X.env := by rfl) (hline : (apos.endLine == cpos.line) = true := by rfl) : PI X (.Tuple elts kk tpos) (.Call (.Attribute e "items" apos) [] [] cpos) (iWalk .items (tVar i)) := pi_items he hbase hline
end
end DL

/-! short words for the walks that a program prints. -/
namespace DL
open PySem PySem.Spec L2
variable [HasW]
/-! ### defs -/
structure FnC (P : Program) (w : World) (K : PySem.W.Frag) (mg : Str → Option Value) (base : Heap) (k : Nat) (x : Str) (ms : List Bool) (den : List D → DR) : Prop where
  ex : ∃ (f : Addr) (fd : FuncData) (ps : List Str), mg x = some (.ref f) ∧ PySem.W.keepIn K (.ref f) = true ∧ Binds K fd ps [] ∧ FnG P w K mg base k f fd ps (spD K ms den)
  loc : ∀ ds r outs, den ds = .ok r outs → ∀ i, r ≠ .loc i
/-- where a def of the text stands -/
structure DefAt (K : PySem.W.Frag) (mg : Str → Option Value) (x : Str) (st : Stmt) (ps : List Str) : Prop where
  ex : ∃ (f : Addr) (fd : FuncData), mg x = some (.ref f) ∧ Fun K x x st f fd ∧ Binds K fd ps []
section
variable {P : Program} {w : World} {K : PySem.W.Frag} {mg : Str → Option Value} {base : Heap}
theorem fnC_of {x : Str} {st : Stmt} {N ps : List Str} {k : Nat} {ms : List Bool} {g : Sv} (d : DefAt K mg x st ps) (S : FnScope N ps (defScope st)) (hm : ms.length = ps.length)
    (hb : ∀ (f : Addr) (cdv : Value) (A : Around) (outer : List PySem.Env) (s : Shared) (H : Hp) (E : XK), RoomG k (A.deeper (PyProof.Rows.envOfC x (defScope st) s.heap.objs.size f cdv)) →
      PSs (cxOf (L2.CX P w) P w K mg base N x (defScope st) f cdv A outer s H E) (defBody st) (tS K (fun cls d _ H' => E cls d H') g)) :
    FnC P w K mg base (k + 1) x ms (dDef N.length ms g) := by
  obtain ⟨f, fd, m, F, b⟩ := d.ex
  exact ⟨⟨f, fd, ps, m, F.kp, b, def_okG F S hm (hb f)⟩, fun ds r outs h => dDef_loc _ _ _ _ _ _ h⟩
theorem fnC_zero {x : Str} {st : Stmt} {ps : List Str} {ms : List Bool} {k : Nat} (d : DefAt K mg x st ps) (hm : ms.length = ps.length) : FnC P w K mg base k x ms fun _ => .no := by
  obtain ⟨f, fd, m, F, b⟩ := d.ex
  refine ⟨⟨f, fd, ps, m, F.kp, b, fun vs H Q E h => (spD_len vs H Q E h).trans hm, fun A up s H args us vs Q E _ _ _ _ h => ?_⟩, fun ds r outs h => by cases h⟩
  obtain ⟨α, F, G, ds, _, _, h⟩ := h
  exact h.elim
theorem FnC.mono {j k : Nat} {x : Str} {ms : List Bool} {den : List D → DR} (c : FnC P w K mg base j x ms den) (h : j ≤ k) : FnC P w K mg base k x ms den := by
  obtain ⟨f, fd, ps, m, kp, b, F⟩ := c.ex
  exact ⟨⟨f, fd, ps, m, kp, b, F.mono h⟩, c.loc⟩
end
section
variable {X : Cx} {W : WX} {e : Expr} {es : List Expr} {gs : Av} {pos p : Pos} {j k : Nat} {ms : List Bool} {den : List D → DR} {x : Str}
/-- f(..) -/
theorem ed_callF (c : FnC X.prog X.w X.K X.mg X.base k x ms den) (hr : RoomG j X.A) (tk : Takes X W) (ha : PA X (e :: es) (tA X.K W gs)) (hk : k ≤ j := by omega) (hg : Gl X x := by rfl) (hdb : (x == ("__debug__" : Str)) = false := by decide)
    (he : starEach (e :: es) X.env = (false, eval e X.env) :: starEach es X.env := by rfl) (hpl : (backTo pos (starEach es X.env)).any (·.1) = false := by rfl) : PE X (.Call (.Name x p) (e :: es) [] pos) (tE X.K W (dCall ms den gs)) := by
  obtain ⟨f, fd, ps, m, kp, b, F⟩ := c.ex
  exact ed_callG c.loc (F.mono hk) hr m kp b tk ha hg hdb he hpl
end
/-! ### constants of the module -/
structure GlobD (K : PySem.W.Frag) (mg : Str → Option Value) (x : Str) (d : D) : Prop where
  ex : ∃ u v, mg x = some u ∧ RelV v u ∧ ∀ F, Rep K F d v
/-- a flat value as data -/
def flatOk : Value → D → Bool
  | .none, .non => true
  | .bool a, .bl b => a == b
  | .int i _, .int j => decide (i = j)
  | .str x _, .str y => decide (x = y)
  | _, _ => false
def flatsOk : List Value → List D → Bool
  | [], [] => true
  | u :: us, d :: ds => flatOk u d && flatsOk us ds
  | _, _ => false
section
variable {K : PySem.W.Frag} {mg : Str → Option Value} {h : Heap} {x : Str}
theorem flatOk_rep {u : Value} {d : D} (e : flatOk u d = true) : ∃ v, RelV v u ∧ ∀ F, Rep K F d v := by
  unfold flatOk at e
  split at e
  · exact ⟨.non, rfl, fun F => rfl⟩
  · exact ⟨.bl _, rfl, fun F => by simp at e; subst e; rfl⟩
  · exact ⟨.int _, ⟨_, rfl⟩, fun F => by simp at e; subst e; rfl⟩
  · exact ⟨.str _, ⟨_, rfl⟩, fun F => by simp at e; subst e; rfl⟩
  · cases e
theorem flatsOk_rep : ∀ {us : List Value} {ds : List D}, flatsOk us ds = true → ∃ vs, Vals vs us ∧ ∀ F, Reps K F ds vs
  | [], [], _ => ⟨[], .nil, fun F => .nil⟩
  | [], _ :: _, e => by cases e
  | _ :: _, [], e => by cases e
  | u :: us, d :: ds, e => by
    have e' : (flatOk u d && flatsOk us ds) = true := e
    rw [Bool.and_eq_true] at e'
    obtain ⟨v, r1, h1⟩ := flatOk_rep (K := K) e'.1
    obtain ⟨vs, r2, h2⟩ := flatsOk_rep e'.2
    exact ⟨v :: vs, .cons r1 r2, fun F => .cons (h1 F) (h2 F)⟩
theorem glob_flat {u : Value} {d : D} (X : K.In h) (G : h.Ns mainGlobals mg) (a : PySem.W.nsIn K mainGlobals x = some (some u)) (e : flatOk u d = true) : GlobD K mg x d := by
  obtain ⟨v, r, hv⟩ := flatOk_rep (K := K) e
  exact ⟨u, v, PySem.W.mg_of X G a, r, hv⟩
theorem glob_tup {a : Addr} {dd : Option Addr} {us : Array Value} {n : Nat} {sl : Array (Option Value)} {ds : List D} (X : K.In h) (G : h.Ns mainGlobals mg) (e1 : PySem.W.nsIn K mainGlobals x = some (some (.ref a))) (e2 : K.lookup a = some ⟨.type "tuple", dd, .seq us n, sl⟩)
    (hs : us.size ≤ 1000) (e : flatsOk us.toList ds = true) : GlobD K mg x (.tup ds) := by
  obtain ⟨vs, r, hv⟩ := flatsOk_rep (K := K) e
  exact ⟨.ref a, .ref a, PySem.W.mg_of X G e1, rfl, fun F => ⟨a, vs, rfl, .inr ⟨_, us, n, e2, rfl, rfl, le_line hs, r⟩, hv F⟩⟩
theorem glob_lst {a : Addr} {us : Array Value} {n : Nat} {sl : Array (Option Value)} {ds : List D} (X : K.In h) (G : h.Ns mainGlobals mg) (e1 : PySem.W.nsIn K mainGlobals x = some (some (.ref a))) (e2 : K.lookup a = some ⟨.type "list", none, .seq us n, sl⟩)
    (hs : us.size ≤ 1000) (e : flatsOk us.toList ds = true) : GlobD K mg x (.scr ds) := by
  obtain ⟨vs, r, hv⟩ := flatsOk_rep (K := K) e
  exact ⟨.ref a, .ref a, PySem.W.mg_of X G e1, rfl, fun F => ⟨a, vs, rfl, .inr ⟨_, us, n, e2, rfl, rfl, rfl, le_line hs, r⟩, hv F⟩⟩
end
def seqOfK : D → List D
  | .tup xs => xs
  | .scr xs => xs
  | _ => []
section
variable {X : Cx} {W : WX} {a b e : Expr} {es : List Expr} {g ga gb : Ev} {gs : Av} {pos p : Pos} {j k : Nat} {x : Str} {d : D}
theorem ed_globD (c : GlobD X.K X.mg x d) (hg : Gl X x := by rfl) (hd : (x == ("__debug__" : Str)) = false := by decide) : PE X (.Name x pos) (tE X.K W (dC d)) := by
  obtain ⟨u, v, m, r, rd⟩ := c.ex
  exact ed_glob hg m r rd hd
/-! ### built-ins -/
theorem bo_len : bootBuiltins "len" = some (.builtin "len") := by decide +kernel
theorem bo_abs : bootBuiltins "abs" = some (.builtin "abs") := by decide +kernel
theorem bo_all : bootBuiltins "all" = some (.builtin "all") := by decide +kernel
theorem bo_any : bootBuiltins "any" = some (.builtin "any") := by decide +kernel
theorem bo_sum : bootBuiltins "sum" = some (.builtin "sum") := by decide +kernel
theorem bo_max : bootBuiltins "max" = some (.builtin "max") := by decide +kernel
theorem bo_min : bootBuiltins "min" = some (.builtin "min") := by decide +kernel
theorem bo_repr : bootBuiltins "repr" = some (.builtin "repr") := by decide +kernel
theorem bo_isi : bootBuiltins "isinstance" = some (.builtin "isinstance") := by decide +kernel
theorem bo_int : bootBuiltins "int" = some (.type "int") := by decide +kernel
theorem bo_str : bootBuiltins "str" = some (.type "str") := by decide +kernel
theorem bo_bool : bootBuiltins "bool" = some (.type "bool") := by decide +kernel
theorem bo_list : bootBuiltins "list" = some (.type "list") := by decide +kernel
theorem bo_tuple : bootBuiltins "tuple" = some (.type "tuple") := by decide +kernel
theorem bo_dict : bootBuiltins "dict" = some (.type "dict") := by decide +kernel
theorem ed_bi {id : String} {r : List V → Hp → VK → Prop} {f : List D → Option RV} (hc : CallR X (.builtin id) r) (o : OpN X.K r f) (hm : X.mg x = none) (hv : bootBuiltins x = some (.builtin id)) (ha : PA X (e :: es) (tA X.K W gs)) (hg : Gl X x := by rfl) (hn : x ≠ "__name__" := by decide) (hdb : (x == ("__debug__" : Str)) = false := by decide)
    (he : starEach (e :: es) X.env = (false, eval e X.env) :: starEach es X.env := by rfl) (hpl : (backTo pos (starEach es X.env)).any (·.1) = false := by rfl) : PE X (.Call (.Name x p) (e :: es) [] pos) (tE X.K W (dB f gs)) := ed_callB hc o hg hm hv ha hn hdb he hpl
theorem ed_bt {T : String} {r : List V → Hp → VK → Prop} {f : List D → Option RV} (hc : CallR X (.type T) r) (o : OpN X.K r f) (hm : X.mg x = none) (hv : bootBuiltins x = some (.type T)) (ha : PA X (e :: es) (tA X.K W gs)) (hg : Gl X x := by rfl) (hn : x ≠ "__name__" := by decide) (hdb : (x == ("__debug__" : Str)) = false := by decide)
    (he : starEach (e :: es) X.env = (false, eval e X.env) :: starEach es X.env := by rfl) (hpl : (backTo pos (starEach es X.env)).any (·.1) = false := by rfl) : PE X (.Call (.Name x p) (e :: es) [] pos) (tE X.K W (dB f gs)) := ed_callTy hc o hg hm hv ha hn hdb he hpl
/-- the name of a built-in type -/
theorem ed_ty {T : String} (hm : X.mg x = none) (hv : bootBuiltins x = some (.type T)) (hg : Gl X x := by rfl) (hn : x ≠ "__name__" := by decide) (hd : (x == ("__debug__" : Str)) = false := by decide) : PE X (.Name x pos) (tE X.K W (dC (.raw (.ty T)))) :=
  ed_bltn hg hm hv rfl hn hd
/-- - x -/
def opNeg : D → Option RV
  | .int i => some (.val (.int (-i)))
  | _ => none
theorem o_neg {K : PySem.W.Frag} : Op1 K (rU fun i => .int (-i)) opNeg := by
  intro F H d v z Q s a h q
  cases d with
  | int i => cases h; cases a; exact ⟨i, rfl, q _ H F (Ext.refl s) rfl⟩
  | _ => cases h
theorem ed_neg (ha : PE X a (tE X.K W ga)) : PE X (.UnaryOp .USub a pos) (tE X.K W (dOp1 opNeg ga)) := ed_un un_neg o_neg ha
/-- is None -/
def opIsN (d : D) : Option RV := match d with
  | .raw _ => none
  | .non => some (.val (.bl true))
  | _ => some (.val (.bl false))
end
/-! ### what stands at the top -/
section
variable {K : PySem.W.Frag} {mg : Str → Option Value} {h : Heap} {x : Str}
theorem defAt_of {st : Stmt} {ps : List Str} {f : Addr} {oc : Value} {od an : Option Addr} {osl : Array (Option Value)} {kV doc pm cdv ct : Value} (X : K.In h) (G : h.Ns mainGlobals mg) (a : PySem.W.nsIn K mainGlobals x = some (some (.ref f)))
    (l : K.lookup f = some ⟨oc, od, .func (PySem.W.fnOf x x (defArgs st) (defBody st) (defScope st) .none kV doc pm an cdv ct), osl⟩) (c : PySem.W.codeIn K cdv x = true) (k : PySem.W.keepIn K (.ref f) = true)
    (b : ∀ (kV doc pm : Value) (an : Option Addr) (cdv ct : Value) (us : List Value), us.length = ps.length → bindArgs (PySem.W.fnOf x x (defArgs st) (defBody st) (defScope st) .none kV doc pm an cdv ct) ⟨us, []⟩ = pure (ps.zip us)) : DefAt K mg x st ps :=
  ⟨⟨f, _, PySem.W.mg_of X G a, fun_mk l c k, (fun_mk (st := st) l c k).binds b⟩⟩
end
end DL

/-! sum(lists, start): a start that is a list. -/
namespace DL
open PySem PySem.Spec L2 Builtin
variable [HasW]
theorem sub_list_text : isSubtype (.type "list") (.type "str") = pure false := by rw [isSubtype_type]; kernel_rfl
theorem sub_list_bytes : isSubtype (.type "list") (.type "bytes") = pure false := by rw [isSubtype_type]; kernel_rfl
theorem sub_list_barr : isSubtype (.type "list") (.type "bytearray") = pure false := by rw [isSubtype_type]; kernel_rfl
theorem args_sum_two (a b : Value) : argsOk "sum" ⟨[a, b], []⟩ := by unfold argsOk; kernel_rfl
/-- a plain list object -/
abbrev lstO (its : List Value) (n : Nat) : Obj := { cls := .type "list", data := .seq its.toArray n }
section
variable {prog : Program} {w : World} {A : Around} {R : Result → Shared → Prop} {I : Addr} {fp wr : List Addr} {n : Nat} {P : Nat → Value → Prop} {St : Nat → Heap → Prop}
theorem sum_lists_loop (W : Walks prog w A.in1 I fp wr n P St) (S : Addr) (hfp : ∀ b ∈ fp, b < S) (pre : Nat → List Value) (big : ∀ i, i < n → (pre (i + 1)).length ≤ sizeLine) (base : Heap)
    (part : ∀ i v, P i v → ∃ a its c, v = .ref a ∧ base.get? a = some (lstO its c) ∧ pre (i + 1) = pre i ++ its ∧ a ∉ wr ∧ a ≠ S) :
    ∀ (k i : Nat) (s : Shared) (T c c2 : Nat), n - i = k → i ≤ n → St i s.heap → (∀ b o, b ∉ wr → b ≠ S → base.get? b = some o → s.heap.get? b = some o) → s.heap.get? S = some (lstO [.ref T] c) → T ≠ S → T ∉ wr → s.heap.get? T = some (lstO (pre i) c2) →
      (∀ h' tk T' c', (∀ b o, b ∉ wr → b ≠ S → s.heap.get? b = some o → h'.get? b = some o) → h'.get? T' = some (lstO (pre n) c') → (i = n ∧ T' = T) ∨ (i < n ∧ S < T') → R (.ok (.ret (.ref T'))) { s with heap := h', toks := tk }) →
      codeAny (model prog w) A (.builtin "sum.loop" ⟨[.ref I, .ref S, rawInt 2, rawInt 0], []⟩) R s := by
  have hS : S ∉ fp := fun h => Nat.lt_irrefl _ (hfp _ h)
  have hSw : S ∉ wr := fun h => hS (W.sub _ h)
  intro k
  induction k with
  | zero =>
    intro i s T c c2 hk hi st kept hSo hTS hTf hTo hR
    obtain rfl : i = n := by omega
    refine codeAny_builtin F.entry_sum_loop ?_
    rw [Around.under_plainId F.plain_sum_loop _]
    show wpAny _ A.in1 (seqItems? (.ref S) >>= _) _ _ s
    refine wpAny_bind (wpAny_seqItems hSo rfl ?_)
    show wpAny _ A.in1 (tryCatch (pyNext (.ref I)) _ >>= _) _ _ s
    refine wpAny_bind (wpAny_tryCatch (W.done s _ _ st fun h' tk hk' => ?_))
    exact wpAny_pure (hR h' tk T c2 (fun b o hb _ e => hk' b o hb e) (hk' T _ hTf hTo) (.inl ⟨rfl, rfl⟩))
  | succ k ih =>
    intro i s T c c2 hk hi st kept hSo hTS hTf hTo hR
    have hlt : i < n := by omega
    refine codeAny_builtin F.entry_sum_loop ?_
    rw [Around.under_plainId F.plain_sum_loop _]
    show wpAny _ A.in1 (seqItems? (.ref S) >>= _) _ _ s
    refine wpAny_bind (wpAny_seqItems hSo rfl ?_)
    show wpAny _ A.in1 (tryCatch (pyNext (.ref I)) _ >>= _) _ _ s
    refine wpAny_bind (wpAny_tryCatch (W.item i s _ _ hlt st fun v h' tk hP st' hk' => ?_))
    obtain ⟨a, its, ca, rfl, ha, hpre, haw, haS⟩ := part i v hP
    have hSo' := hk' S _ hSw hSo
    have hTo' := hk' T _ hTf hTo
    have ha' := hk' a _ haw (kept a _ haw haS ha)
    have hsz : (pre i).toArray.size + its.toArray.size ≤ sizeLine := by
      have := big i hlt
      rw [hpre, List.length_append] at this
      simpa using this
    show wpAny _ A.in1 ((holding [Value.ref a] (binaryOp .Add (.ref T) (.ref a))).attempt >>= _) _ _ _
    refine wpAny_bind (wpAny_attempt (wpAny_holding (PySem.P.add_list hTo' ha' ?_ hsz)))
    have hSlt : S < h'.objs.size := Heap.lt_size hSo'
    have hS1 : (h'.push { cls := .type "list", data := .seq ((pre i).toArray ++ its.toArray) }).get? S = some (lstO [.ref T] c) := Heap.get?_push_of_some _ hSo'
    show wpAny _ A.in1 (updateSeq S (fun _ => #[.ref h'.objs.size]) >>= _) _ _ _
    refine wpAny_bind ?_
    refine wpAny_updateSeq hS1 rfl ?_
    have hS2 := Heap.get?_update_self (Obj.mapSeq fun _ => #[Value.ref h'.objs.size]) hS1 rfl
    refine wpAny_bind (wpAny_letGo ?_)
    refine wpAny_bind ?_
    refine wpAny_updateSeq hS2 rfl (wpAny_pure ⟨plainId_quiet F.plain_sum_loop _, ?_⟩)
    have ea : (pre i).toArray ++ its.toArray = (pre (i + 1)).toArray := by rw [hpre]; simp
    have hN : (h'.push { cls := .type "list", data := .seq ((pre i).toArray ++ its.toArray) }).get? h'.objs.size = some (lstO (pre (i + 1)) 0) := by
      rw [ea]
      exact Heap.get?_push_size _ rfl
    have up : ∀ b o, b ≠ S → h'.get? b = some o → (((h'.push { cls := .type "list", data := .seq ((pre i).toArray ++ its.toArray) }).update S (Obj.mapSeq fun _ => #[.ref h'.objs.size])).update S (Obj.mapSeq fun _ => #[.ref h'.objs.size])).get? b = some o := fun b o hb e =>
      (Heap.get?_update_other _ _ (Ne.symm hb)).trans ((Heap.get?_update_other _ _ (Ne.symm hb)).trans (Heap.get?_push_of_some _ e))
    have hNS : h'.objs.size ≠ S := fun e => by rw [e] at hSlt; exact Nat.lt_irrefl _ hSlt
    refine ih (i + 1) _ h'.objs.size _ 0 (by omega) hlt (W.frame _ _ _ st' fun b hb o e => up b o (fun z => hS (z ▸ hb)) e) (fun b o hb1 hb2 e => up b o hb2 (hk' b o hb1 (kept b o hb1 hb2 e))) (Heap.get?_update_self _ hS2 rfl) hNS (fun m => Nat.lt_irrefl _ (Nat.lt_trans (hfp _ (W.sub _ m)) hSlt)) ?_ fun h'' tk'' T' c' hk'' hT' hor => ?_
    · exact (Heap.get?_update_other _ _ (Ne.symm hNS)).trans ((Heap.get?_update_other _ _ (Ne.symm hNS)).trans hN)
    · refine hR h'' tk'' T' c' (fun b o hb1 hb2 e => hk'' b o hb1 hb2 (up b o hb2 (hk' b o hb1 e))) hT' (.inr ⟨hlt, ?_⟩)
      rcases hor with ⟨_, rfl⟩ | ⟨_, q⟩
      · exact hSlt
      · exact q
/-- sum(xs, start) at the heap -/
theorem call_sum_lists {E : Value → Shared → Prop} {s : Shared} {l b : Addr} {items start : List Value} {cb : Nat} {Q : Value → Shared → Prop} (pre : Nat → List Value) (hh : A.handled = none) (hl : s.heap.IsList l items.toArray) (hb : s.heap.get? b = some (lstO start cb)) (p0 : pre 0 = start)
    (big : ∀ i, i < items.length → (pre (i + 1)).length ≤ sizeLine) (part : ∀ i v, items[i]? = some v → ∃ a its c, v = .ref a ∧ s.heap.get? a = some (lstO its c) ∧ pre (i + 1) = pre i ++ its)
    (hQ : ∀ h' tk T c, (∀ b o, s.heap.get? b = some o → h'.get? b = some o) → h'.get? T = some (lstO (pre items.length) c) → (items = [] ∧ T = b) ∨ (items ≠ [] ∧ s.heap.objs.size ≤ T) → Q (.ref T) { s with heap := h', toks := tk }) :
    wpAny (model prog w) A (call (.builtin "sum") [.ref l, .ref b]) Q E s := by
  have hbt : s.TypeIs (.ref b) "list" := ⟨_, hb, rfl⟩
  refine call_function_tree F.kind_sum F.plain_sum F.entry_sum (args_sum_two _ _) ?_
  unfold Builtin.«sum»
  simp only [List.length_cons, List.length_nil]
  rw [if_neg (by decide)]
  refine wpAny_bind (wpAny_of_eq (show Builtin.Builtins.bindParams "sum" ["start"] 0 ⟨[.ref b], []⟩ = pure [some (.ref b)] from rfl) ?_)
  refine wpAny_bind (wpAny_pyIter_list hl ?_)
  have hlt : l < s.heap.objs.size := by obtain ⟨_, e, _⟩ := hl; exact Heap.lt_size e
  have hit : (s.heap.push { cls := .type "list_iterator", data := .fields #[.ref l, .int 0 0] }).IsListIter s.heap.objs.size l 0 := ⟨_, Heap.get?_push_size _ rfl, rfl, rfl⟩
  have hl2 := hl.push { cls := .type "list_iterator", data := .fields #[.ref l, .int 0 0] }
  have hb2 : (s.heap.push { cls := .type "list_iterator", data := .fields #[.ref l, .int 0 0] }).get? b = some (lstO start cb) := Heap.get?_push_of_some _ hb
  have hbt2 : ({ s with heap := s.heap.push { cls := .type "list_iterator", data := .fields #[.ref l, .int 0 0] } } : Shared).TypeIs (.ref b) "list" := ⟨_, hb2, rfl⟩
  have W := Walks.list (prog := prog) (w := w) (A := A.in1) hh s.heap.objs.size l (Nat.ne_of_lt hlt) items.toArray
  refine wpAny_bind (wpAny_pure ?_)
  simp only [List.forIn_cons, List.forIn_nil]
  refine wpAny_bind (wpAny_bind (wpAny_bind (wpAny_isInstance (T := "list") (b := false) hbt2 sub_list_text ?_)))
  simp only [Bool.false_eq_true, if_false]
  refine wpAny_pure (wpAny_bind (wpAny_bind (wpAny_isInstance (T := "list") (b := false) hbt2 sub_list_bytes ?_)))
  simp only [Bool.false_eq_true, if_false]
  refine wpAny_pure (wpAny_bind (wpAny_bind (wpAny_isInstance (T := "list") (b := false) hbt2 sub_list_barr ?_)))
  simp only [Bool.false_eq_true, if_false]
  refine wpAny_pure (wpAny_pure ?_)
  refine wpAny_bind (wpAny_newObj_type ?_)
  let h2 := s.heap.push { cls := .type "list_iterator", data := .fields #[.ref l, .int 0 0] }
  have old : ∀ c o, s.heap.get? c = some o → c ≠ h2.objs.size ∧ c ∉ [s.heap.objs.size] := fun c o e => by
    have q := Heap.lt_size e
    refine ⟨?_, ?_⟩
    · show c ≠ (s.heap.push _).objs.size
      rw [Heap.size_push]
      exact Nat.ne_of_lt (Nat.lt_succ_of_lt q)
    · intro m
      rw [List.mem_singleton] at m
      exact Nat.ne_of_lt q m
  have hsz : h2.objs.size = s.heap.objs.size + 1 := Heap.size_push _ _
  refine wpAny_pure ⟨plainId_quiet F.plain_sum_loop _, sum_lists_loop (n := items.toArray.size) W h2.objs.size (fun c hc => ?_) pre (fun i hi => big i (by simpa using hi)) s.heap (fun i v hv => ?_) items.toArray.size 0 _ b _ cb (by omega) (Nat.zero_le _) ⟨?_, ?_⟩ (fun c o hc1 hc2 e => Heap.get?_push_of_some _ (Heap.get?_push_of_some _ e)) (Heap.get?_push_size _ rfl) ?_ ?_ ?_ fun h' tk T c kp hT hor => ?_⟩
  · rw [hsz]
    rcases List.mem_cons.mp hc with rfl | hc
    · exact Nat.lt_succ_self _
    · rw [List.mem_singleton] at hc
      rw [hc]
      exact Nat.lt_succ_of_lt hlt
  · obtain ⟨a, its, c, rfl, ha, hp⟩ := part i v (by simpa using hv)
    exact ⟨a, its, c, rfl, ha, hp, (old a _ ha).2, (old a _ ha).1⟩
  · obtain ⟨o, e, r⟩ := hit
    exact ⟨o, Heap.get?_push_of_some _ e, r⟩
  · exact hl2.push _
  · exact (old b _ hb).1
  · exact (old b _ hb).2
  · rw [p0]
    exact Heap.get?_push_of_some _ hb2
  · have e1 : items.toArray.size = items.length := by simp
    rw [e1] at hT hor
    refine hQ h' tk T c (fun a o e => kp a o (old a o e).2 (old a o e).1 (Heap.get?_push_of_some _ (Heap.get?_push_of_some _ e))) hT ?_
    rcases hor with ⟨q, rfl⟩ | ⟨q, r⟩
    · exact .inl ⟨List.length_eq_zero_iff.mp q.symm, rfl⟩
    · refine .inr ⟨fun z => by rw [z] at q; exact Nat.lt_irrefl _ q, ?_⟩
      rw [hsz] at r
      exact Nat.le_of_lt (Nat.lt_of_succ_lt r)
end
def rSumL (K : PySem.W.Frag) : List V → Hp → VK → Prop := fun vs H Q => ∃ (a b : Addr) (ls : List (Addr × List V)) (zs : List V), vs = [.ref a, .ref b] ∧ SqL K H a (ls.map fun p => .ref p.1) ∧ (∀ p ∈ ls, H p.1 = some (.lst p.2)) ∧ H b = some (.lst zs) ∧
  zs.length + (ls.map (·.2)).flatten.length ≤ sizeLine ∧ (ls = [] → Q (.ref b) H) ∧ (ls ≠ [] → ∀ p, H p = none → Q (.ref p) (upd H p (.lst (zs ++ (ls.map (·.2)).flatten))))
section
variable {X : Cx} {pins : List (Addr × Obj)} {σ : L2.St} {H : Hp} {s : Shared}
theorem lists_at (I : Inv X pins σ H s) : ∀ {ls : List (Addr × List V)}, (∀ p ∈ ls, H p.1 = some (.lst p.2)) → ∃ vss : List (List Value), vss.length = ls.length ∧ Vals (ls.map (·.2)).flatten vss.flatten ∧ ∀ (i : Nat) (p : Addr × List V) (vs : List Value), ls[i]? = some p → vss[i]? = some vs → ∃ n, s.heap.get? p.1 = some (lstO vs n)
  | [], _ => ⟨[], rfl, .nil, fun i p vs e => by simp at e⟩
  | p :: ls, h => by
    obtain ⟨_, its, n, r, hl, e⟩ := I.lstM (h p List.mem_cons_self)
    obtain ⟨vss, h1, h2, h3⟩ := lists_at I fun q hq => h q (List.mem_cons_of_mem _ hq)
    refine ⟨its :: vss, by simp [h1], ?_, fun i q vs e1 e2 => ?_⟩
    · rw [List.map_cons, List.flatten_cons, List.flatten_cons]
      exact r.append h2
    · cases i with
      | zero => simp at e1 e2; subst e1; subst e2; exact ⟨n, e⟩
      | succ i => exact h3 i q vs (by simpa using e1) (by simpa using e2)
theorem call_sumL (hc : X.calm = true) : CallR X (.builtin "sum") (rSumL X.K) := by
  rintro pins s σ H vs us Q I rv ⟨a, b, ls, zs, rfl, hq, hls, hb, hz, q0, q1⟩
  obtain ⟨u1, u2, rfl, r1, r2⟩ := vals2 rv
  cases r1
  cases r2
  obtain ⟨its, ri, pl, _⟩ := I.list hq
  obtain ⟨_, st, nb, rs, _, eb⟩ := I.lstM hb
  obtain ⟨vss, v1, v2, v3⟩ := lists_at I hls
  have li : its.length = ls.length := by have := ri.length; simpa using this.symm
  have lz : st.length = zs.length := rs.length.symm
  have pre_le : ∀ i, (vss.take i).flatten.length ≤ (ls.map (·.2)).flatten.length := fun i => by
    have e : (ls.map (·.2)).flatten.length = vss.flatten.length := v2.length
    have : vss.flatten = (vss.take i).flatten ++ (vss.drop i).flatten := by rw [← List.flatten_append, List.take_append_drop]
    rw [e, this, List.length_append]
    omega
  refine call_sum_lists (fun i => st ++ (vss.take i).flatten) (I.ok.hd hc) pl.isList eb (by simp) (fun i _ => ?_) (fun i v hv => ?_) fun h' tk T c hk hT hor => ?_
  · rw [List.length_append]
    have := pre_le (i + 1)
    omega
  · have hi : i < ls.length := by rw [← li]; exact (List.getElem?_eq_some_iff.mp hv).1
    have hi2 : i < vss.length := by rw [v1]; exact hi
    obtain ⟨n, e⟩ := v3 i ls[i] vss[i] (List.getElem?_eq_getElem hi) (List.getElem?_eq_getElem hi2)
    obtain ⟨w, ew, rw'⟩ := ri.get (i := i) (show (ls.map fun p => V.ref p.1)[i]? = some (.ref ls[i].1) by rw [List.getElem?_map, List.getElem?_eq_getElem hi]; rfl)
    rw [hv] at ew
    cases ew
    cases rw'
    refine ⟨ls[i].1, vss[i], n, rfl, e, ?_⟩
    rw [List.take_succ, List.getElem?_eq_getElem hi2]
    show st ++ (vss.take i ++ [vss[i]]).flatten = st ++ (vss.take i).flatten ++ vss[i]
    rw [List.flatten_append, List.flatten_cons, List.flatten_nil, List.append_nil, List.append_assoc]
  · rcases hor with ⟨z, rfl⟩ | ⟨z, q⟩
    · have : ls = [] := List.length_eq_zero_iff.mp (by rw [← li, z]; rfl)
      exact ⟨.ref _, H, I.kept hk, rfl, q0 this⟩
    · have ne : ls ≠ [] := fun w => z (List.length_eq_zero_iff.mp (by rw [li, w]; rfl))
      have e2 : vss.take its.length = vss := List.take_of_length_le (by omega)
      rw [e2] at hT
      have vv : Vals (zs ++ (ls.map (·.2)).flatten) (st ++ vss.flatten) := rs.append v2
      have ob : ObjOk X.prog X.w (upd H T (.lst (zs ++ (ls.map (·.2)).flatten))) h' T (.lst (zs ++ (ls.map (·.2)).flatten)) := by
        refine ⟨?_, st ++ vss.flatten, c, vv, hT⟩
        rw [List.length_append]
        exact hz
      exact ⟨.ref T, _, I.laid hk q ob, rfl, q1 ne T (I.hok.fresh q)⟩
end
/-! ### over data -/
def lists : List D → Option (List (List D))
  | [] => some []
  | .lst xs :: r => (lists r).map (xs :: ·)
  | _ => none
def fSumL : List D → Option RV
  | [.lst ls, .lst zs] => match lists ls with
    | some [] => if zs.length ≤ sizeLine then some (.val (.lst zs)) else none
    | some (x :: xs) => if zs.length + (x :: xs).flatten.length ≤ sizeLine then some (.new (.lst (zs ++ (x :: xs).flatten))) else none
    | none => none
  | _ => none
theorem lists_rep {K : PySem.W.Frag} {F : Hp} : ∀ {ls : List D} {xss : List (List D)} {vs : List V}, Reps K F ls vs → lists ls = some xss → ∃ ps : List (Addr × List V), vs = ps.map (fun p => .ref p.1) ∧ (∀ p ∈ ps, F p.1 = some (.lst p.2)) ∧ Reps K F xss.flatten (ps.map (·.2)).flatten ∧ ps.length = xss.length
  | [], xss, vs, r, e => by
    cases r
    cases e
    exact ⟨[], rfl, (fun p h => by cases h), .nil, rfl⟩
  | d :: ls, xss, vs, r, e => by
    obtain ⟨v, t, rfl, a, b⟩ := r
    cases d with
    | lst xs =>
      obtain ⟨yss, e1, rfl⟩ := Option.map_eq_some_iff.mp (show (lists ls).map (xs :: ·) = some xss from e)
      obtain ⟨p, ws, rfl, q, rr⟩ := a
      obtain ⟨ps, rfl, h1, h2, h3⟩ := lists_rep b e1
      refine ⟨(p, ws) :: ps, rfl, fun z hz => ?_, ?_, by simp [h3]⟩
      · rcases List.mem_cons.mp hz with rfl | hz
        · exact q
        · exact h1 z hz
      · rw [List.flatten_cons, List.map_cons, List.flatten_cons]
        exact rr.append h2
    | _ => cases e
theorem sumL_sound {K : PySem.W.Frag} {F H : Hp} {ds : List D} {vs : List V} {z : RV} {Q : VK} (s : Sub F H) (v : Reps K F ds vs) (h : fSumL ds = some z) (q : ∀ w H' F', Ext H F H' F' → ORep K H F' H' z w → Q w H') : rSumL K vs H Q := by
  unfold fSumL at h
  split at h
  · rename_i ls zs
    obtain ⟨u, t, rfl, ⟨a, ws, rfl, q1, r1⟩, u2, t2, rfl, ⟨b, us, rfl, q2, r2⟩, rfl⟩ := v
    cases e : lists ls with
    | none => rw [e] at h; cases h
    | some xss =>
      obtain ⟨ps, rfl, h1, h2, h3⟩ := lists_rep r1 e
      have hl := h2.length
      rw [e] at h
      cases xss with
      | nil =>
        have h : (if zs.length ≤ sizeLine then some (RV.val (.lst zs)) else none) = some z := h
        split at h
        · rename_i hz
          cases h
          have ne : ps = [] := List.length_eq_zero_iff.mp h3
          subst ne
          refine ⟨a, b, [], us, rfl, SqL.of (s _ _ q1), fun p hp => (nomatch hp), s _ _ q2, by rw [r2.length]; simpa using hz, fun _ => q _ H F (Ext.refl s) ⟨b, us, rfl, q2, r2⟩, fun w => absurd rfl w⟩
        · cases h
      | cons x xs =>
        have h : (if zs.length + (x :: xs).flatten.length ≤ sizeLine then some (RV.new (.lst (zs ++ (x :: xs).flatten))) else none) = some z := h
        split at h
        · rename_i hz
          cases h
          have ne : ps ≠ [] := fun w => by rw [w] at h3; cases h3
          refine ⟨a, b, ps, us, rfl, SqL.of (s _ _ q1), fun p hp => s _ _ (h1 p hp), s _ _ q2, by rw [r2.length, hl]; exact hz, fun w => absurd w ne, fun _ p hp => ?_⟩
          exact q _ _ _ (Ext.allocO s hp) ⟨p, rfl, hp, s.free hp, _, upd_same, r2.append h2⟩
        · cases h
  · cases h
def dSumL (gs : Av) : Ev := dFz gs fun ds ρ => ER.of (fSumL ds) ρ
section
variable {X : Cx} {W : WX} {a b : Expr} {gs : Av} {pos p : Pos}
theorem ed_sumL (hc : X.calm = true) (hm : X.mg "sum" = none) (ha : PA X [a, b] (tA X.K W gs)) (hg : Gl X "sum" := by rfl)
    (he : starEach [a, b] X.env = (false, eval a X.env) :: starEach [b] X.env := by rfl) (hpl : (backTo pos (starEach [b] X.env)).any (·.1) = false := by rfl) :
    PE X (.Call (.Name "sum" p) [a, b] [] pos) (tE X.K W (dSumL gs)) := by
  refine (pe_callB (call_sumL hc) hg hm bo_sum ha (by decide) (by decide) he hpl).weak fun σ H Q h => ac_fz h fun α ρ2 F G H1 ds vs f r hh => ?_
  cases e : fSumL ds with
  | none => rw [e] at hh; exact hh.elim
  | some z =>
    rw [e] at hh
    exact sumL_sound f.fh r e (EC.op f hh)
end
end DL

/-! d.get(k, x). -/
namespace DL
open PySem PySem.Spec L2
variable [HasW]
def dGet2 (go ge gf : Ev) : Ev := fun ρ => (go ρ).settle.bind fun r ρ1 => match peek r ρ1 with
  | some (.dic _ _) => (ge ρ1).settle.bind fun r1 ρ2 => (gf ρ2).settle.bind fun r2 ρ3 => match peek r ρ3, peek r1 ρ3, frz r2 ρ3 with
    | some (.dic ks xs), some k, some (d, ρ4) => match keyOf k with
      | some k => .ok (.val ((dGet ks xs k).getD d)) ρ4
      | none => .no
    | _, _, _ => .no
  | _ => .no
section
variable {X : Cx} {W : WX} {o e f : Expr} {go ge gf : Ev} {apos cpos : Pos} {k : Nat}
theorem ed_dget2 (hr : RoomG k X.A) (ho : PE X o (tE X.K W go)) (he : PE X e (tE X.K W ge)) (hf : PE X f (tE X.K W gf)) (m : M2 X o "get" apos e f cpos := by exact ⟨rfl, rfl, rfl, rfl⟩) :
    PE X (.Call (.Attribute o "get" apos) [e, f] [] cpos) (tE X.K W (dGet2 go ge gf)) := by
  refine (pe_dget2 (u1 hr) ho he hf m).weak fun σ H Q ⟨α, ρ, F, G, ft, h⟩ => ⟨α, ρ, F, G, ft, EC.bindS (fun r ρ1 v H1 F1 g1 f1 s1 h1 => ?_) h⟩
  cases e1 : peek r ρ1 with
  | none => simp [e1, EC] at h1
  | some d0 =>
    cases d0 with
    | dic ks0 xs0 =>
      simp only [e1] at h1
      obtain ⟨a, us, rfl, q1, _⟩ := f1.peek s1 e1
      refine ⟨a, rfl, .inl ⟨_, q1⟩, α, ρ1, F1, G, f1, EC.bindS (fun r1 ρ2 y H2 F2 g2 f2 s2 h2 => ?_) h1⟩
      refine ⟨α, ρ2, F2, G, f2, EC.bindS (fun r2 ρ3 z H3 F3 g3 f3 s3 h3 => ?_) h2⟩
      cases e2 : peek r ρ3 with
      | none => simp [e2, EC] at h3
      | some dd =>
        cases e3 : peek r1 ρ3 with
        | none => simp [e2, e3, EC] at h3
        | some kk =>
          cases e4 : frz r2 ρ3 with
          | none => simp [e2, e3, e4, EC] at h3
          | some w =>
            obtain ⟨d, ρ4⟩ := w
            cases dd with
            | dic ks xs =>
              simp only [e2, e3, e4] at h3
              cases e5 : keyOf kk with
              | none => simp [e5, EC] at h3
              | some key =>
                simp only [e5] at h3
                obtain ⟨a', vs, ea, q2, l, nd, rr⟩ := f3.peek (s1.mono (g2.sub.trans g3.sub)) e2
                cases ea
                have hk := view_flat (f3.peek (s2.mono g3.sub) e3) e5
                subst hk
                obtain ⟨F4, g4, f4, r4⟩ := f3.frz s3 e4
                refine ⟨_, .inl ⟨_, key, q2, rfl, rfl⟩, ?_⟩
                have rel := dGet_rep (k := key) (Reps.mono g4.sub _ _ rr) l
                cases e6 : dGet ks xs key with
                | none =>
                  rw [rel.2.1 e6]
                  rw [e6] at h3
                  exact h3 _ H3 F4 g4 f4 r4
                | some d1 =>
                  obtain ⟨v1, hv1, rv1⟩ := rel.1 d1 e6
                  rw [hv1]
                  rw [e6] at h3
                  exact h3 _ H3 F4 g4 f4 rv1
            | _ => simp [e2, e3, e4, EC] at h3
    | _ => simp [e1, EC] at h1
end
@[simp] theorem dGet2_ap {go ge gf : Ev} {ρ : Env} : dGet2 go ge gf ρ = (go ρ).settle.bind fun r ρ1 => match peek r ρ1 with
  | some (.dic _ _) => (ge ρ1).settle.bind fun r1 ρ2 => (gf ρ2).settle.bind fun r2 ρ3 => match peek r ρ3, peek r1 ρ3, frz r2 ρ3 with
    | some (.dic ks xs), some k, some (d, ρ4) => match keyOf k with
      | some k => .ok (.val ((dGet ks xs k).getD d)) ρ4
      | none => .no
    | _, _, _ => .no
  | _ => .no := rfl
@[simp] theorem dSumL_ap {gs : Av} {ρ : Env} : dSumL gs ρ = dFz gs (fun ds ρ => ER.of (fSumL ds) ρ) ρ := rfl
end DL

/-! is None, is not None. -/
namespace DL
open PySem PySem.Spec L2
variable [HasW]
def opNotN (d : D) : Option RV := match d with
  | .raw _ => none
  | .non => some (.val (.bl false))
  | _ => some (.val (.bl true))
theorem View.isN {K : PySem.W.Frag} {F H : Hp} {d : D} {v : V} (h : View K F H d v) (n : ∀ u, d ≠ .raw u) : decide (v = .non) = (match d with | .non => true | _ => false) := by
  cases d with
  | raw u => exact absurd rfl (n u)
  | non => cases h; rfl
  | bl _ => cases h; rfl
  | int _ => cases h; rfl
  | str _ => cases h; rfl
  | tup _ => obtain ⟨a, vs, rfl, _⟩ := h; rfl
  | lst _ => obtain ⟨a, vs, rfl, _⟩ := h; rfl
  | scr _ => obtain ⟨a, vs, rfl, _⟩ := h; rfl
  | dic _ _ => obtain ⟨a, vs, rfl, _⟩ := h; rfl
  | dct _ _ => obtain ⟨a, vs, rfl, _⟩ := h; rfl
theorem o_isN {K : PySem.W.Frag} : Op1 K (fun x H Q => Q (.bl (decide (x = .non))) H) opIsN := by
  intro F H d v z Q s a h q
  have key := fun n => View.isN (K := K) a n
  cases d <;> first | (cases h; done) | (cases h; rw [key (by intro u e; cases e)]; exact q _ H F (Ext.refl s) rfl)
theorem o_notN {K : PySem.W.Frag} : Op1 K (fun x H Q => Q (.bl (!decide (x = .non))) H) opNotN := by
  intro F H d v z Q s a h q
  have key := fun n => View.isN (K := K) a n
  cases d <;> first | (cases h; done) | (cases h; rw [key (by intro u e; cases e)]; exact q _ H F (Ext.refl s) rfl)
def BoolF1 (f : D → Option RV) : Prop := ∀ x z, f x = some z → ∃ c, z = .val (.bl c)
theorem bf_isN : BoolF1 opIsN := fun x z h => by cases x <;> cases h <;> exact ⟨_, rfl⟩
theorem bf_notN : BoolF1 opNotN := fun x z h => by cases x <;> cases h <;> exact ⟨_, rfl⟩
section
variable {X : Cx} {W : WX} {a b : Expr} {ga : Ev} {pos p : Pos} {op : CmpOp} {j : Option Str}
theorem cd_isN {j} (ha : PE X a (tE X.K W ga)) : PC X .Is a (.Constant .none j p) (tE X.K W (dOp1 opIsN ga)) :=
  (pc_isN ha).weak fun _ _ _ h => ec_op1 o_isN h
theorem cd_notN {j} (ha : PE X a (tE X.K W ga)) : PC X .IsNot a (.Constant .none j p) (tE X.K W (dOp1 opNotN ga)) :=
  (pc_notN ha).weak fun _ _ _ h => ec_op1 o_notN h
theorem td_ofC1 {f : D → Option RV} (h : PC X op a b (tE X.K W (dOp1 f ga))) (hf : BoolF1 f) (hm : behindInMarks op b = false := by first | exact nomark _ | rfl) : PT X (.Compare a [op] [b] pos) (tT X.K W (dOp1 f ga)) := by
  refine (pt_cmp h hm).weak fun σ H Q ⟨α, ρ, F, G, ft, h⟩ => ⟨α, ρ, F, G, ft, ?_⟩
  have key : ∀ {e : ER}, (∀ r ρ', e = .ok r ρ' → ∃ c, r = .val (.bl c)) → BC X.K W α σ F G Q e → EC X.K W α σ F G (fun x H' => ∃ c, x = .bl c ∧ Q c H') e := by
    intro e he hb
    cases e with
    | no => exact hb
    | ex x ρ1 => exact hb
    | ok r ρ1 =>
      obtain ⟨c, rfl⟩ := he r ρ1 rfl
      exact fun v H1 F1 g1 f1 r1 => ⟨c, r1, hb H1 F1 g1 f1⟩
  refine key (fun r ρ' q => ?_) h
  unfold dOp1 at q
  cases e1 : (ga ρ).settle with
  | no => simp [e1, ER.bind] at q
  | ex x ρ1 => simp [e1, ER.bind] at q
  | ok r1 ρ1 =>
    simp only [e1, ER.bind] at q
    cases e3 : peek r1 ρ1 with
    | none => simp [e3] at q
    | some x =>
      simp only [e3] at q
      cases e4 : f x with
      | none => simp [e4, ER.of] at q
      | some z =>
        simp only [e4, ER.of] at q
        cases q
        exact hf x _ e4
end
section
@[simp] theorem opIsN_non : opIsN .non = some (.val (.bl true)) := rfl
@[simp] theorem opIsN_tup {xs} : opIsN (.tup xs) = some (.val (.bl false)) := rfl
@[simp] theorem opIsN_int {i} : opIsN (.int i) = some (.val (.bl false)) := rfl
@[simp] theorem opIsN_str {i} : opIsN (.str i) = some (.val (.bl false)) := rfl
@[simp] theorem opIsN_lst {i} : opIsN (.lst i) = some (.val (.bl false)) := rfl
@[simp] theorem opNotN_non : opNotN .non = some (.val (.bl false)) := rfl
@[simp] theorem opNotN_tup {xs} : opNotN (.tup xs) = some (.val (.bl true)) := rfl
@[simp] theorem opNotN_int {i} : opNotN (.int i) = some (.val (.bl true)) := rfl
@[simp] theorem opNotN_str {i} : opNotN (.str i) = some (.val (.bl true)) := rfl
@[simp] theorem opNotN_lst {i} : opNotN (.lst i) = some (.val (.bl true)) := rfl
end
end DL

/-! sorted(x) of lists, tuples, dicts; list(d). -/
namespace DL
open PySem PySem.Spec L2 PySem.W PyProof.Rows
variable [HasW]
/-! ### over data -/
def sortKey (d : D) : PyData := (py d).getD .none
def sortD (ds : List D) : List D := ds.mergeSort (dataLe false sortKey)
def tupKey : PyData → Bool
  | .tuple (_ :: _) => true
  | _ => false
def othKey : PyData → Bool
  | .none => false
  | .tuple _ => false
  | _ => true
def sortsOk (ds : List D) : Bool := match pys ds with
  | some ps => (ps.all fun p => ps.all fun q => alike p q) && (ps.all tupKey || ps.all othKey) && decide (PyData.depthAll ps ≤ 60) && decide (ps.length ≤ sizeLine)
  | none => false
def srcOf : D → Option (List D)
  | .lst xs => some xs
  | .scr xs => some xs
  | .tup xs => some xs
  | .dic ks _ => some (ks.map keyD)
  | .dct ks _ => some ks
  | _ => none
def fSorted : List D → Option RV
  | [d] => match srcOf d with
    | some ds => if sortsOk ds then some (.new (.lst (sortD ds))) else none
    | none => none
  | _ => none
theorem pys_keys : ∀ (ds : List D) (ps : List PyData), pys ds = some ps → ps = ds.map sortKey ∧ ∀ d ∈ ds, py d = some (sortKey d)
  | [], ps, h => by cases h; exact ⟨rfl, fun d h => nomatch h⟩
  | d :: ds, ps, h => by
    have h' : (match py d, pys ds with | some p, some ps => some (p :: ps) | _, _ => none) = some ps := h
    cases e1 : py d with
    | none => rw [e1] at h'; cases h'
    | some p =>
      cases e2 : pys ds with
      | none => rw [e1, e2] at h'; cases h'
      | some qs =>
        rw [e1, e2] at h'
        cases h'
        obtain ⟨i1, i2⟩ := pys_keys ds qs e2
        have e3 : sortKey d = p := by unfold sortKey; rw [e1]; rfl
        refine ⟨by rw [List.map_cons, e3, ← i1], fun x hx => ?_⟩
        rcases List.mem_cons.mp hx with rfl | hx
        · rw [e1, e3]
        · exact i2 x hx
theorem depthAll_mem : ∀ (ps : List PyData) (p : PyData), p ∈ ps → p.depth ≤ PyData.depthAll ps
  | q :: ps, p, h => by
    simp only [PyData.depthAll]
    rcases List.mem_cons.mp h with rfl | h
    · omega
    · have := depthAll_mem ps p h; omega
theorem sortsOk_some {ds : List D} (h : sortsOk ds = true) : (∀ d ∈ ds, py d = some (sortKey d)) ∧ AllAlike (ds.map sortKey) ∧ Sortable (ds.map sortKey) ∧ (∀ d ∈ ds, (sortKey d).depth ≤ 60) ∧ ds.length ≤ sizeLine := by
  unfold sortsOk at h
  cases e : pys ds with
  | none => rw [e] at h; cases h
  | some ps =>
    rw [e] at h
    dsimp only at h
    obtain ⟨rfl, h2⟩ := pys_keys ds ps e
    simp only [Bool.and_eq_true, Bool.or_eq_true, decide_eq_true_eq] at h
    obtain ⟨⟨⟨h3, h4⟩, h5⟩, h6⟩ := h
    refine ⟨h2, fun p hp q hq => List.all_eq_true.mp (List.all_eq_true.mp h3 p hp) q hq, ?_, fun d hd => Nat.le_trans (depthAll_mem _ _ (List.mem_map.mpr ⟨d, hd, rfl⟩)) h5, by rwa [List.length_map] at h6⟩
    rcases h4 with h4 | h4
    · refine .inl fun d hd => ?_
      have := List.all_eq_true.mp h4 d hd
      unfold tupKey at this
      split at this
      · exact ⟨_, _, rfl⟩
      · cases this
    · refine .inr fun d hd => ?_
      have := List.all_eq_true.mp h4 d hd
      unfold othKey at this
      split at this
      · cases this
      · cases this
      · rename_i a b
        exact ⟨a, fun xs e => b xs e⟩
/-! ### the call -/
section
variable {X : Cx} {pins : List (Addr × Obj)} {σ : L2.St} {H : Hp} {s : Shared}
/-- what the items are, by F -/
def ItemRel (K : PySem.W.Frag) (F : Hp) (u : Value) (d : D) : Prop := ∃ v, RelV v u ∧ Rep K F d v
theorem each_of {K : PySem.W.Frag} {F : Hp} : ∀ {ds : List D} {xs : List V} {us : List Value}, Reps K F ds xs → Vals xs us → EachIs (ItemRel K F) us ds
  | [], _, _, r, v => by cases r; cases v; exact .nil
  | d :: ds, _, _, r, v => by
    obtain ⟨x, t, rfl, a, b⟩ := r
    cases v with
    | cons p q => exact .cons ⟨x, p, a⟩ (each_of b q)
theorem of_each {K : PySem.W.Frag} {F : Hp} : ∀ {ds : List D} {us : List Value}, EachIs (ItemRel K F) us ds → ∃ xs, Vals xs us ∧ Reps K F ds xs
  | [], _, e => by cases e; exact ⟨[], .nil, .nil⟩
  | d :: ds, _, e => by
    cases e with
    | cons a b =>
      obtain ⟨v, h1, h2⟩ := a
      obtain ⟨xs, h3, h4⟩ := of_each b
      exact ⟨v :: xs, .cons h1 h3, .cons h2 h4⟩
/-- the values of the items -/
def Src (K : PySem.W.Frag) (H : Hp) (a : Addr) (xs : List V) : Prop := SqL K H a xs ∨ SqT K H a xs ∨ (∃ kvs : List (L2.Key × V), Rd H a (.dK kvs) ∧ xs = kvs.map fun kv => kV kv.1) ∨ (∃ es, Rd H a (dxO a es) ∧ KeysAt K H es ∧ xs = es.map fun e => .ref e.2.1)
theorem src_collect (hw : X.w = HasW.w) (hc : X.calm = true) (I : Inv X pins σ H s) {a : Addr} {xs : List V} (h : Src X.K H a xs) {A : Around} (hA : A.handled = none) {R : List Value → Shared → Prop} {E : Value → Shared → Prop}
    (q : ∀ (h' : Heap) (tk : Nat) (us : List Value), (∀ b o, s.heap.get? b = some o → h'.get? b = some o) → Vals xs us → R us { s with heap := h', toks := tk }) : wpAny (model X.prog X.w) A (collect (.ref a)) R E s := by
  rcases h with h | h | ⟨kvs, h, rfl⟩ | ⟨es, h, ka, rfl⟩
  · obtain ⟨its, r', pl, hz⟩ := I.list h
    obtain ⟨o, ho, hcl, n, hd⟩ := pl.isList
    have hlen := r'.length
    refine wpAny_collect_seq a (T := "list") (.inl rfl) ho hcl hd (fun h' kp => ?_) (by simp only [List.size_toArray]; omega)
    exact q h' s.toks _ kp (by simpa using r')
  · obtain ⟨its, r', pl, hz⟩ := I.tuple h
    obtain ⟨o, ho, hcl, n, hd⟩ := pl
    have hlen := r'.length
    refine wpAny_collect_seq a (T := "tuple") (.inr rfl) ho hcl hd (fun h' kp => ?_) (by simp only [List.size_toArray]; omega)
    exact q h' s.toks _ kp (by simpa using r')
  · obtain ⟨z, lo, vs, rel, dd⟩ := dk_rd I.hok h
    obtain ⟨ep, hat⟩ := dd.dictAt
    have hl : kvs.length = vs.length := Paired.length rel
    refine PySem.W.kdu_collect (PySem.W.kdl_dict (knd := mixKind X.prog X.w) (kvs := vs) (ep := ep) lo) hA hat (by rw [← hl]; exact z) fun h' tk acc hk hacc => q h' tk _ hk ?_
    have el : acc.toList.length = acc.size := by simp
    refine vals_of_at (by rw [List.length_map, el, hacc.1, hl]) fun j x w h1 h2 => ?_
    obtain ⟨k, y, hky, hi⟩ := hacc.2 j w (by rw [← Array.getElem?_toList]; exact h2)
    have e1 : (kvs.map (·.1))[j]? = some k := by
      rw [KV.keys rel, List.getElem?_map, hky] <;> rfl
    have e2 : (kvs.map fun kv => kV kv.1)[j]? = some (kV k) := by
      have e3 : (kvs.map fun kv => kV kv.1) = (kvs.map (·.1)).map kV := by rw [List.map_map] <;> rfl
      rw [e3, List.getElem?_map, e1] <;> rfl
    rw [e2] at h1
    cases h1
    exact keyIs_rel hi
  · obtain ⟨z, lo, us, rv, o, des, ep, ho, hx, hdt, he, _, _⟩ := XAt.facts hw I (.inl h) ka
    have l1 : es.length = us.length := by have := rv.length; rwa [List.length_map] at this
    have lz := zip3_length es us l1
    have l2 : des.size = es.length := by rw [← lz, ← Array.length_toList, he, List.length_map]
    refine PySem.W.kdu_collect (kdl_raw lo hx hdt) hA ho (by omega) fun h' tk acc hk hacc => q h' tk _ hk ?_
    have el : acc.toList.length = acc.size := by simp
    refine vals_of_at (by rw [List.length_map, el, hacc.1, l2]) fun j x w h1 h2 => ?_
    obtain ⟨en, hen, rfl⟩ := hacc.2 j w (by rw [← Array.getElem?_toList]; exact h2)
    have qe := entry_at he j
    rw [hen] at qe
    cases hz : (zip3 es us)[j]? with
    | none => rw [hz] at qe; cases qe
    | some x3 =>
      rw [hz] at qe
      have e2 : en = entryOfKey (nestedKind X.prog X.w) x3 := Option.some.inj qe
      have e3 : (es.map (·.2.1))[j]? = some x3.2.1 := by
        have : ∀ (es : List Ent) (us : List Value), es.length = us.length → (zip3 es us).map (·.2.1) = es.map (·.2.1) := by
          intro es
          induction es with
          | nil => intro us h; cases us; rfl; cases h
          | cons e es ih =>
            intro us h
            cases us with
            | nil => cases h
            | cons u us => show e.2.1 :: (zip3 es us).map _ = _; rw [ih us (by simpa using h)]; rfl
        rw [← this es us l1, List.getElem?_map, hz]
        rfl
      have e4 : (es.map fun e => V.ref e.2.1)[j]? = some (.ref x3.2.1) := by
        have : (es.map fun e => V.ref e.2.1) = (es.map (·.2.1)).map V.ref := by rw [List.map_map]; rfl
        rw [this, List.getElem?_map, e3]
        rfl
      rw [e4] at h1
      cases h1
      rw [e2]
      exact rfl
def rSortedAny (K : PySem.W.Frag) : List V → Hp → VK → Prop := fun vs H Q => ∃ (a : Addr) (xs : List V) (ds : List D) (F : Hp), vs = [.ref a] ∧ Src K H a xs ∧ Sub F H ∧ Reps K F ds xs ∧ sortsOk ds = true ∧
  ∀ (ys : List V) (p : Addr), Reps K F (sortD ds) ys → H p = none → Q (.ref p) (upd H p (.lst ys))
theorem call_sortedAny (hc : X.calm = true) (hu : X.A.units + 65 < cLine) (hw : X.w = HasW.w) : CallR X (.builtin "sorted") (rSortedAny X.K) := by
  intro pins s σ H vs us0 Q I r h
  obtain ⟨a, xs, ds, F, rfl, src, sub, rp, ok, q⟩ := h
  obtain ⟨u, rfl, rx⟩ := vals1 r
  cases rx
  obtain ⟨hpy, hal, hso, hdp, hlen⟩ := sortsOk_some ok
  refine Calls.call_function_entry PyProof.Rows.kind_sorted PyProof.Rows.plain_sorted PyProof.Rows.entry_sorted (PyProof.Rows.args_sorted1 _) ?_
  unfold Builtin.«sorted»
  refine wpAny_bind (m := checkCount "sorted" 1 1 _) (wpAny_pure ?_)
  refine wpAny_bind (src_collect hw hc I src (A := X.A.in1) (I.ok.hd hc) fun h' tk us hk rv => ?_)
  have lx : us.length = ds.length := by rw [← rv.length]; exact rp.length
  have I1 : Inv X pins σ H { s with heap := h', toks := tk } := I.kept hk
  refine wpAny_bind (wpAny_newList ?_ (by omega))
  have hoL : (h'.push (seqObj "list" us.toArray 0)).get? h'.objs.size = some (seqObj "list" us.toArray 0) := Heap.get?_push_size _ rfl
  show wpAny _ _ _ _ _ { s with heap := h'.push (seqObj "list" us.toArray 0), toks := tk }
  have e0 : EachIs (ItemRel X.K F) us ds := each_of rp rv
  have old : ∀ b o, h'.get? b = some o → (PySem.W.sortingHeap (h'.push (seqObj "list" us.toArray 0)) h'.objs.size us).get? b = some o := fun b o e => PySem.W.sortingHeap_old (Nat.ne_of_lt (Heap.lt_size e)) (Heap.get?_push_of_some _ e)
  have er : EachIs (fun v b => ∃ as, Reads (PySem.W.sortingHeap (h'.push (seqObj "list" us.toArray 0)) h'.objs.size us) v (sortKey b) as) us ds := by
    refine (PySem.W.each_mem e0).mono fun v d ⟨⟨x, h1, h2⟩, hd⟩ => ?_
    obtain ⟨as, rd⟩ := Dp.reads I1 _ _ _ (View.dp sub (Rep.view sub h2) (hpy d hd)) h1
    exact ⟨as, PyProof.Rows.Reads.keeps old rd⟩
  refine wpAny_bind (wpAny_holding (wpAny_call_entry PyProof.Rows.slot_list_sort ⟨_, hoL, rfl⟩ PyProof.Rows.entry_list_sort
    (PySem.W.list_sort_vals (s := { s with heap := h'.push (seqObj "list" us.toArray 0), toks := tk }) hoL
      (PySem.W.SortsAt.data (s := { s with heap := PySem.W.sortingHeap (h'.push (seqObj "list" us.toArray 0)) h'.objs.size us, toks := tk }) (PySem.W.each_map (R := fun v d => ∃ as, Reads (PySem.W.sortingHeap (h'.push (seqObj "list" us.toArray 0)) h'.objs.size us) v d as) sortKey er) hal hso
        (fun d hd => by
          obtain ⟨b, hb, rfl⟩ := List.mem_map.mp hd
          have := hdp b hb
          show X.A.units + 1 + 1 + _ < cLine
          omega)) (by omega) ⟨_, rfl, ?_⟩)
    (PyProof.Rows.args_list_sort _)))
  have eo := PySem.W.sortVals_data false e0 er hal
  obtain ⟨ys, r1, r2⟩ := of_each eo
  generalize hout : PySem.W.sortVals _ false us us = out at eo r1
  have lo : out.length = ds.length := by rw [← hout, PySem.W.sortVals_length false rfl, lx]
  obtain ⟨e', he'⟩ := PyProof.Rows.sortedHeap_at (vs := us) (out := out.toArray) hoL
  have ly : ys.length ≤ sizeLine := by rw [r1.length]; omega
  refine wpAny_pure ⟨_, rfl, .ref h'.objs.size, upd H h'.objs.size (.lst ys), I1.laid (t' := tk) (fun b u e => ?_) (Nat.le_refl _) (show ObjOk X.prog X.w _ _ _ (.lst ys) from ⟨ly, out, e', r1, he'⟩), rfl, q ys _ r2 (I1.hok.fresh (Nat.le_refl _))⟩
  exact (PyProof.Rows.sortedHeap_old (Nat.ne_of_lt (Heap.lt_size e)) (Heap.lt_size (Heap.get?_push_of_some _ e))).trans (Heap.get?_push_of_some _ e)
end
section
variable {K : PySem.W.Frag} {F H : Hp}
theorem keys_zip {ks : List L2.Key} {vs : List V} (l : ks.length = vs.length) : ((ks.zip vs).map fun kv => kV kv.1) = ks.map kV := by
  have : ((ks.zip vs).map fun kv => kV kv.1) = ((ks.zip vs).map (·.1)).map kV := by rw [List.map_map]; rfl
  rw [this, List.map_fst_zip (by omega)]
theorem reps_keys : ∀ ks : List L2.Key, Reps K F (ks.map keyD) (ks.map kV)
  | [] => .nil
  | k :: ks => .cons (rep_key k) (reps_keys ks)
theorem srcOf_view {d : D} {v : V} {ds : List D} (s : Sub F H) (a : View K F H d v) (h : srcOf d = some ds) : ∃ p xs, v = .ref p ∧ Src K H p xs ∧ Reps K F ds xs := by
  cases d with
  | lst xs => cases h; obtain ⟨p, vs, rfl, q, r⟩ := a; exact ⟨p, vs, rfl, .inl (SqL.of q), r⟩
  | scr xs => cases h; obtain ⟨p, vs, rfl, q, r⟩ := a; exact ⟨p, vs, rfl, .inl (s.sqL q), r⟩
  | tup xs => cases h; obtain ⟨p, vs, rfl, q, r⟩ := a; exact ⟨p, vs, rfl, .inr (.inl (s.sqT q)), r⟩
  | dic ks xs =>
    cases h
    obtain ⟨p, vs, rfl, q, l, n, r⟩ := a
    exact ⟨p, ks.map kV, rfl, .inr (.inr (.inl ⟨_, q, (keys_zip (by rw [r.length]; exact l)).symm⟩)), reps_keys ks⟩
  | dct ks xs =>
    cases h
    obtain ⟨p, es, rfl, q, hm, rk, r⟩ := a
    exact ⟨p, _, rfl, .inr (.inr (.inr ⟨es, q, keysAt_of s hm rk, rfl⟩)), rk⟩
  | _ => cases h
theorem on_sorted : OpN K (rSortedAny K) fSorted := by
  intro F H ds vs z Q s v h q
  unfold fSorted at h
  split at h
  · rename_i d
    cases e : srcOf d with
    | none => rw [e] at h; cases h
    | some xs =>
      rw [e] at h
      dsimp only at h
      split at h
      · rename_i ok
        cases h
        obtain ⟨u, t, rfl, a, rfl⟩ := v
        obtain ⟨p, ws, rfl, src, r⟩ := srcOf_view s a e
        exact ⟨p, ws, xs, F, rfl, src, s, r, ok, fun ys p' r' hp => q _ _ _ (Ext.allocO s hp) ⟨p', rfl, hp, s.free hp, _, upd_same, r'⟩⟩
      · cases h
  · cases h
end
theorem bo_sorted : bootBuiltins "sorted" = some (.builtin "sorted") := by decide +kernel
end DL

/-! walks over the items of a dict whose keys are tuples. -/
namespace DL
open PySem PySem.Spec L2
variable [HasW]
section
variable {F : Hp}
theorem alike_lockX {d : Addr} {o : Obj} {es : List Ent} (h : F d = some (dxO d es)) : Alike F (upd F d (.frz o (dxO d es))) := by
  have h' : F d = some (.ext (DxOk d es)) := h
  refine ⟨fun a xs r => ?_, fun a xs r => ?_, fun a xs r => ?_, fun a xs r => ?_, fun a φ r => ?_⟩
  · by_cases e : a = d
    · subst e
      rcases r with r | ⟨o', r⟩ <;> (rw [h'] at r; cases r)
    · rcases r with r | ⟨o', r⟩
      · exact .inl (by rw [upd_ne e]; exact r)
      · exact .inr ⟨o', by rw [upd_ne e]; exact r⟩
  · by_cases e : a = d
    · subst e
      rcases r with r | ⟨o', r⟩ <;> (rw [h'] at r; cases r)
    · rcases r with r | ⟨o', r⟩
      · exact .inl (by rw [upd_ne e]; exact r)
      · exact .inr ⟨o', by rw [upd_ne e]; exact r⟩
  · by_cases e : a = d
    · subst e
      rw [h'] at r; cases r
    · rw [upd_ne e]; exact r
  · by_cases e : a = d
    · subst e
      rcases r with r | ⟨o', r⟩ <;> (rw [h'] at r; cases r)
    · rcases r with r | ⟨o', r⟩
      · exact .inl (by rw [upd_ne e]; exact r)
      · exact .inr ⟨o', by rw [upd_ne e]; exact r⟩
  · by_cases e : a = d
    · subst e
      rcases r with r | ⟨o', r⟩
      · rw [h'] at r; cases r
        exact .inr ⟨o, upd_same⟩
      · rw [h'] at r; cases r
    · rcases r with r | ⟨o', r⟩
      · exact .inl (by rw [upd_ne e]; exact r)
      · exact .inr ⟨o', by rw [upd_ne e]; exact r⟩
theorem alike_openX {d : Addr} {o : Obj} {es : List Ent} (h : F d = some (.frz o (dxO d es))) : Alike F (upd F d (dxO d es)) := by
  have h' : F d = some (.frz o (.ext (DxOk d es))) := h
  refine ⟨fun a xs r => ?_, fun a xs r => ?_, fun a xs r => ?_, fun a xs r => ?_, fun a φ r => ?_⟩
  · by_cases e : a = d
    · subst e
      rcases r with r | ⟨o', r⟩ <;> (rw [h'] at r; cases r)
    · rcases r with r | ⟨o', r⟩
      · exact .inl (by rw [upd_ne e]; exact r)
      · exact .inr ⟨o', by rw [upd_ne e]; exact r⟩
  · by_cases e : a = d
    · subst e
      rcases r with r | ⟨o', r⟩ <;> (rw [h'] at r; cases r)
    · rcases r with r | ⟨o', r⟩
      · exact .inl (by rw [upd_ne e]; exact r)
      · exact .inr ⟨o', by rw [upd_ne e]; exact r⟩
  · by_cases e : a = d
    · subst e
      rw [h'] at r; cases r
    · rw [upd_ne e]; exact r
  · by_cases e : a = d
    · subst e
      rcases r with r | ⟨o', r⟩ <;> (rw [h'] at r; cases r)
    · rcases r with r | ⟨o', r⟩
      · exact .inl (by rw [upd_ne e]; exact r)
      · exact .inr ⟨o', by rw [upd_ne e]; exact r⟩
  · by_cases e : a = d
    · subst e
      rcases r with r | ⟨o', r⟩
      · rw [h'] at r; cases r
      · rw [h'] at r
        cases r
        exact .inl upd_same
    · rcases r with r | ⟨o', r⟩
      · exact .inl (by rw [upd_ne e]; exact r)
      · exact .inr ⟨o', by rw [upd_ne e]; exact r⟩
end
def walkedX (ks xs : List D) : List D := List.zipWith (fun k x => .tup [k, x]) ks xs
def ItX (d : Addr) (o : Obj) (es : List Ent) : It :=
  ⟨fun i H => H d = some (.frz o (dxO d es)) ∧ i < es.length, fun i H v H' => ∃ T e, es[i]? = some e ∧ v = .ref T ∧ H T = none ∧ H' = upd H T (.tup [.ref e.2.1, e.2.2]), fun i H => H d = some (.frz o (dxO d es)) ∧ es.length ≤ i⟩
theorem jd_dct {K : PySem.W.Frag} {F : Hp} {d : Addr} {o : Obj} {ks xs : List D} {es : List Ent} (h : F d = some (.frz o (dxO d es))) (l : ks.map kOf = es.map (fun e => some e.1)) (rk : Reps K F ks (es.map fun e => .ref e.2.1)) (r : Reps K F xs (es.map (·.2.2))) : JD K F (ItX d o es) (walkedX ks xs) := fun H1 F1 s1 s2 => by
  have hd : H1 d = some (.frz o (dxO d es)) := s2 _ _ (s1 _ _ h)
  have rk1 := Reps.mono s1 _ _ rk
  have r1 := Reps.mono s1 _ _ r
  have l1 : ks.length = es.length := by have := congrArg List.length l; simpa using this
  have l2 : xs.length = es.length := by have := r.length; rw [List.length_map] at this; exact this.symm
  have lw : (walkedX ks xs).length = es.length := by
    show (List.zipWith _ ks xs).length = _
    rw [List.length_zipWith, l1, l2, Nat.min_self]
  refine ⟨fun i e he => ?_, ⟨hd, by rw [lw]; exact Nat.le_refl _⟩⟩
  have hi : i < es.length := by rw [← lw]; exact (List.getElem?_eq_some_iff.mp he).1
  refine ⟨⟨hd, hi⟩, fun x H2 y => ?_⟩
  obtain ⟨T, e1, he1, rfl, hT, rfl⟩ := y
  have he' : (List.zipWith (fun k x => D.tup [k, x]) ks xs)[i]? = some e := he
  obtain ⟨k, x, hk, hx, rfl⟩ := zip_get he'
  obtain ⟨v, hv, rv⟩ := rk1.get hk
  obtain ⟨u, hu, ru⟩ := r1.get hx
  rw [List.getElem?_map, he1] at hv hu
  cases hv
  cases hu
  exact ⟨_, Ext.alloc s2 hT, rep_pair (s2.free hT) rv ru⟩
theorem entsOf_get : ∀ {es : List Ent} {us : List Value} {i : Nat} {e : Ent}, Vals (es.map (·.2.2)) us → es[i]? = some e → ∃ u, (entsOf es us)[i]? = some (entryH e.1 e.2.1 u) ∧ RelV e.2.2 u
  | [], _, i, e, _, h => by simp at h
  | x :: es, _, 0, e, r, h => by
    cases r with
    | cons a b =>
      simp at h
      subst h
      exact ⟨_, rfl, a⟩
  | x :: es, _, i + 1, e, r, h => by
    cases r with
    | cons a b =>
      obtain ⟨u, h1, h2⟩ := entsOf_get (i := i) (e := e) b (by simpa using h)
      exact ⟨u, by simpa [entsOf] using h1, h2⟩
theorem entsOf_length : ∀ {es : List Ent} {us : List Value}, Vals (es.map (·.2.2)) us → (entsOf es us).length = es.length
  | [], _, r => by cases r; rfl
  | x :: es, _, r => by
    cases r with
    | cons a b => simp [entsOf, entsOf_length b]
section
variable {P : Program} {w : World} {K : PySem.W.Frag} {d : Addr} {o : Obj} {des : Array DictEntry} {ep : Nat}
theorem frzX {X : Cx} {pins : List (Addr × Obj)} {σ : L2.St} {H : Hp} {s : Shared} {es : List Ent} (I : Inv X pins σ H s) (h : H d = some (.frz o (dxO d es))) :
    (d == sysModules) = false ∧ s.heap.get? d = some o ∧ o.ExactDict ∧ ∃ (des : Array DictEntry) (ep : Nat) (us : List Value), o.data = .dict des ep ∧ Vals (es.map (·.2.2)) us ∧ des.toList = entsOf es us := by
  obtain ⟨hd, ⟨z, hs, nd, us, rv, o', des, ep, ho, hx, hdt, he⟩, _⟩ := I.hok d _ h
  rw [hd] at ho
  cases ho
  exact ⟨hs, hd, hx, des, ep, us, hdt, rv, he⟩
theorem turn_itemsX {es : List Ent} {elts : List Expr} {kk : Nat} {tpos : Pos} (it : Addr) (hod : o.data = .dict des ep) (hsz : des.size = es.length) :
    Turn P w K (.Tuple elts kk tpos) (ItX d o es) [it] it (fun i h => ∃ ok ov, IsItemIter h it d i des.size ep ok ov) where
  mem := by simp
  obj := fun i h st b hb => by
    have e : b = it := by simpa using hb
    subst e
    obtain ⟨ok, ov, e⟩ := st
    exact ⟨_, e, fun v z => nomatch z⟩
  keep := fun i h h' st k => let ⟨ok, ov, e⟩ := st; ⟨ok, ov, k it (by simp) _ e⟩
  item := by
    intro X hP hw hK hc i pins s σ H E I hf st hg
    subst hP hw hK
    obtain ⟨hd, hi⟩ := hg
    obtain ⟨hs, hgd, hx, des', ep', us, hdt, rv, he0⟩ := frzX I hd
    obtain ⟨rfl, rfl⟩ := dict_ep hod hdt
    obtain ⟨e, hei⟩ : ∃ p, es[i]? = some p := ⟨es[i], List.getElem?_eq_getElem hi⟩
    obtain ⟨u, hu, ru⟩ := entsOf_get rv hei
    obtain ⟨ok, ov, he⟩ := st
    have hlt : it < s.heap.objs.size := Heap.lt_size he
    have hii : i < des'.size := by omega
    have hen : des'[i] = entryH e.1 e.2.1 u := by
      have : des'.toList[i]? = some des'[i] := by rw [Array.getElem?_toList, Array.getElem?_eq_getElem hii]
      rw [he0, hu] at this
      exact (Option.some.inj this).symm
    refine wpAny_pyNext_items_item_raw he ⟨o, hgd, hx, hdt⟩ hii fun h' ho hT hz hk => ?_
    rw [hen] at ho hT
    refine ⟨_, rfl, wpAny_letOwnedTupleGo_items (s := { s with heap := h' }) ho fun h'' he' sb => ?_⟩
    have hT2 : h''.get? s.heap.objs.size = some { cls := .type "tuple", data := .seq #[.ref e.2.1, u] } := (sb.2 _ (Nat.ne_of_gt hlt)).trans hT
    have new : ObjOk X.prog X.w (upd H s.heap.objs.size (.tup [.ref e.2.1, e.2.2])) h'' s.heap.objs.size (.tup [.ref e.2.1, e.2.2]) :=
      ⟨by show 2 ≤ sizeLine; decide, [.ref e.2.1, u], .cons rfl (.cons ru .nil), ⟨_, hT2, rfl, _, rfl⟩⟩
    have I1 : Inv X pins σ (upd H s.heap.objs.size (.tup [.ref e.2.1, e.2.2])) { s with heap := h'' } :=
      I.turnedNew (t' := s.toks) (ch := [it]) (fun b ob hb e => (sb.2 b (by simpa using hb)).trans (hk b ob (by simpa using hb) e)) hf (Nat.le_refl _) new
    refine ⟨.ref s.heap.objs.size, _, I1, rfl, ⟨_, e, hei, rfl, I.hok.fresh (Nat.le_refl _), rfl⟩, ⟨_, u, he'⟩, fun b hb => ?_⟩
    have e2 : b = it := by simpa using hb
    rw [e2, upd_ne (Nat.ne_of_lt hlt)]
    exact (hf it (by simp)).1
  done := by
    intro X hP hw hK hc i pins s σ H E I hf st hg
    subst hP hw hK
    obtain ⟨hd, hi⟩ := hg
    obtain ⟨f0, f1, f2, f3, f4, f5⟩ := hf it (by simp)
    obtain ⟨hs, hgd, hx, des', ep', us, hdt, rv, he0⟩ := frzX I hd
    obtain ⟨rfl, rfl⟩ := dict_ep hod hdt
    obtain ⟨ok, ov, he⟩ := st
    exact wpAny_pyNext_items_end_raw (I.ok.hd hc) he ⟨o, hgd, hx, hdt⟩ (by omega) fun h' eb => ⟨rfl, I.turned (t' := s.toks) (fun b ob hb e => eb b ob hb e) f0 f1 f3 f4 f5⟩
  self := fun A i s Q E st h => let ⟨_, _, e⟩ := st; PySem.W.kcp_self e h
end
def iItemsX (td : TE) : TI := fun σ H R => td σ H fun x H1 => ∃ d o es, x = .ref d ∧ H1 d = some (.frz o (dxO d es)) ∧ R (ItX d o es) H1
theorem pi_itemsX {X : Cx} {e : Expr} {td : TE} {apos cpos tpos : Pos} {elts : List Expr} {kk : Nat} (he : PE X e td) (hbase : attributeBase e "items" X.env (eval e X.env) = eval e X.env := by rfl) (hline : (apos.endLine == cpos.line) = true := by rfl) :
    PI X (.Tuple elts kk tpos) (.Call (.Attribute e "items" apos) [] [] cpos) (iItemsX td) := by
  refine ⟨fun pins s σ H R I h => ?_⟩
  refine wpAny_Call_method (T := "dict") (id := "dict.items") hbase rfl hline PySem.F.plainAttrs_dict PySem.F.slot_dict_items PySem.F.type_dict_items (thn (he.run pins s σ H _ I h) fun u s1 ⟨x, H1, I1, rx, d, o, es, ex, hd, q⟩ => ?_)
  subst ex
  obtain rfl : u = Value.ref d := rx
  obtain ⟨hs, hgd, hx, des, ep, us, hdt, rv, he0⟩ := frzX I1 hd
  have hl : des.size = es.length := by rw [← Array.length_toList, he0, entsOf_length rv]
  refine ⟨⟨o, hgd, hx.1⟩, (fun b z => by cases z; exact ⟨o, hgd, hx.2.1⟩), ?_⟩
  have I2 : Inv X pins σ H1 { s1 with heap := s1.heap.push { cls := .type "dict_items", data := .fields #[.ref d] } } := I1.kept (t' := s1.toks) fun b ob q => Heap.get?_push_of_some _ q
  have fin : wpAny (model X.prog X.w) X.A (pyIter (.ref s1.heap.objs.size)) (PIE X pins σ (.Tuple elts kk tpos) R) X.xe { s1 with heap := s1.heap.push { cls := .type "dict_items", data := .fields #[.ref d] } } := by
    refine wpAny_pyIter_items_raw (d := d) ⟨_, Heap.get?_push_size _ rfl, rfl, rfl⟩ ⟨o, Heap.get?_push_of_some _ hgd, hx, hdt⟩ (pi_one (tk := s1.toks) I2 _ (turn_itemsX _ hdt hl) ⟨.none, .none, ?_⟩ q)
    exact Heap.get?_push_size _ rfl
  show wpAny _ _ (callWith cpos (.builtin "dict.items") [.ref d] [] []) _ X.xe s1
  exact method_meetsIn PySem.F.slot_dict_items PySem.F.entry_dict_items rfl (PySem.evalArgs_none ⟨rfl, ⟨o, hgd, hx.1⟩, PySem.F.args_dict_items_1 _, _, meets_dict_items_raw d hs, ⟨⟨des, ep, o, hgd, hx, hdt⟩, fin⟩⟩)
/-- what a name that holds such a dict gives -/
def dctAt (ρ : Env) (i : Nat) : Option (List D × List D × Env) := match ρ[i]? with
  | some (.val (.dct ks xs)) => some (ks, xs, ρ)
  | some (.own (.dct ks xs)) => some (ks, xs, ρ.set i (.val (.dct ks xs)))
  | _ => none
def iDct (i : Nat) : Iv := fun ρ => match dctAt ρ i with
  | some (ks, xs, ρ1) => .ok (walkedX ks xs) ρ1
  | none => .no
def dLcX (i : Nat) (vs : List Nat) (ft : D → Env → Option Env) (gt ge : Ev) : Ev := fun ρ => offEx (dLc (iDct i) vs ft gt ge ρ)
section
variable {K : PySem.W.Frag} {W : WX} {ft : D → Env → Option Env} {gt ge : Ev} {tch : List Nat} {vs : List Nat} {i : Nat}
/-- the walk, the dict being locked -/
theorem ec_walkX {α : Nat → Addr} {ρ : Env} {σ : L2.St} {H F G : Hp} {R : It → Hp → Prop} {d : Addr} {o : Obj} {ks xs : List D} {es : List Ent} (f : Fits K α ρ σ H F G) (hs : ρ[i]? = some (.val (.dct ks xs))) (hv : σ[i]? = some (some (.ref d))) (hF : F d = some (.frz o (dxO d es))) (l : ks.map kOf = es.map (fun e => some e.1)) (rk : Reps K F ks (es.map fun e => .ref e.2.1)) (r : Reps K F xs (es.map (·.2.2)))
    (h : IC K W0 α σ F G R (iDct i ρ)) : iItemsX (tVar i) σ H R := by
  have e2 : iDct i ρ = .ok (walkedX ks xs) ρ := by unfold iDct dctAt; rw [hs]
  rw [e2] at h
  exact ⟨.ref d, hv, d, o, _, rfl, f.fh _ _ hF, h _ H F (Grow.refl _ _) f (jd_dct hF l rk r)⟩
theorem ec_lcX_val {α : Nat → Addr} {ρ : Env} {σ : L2.St} {H F G : Hp} {Q : VK} {ks xs : List D} (ht : ∀ j ∈ tch, j ∈ vs) (f : Fits K α ρ σ H F G) (hs : ρ[i]? = some (.val (.dct ks xs))) (h : EC K W α σ F G Q (dLcX i vs ft gt ge ρ)) :
    tLockE (tLc (iItemsX (tVar i)) (tG K tch ft) (tT K W0 gt) (tE K W0 ge) vs) σ H Q ∨ tLc (iItemsX (tVar i)) (tG K tch ft) (tT K W0 gt) (tE K W0 ge) vs σ H Q := by
  obtain ⟨x, hx, v, rfl, d, es, rfl, rd, l, rk, r⟩ := f.slot i _ hs
  rcases rd with hF | ⟨o, hF⟩
  · refine .inl ⟨d, _, f.fh _ _ hF, trivial, fun od => ?_⟩
    let z : HO := .frz od (dxO d es)
    have hH : H d = some (dxO d es) := f.fh _ _ hF
    have al : Alike F (upd F d z) := alike_lockX hF
    have f0 : Fits K α ρ σ (upd H d z) (upd F d z) (updIf G d z) := f.told hF al (fun b => updIf_none) (fun b u e => by
      by_cases q : b = d
      · subst q
        rw [upd_same]
        have e' : (match G b with | some _ => some z | none => none) = some u := by
          have := e
          unfold updIf at this
          rw [if_pos rfl] at this
          exact this
        cases e2 : G b with
        | none => rw [e2] at e'; cases e'
        | some w => rw [e2] at e'; exact e'
      · rw [updIf_ne q] at e
        rw [upd_ne q]
        exact f.gh _ _ e)
    refine ec_lc_at (W := W0) ht f0 (fun R q => ec_walkX f0 hs hx upd_same l (Reps.alike al _ _ rk) (Reps.alike al _ _ r) q) ?_
    have key : ∀ {e : ER}, EC K W α σ F G Q (offEx e) → EC K W0 α σ (upd F d z) (updIf G d z) (fun v H' => H' d = some (.frz od (dxO d es)) ∧ Q v (upd H' d (dxO d es))) e := by
      intro e h
      cases e with
      | no => exact h
      | ex x ρ1 => exact h.elim
      | ok rv ρ1 =>
        intro v H' F' g1 f1 r1
        have hz : F' d = some z := g1.sub _ _ upd_same
        have hz2 : H' d = some z := f1.fh _ _ hz
        refine ⟨hz2, ?_⟩
        have al2 : Alike F' (upd F' d (dxO d es)) := alike_openX hz
        have f2 : Fits K α ρ1 σ (upd H' d (dxO d es)) (upd F' d (dxO d es)) G := f1.told hz al2 (fun b => updIf_none.symm) (fun b u e => by
          by_cases q : b = d
          · subst q
            have := f.gh _ _ e
            rw [hH] at this
            cases this
            exact upd_same
          · rw [upd_ne q]
            exact f1.gh _ _ (by rw [updIf_ne q]; exact e))
        have g2 : Grow G F (upd F' d (dxO d es)) := by
          refine ⟨fun a o e => ?_, fun a o e => ?_⟩
          · by_cases q : a = d
            · subst q
              rw [hF] at e
              cases e
              exact upd_same
            · rw [upd_ne q]
              exact g1.sub _ _ (by rw [upd_ne q]; exact e)
          · by_cases q : a = d
            · subst q
              rw [upd_same] at e
              cases e
              exact .inl hF
            · rw [upd_ne q] at e
              rcases g1.new a o e with w | ⟨w1, w2⟩
              · rw [upd_ne q] at w
                exact .inl w
              · exact .inr ⟨(upd_none hF).mp w1, updIf_none.mp w2⟩
        refine h v _ _ g2 f2 ?_
        cases rv with
        | val dd => exact Rep.alike al2 _ _ r1
        | loc j => exact r1
        | new dd =>
          obtain ⟨a, rfl, fa, ga, c, sp⟩ := r1
          have ne : a ≠ d := fun q => by rw [q, hz] at fa; cases fa
          exact ⟨a, rfl, by rw [upd_ne ne]; exact fa, updIf_none.mp ga, c.alike al2 fun w q => by rw [upd_ne ne]; exact q, sp⟩
    exact key h
  · exact .inr (ec_lc_at (W := W0) ht f (fun R q => ec_walkX f hs hx hF l rk r q) (EC.off h))
theorem dctAt_own {ρ : Env} {i : Nat} {ks xs : List D} (h : ρ[i]? = some (.own (.dct ks xs))) : dLcX i vs ft gt ge ρ = dLcX i vs ft gt ge (ρ.set i (.val (.dct ks xs))) := by
  have hi : i < ρ.length := (List.getElem?_eq_some_iff.mp h).1
  have e : iDct i ρ = iDct i (ρ.set i (.val (.dct ks xs))) := by
    unfold iDct dctAt
    rw [h, List.getElem?_set_self hi]
  unfold dLcX dLc
  rw [e]
theorem ec_lcX {σ : L2.St} {H : Hp} {Q : VK} (ht : ∀ j ∈ tch, j ∈ vs) (h : tE K W (dLcX i vs ft gt ge) σ H Q) :
    tLockE (tLc (iItemsX (tVar i)) (tG K tch ft) (tT K W0 gt) (tE K W0 ge) vs) σ H Q ∨ tLc (iItemsX (tVar i)) (tG K tch ft) (tT K W0 gt) (tE K W0 ge) vs σ H Q := by
  obtain ⟨α, ρ, F, G, f, h⟩ := h
  have no : dctAt ρ i = none → False := fun e => by
    have : dLcX i vs ft gt ge ρ = .no := by
      unfold dLcX dLc iDct
      rw [e]
      rfl
    rw [this] at h
    exact h
  cases e : ρ[i]? with
  | none => exact (no (by unfold dctAt; rw [e])).elim
  | some s =>
    cases s with
    | non => exact (no (by unfold dctAt; rw [e])).elim
    | bor d => exact (no (by unfold dctAt; rw [e])).elim
    | val d =>
      cases d with
      | dct ks xs => exact ec_lcX_val ht f e h
      | _ => exact (no (by unfold dctAt; rw [e])).elim
    | own d =>
      cases d with
      | dct ks xs =>
        obtain ⟨x, hx, a, rfl, _⟩ := f.slot i _ e
        obtain ⟨F1, g1, f1, r1⟩ := f.freeze e hx
        have hi : i < ρ.length := (List.getElem?_eq_some_iff.mp e).1
        rw [dctAt_own e] at h
        exact ec_lcX_val ht f1 (List.getElem?_set_self hi) (EC.mono g1 h)
      | _ => exact (no (by unfold dctAt; rw [e])).elim
end
/-- the one or, where it says nothing, the other -/
def orE (g1 g2 : Ev) : Ev := fun ρ => match g1 ρ with
  | .no => g2 ρ
  | r => r
theorem ed_orE {X : Cx} {W : WX} {e : Expr} {g1 g2 : Ev} (h1 : PE X e (tE X.K W g1)) (h2 : PE X e (tE X.K W g2)) : PE X e (tE X.K W (orE g1 g2)) := by
  refine ⟨fun pins s σ H Q I ⟨α, ρ, F, G, ft, h⟩ => ?_⟩
  unfold orE at h
  cases q : g1 ρ with
  | no => rw [q] at h; exact h2.run pins s σ H Q I ⟨α, ρ, F, G, ft, h⟩
  | ok r ρ1 => rw [q] at h; exact h1.run pins s σ H Q I ⟨α, ρ, F, G, ft, by rw [q]; exact h⟩
  | ex x ρ1 => rw [q] at h; exact h1.run pins s σ H Q I ⟨α, ρ, F, G, ft, by rw [q]; exact h⟩
section
variable {X : Cx} {W : WX} {elt e : Expr} {elts : List Expr} {kk : Nat} {tpos : Pos} {ifs : List Expr} {scope : Scope} {own : List (Str × Nat)} {ft : D → Env → Option Env} {gt ge : Ev} {tch : List Nat} {pos apos cpos : Pos} {i : Nat}
theorem ed_lcX {iter tg : Expr} (hc : X.calm = true) (hN : X.N.Nodup) (ok : BlkOk X.N X.env.scope scope own) (ht : ∀ j ∈ tch, j ∈ own.map (·.2)) (hi : PI X tg iter (iItemsX (tVar i)))
    (hg : ∀ (s : Shared) (H : Hp) (C : Addr) (cl : List (Str × Addr)) (fp : List Addr), PG (X.blk s H scope (compEnvC scope cl C X.env) fp) tg (tG X.K tch ft)) (hif : ∀ (s : Shared) (H : Hp) (C : Addr) (cl : List (Str × Addr)) (fp : List Addr), PTs (X.blk s H scope (compEnvC scope cl C X.env) fp) ifs (tT X.K W0 gt))
    (he : ∀ (s : Shared) (H : Hp) (C : Addr) (cl : List (Str × Addr)) (fp : List Addr), PE (X.blk s H scope (compEnvC scope cl C X.env) fp) elt (tE X.K W0 ge)) (hs : ∀ x, foldedSetIterable iter X.env x = pure x := by intro _; rfl) :
    PE X (.ListComp elt [⟨tg, iter, ifs, 0⟩] scope pos) (tE X.K W (dLcX i (own.map (·.2)) ft gt ge)) := by
  have p := pe_lc (pos := pos) hc hN hi ok hg hif he hs
  exact (PE.or (pe_lock p) p).weak fun σ H Q h => ec_lcX ht h
/-- [.. for a, b in d.items()], whatever the keys -/
theorem ed_lcA (hc : X.calm = true) (hN : X.N.Nodup) (ok : BlkOk X.N X.env.scope scope own) (ht : ∀ j ∈ tch, j ∈ own.map (·.2)) (hv : PE X e (tVar i))
    (hg : ∀ (s : Shared) (H : Hp) (C : Addr) (cl : List (Str × Addr)) (fp : List Addr), PG (X.blk s H scope (compEnvC scope cl C X.env) fp) (.Tuple elts kk tpos) (tG X.K tch ft)) (hif : ∀ (s : Shared) (H : Hp) (C : Addr) (cl : List (Str × Addr)) (fp : List Addr), PTs (X.blk s H scope (compEnvC scope cl C X.env) fp) ifs (tT X.K W0 gt))
    (he : ∀ (s : Shared) (H : Hp) (C : Addr) (cl : List (Str × Addr)) (fp : List Addr), PE (X.blk s H scope (compEnvC scope cl C X.env) fp) elt (tE X.K W0 ge)) (hs : ∀ x, foldedSetIterable (.Call (.Attribute e "items" apos) [] [] cpos) X.env x = pure x := by intro _; rfl)
    (hbase : attributeBase e "items" X.env (eval e X.env) = eval e X.env := by rfl) (hline : (apos.endLine == cpos.line) = true := by rfl) :
    PE X (.ListComp elt [⟨.Tuple elts kk tpos, .Call (.Attribute e "items" apos) [] [] cpos, ifs, 0⟩] scope pos) (tE X.K W (orE (dLcX i (own.map (·.2)) ft gt ge) (dLcD .items i (own.map (·.2)) ft gt ge))) :=
  ed_orE (ed_lcX hc hN ok ht (pi_itemsX hv hbase hline) hg hif he hs) (ed_lcD hc hN ok ht (iw_items hv hbase hline) hg hif he hs)
end
end DL

/-! d.get of tuples, min and max of one thing, xs[::-1], pop, insert, dict(..) of pairs, list(d), len(d). -/
namespace DL
open PySem PySem.Spec L2 PySem.W PyProof.Rows
variable [HasW]
/-! ### d.get(k, x), k a tuple -/
def xdic : D → Option (List D × List D)
  | .dct ks xs => some (ks, xs)
  | .dic ks _ => if ks.isEmpty then some ([], []) else none
  | _ => none
def dGet2X (go ge gf : Ev) : Ev := fun ρ => (go ρ).settle.bind fun r ρ1 => match (peek r ρ1).bind xdic with
  | some _ => (ge ρ1).settle.bind fun r1 ρ2 => (gf ρ2).settle.bind fun r2 ρ3 => match (peek r ρ3).bind xdic, (peek r1 ρ3).bind kOf, frz r2 ρ3 with
    | some (ks, xs), some k, some (d, ρ4) => .ok (.val ((dctGet ks xs k).getD d)) ρ4
    | _, _, _ => .no
  | none => .no
theorem view_x {K : PySem.W.Frag} {F H : Hp} (s : Sub F H) {d : D} {v : V} {ks xs : List D} (a : View K F H d v) (h : xdic d = some (ks, xs)) : ∃ p es, v = .ref p ∧ XAt H p es ∧ KeysAt K H es ∧ ks.map kOf = es.map (fun e => some e.1) ∧ Reps K F xs (es.map (·.2.2)) := by
  cases d with
  | dct ks' xs' =>
    cases h
    obtain ⟨p, es, rfl, q, hm, rk, r⟩ := a
    exact ⟨p, es, rfl, .inl q, keysAt_of s hm rk, hm, r⟩
  | dic ks' xs' =>
    have h' : (if ks'.isEmpty then some (([] : List D), ([] : List D)) else none) = some (ks, xs) := h
    split at h'
    · rename_i he
      have : ks' = [] := List.isEmpty_iff.mp he
      subst this
      cases h'
      obtain ⟨p, vs, rfl, q, l, nd, r⟩ := a
      exact ⟨p, [], rfl, .inr ⟨rfl, q⟩, (fun e h => nomatch h), rfl, .nil⟩
    · cases h'
  | _ => cases h
def tXGet2 (K : PySem.W.Frag) (td ty tx : TE) : TE := fun σ H Q => td σ H fun x H1 => ∃ a es0, x = .ref a ∧ XAt H1 a es0 ∧ KeysAt K H1 es0 ∧ ty σ H1 fun y H2 => tx σ H2 fun z H3 => ∃ es k, XAt H3 a es ∧ KeysAt K H3 es ∧ KeyAt K H3 y k ∧ Q ((xGet es k).getD z) H3
section
variable {X : Cx} {W : WX} {o e f : Expr} {go ge gf : Ev} {td ty tx : TE} {apos cpos pos p : Pos} {k : Nat}
theorem pe_xget2 (hw : X.w = HasW.w) (hu : X.A.units + 65 < cLine) (ho : PE X o td) (he : PE X e ty) (hf : PE X f tx) (m : M2 X o "get" apos e f cpos) : PE X (.Call (.Attribute o "get" apos) [e, f] [] cpos) (tXGet2 X.K td ty tx) := by
  refine ⟨fun pins s σ H Q I h => ?_⟩
  refine wpAny_Call_method m.base m.few m.line PySem.F.plainAttrs_dict PySem.F.slot_dict_get PySem.F.type_dict_get (thn (ho.run pins s σ H _ I h) fun u s1 ⟨x, H1, I1, rx, a, es0, ex, xa, ka, q1⟩ => ?_)
  subst ex
  obtain rfl : u = Value.ref a := rx
  obtain ⟨z, hd, us, rv, dd⟩ := xa.facts hw I1 ka
  refine ⟨dd.typeIs, (fun b q => ?_), ?_⟩
  · cases q
    obtain ⟨ob, _, _, h1, h2, _⟩ := dd
    exact ⟨ob, h1, h2.2.1⟩
  rw [m.trees]
  refine wpAny_dict_get2_heap (knd := nestedKind X.prog X.w) (room8 hu) hd (thn (he.run pins s1 σ H1 _ I1 q1) fun iv s2 ⟨y, H2, I2, ry, q2⟩ => thn (hf.run pins s2 σ H2 _ I2 q2) fun fv s3 ⟨zv, H3, I3, rz, es, kk, xa3, ka3, kat, q3⟩ => ?_)
  obtain ⟨z3, hd3, us3, rv3, dd3⟩ := xa3.facts hw I3 ka3
  obtain ⟨b, rfl, rfl, hk⟩ := kat.is I3 ry
  refine ⟨b, kk, _, rfl, hk, dd3, ?_⟩
  have rel := xGet_rel (k := kk) es us3 rv3
  cases h1 : xGet es kk with
  | none =>
    rw [h1] at rel q3
    have e2 : (atKey (zip3 es us3) kk).map (·.2) = none := RelO.none_of rel
    rw [e2]
    exact ⟨zv, H3, I3.tok _, rz, q3⟩
  | some v1 =>
    rw [h1] at rel q3
    obtain ⟨w', hw', rw'⟩ := RelO.some_of (v := v1) rel
    rw [hw']
    exact ⟨v1, H3, I3.tok _, rw', q3⟩
theorem ed_xget2 (hr : RoomG k X.A) (ho : PE X o (tE X.K W go)) (he : PE X e (tE X.K W ge)) (hf : PE X f (tE X.K W gf)) (m : M2 X o "get" apos e f cpos := by exact ⟨rfl, rfl, rfl, rfl⟩) (hw : X.w = HasW.w := by rfl) :
    PE X (.Call (.Attribute o "get" apos) [e, f] [] cpos) (tE X.K W (dGet2X go ge gf)) := by
  refine (pe_xget2 hw (u65 hr) ho he hf m).weak fun σ H Q ⟨α, ρ, F, G, ft, h⟩ => ⟨α, ρ, F, G, ft, EC.bindS (fun r ρ1 v H1 F1 g1 f1 s1 h1 => ?_) h⟩
  cases e1 : (peek r ρ1).bind xdic with
  | none => simp [e1, EC] at h1
  | some w0 =>
    simp only [e1] at h1
    obtain ⟨d0, e0, e01⟩ := Option.bind_eq_some_iff.mp e1
    obtain ⟨a, es0, rfl, xa, ka, _⟩ := view_x f1.fh (f1.peek s1 e0) (show xdic d0 = some (w0.1, w0.2) from e01)
    refine ⟨a, es0, rfl, xa, ka, α, ρ1, F1, G, f1, EC.bindS (fun r1 ρ2 y H2 F2 g2 f2 s2 h2 => ?_) h1⟩
    refine ⟨α, ρ2, F2, G, f2, EC.bindS (fun r2 ρ3 z H3 F3 g3 f3 s3 h3 => ?_) h2⟩
    cases e2 : (peek r ρ3).bind xdic with
    | none => simp [e2, EC] at h3
    | some dd =>
      cases e3 : (peek r1 ρ3).bind kOf with
      | none => simp [e2, e3, EC] at h3
      | some kk =>
        cases e4 : frz r2 ρ3 with
        | none => simp [e2, e3, e4, EC] at h3
        | some w =>
          obtain ⟨d, ρ4⟩ := w
          obtain ⟨ks, xs⟩ := dd
          simp only [e2, e3, e4] at h3
          obtain ⟨d2, e20, e21⟩ := Option.bind_eq_some_iff.mp e2
          obtain ⟨d3, e30, e31⟩ := Option.bind_eq_some_iff.mp e3
          obtain ⟨a', es, ea, xa2, ka2, hm, rr⟩ := view_x f3.fh (f3.peek (s1.mono (g2.sub.trans g3.sub)) e20) e21
          cases ea
          obtain ⟨F4, g4, f4, r4⟩ := f3.frz s3 e4
          refine ⟨es, kk, xa2, ka2, View.keyAt f3.fh (f3.peek (s2.mono g3.sub) e30) e31, ?_⟩
          have rel := dctGet_rep (k := kk) hm (Reps.mono g4.sub _ _ rr)
          cases e6 : dctGet ks xs kk with
          | none =>
            rw [rel.2.1 e6]
            rw [e6] at h3
            exact h3 _ H3 F4 g4 f4 r4
          | some d1 =>
            obtain ⟨v1, hv1, rv1⟩ := rel.1 d1 e6
            rw [hv1]
            rw [e6] at h3
            exact h3 _ H3 F4 g4 f4 rv1
theorem ed_get2A (hr : RoomG k X.A) (ho : PE X o (tE X.K W go)) (he : PE X e (tE X.K W ge)) (hf : PE X f (tE X.K W gf)) (m : M2 X o "get" apos e f cpos := by exact ⟨rfl, rfl, rfl, rfl⟩) (hw : X.w = HasW.w := by rfl) :
    PE X (.Call (.Attribute o "get" apos) [e, f] [] cpos) (tE X.K W (orE (dGet2X go ge gf) (dGet2 go ge gf))) := ed_orE (ed_xget2 hr ho he hf m hw) (ed_dget2 hr ho he hf m)
end
/-! ### xs[::-1] -/
def opRev (d : D) : Option RV := match d with
  | .lst xs => some (.new (.lst xs.reverse))
  | .scr xs => some (.new (.lst xs.reverse))
  | _ => none
section
variable {X : Cx} {W : WX} {e : Expr} {g : Ev} {pos : Pos} {k : Nat}
theorem ed_revL {p1 p2 p3 : Pos} (he : PE X e (tE X.K W g)) : PE X (.Subscript e (.Slice none none (some (.UnaryOp .USub (.Constant (.int 1) k p1) p2)) p3) pos) (tE X.K W (dOp1 opRev g)) := by
  refine (pe_revL he).weak fun σ H Q h => ?_
  refine ec_op1 (r := fun x H1 Q => ∃ a xs, x = .ref a ∧ SqL X.K H1 a xs ∧ ∀ p, H1 p = none → Q (.ref p) (upd H1 p (.lst xs.reverse))) ?_ h
  intro F H d v z Q s a h q
  cases d with
  | lst xs => cases h; obtain ⟨p, vs, rfl, hq, r⟩ := a; exact ⟨p, vs, rfl, SqL.of hq, fun p' hp => q _ _ _ (Ext.allocO s hp) ⟨p', rfl, hp, s.free hp, _, upd_same, r.rev⟩⟩
  | scr xs => cases h; obtain ⟨p, vs, rfl, hq, r⟩ := a; exact ⟨p, vs, rfl, s.sqL hq, fun p' hp => q _ _ _ (Ext.allocO s hp) ⟨p', rfl, hp, s.free hp, _, upd_same, r.rev⟩⟩
  | _ => cases h
end
/-! ### min, max of one thing -/
def intsOf : D → Option (List Int)
  | .lst xs => intsD xs
  | .scr xs => intsD xs
  | .tup xs => intsD xs
  | _ => none
def fMax1 : List D → Option RV
  | [d] => match intsOf d with
    | some (n :: ns) => some (.val (.int (ns.foldl max n)))
    | _ => none
  | _ => none
def fMin1 : List D → Option RV
  | [d] => match intsOf d with
    | some (n :: ns) => some (.val (.int (ns.foldl min n)))
    | _ => none
  | _ => none
section
variable {X : Cx}
def rExt (K : PySem.W.Frag) (f : Int → List Int → Int) : List V → Hp → VK → Prop := fun vs H Q => ∃ (a : Addr) (n : Int) (ns : List Int), vs = [.ref a] ∧ (SqL K H a ((n :: ns).map V.int) ∨ SqT K H a ((n :: ns).map V.int)) ∧ Q (.int (f n ns)) H
theorem alikeAll_ints (ns : List Int) : AlikeAll (ns.map PyData.int) := by
  refine ⟨fun d hd e he => ?_, fun d hd => ?_⟩
  · obtain ⟨i, _, rfl⟩ := List.mem_map.mp hd
    obtain ⟨j, _, rfl⟩ := List.mem_map.mp he
    rfl
  · obtain ⟨i, _, rfl⟩ := List.mem_map.mp hd
    exact fun z => nomatch z
theorem reads_ints {h : Heap} : ∀ {ns : List Int} {us : List Value}, Vals (ns.map V.int) us → ∃ as, ReadsAll h us (ns.map PyData.int) as
  | [], _, r => by cases r; exact ⟨_, .nil⟩
  | n :: ns, _, r => by
    cases r with
    | cons a b =>
      obtain ⟨t, rfl⟩ := a
      obtain ⟨as, q⟩ := reads_ints b
      exact ⟨_, .cons (.int _ _) q⟩
theorem call_max1 (hc : X.calm = true) (hu : X.A.units + 65 < cLine) : CallR X (.builtin "max") (rExt X.K fun n ns => ns.foldl max n) := by
  rintro pins s σ H vs us Q I r ⟨a, n, ns, rfl, hq, q⟩
  obtain ⟨u, rfl, rx⟩ := vals1 r
  cases rx
  have dp : PyData.depthAll ((n :: ns).map PyData.int) = 0 := PySem.W.depth_ints _
  rcases hq with hq | hq
  · obtain ⟨its, rv, pl, hz⟩ := I.list hq
    obtain ⟨as, rd⟩ := reads_ints (h := s.heap) rv
    refine max_list_data (I.ok.hd hc) pl.isList (x := .int n) (xs := ns.map PyData.int) (by simpa using rd) (alikeAll_ints (n :: ns)) (by rw [show (PyData.int n :: ns.map PyData.int) = (n :: ns).map PyData.int from rfl, dp]; omega) fun i v h' tk bs hi rd' hk => ?_
    rw [maxD_ints] at rd'
    cases rd'
    exact ⟨.int _, H, I.kept hk, ⟨_, rfl⟩, q⟩
  · obtain ⟨its, rv, pl, hz⟩ := I.tuple hq
    obtain ⟨as, rd⟩ := reads_ints (h := s.heap) rv
    refine max_tuple_data (I.ok.hd hc) pl (x := .int n) (xs := ns.map PyData.int) (by simpa using rd) (alikeAll_ints (n :: ns)) (by rw [show (PyData.int n :: ns.map PyData.int) = (n :: ns).map PyData.int from rfl, dp]; omega) fun i v h' tk bs hi rd' hk => ?_
    rw [maxD_ints] at rd'
    cases rd'
    exact ⟨.int _, H, I.kept hk, ⟨_, rfl⟩, q⟩
theorem call_min1 (hc : X.calm = true) (hu : X.A.units + 65 < cLine) : CallR X (.builtin "min") (rExt X.K fun n ns => ns.foldl min n) := by
  rintro pins s σ H vs us Q I r ⟨a, n, ns, rfl, hq, q⟩
  obtain ⟨u, rfl, rx⟩ := vals1 r
  cases rx
  have dp : PyData.depthAll ((n :: ns).map PyData.int) = 0 := PySem.W.depth_ints _
  rcases hq with hq | hq
  · obtain ⟨its, rv, pl, hz⟩ := I.list hq
    obtain ⟨as, rd⟩ := reads_ints (h := s.heap) rv
    refine min_list_data (I.ok.hd hc) pl.isList (x := .int n) (xs := ns.map PyData.int) (by simpa using rd) (alikeAll_ints (n :: ns)) (by rw [show (PyData.int n :: ns.map PyData.int) = (n :: ns).map PyData.int from rfl, dp]; omega) fun i v h' tk bs hi rd' hk => ?_
    rw [minD_ints] at rd'
    cases rd'
    exact ⟨.int _, H, I.kept hk, ⟨_, rfl⟩, q⟩
  · obtain ⟨its, rv, pl, hz⟩ := I.tuple hq
    obtain ⟨as, rd⟩ := reads_ints (h := s.heap) rv
    refine min_tuple_data (I.ok.hd hc) pl (x := .int n) (xs := ns.map PyData.int) (by simpa using rd) (alikeAll_ints (n :: ns)) (by rw [show (PyData.int n :: ns.map PyData.int) = (n :: ns).map PyData.int from rfl, dp]; omega) fun i v h' tk bs hi rd' hk => ?_
    rw [minD_ints] at rd'
    cases rd'
    exact ⟨.int _, H, I.kept hk, ⟨_, rfl⟩, q⟩
end
section
variable {K : PySem.W.Frag} {F H : Hp}
theorem intsOf_view {d : D} {v : V} {ns : List Int} (s : Sub F H) (a : View K F H d v) (h : intsOf d = some ns) : ∃ p, v = .ref p ∧ (SqL K H p (ns.map V.int) ∨ SqT K H p (ns.map V.int)) := by
  cases d with
  | lst xs => obtain ⟨p, vs, rfl, q, r⟩ := a; have := ints_eq (show intsD xs = some ns from h); subst this; rw [r.ints] at q; exact ⟨p, rfl, .inl (SqL.of q)⟩
  | scr xs => obtain ⟨p, vs, rfl, q, r⟩ := a; have := ints_eq (show intsD xs = some ns from h); subst this; rw [r.ints] at q; exact ⟨p, rfl, .inl (s.sqL q)⟩
  | tup xs => obtain ⟨p, vs, rfl, q, r⟩ := a; have := ints_eq (show intsD xs = some ns from h); subst this; rw [r.ints] at q; exact ⟨p, rfl, .inr (s.sqT q)⟩
  | _ => cases h
theorem on_max1 : OpN K (rExt K fun n ns => ns.foldl max n) fMax1 := by
  intro F H ds vs z Q s v h q
  unfold fMax1 at h
  split at h
  · rename_i d
    split at h
    · rename_i n ns e
      cases h
      obtain ⟨u, t, rfl, a, rfl⟩ := v
      obtain ⟨p, rfl, hp⟩ := intsOf_view s a e
      exact ⟨p, n, ns, rfl, hp, q _ H F (Ext.refl s) rfl⟩
    · cases h
  · cases h
theorem on_min1 : OpN K (rExt K fun n ns => ns.foldl min n) fMin1 := by
  intro F H ds vs z Q s v h q
  unfold fMin1 at h
  split at h
  · rename_i d
    split at h
    · rename_i n ns e
      cases h
      obtain ⟨u, t, rfl, a, rfl⟩ := v
      obtain ⟨p, rfl, hp⟩ := intsOf_view s a e
      exact ⟨p, n, ns, rfl, hp, q _ H F (Ext.refl s) rfl⟩
    · cases h
  · cases h
end
/-! ### pop, insert -/
def mPop : D → List D → Option (D × D)
  | .lst xs, [] => match xs[xs.length - 1]? with
    | some d => some (d, .lst xs.dropLast)
    | none => none
  | _, _ => none
def mInsert : D → List D → Option (D × D)
  | .lst xs, [.int i, d] => if xs.length < sizeLine ∧ 0 ≤ i ∧ i < 2 ^ 63 then some (.non, .lst (xs.take i.toNat ++ [d] ++ xs.drop i.toNat)) else none
  | _, _ => none
section
variable {K : PySem.W.Frag}
theorem m_pop : MtD K "list" rPop mPop := by
  intro F H a d ds vs ret d' Q s fa c r h q
  unfold mPop at h
  split at h
  · rename_i xs
    cases e : xs[xs.length - 1]? with
    | none => rw [e] at h; cases h
    | some y =>
      rw [e] at h
      cases h
      obtain ⟨ws, hw, rw'⟩ := c
      cases r
      obtain ⟨v, hv, rv⟩ := rw'.get e
      refine ⟨a, ws, v, rfl, rfl, hw, by rw [rw'.length]; exact hv, ?_⟩
      refine q v _ rv ⟨_, upd_same, ?_⟩
      rw [List.dropLast_eq_take, List.dropLast_eq_take, rw'.length]
      exact rw'.take _
  · cases h
theorem m_insert : MtD K "list" (fun x vs H Q => ∃ (l : Addr) (xs : List V) (i : Int) (y : V), x = .ref l ∧ vs = [.int i, y] ∧ H l = some (.lst xs) ∧ xs.length < sizeLine ∧ 0 ≤ i ∧ i < 2 ^ 63 ∧ Q .non (upd H l (.lst (xs.take i.toNat ++ [y] ++ xs.drop i.toNat)))) mInsert := by
  intro F H a d ds vs ret d' Q s fa c r h q
  unfold mInsert at h
  split at h
  · rename_i xs i d0
    split at h
    · rename_i hl
      cases h
      obtain ⟨ws, hw, rw'⟩ := c
      obtain ⟨v0, t0, rfl, rfl, v, t, rfl, rv, rfl⟩ := r
      refine ⟨a, ws, i, v, rfl, rfl, hw, by rw [rw'.length]; exact hl.1, hl.2.1, hl.2.2, ?_⟩
      exact q .non _ rfl ⟨_, upd_same, ((rw'.take _).append (.cons rv .nil)).append (rw'.drop _)⟩
    · cases h
  · cases h
end
section
variable {X : Cx} {W : WX} {e f o : Expr} {gs : Av} {cpos apos : Pos} {i : Nat}
theorem ed_pop (ho : PE X o (tE X.K W (dVar i))) (hbase : attributeBase o "pop" X.env (eval o X.env) = eval o X.env := by rfl) (hline : (apos.endLine == cpos.line) = true := by rfl) :
    PE X (.Call (.Attribute o "pop" apos) [] [] cpos) (tE X.K W (dMut "list" i mPop fun ρ => .ok [] ρ)) := ed_mut0 PySem.F.plainAttrs_list PySem.F.slot_list_pop PySem.F.type_list_pop mt_pop m_pop ho (pe_bm0 PySem.F.plainAttrs_list PySem.F.slot_list_pop PySem.F.type_list_pop mt_pop ho hbase hline)
theorem ed_insert (ho : PE X o (tE X.K W (dVar i))) (ha : PA X [e, f] (tA X.K W gs)) (hbase : attributeBase o "insert" X.env (eval o X.env) = eval o X.env := by rfl) (hfew : ((backTo cpos (starEach [e, f] X.env)).all (fun x => !x.1) && (backToKw cpos (keywordEach [] X.env)).all (fun x => x.1.isSome)
      && decide ([e, f].length + ([] : List Keyword).length + (if ([] : List Keyword).isEmpty then 0 else 1) < 30)) = true := by rfl) (hline : (apos.endLine == cpos.line) = true := by rfl) (hs : starEach [e, f] X.env = (false, eval e X.env) :: starEach [f] X.env := by rfl) (hplain : (backTo cpos (starEach [f] X.env)).any (·.1) = false := by rfl) :
    PE X (.Call (.Attribute o "insert" apos) [e, f] [] cpos) (tE X.K W (dMut "list" i mInsert gs)) := ed_mut PySem.F.plainAttrs_list PySem.F.slot_list_insert PySem.F.type_list_insert mt_insert m_insert ho ha hbase hfew hline hs hplain
end
/-! ### is, is not of truths -/
def opIsB : D → D → Option RV
  | .bl a, .bl b => some (.val (.bl (decide (a = b))))
  | _, _ => none
def opNotB : D → D → Option RV
  | .bl a, .bl b => some (.val (.bl (!decide (a = b))))
  | _, _ => none
section
variable {K : PySem.W.Frag}
theorem o_isB : Op2 K rIsB opIsB := by
  intro F H d e x y z Q s a b h q
  unfold opIsB at h
  split at h
  · cases h; cases a; cases b; exact ⟨_, _, rfl, rfl, q _ H F (Ext.refl s) rfl⟩
  · cases h
theorem o_notB : Op2 K rNotB opNotB := by
  intro F H d e x y z Q s a b h q
  unfold opNotB at h
  split at h
  · cases h; cases a; cases b; exact ⟨_, _, rfl, rfl, q _ H F (Ext.refl s) rfl⟩
  · cases h
theorem bf_isB : BoolF opIsB := fun x y z h => by
  unfold opIsB at h
  split at h
  · cases h; exact ⟨_, rfl⟩
  · cases h
theorem bf_notB : BoolF opNotB := fun x y z h => by
  unfold opNotB at h
  split at h
  · cases h; exact ⟨_, rfl⟩
  · cases h
end
section
variable {X : Cx} {W : WX} {a b : Expr} {ga gb : Ev}
theorem cd_isB (ha : PE X a (tE X.K W ga)) (hb : PE X b (tE X.K W gb)) : PC X .Is a b (tE X.K W (dOp2 opIsB ga gb)) := cd_op op_isBl o_isB ha hb
theorem cd_notB (ha : PE X a (tE X.K W ga)) (hb : PE X b (tE X.K W gb)) : PC X .IsNot a b (tE X.K W (dOp2 opNotB ga gb)) := cd_op op_notBl o_notB ha hb
end
end DL

/-! a if c else b as a test. -/
namespace DL
open PySem PySem.Spec L2
variable [HasW]
section
variable {X : Cx} {W : WX} {a b c : Expr} {ga gb gc : Ev} {ta tb tc : TT} {pos : Pos}
theorem pt_ifx (hc : PT X c tc) (ha : PT X a ta) (hb : PT X b tb) : PT X (.IfExp c a b pos) (fun σ H Q => tc σ H fun d H1 => if d = true then ta σ H1 Q else tb σ H1 Q) := by
  refine ⟨fun pins s σ H Q I h => ?_⟩
  rw [PySem.isTrue]
  refine wpAny_bind (thn (hc.run pins s σ H _ I h) fun d s1 ⟨H1, I1, q1⟩ => ?_)
  cases d with
  | true => exact ha.run pins s1 σ H1 Q I1 q1
  | false => exact hb.run pins s1 σ H1 Q I1 q1
theorem td_ifx (hc : PT X c (tT X.K W gc)) (ha : PT X a (tT X.K W ga)) (hb : PT X b (tT X.K W gb)) : PT X (.IfExp c a b pos) (tT X.K W (dIf gc ga gb)) := by
  refine (pt_ifx hc ha hb).weak fun σ H Q ⟨α, ρ, F, G, f, h⟩ => ⟨α, ρ, F, G, f, BC.bindB (fun r ρ1 hr => ?_) (fun b ρ1 H1 F1 g1 f1 h1 => ?_) h⟩
  · cases r with
    | val d =>
      cases d with
      | bl b => exact absurd rfl (hr b)
      | _ => rfl
    | _ => rfl
  · cases b with
    | true => exact iteT ⟨α, ρ1, F1, G, f1, h1⟩
    | false => exact iteF ⟨α, ρ1, F1, G, f1, h1⟩
end
end DL

/-! a, b = x, y: what is new stays one's own. -/
namespace DL
open PySem PySem.Spec L2
inductive HR where | ok (rs : List RV) (ρ : Env) | no
def HR.add (r : RV) : HR → HR
  | .ok rs ρ => .ok (r :: rs) ρ
  | .no => .no
def dHold : List Ev → Env → HR
  | [], ρ => .ok [] ρ
  | g :: gs, ρ => match g ρ with
    | .ok r ρ1 => match r with
      | .loc i => match frz (.loc i) ρ1 with
        | some (d, ρ2) => (dHold gs ρ2).add (.val d)
        | none => .no
      | .val d => (dHold gs ρ1).add (.val d)
      | .new d => (dHold gs ρ1).add (.new d)
    | _ => .no
def setH (ρ : Env) (i : Nat) : RV → Option Env
  | .val d => setV ρ i (.val d)
  | .new d => setV ρ i (.own d)
  | .loc _ => none
def setHs : List Nat → List RV → Env → Option Env
  | [], [], ρ => some ρ
  | i :: is, r :: rs, ρ => match setH ρ i r with
    | some ρ1 => setHs is rs ρ1
    | none => none
  | _, _, _ => none
def dParH (is : List Nat) (gs : List Ev) : Sv := fun ρ => match dHold gs ρ with
  | .ok rs ρ1 => SR.of (setHs is rs ρ1)
  | .no => .no
variable [HasW]
def HeldOk (K : PySem.W.Frag) (F G H : Hp) (σ : L2.St) (ρ : Env) : List RV → List V → Prop
  | [], vs => vs = []
  | r :: rs, vs => ∃ v t, vs = v :: t ∧ RRep K F G H σ ρ r v ∧ (∀ i, r ≠ .loc i) ∧ (∀ d, r = .new d → ∀ (k : Nat) (d' : D), rs[k]? = some (.new d') → t[k]? ≠ some v) ∧ HeldOk K F G H σ ρ rs t
section
variable {K : PySem.W.Frag} {W : WX} {α : Nat → Addr} {ρ ρ' : Env} {σ : L2.St} {H F G H' F' : Hp} {a : Addr} {o : HO}
/-- what is held is ground -/
theorem Fits.pin (f : Fits K α ρ σ H F G) (h : H a = some o) (sp : ∀ (i : Nat) (s : Slot), ρ[i]? = some s → s.owns = true → σ[i]? ≠ some (some (V.ref a))) : Fits K α ρ σ H F (upd G a o) := by
  refine ⟨f.fh, fun b u e => ?_, f.len, fun i s q => ?_, f.sep⟩
  · by_cases q : b = a
    · subst q
      rw [upd_same] at e
      cases e
      exact h
    · rw [upd_ne q] at e
      exact f.gh _ _ e
  · obtain ⟨x, hx, so⟩ := f.slot i s q
    refine ⟨x, hx, ?_⟩
    cases s with
    | non => trivial
    | val d => exact so
    | own d =>
      obtain ⟨b, rfl, fb, gb, c⟩ := so
      have ne : b ≠ a := fun z => sp i _ q rfl (by rw [hx, z])
      exact ⟨b, rfl, fb, by rw [upd_ne ne]; exact gb, c⟩
    | bor d =>
      obtain ⟨rfl, fb, gb, c⟩ := so
      have ne : α i ≠ a := fun z => sp i _ q rfl (by rw [hx, z])
      exact ⟨rfl, fb, by rw [upd_ne ne]; exact gb, c⟩
theorem of_upd_none {b : Addr} (h : upd G a o b = none) : b ≠ a ∧ G b = none := by
  have ne : b ≠ a := fun z => by rw [z, upd_same] at h; cases h
  rw [upd_ne ne] at h
  exact ⟨ne, h⟩
theorem Fits.unpin (f : Fits K α ρ σ H F (upd G a o)) (g : G a = none) : Fits K α ρ σ H F G := by
  refine ⟨f.fh, fun b u e => f.gh _ _ (by rw [upd_ne (ne_of_none e g)]; exact e), f.len, fun i s q => ?_, f.sep⟩
  obtain ⟨x, hx, so⟩ := f.slot i s q
  refine ⟨x, hx, ?_⟩
  cases s with
  | non => trivial
  | val d => exact so
  | own d => obtain ⟨b, e, fb, gb, c⟩ := so; exact ⟨b, e, fb, (of_upd_none gb).2, c⟩
  | bor d => obtain ⟨e, fb, gb, c⟩ := so; exact ⟨e, fb, (of_upd_none gb).2, c⟩
theorem Grow.unpin (g : Grow (upd G a o) F F') : Grow G F F' := ⟨g.sub, fun b u e => (g.new b u e).imp id fun h => ⟨h.1, (of_upd_none h.2).2⟩⟩
theorem HeldOk.unpin : ∀ {rs : List RV} {vs : List V}, HeldOk K F (upd G a o) H σ ρ rs vs → HeldOk K F G H σ ρ rs vs
  | [], _, h => h
  | r :: rs, _, h => by
    obtain ⟨v, t, rfl, rr, nl, sp, hh⟩ := h
    refine ⟨v, t, rfl, ?_, nl, sp, HeldOk.unpin hh⟩
    cases r with
    | val d => exact rr
    | loc i => exact rr
    | new d => obtain ⟨b, e, fb, gb, c, s⟩ := rr; exact ⟨b, e, fb, (of_upd_none gb).2, c, s⟩
theorem HeldOk.apart : ∀ {rs : List RV} {vs : List V}, HeldOk K F (upd G a o) H σ ρ rs vs → ∀ (k : Nat) (d' : D), rs[k]? = some (.new d') → vs[k]? ≠ some (.ref a)
  | [], _, h, k, d', e => by simp at e
  | r :: rs, _, h, 0, d', e => by
    obtain ⟨v, t, rfl, rr, _⟩ := h
    simp at e
    subst e
    obtain ⟨b, rfl, fb, gb, _⟩ := rr
    intro z
    simp at z
    exact (of_upd_none gb).1 z
  | r :: rs, _, h, k + 1, d', e => by
    obtain ⟨v, t, rfl, _, _, _, hh⟩ := h
    have := HeldOk.apart hh k d' (by simpa using e)
    simpa using this
def tHold (K : PySem.W.Frag) (W : WX) : List Ev → L2.St → Hp → (List V → Hp → Prop) → Prop
  | [], _, H, T => T [] H
  | g :: gs, σ, H, T => tE K W g σ H fun v H1 => tHold K W gs σ H1 fun vs H2 => T (v :: vs) H2
theorem hold_all : ∀ {gs : List Ev} {ρ : Env} {H F G : Hp} {rs : List RV} {ρ' : Env} {T : List V → Hp → Prop}, Fits K α ρ σ H F G → dHold gs ρ = .ok rs ρ' →
    (∀ vs H' F', Grow G F F' → Fits K α ρ' σ H' F' G → HeldOk K F' G H' σ ρ' rs vs → T vs H') → tHold K W gs σ H T
  | [], ρ, H, F, G, rs, ρ', T, f, e, h => by
    cases e
    exact h [] H F (Grow.refl _ _) f rfl
  | g :: gs, ρ, H, F, G, rs, ρ', T, f, e, h => by
    refine ⟨α, ρ, F, G, f, ?_⟩
    unfold dHold at e
    cases e1 : g ρ with
    | no => rw [e1] at e; cases e
    | ex x ρ1 => rw [e1] at e; cases e
    | ok r ρ1 =>
      rw [e1] at e
      intro v H1 F1 g1 f1 r1
      have val : ∀ {d : D} {ρ2 : Env} {F2 : Hp}, Grow G F1 F2 → Fits K α ρ2 σ H1 F2 G → Rep K F2 d v → (dHold gs ρ2).add (.val d) = .ok rs ρ' → tHold K W gs σ H1 fun vs H2 => T (v :: vs) H2 := by
        intro d ρ2 F2 g2 f2 rd e2
        cases e3 : dHold gs ρ2 with
        | no => rw [e3] at e2; cases e2
        | ok rs' ρ3 =>
          rw [e3] at e2
          cases e2
          exact hold_all f2 e3 fun vs H' F' g3 f3 hh => h (v :: vs) H' F' ((g1.trans g2).trans g3) f3 ⟨v, vs, rfl, Rep.mono g3.sub _ _ rd, (fun i z => nomatch z), (fun d z => nomatch z), hh⟩
      cases r with
      | val d => exact val (Grow.refl _ _) f1 r1 e
      | loc i =>
        have e' : (match frz (.loc i) ρ1 with | some (d, ρ2) => (dHold gs ρ2).add (.val d) | none => .no) = HR.ok rs ρ' := e
        cases e2 : frz (.loc i) ρ1 with
        | none => rw [e2] at e'; cases e'
        | some w =>
          obtain ⟨d, ρ2⟩ := w
          rw [e2] at e'
          obtain ⟨F2, g2, f2, r2⟩ := f1.frz (r := .loc i) (v := v) r1 e2
          exact val g2 f2 r2 e'
      | new d =>
        obtain ⟨a, rfl, fa, ga, c, sp⟩ := r1
        obtain ⟨o, ho⟩ := c.there
        have e' : (dHold gs ρ1).add (.new d) = HR.ok rs ρ' := e
        cases e3 : dHold gs ρ1 with
        | no => rw [e3] at e'; cases e'
        | ok rs' ρ3 =>
          rw [e3] at e'
          cases e'
          refine hold_all (f1.pin ho sp) e3 fun vs H' F' g3 f3 hh => ?_
          have fa' : F' a = none := by
            cases z : F' a with
            | none => rfl
            | some u =>
              rcases g3.new a u z with w | ⟨_, w⟩
              · rw [fa] at w; cases w
              · rw [upd_same] at w; cases w
          have ha' : H' a = some o := f3.gh _ _ upd_same
          refine h (.ref a :: vs) H' F' (g1.trans g3.unpin) (f3.unpin ga) ⟨_, vs, rfl, ⟨a, rfl, fa', ga, c.mono g3.sub (fun u z => by rw [ho] at z; cases z; exact ha'), fun i s q ow z => ?_⟩, (fun i z => nomatch z), (fun d' _ => hh.apart), hh.unpin⟩
          obtain ⟨x, hx, so⟩ := f3.slot i s q
          rw [z] at hx
          cases hx
          cases s with
          | non => cases ow
          | val d => cases ow
          | own d => obtain ⟨b, eb, fb, gb, _⟩ := so; cases eb; rw [upd_same] at gb; cases gb
          | bor d =>
            obtain ⟨eb, fb, gb, _⟩ := so
            cases eb
            rw [upd_same] at gb
            cases gb
def setAll : L2.St → List Nat → List V → L2.St
  | σ, i :: is, v :: vs => setAll (σ.set i (some v)) is vs
  | σ, _, _ => σ
theorem HeldOk.shift {i : Nat} {s t : Slot} {v : V} (e : ρ[i]? = some t) : ∀ {rs : List RV} {vs : List V}, (s.owns = true → ∀ (k : Nat) (d' : D), rs[k]? = some (.new d') → vs[k]? ≠ some v) → HeldOk K F G H σ ρ rs vs → HeldOk K F G H (σ.set i (some v)) (ρ.set i s) rs vs
  | [], _, _, h => h
  | r :: rs, _, ap, h => by
    obtain ⟨u, l, rfl, rr, nl, sp, hh⟩ := h
    refine ⟨u, l, rfl, ?_, nl, sp, HeldOk.shift e (fun o k d' q => by simpa using ap o (k + 1) d' (by simpa using q)) hh⟩
    cases r with
    | val d => exact rr
    | loc i => exact absurd rfl (nl i)
    | new d =>
      obtain ⟨b, rfl, fb, gb, c, ss⟩ := rr
      refine ⟨b, rfl, fb, gb, c, fun j w q ow z => ?_⟩
      by_cases hj : i = j
      · subst hj
        have hi : i < ρ.length := (List.getElem?_eq_some_iff.mp e).1
        rw [List.getElem?_set_self hi] at q
        cases q
        have hs : i < σ.length := by
          have := (List.getElem?_eq_some_iff.mp z).1
          rwa [List.length_set] at this
        rw [List.getElem?_set_self hs] at z
        cases z
        exact ap ow 0 d rfl rfl
      · rw [List.getElem?_set_ne hj] at q z
        exact ss j w q ow z
theorem set_all : ∀ {is : List Nat} {rs : List RV} {vs : List V} {ρ ρ' : Env} {σ : L2.St}, Fits K α ρ σ H F G → HeldOk K F G H σ ρ rs vs → setHs is rs ρ = some ρ' → Fits K α ρ' (setAll σ is vs) H F G
  | [], [], vs, ρ, ρ', σ, f, h, e => by cases e; cases h; exact f
  | [], _ :: _, _, _, _, _, _, _, e => by cases e
  | _ :: _, [], _, _, _, _, _, _, e => by cases e
  | i :: is, r :: rs, _, ρ, ρ', σ, f, h, e => by
    obtain ⟨v, t, rfl, rr, nl, sp, hh⟩ := h
    have e' : (match setH ρ i r with | some ρ1 => setHs is rs ρ1 | none => none) = some ρ' := e
    cases e1 : setH ρ i r with
    | none => rw [e1] at e'; cases e'
    | some ρ1 =>
      rw [e1] at e'
      show Fits K α ρ' (setAll (σ.set i (some v)) is t) H F G
      cases r with
      | loc i => exact absurd rfl (nl i)
      | val d =>
        obtain ⟨u, e2, rfl⟩ := setV_there (show setV ρ i (.val d) = some ρ1 from e1)
        exact set_all (f.setSlot (s := .val d) (v := v) e2 ⟨v, rfl, rr⟩ fun o => by cases o) (hh.shift e2 (fun o => by cases o)) e'
      | new d =>
        obtain ⟨u, e2, rfl⟩ := setV_there (show setV ρ i (.own d) = some ρ1 from e1)
        have rr' := rr
        obtain ⟨a, rfl, fa, ga, c, ss⟩ := rr
        exact set_all (f.setSlot (s := .own d) (v := .ref a) e2 ⟨a, rfl, fa, ga, c⟩ fun _ j u b q _ q1 q2 => by cases q; exact ss j u q1 q2) (hh.shift e2 fun _ => sp d rfl) e'
end
theorem setHs_len : ∀ {is : List Nat} {rs : List RV} {ρ ρ' : Env}, setHs is rs ρ = some ρ' → rs.length = is.length
  | [], [], _, _, _ => rfl
  | [], _ :: _, _, _, q => by cases q
  | _ :: _, [], _, _, q => by cases q
  | i :: is, r :: rs, ρ, ρ', q => by
    have q' : (match setH ρ i r with | some ρ1 => setHs is rs ρ1 | none => none) = some ρ' := q
    cases z : setH ρ i r with
    | none => rw [z] at q'; cases q'
    | some ρ3 =>
      rw [z] at q'
      rw [List.length_cons, List.length_cons, setHs_len q']
theorem len2 {α : Type} {l : List α} (h : l.length = 2) : ∃ a b, l = [a, b] := by
  cases l with
  | nil => cases h
  | cons a l => cases l with
    | nil => cases h
    | cons b l => cases l with
      | nil => exact ⟨a, b, rfl⟩
      | cons c l => cases h
theorem len3 {α : Type} {l : List α} (h : l.length = 3) : ∃ a b c, l = [a, b, c] := by
  cases l with
  | nil => cases h
  | cons a l =>
    obtain ⟨b, c, rfl⟩ := len2 (l := l) (by simpa using h)
    exact ⟨a, b, c, rfl⟩
section
variable {X : Cx} {W : WX} {a b c : Expr} {ga gb gc : Ev} {px py pz pt pos : Pos} {kt k2 pt2} {i j l : Nat} {x y z : Str}
theorem sd_par2 (hc : X.calm = true) (hN : X.N.Nodup) (ha : PE X a (tE X.K W ga)) (hb : PE X b (tE X.K W gb)) (hij : i ≠ j)
    (hi : X.N[i]? = some x := by rfl) (hj : X.N[j]? = some y := by rfl)
    (hx : X.env.scope.names.lookup x = some .local := by rfl) (hy : X.env.scope.names.lookup y = some .local := by rfl) (h1 : starEach [a, b] X.env = (false, eval a X.env) :: starEach [b] X.env := by rfl) (h2 : starEach [b] X.env = (false, eval b X.env) :: starEach [] X.env := by rfl)
    (hw : swappedStores [.Tuple [.Name x px, .Name y py] kt pt] (.Tuple [a, b] k2 pt2) X.env = pure (some [x, y]) := by rfl)
    (hs : swapsWithSole [.Tuple [.Name x px, .Name y py] kt pt] (.Tuple [a, b] k2 pt2) pos.line X.env = pure false := by rfl) :
    PS X (.Assign [.Tuple [.Name x px, .Name y py] kt pt] (.Tuple [a, b] k2 pt2) pos) (tS X.K W (dParH [i, j] [ga, gb])) := by
  refine (ps_par hc hN hi hj hij hx hy (pa_cons ha (pa_cons hb pa_nil h2) h1) hw hs).weak fun D σ H ⟨α, ρ, F, G, f, h⟩ => ?_
  unfold dParH at h
  cases e : dHold [ga, gb] ρ with
  | no => rw [e] at h; exact h.elim
  | ok rs ρ1 =>
    rw [e] at h
    obtain ⟨ρ2, e2, h2⟩ := sc_of h
    refine hold_all (K := X.K) (W := W) (α := α) (σ := σ) (gs := [ga, gb]) (T := fun vs H2 => ∃ v w, vs = [v, w] ∧ D.nx ((σ.set i (some v)).set j (some w)) H2) f e fun vs H' F' g' f' hh => ?_
    obtain ⟨r1, r2, rfl⟩ := len2 (setHs_len e2)
    have ff := set_all f' hh e2
    obtain ⟨v, t, rfl, _, _, _, v2, t2, rfl, _, _, _, rfl⟩ := hh
    exact ⟨v, v2, rfl, h2 _ H' F' g' ff⟩
theorem sd_par3 (hc : X.calm = true) (hN : X.N.Nodup) (ha : PE X a (tE X.K W ga)) (hb : PE X b (tE X.K W gb)) (hcc : PE X c (tE X.K W gc)) (hij : i ≠ j) (hil : i ≠ l) (hjl : j ≠ l)
    (hi : X.N[i]? = some x := by rfl) (hj : X.N[j]? = some y := by rfl) (hl : X.N[l]? = some z := by rfl)
    (hx : X.env.scope.names.lookup x = some .local := by rfl) (hy : X.env.scope.names.lookup y = some .local := by rfl) (hz : X.env.scope.names.lookup z = some .local := by rfl)
    (h1 : starEach [a, b, c] X.env = (false, eval a X.env) :: starEach [b, c] X.env := by rfl) (h2 : starEach [b, c] X.env = (false, eval b X.env) :: starEach [c] X.env := by rfl) (h3 : starEach [c] X.env = (false, eval c X.env) :: starEach [] X.env := by rfl)
    (hw : swappedStores [.Tuple [.Name x px, .Name y py, .Name z pz] kt pt] (.Tuple [a, b, c] k2 pt2) X.env = pure (some [x, y, z]) := by rfl)
    (hs : swapsWithSole [.Tuple [.Name x px, .Name y py, .Name z pz] kt pt] (.Tuple [a, b, c] k2 pt2) pos.line X.env = pure false := by rfl) :
    PS X (.Assign [.Tuple [.Name x px, .Name y py, .Name z pz] kt pt] (.Tuple [a, b, c] k2 pt2) pos) (tS X.K W (dParH [i, j, l] [ga, gb, gc])) := by
  refine (ps_par3 hc hN hi hj hl hij hil hjl hx hy hz (pa_cons ha (pa_cons hb (pa_cons hcc pa_nil h3) h2) h1) hw hs).weak fun D σ H ⟨α, ρ, F, G, f, h⟩ => ?_
  unfold dParH at h
  cases e : dHold [ga, gb, gc] ρ with
  | no => rw [e] at h; exact h.elim
  | ok rs ρ1 =>
    rw [e] at h
    obtain ⟨ρ2, e2, h2⟩ := sc_of h
    refine hold_all (K := X.K) (W := W) (α := α) (σ := σ) (gs := [ga, gb, gc]) (T := fun vs H2 => ∃ u v w, vs = [u, v, w] ∧ D.nx (((σ.set i (some u)).set j (some v)).set l (some w)) H2) f e fun vs H' F' g' f' hh => ?_
    obtain ⟨r1, r2, r3, rfl⟩ := len3 (setHs_len e2)
    have ff := set_all f' hh e2
    obtain ⟨v, t, rfl, _, _, _, v2, t2, rfl, _, _, _, v3, t3, rfl, _, _, _, rfl⟩ := hh
    exact ⟨v, v2, v3, rfl, h2 _ H' F' g' ff⟩
/-- the same by a tuple that is made and read again (a name that is a cell) -/
theorem sd_cell2 (hc : X.calm = true) (hN : X.N.Nodup) (ha : PE X a (tE X.K W ga)) (hb : PE X b (tE X.K W gb))
    (hi : X.N[i]? = some x := by rfl) (hj : X.N[j]? = some y := by rfl)
    (hx : Loc X.env.scope x := by first | exact .inl rfl | exact .inr rfl) (hy : Loc X.env.scope y := by first | exact .inl rfl | exact .inr rfl)
    (fx : X.fn x = true ∨ X.env.scope.names.lookup x = some .local := by first | exact .inl rfl | exact .inr rfl | assumption) (fy : X.fn y = true ∨ X.env.scope.names.lookup y = some .local := by first | exact .inl rfl | exact .inr rfl | assumption)
    (h1 : starEach [a, b] X.env = (false, eval a X.env) :: starEach [b] X.env := by rfl) (h2 : starEach [b] X.env = (false, eval b X.env) :: starEach [] X.env := by rfl)
    (hw : swappedStores [.Tuple [.Name x px, .Name y py] kt pt] (.Tuple [a, b] k2 pt2) X.env = pure none := by rfl)
    (hs : swapsWithSole [.Tuple [.Name x px, .Name y py] kt pt] (.Tuple [a, b] k2 pt2) pos.line X.env = pure false := by rfl)
    (g1 : (assignEach [.Tuple [.Name x px, .Name y py] kt pt] X.env).map (·.2) = [assign (.Tuple [.Name x px, .Name y py] kt pt) X.env] := by rfl)
    (hn : (assignEach [.Name x px, .Name y py] X.env).length = 2 := by rfl) (hst : (assignEach [.Name x px, .Name y py] X.env).findIdx? (·.1) = none := by rfl) :
    PS X (.Assign [.Tuple [.Name x px, .Name y py] kt pt] (.Tuple [a, b] k2 pt2) pos) (tS X.K W (dParH [i, j] [ga, gb])) := by
  refine (ps_asg (pe_tup (pa_cons ha (pa_cons hb pa_nil h2) h1)) (pg_tup hc (pgs_cons (pg_name hN hi hx fx) (pgs_cons (pg_name hN hj hy fy) pgs_nil)) hn hst) hs hw g1).weak fun D σ H ⟨α, ρ, F, G, f, h⟩ => ?_
  unfold dParH at h
  cases e : dHold [ga, gb] ρ with
  | no => rw [e] at h; exact h.elim
  | ok rs ρ1 =>
    rw [e] at h
    obtain ⟨ρ2, e2, h2⟩ := sc_of h
    refine hold_all (K := X.K) (W := W) (α := α) (σ := σ) (gs := [ga, gb]) (T := fun vs H1 => vs.length ≤ sizeLine ∧ ∀ p, H1 p = none → (gTup X.K 2 (gCons (gName i) (gCons (gName j) gNil))) (.ref p) σ (upd H1 p (.tup vs)) D.nx) f e fun vs H' F' g' f' hh => ?_
    obtain ⟨r1, r2, rfl⟩ := len2 (setHs_len e2)
    have ff := set_all f' hh e2
    obtain ⟨v, t, rfl, _, _, _, v2, t2, rfl, _, _, _, rfl⟩ := hh
    refine ⟨by rw [sizeLine_eq]; show 2 ≤ _; decide, fun p hp => ⟨p, [v, v2], rfl, SqT.of upd_same, rfl, v, [v2], rfl, v2, [], rfl, rfl, ?_⟩⟩
    exact h2 _ _ F' g' (ff.ext (Ext.allocO ff.fh hp))
theorem sd_cell3 (hc : X.calm = true) (hN : X.N.Nodup) (ha : PE X a (tE X.K W ga)) (hb : PE X b (tE X.K W gb)) (hcc : PE X c (tE X.K W gc))
    (hi : X.N[i]? = some x := by rfl) (hj : X.N[j]? = some y := by rfl) (hl : X.N[l]? = some z := by rfl)
    (hx : Loc X.env.scope x := by first | exact .inl rfl | exact .inr rfl) (hy : Loc X.env.scope y := by first | exact .inl rfl | exact .inr rfl) (hz : Loc X.env.scope z := by first | exact .inl rfl | exact .inr rfl)
    (fx : X.fn x = true ∨ X.env.scope.names.lookup x = some .local := by first | exact .inl rfl | exact .inr rfl | assumption) (fy : X.fn y = true ∨ X.env.scope.names.lookup y = some .local := by first | exact .inl rfl | exact .inr rfl | assumption) (fz : X.fn z = true ∨ X.env.scope.names.lookup z = some .local := by first | exact .inl rfl | exact .inr rfl | assumption)
    (h1 : starEach [a, b, c] X.env = (false, eval a X.env) :: starEach [b, c] X.env := by rfl) (h2 : starEach [b, c] X.env = (false, eval b X.env) :: starEach [c] X.env := by rfl) (h3 : starEach [c] X.env = (false, eval c X.env) :: starEach [] X.env := by rfl)
    (hw : swappedStores [.Tuple [.Name x px, .Name y py, .Name z pz] kt pt] (.Tuple [a, b, c] k2 pt2) X.env = pure none := by rfl)
    (hs : swapsWithSole [.Tuple [.Name x px, .Name y py, .Name z pz] kt pt] (.Tuple [a, b, c] k2 pt2) pos.line X.env = pure false := by rfl)
    (g1 : (assignEach [.Tuple [.Name x px, .Name y py, .Name z pz] kt pt] X.env).map (·.2) = [assign (.Tuple [.Name x px, .Name y py, .Name z pz] kt pt) X.env] := by rfl)
    (hn : (assignEach [.Name x px, .Name y py, .Name z pz] X.env).length = 3 := by rfl) (hst : (assignEach [.Name x px, .Name y py, .Name z pz] X.env).findIdx? (·.1) = none := by rfl) :
    PS X (.Assign [.Tuple [.Name x px, .Name y py, .Name z pz] kt pt] (.Tuple [a, b, c] k2 pt2) pos) (tS X.K W (dParH [i, j, l] [ga, gb, gc])) := by
  refine (ps_asg (pe_tup (pa_cons ha (pa_cons hb (pa_cons hcc pa_nil h3) h2) h1)) (pg_tup hc (pgs_cons (pg_name hN hi hx fx) (pgs_cons (pg_name hN hj hy fy) (pgs_cons (pg_name hN hl hz fz) pgs_nil))) hn hst) hs hw g1).weak fun D σ H ⟨α, ρ, F, G, f, h⟩ => ?_
  unfold dParH at h
  cases e : dHold [ga, gb, gc] ρ with
  | no => rw [e] at h; exact h.elim
  | ok rs ρ1 =>
    rw [e] at h
    obtain ⟨ρ2, e2, h2⟩ := sc_of h
    refine hold_all (K := X.K) (W := W) (α := α) (σ := σ) (gs := [ga, gb, gc]) (T := fun vs H1 => vs.length ≤ sizeLine ∧ ∀ p, H1 p = none → (gTup X.K 3 (gCons (gName i) (gCons (gName j) (gCons (gName l) gNil)))) (.ref p) σ (upd H1 p (.tup vs)) D.nx) f e fun vs H' F' g' f' hh => ?_
    obtain ⟨r1, r2, r3, rfl⟩ := len3 (setHs_len e2)
    have ff := set_all f' hh e2
    obtain ⟨v, t, rfl, _, _, _, v2, t2, rfl, _, _, _, v3, t3, rfl, _, _, _, rfl⟩ := hh
    refine ⟨by rw [sizeLine_eq]; show 3 ≤ _; decide, fun p hp => ⟨p, [v, v2, v3], rfl, SqT.of upd_same, rfl, v, [v2, v3], rfl, v2, [v3], rfl, v3, [], rfl, rfl, ?_⟩⟩
    exact h2 _ _ F' g' (ff.ext (Ext.allocO ff.fh hp))
end
end DL

/-! what is computed, by simp. -/
namespace DL
open PySem PySem.Spec L2
section
variable {ρ : Env} {g g1 g2 gc ga gb : Ev} {s1 s2 gb' : Sv} {gs : Av} {d : D} {i : Nat} {r : RV} {x : Exn} {b : Bool} {k : RV → Env → ER} {ks : RV → Env → SR}
/-! results -/
@[simp] theorem er_bind_ok : (ER.ok r ρ).bind k = k r ρ := rfl
@[simp] theorem er_bind_ex : (ER.ex x ρ).bind k = .ex x ρ := rfl
@[simp] theorem er_bind_no : ER.no.bind k = .no := rfl
@[simp] theorem er_st_ok : (ER.ok r ρ).st ks = ks r ρ := rfl
@[simp] theorem er_st_ex : (ER.ex x ρ).st ks = .ex x ρ := rfl
@[simp] theorem er_st_no : ER.no.st ks = .no := rfl
@[simp] theorem er_settle_val : (ER.ok (.val d) ρ).settle = .ok (.val d) ρ := rfl
@[simp] theorem er_settle_new : (ER.ok (.new d) ρ).settle = .ok (.val d) ρ := rfl
@[simp] theorem er_settle_loc : (ER.ok (.loc i) ρ).settle = .ok (.loc i) ρ := rfl
@[simp] theorem er_settle_ex : (ER.ex x ρ).settle = .ex x ρ := rfl
@[simp] theorem er_settle_no : ER.no.settle = .no := rfl
@[simp] theorem er_of_some : ER.of (some r) ρ = .ok r ρ := rfl
@[simp] theorem er_of_none : ER.of none ρ = .no := rfl
@[simp] theorem sr_of_some {ρ' : Env} : SR.of (some ρ') = .nx ρ' := rfl
@[simp] theorem sr_of_none : SR.of none = .no := rfl
@[simp] theorem sr_bind_nx {k : Env → SR} : (SR.nx ρ).bind k = k ρ := rfl
@[simp] theorem sr_bind_rt {k : Env → SR} : (SR.rt r ρ).bind k = .rt r ρ := rfl
@[simp] theorem sr_bind_bk {k : Env → SR} : (SR.bk ρ).bind k = .bk ρ := rfl
@[simp] theorem sr_bind_ct {k : Env → SR} : (SR.ct ρ).bind k = .ct ρ := rfl
@[simp] theorem sr_bind_ex {k : Env → SR} : (SR.ex x ρ).bind k = .ex x ρ := rfl
@[simp] theorem sr_bind_no {k : Env → SR} : SR.no.bind k = .no := rfl
@[simp] theorem er_bind_ite {c : Prop} [Decidable c] {a b : ER} : (if c then a else b).bind k = if c then a.bind k else b.bind k := by split <;> rfl
@[simp] theorem er_st_ite {c : Prop} [Decidable c] {a b : ER} : (if c then a else b).st ks = if c then a.st ks else b.st ks := by split <;> rfl
@[simp] theorem er_settle_ite {c : Prop} [Decidable c] {a b : ER} : (if c then a else b).settle = if c then a.settle else b.settle := by split <;> rfl
@[simp] theorem sr_bind_ite {c : Prop} [Decidable c] {a b : SR} {k : Env → SR} : (if c then a else b).bind k = if c then a.bind k else b.bind k := by split <;> rfl
/-! what is read -/
@[simp] theorem peek_val : peek (.val d) ρ = some d := rfl
theorem peek_loc : peek (.loc i) ρ = match ρ[i]? with
    | some (.val d) => some d
    | some (.own d) => some d
    | some (.bor d) => some d
    | _ => none := rfl
@[simp] theorem frz_val : frz (.val d) ρ = some (d, ρ) := rfl
theorem frz_loc : frz (.loc i) ρ = match ρ[i]? with
    | some (.val d) => some (d, ρ)
    | some (.own d) => some (d, ρ.set i (.val d))
    | _ => none := rfl
/-! expressions -/
@[simp] theorem dC_ap : dC d ρ = .ok (.val d) ρ := rfl
theorem dVar_ap : dVar i ρ = match ρ[i]? with
    | some (.val d) => .ok (.val d) ρ
    | some (.own _) => .ok (.loc i) ρ
    | some (.bor _) => .ok (.loc i) ρ
    | _ => .no := rfl
@[simp] theorem dOp2_ap {f : D → D → Option RV} : dOp2 f ga gb ρ = (ga ρ).settle.bind fun r1 ρ1 => (gb ρ1).settle.bind fun r2 ρ2 => match peek r1 ρ2, peek r2 ρ2 with
    | some x, some y => ER.of (f x y) ρ2
    | _, _ => .no := rfl
@[simp] theorem dOp1_ap {f : D → Option RV} : dOp1 f ga ρ = (ga ρ).settle.bind fun r1 ρ1 => match peek r1 ρ1 with
    | some x => ER.of (f x) ρ1
    | _ => .no := rfl
/-- a test's two ways -/
def ER.two (e : ER) (a b : Env → ER) : ER := e.bind fun r ρ1 => match r with
  | .val (.bl true) => a ρ1
  | .val (.bl false) => b ρ1
  | _ => .no
@[simp] theorem two_bl {a c : Env → ER} : (ER.ok (.val (.bl b)) ρ).two a c = if b = true then a ρ else c ρ := by cases b <;> rfl
@[simp] theorem two_ex {a c : Env → ER} : (ER.ex x ρ).two a c = .ex x ρ := rfl
@[simp] theorem two_no {a c : Env → ER} : ER.no.two a c = .no := rfl
@[simp] theorem two_ite {c : Prop} [Decidable c] {e f : ER} {a b : Env → ER} : (if c then e else f).two a b = if c then e.two a b else f.two a b := by split <;> rfl
@[simp] theorem dIf_ap : dIf gc ga gb ρ = (gc ρ).two ga gb := rfl
@[simp] theorem dAndT_ap : dAndT ga gb ρ = (ga ρ).two gb (fun ρ1 => .ok (.val (.bl false)) ρ1) := rfl
@[simp] theorem dOrT_ap : dOrT ga gb ρ = (ga ρ).two (fun ρ1 => .ok (.val (.bl true)) ρ1) gb := rfl
@[simp] theorem dNot_ap : dNot ga ρ = (ga ρ).two (fun ρ1 => .ok (.val (.bl false)) ρ1) (fun ρ1 => .ok (.val (.bl true)) ρ1) := by
  unfold dNot ER.two
  congr
  funext r ρ1
  cases r with
  | val d =>
    cases d with
    | bl b => cases b <;> rfl
    | _ => rfl
  | _ => rfl
/-- a value's truth, two ways -/
def ER.tru (e : ER) (a b : RV → Env → ER) : ER := e.settle.bind fun r ρ1 => match peek r ρ1 with
  | some d => match truth d with
    | some true => a r ρ1
    | some false => b r ρ1
    | none => .no
  | none => .no
@[simp] theorem tru_bl {a c : RV → Env → ER} : (ER.ok (.val (.bl b)) ρ).tru a c = if b = true then a (.val (.bl b)) ρ else c (.val (.bl b)) ρ := by cases b <;> rfl
@[simp] theorem tru_ex {a c : RV → Env → ER} : (ER.ex x ρ).tru a c = .ex x ρ := rfl
@[simp] theorem tru_no {a c : RV → Env → ER} : ER.no.tru a c = .no := rfl
@[simp] theorem tru_ite {c : Prop} [Decidable c] {e f : ER} {a b : RV → Env → ER} : (if c then e else f).tru a b = if c then e.tru a b else f.tru a b := by split <;> rfl
theorem tru_val {a c : RV → Env → ER} : (ER.ok (.val d) ρ).tru a c = match truth d with
  | some true => a (.val d) ρ
  | some false => c (.val d) ρ
  | none => .no := rfl
theorem tru_new {a c : RV → Env → ER} : (ER.ok (.new d) ρ).tru a c = match truth d with
  | some true => a (.val d) ρ
  | some false => c (.val d) ρ
  | none => .no := rfl
@[simp] theorem dAndV_ap : dAndV ga gb ρ = (ga ρ).tru (fun _ ρ1 => gb ρ1) (fun r ρ1 => .ok r ρ1) := by
  unfold dAndV ER.tru
  congr
@[simp] theorem dOrV_ap : dOrV ga gb ρ = (ga ρ).tru (fun r ρ1 => .ok r ρ1) (fun _ ρ1 => gb ρ1) := by
  unfold dOrV ER.tru
  congr
@[simp] theorem dNotV_ap : dNotV ga ρ = (ga ρ).tru (fun _ ρ1 => .ok (.val (.bl false)) ρ1) (fun _ ρ1 => .ok (.val (.bl true)) ρ1) := by
  unfold dNotV ER.tru
  congr
  funext r ρ1
  cases peek r ρ1 with
  | none => rfl
  | some d =>
    dsimp only
    cases truth d with
    | none => rfl
    | some b => cases b <;> rfl
@[simp] theorem dTru_ap : dTru ga ρ = (ga ρ).tru (fun _ ρ1 => .ok (.val (.bl true)) ρ1) (fun _ ρ1 => .ok (.val (.bl false)) ρ1) := by
  unfold dTru ER.tru
  congr
  funext r ρ1
  cases peek r ρ1 with
  | none => rfl
  | some d =>
    dsimp only
    cases truth d with
    | none => rfl
    | some b => cases b <;> rfl
@[simp] theorem dBool_ap : dBool ga ρ = (ga ρ).two (fun ρ1 => .ok (.val (.bl true)) ρ1) (fun ρ1 => .ok (.val (.bl false)) ρ1) := by
  unfold dBool ER.two
  congr
  funext r ρ1
  cases r with
  | val d =>
    cases d with
    | bl b => cases b <;> rfl
    | _ => rfl
  | _ => rfl
@[simp] theorem dChain_ap {f f' : D → D → Option RV} : dChain f f' ga gb gc ρ = (ga ρ).settle.bind fun r1 ρ1 => (gb ρ1).settle.bind fun r2 ρ2 => match peek r1 ρ2, peek r2 ρ2 with
  | some x, some y => (ER.of (f x y) ρ2).two (fun ρ2 => (gc ρ2).settle.bind fun r3 ρ3 => match peek r2 ρ3, peek r3 ρ3 with
      | some y', some z => ER.of (f' y' z) ρ3
      | _, _ => .no) (fun ρ2 => .ok (.val (.bl false)) ρ2)
  | _, _ => .no := by
  unfold dChain
  congr
  funext r1 ρ1
  congr
  funext r2 ρ2
  cases peek r1 ρ2 with
  | none => rfl
  | some x =>
    cases peek r2 ρ2 with
    | none => rfl
    | some y =>
      dsimp only
      cases f x y with
      | none => rfl
      | some z =>
        cases z with
        | val d =>
          cases d with
          | bl b => cases b <;> rfl
          | _ => rfl
        | _ => rfl
/-! arguments -/
@[simp] theorem dNil_ap : dNil ρ = .ok [] ρ := rfl
@[simp] theorem dCons_ap : dCons g gs ρ = match (g ρ).settle with
  | .ok r ρ1 => match gs ρ1 with
    | .ok rs ρ2 => .ok (r :: rs) ρ2
    | .ex x ρ2 => .ex x ρ2
    | .no => .no
  | .ex x ρ1 => .ex x ρ1
  | .no => .no := rfl
@[simp] theorem dFz_ap {h : List D → Env → ER} : dFz gs h ρ = match gs ρ with
  | .ok rs ρ1 => match frzs rs ρ1 with
    | some (ds, ρ2) => h ds ρ2
    | none => .no
  | .ex x ρ1 => .ex x ρ1
  | .no => .no := rfl
@[simp] theorem frzs_nil : frzs [] ρ = some ([], ρ) := rfl
@[simp] theorem frzs_cons {rs : List RV} : frzs (r :: rs) ρ = match frz r ρ with
    | some (d, ρ1) => match frzs rs ρ1 with
      | some (ds, ρ2) => some (d :: ds, ρ2)
      | none => none
    | none => none := rfl
@[simp] theorem peeks_nil : peeks [] ρ = some [] := rfl
@[simp] theorem peeks_cons {rs : List RV} : peeks (r :: rs) ρ = match peek r ρ, peeks rs ρ with
  | some d, some ds => some (d :: ds)
  | _, _ => none := rfl
@[simp] theorem dTup_ap : dTup gs ρ = dFz gs (fun ds ρ => if ds.length ≤ 1000 then .ok (.val (.tup ds)) ρ else .no) ρ := rfl
@[simp] theorem dLst_ap : dLst gs ρ = dFz gs (fun ds ρ => if ds.length ≤ 1000 then .ok (.new (.lst ds)) ρ else .no) ρ := rfl
@[simp] theorem dB_ap {f : List D → Option RV} : dB f gs ρ = match gs ρ with
  | .ok rs ρ1 => match peeks rs ρ1 with
    | some ds => ER.of (f ds) ρ1
    | none => .no
  | .ex x ρ1 => .ex x ρ1
  | .no => .no := rfl
@[simp] theorem dCall_ap {ms : List Bool} {f : List D → DR} : dCall ms f gs ρ = match gs ρ with
  | .ok rs ρ1 => match passes ms rs ρ1 with
    | some (ds, ρ2) => if (lents ms rs).Nodup then match f ds with
        | .ok r outs => .ok r (backs ms rs outs ρ2)
        | .ex x outs => .ex x (backs ms rs outs ρ2)
        | .no => .no
      else .no
    | none => .no
  | .ex x ρ1 => .ex x ρ1
  | .no => .no := rfl
@[simp] theorem dSl_ap {f : D → Option Int → Option Int → Option RV} {a b : Option Ev} : dSl f g a b ρ = (g ρ).settle.bind fun r ρ1 => match dPart a ρ1 with
  | .ok lo ρ2 => match dPart b ρ2 with
    | .ok hi ρ3 => match peek r ρ3 with
      | some d => ER.of (f d lo hi) ρ3
      | none => .no
    | .ex x ρ3 => .ex x ρ3
    | .no => .no
  | .ex x ρ2 => .ex x ρ2
  | .no => .no := rfl
@[simp] theorem dPart_none : dPart none ρ = .ok none ρ := rfl
@[simp] theorem dPart_some : dPart (some g) ρ = match (g ρ).settle with
    | .ok r ρ1 => match peek r ρ1 with
      | some (.int i) => .ok (some i) ρ1
      | _ => .no
    | .ex x ρ1 => .ex x ρ1
    | .no => .no := rfl
/-! statements -/
@[simp] theorem dSeq_ap : dSeq s1 s2 ρ = (s1 ρ).bind s2 := rfl
def ER.ifS (e : ER) (a b : Sv) : SR := e.st fun r ρ1 => match r with
  | .val (.bl true) => a ρ1
  | .val (.bl false) => b ρ1
  | _ => .no
@[simp] theorem ifS_bl : (ER.ok (.val (.bl b)) ρ).ifS s1 s2 = if b = true then s1 ρ else s2 ρ := by cases b <;> rfl
@[simp] theorem ifS_ex : (ER.ex x ρ).ifS s1 s2 = .ex x ρ := rfl
@[simp] theorem ifS_no : ER.no.ifS s1 s2 = .no := rfl
@[simp] theorem ifS_ite {c : Prop} [Decidable c] {a b : ER} : (if c then a else b).ifS s1 s2 = if c then a.ifS s1 s2 else b.ifS s1 s2 := by split <;> rfl
@[simp] theorem dIfS_ap : dIfS gc s1 s2 ρ = (gc ρ).ifS s1 s2 := rfl
@[simp] theorem dSet_ap : dSet i g ρ = (g ρ).st fun r ρ1 => SR.of (asgn i r ρ1) := rfl
@[simp] theorem dExpr_ap : dExpr g ρ = (g ρ).settle.st fun _ ρ1 => .nx ρ1 := rfl
@[simp] theorem dRet_ap : dRet g ρ = (g ρ).st fun r ρ1 => match r with
  | .loc i => match ρ1[i]? with
    | some (.own d) => .rt (.new d) (ρ1.set i .non)
    | some (.val d) => .rt (.val d) ρ1
    | _ => .no
  | r => .rt r ρ1 := rfl
@[simp] theorem dPar_ap {j : Nat} : dPar i j ga gb ρ = (ga ρ).settle.st fun r1 ρ1 => (gb ρ1).settle.st fun r2 ρ2 => match frz r1 ρ2 with
  | some (d, ρ3) => match frz r2 ρ3 with
    | some (e, ρ4) => match setV ρ4 i (.val d) with
      | some ρ5 => SR.of (setV ρ5 j (.val e))
      | none => .no
    | none => .no
  | none => .no := rfl
@[simp] theorem dRaise_ap {c : ECls} : dRaise c ρ = .ex ⟨c, []⟩ ρ := rfl
@[simp] theorem asgn_val : asgn i (.val d) ρ = setV ρ i (.val d) := rfl
@[simp] theorem asgn_new : asgn i (.new d) ρ = setV ρ i (.own d) := rfl
@[simp] theorem asgn_loc {j : Nat} : asgn i (.loc j) ρ = match frz (.loc j) ρ with
    | some (d, ρ1) => setV ρ1 i (.val d)
    | none => none := rfl
theorem setV_ap {s : Slot} : setV ρ i s = match ρ[i]? with
  | some (.bor _) => none
  | some _ => some (ρ.set i s)
  | none => none := rfl
@[simp] theorem dAugS_ap {f : D → D → Option RV} {gi : Ev} : dAugS i gi g f ρ = match ownAt ρ i with
  | none => .no
  | some _ => (gi ρ).settle.st fun r ρ1 => match peek r ρ1, ownAt ρ1 i with
    | some kk, some x => match ixD x kk, keyOf kk with
      | some d0, some key => (g ρ1).settle.st fun r2 ρ2 => match peek r2 ρ2 with
        | some y => match f d0 y with
          | some (.val z) => SR.of (stAt i kk z ρ2)
          | _ => .no
        | none => .no
      | _, _ => .no
    | _, _ => .no := rfl
@[simp] theorem dStore_ap {gi : Ev} : dStore i gi g ρ = (g ρ).settle.st fun r ρ1 => match frz r ρ1 with
  | some (d, ρ2) => match ownAt ρ2 i with
    | some _ => (gi ρ2).settle.st fun r2 ρ3 => match peek r2 ρ3 with
      | some k => SR.of (stAt i k d ρ3)
      | none => .no
    | none => .no
  | none => .no := rfl
@[simp] theorem dFor_ap {gi : Iv} {ft : D → Env → Option Env} : dFor gi ft s1 ρ = match gi ρ with
  | .ok ds ρ1 => forGo ft s1 ds ρ1
  | .ex x ρ1 => .ex x ρ1
  | .no => .no := rfl
@[simp] theorem dTry_ap {ism : ECls → Option Bool} : dTry ism s1 s2 ρ = match s1 ρ with
  | .ex x ρ1 => match ism x.cls with
    | some true => noEx (s2 ρ1)
    | some false => .ex x ρ1
    | none => .no
  | s => s := rfl
end
section
variable {i j : Int} {xs ys : List D} {a b : Str} {p q : Bool}
theorem atI_zero {α : Type} (xs : List α) : L2.atI xs 0 = xs[0]? := by
  unfold L2.atI ixN
  cases xs with
  | nil => rfl
  | cons x xs =>
    rw [if_pos (Int.le_refl 0), if_pos (by rw [List.length_cons]; omega)]
    rfl
theorem atI_cast {α : Type} (xs : List α) (n : Nat) : L2.atI xs (n : Int) = xs[n]? := by
  unfold L2.atI ixN
  rw [if_pos (by omega)]
  by_cases h : (n : Int) < xs.length
  · rw [if_pos h]
    simp
  · rw [if_neg h]
    have : xs.length ≤ n := by omega
    rw [List.getElem?_eq_none this]
    rfl
theorem atI_one {α : Type} (xs : List α) : L2.atI xs 1 = xs[1]? := atI_cast xs 1
theorem atI_two {α : Type} (xs : List α) : L2.atI xs 2 = xs[2]? := atI_cast xs 2
theorem atI_three {α : Type} (xs : List α) : L2.atI xs 3 = xs[3]? := atI_cast xs 3
theorem atI_four {α : Type} (xs : List α) : L2.atI xs 4 = xs[4]? := atI_cast xs 4
theorem atI_of {α : Type} (xs : List α) (i : Int) (h : 0 ≤ i) : L2.atI xs i = xs[i.toNat]? := by
  have : i = (i.toNat : Int) := by omega
  exact (congrArg (L2.atI xs) this).trans (atI_cast xs _)
@[simp] theorem opAdd_int : opAdd (.int i) (.int j) = some (.val (.int (i + j))) := rfl
@[simp] theorem opAdd_str : opAdd (.str a) (.str b) = if a.length + b.length ≤ sizeLine then some (.val (.str (a ++ b))) else none := rfl
@[simp] theorem opAdd_tup : opAdd (.tup xs) (.tup ys) = if xs.length + ys.length ≤ sizeLine then some (.val (.tup (xs ++ ys))) else none := rfl
@[simp] theorem opAdd_lst : opAdd (.lst xs) (.lst ys) = if xs.length + ys.length ≤ sizeLine then some (.new (.lst (xs ++ ys))) else none := rfl
@[simp] theorem opAddI_int : opAddI (.int i) (.int j) = some (.val (.int (i + j))) := rfl
@[simp] theorem opSub_int : opSub (.int i) (.int j) = some (.val (.int (i - j))) := rfl
@[simp] theorem opMul_int : opMul (.int i) (.int j) = if CMul i j then some (.val (.int (i * j))) else none := rfl
@[simp] theorem opMulI_int : opMulI (.int i) (.int j) = if CMul i j then some (.val (.int (i * j))) else none := rfl
@[simp] theorem opFdiv_int : opFdiv (.int i) (.int j) = if CDiv i j then some (.val (.int (i / j))) else none := rfl
@[simp] theorem opMod_int : opMod (.int i) (.int j) = if 0 < j then some (.val (.int (i % j))) else none := rfl
@[simp] theorem opPow_int : opPow (.int i) (.int j) = if CPow i j then some (.val (.int (i ^ j.toNat))) else none := rfl
@[simp] theorem opLt_int : opLt (.int i) (.int j) = some (.val (.bl (decide (i < j)))) := rfl
@[simp] theorem opLe_int : opLe (.int i) (.int j) = some (.val (.bl (decide (i ≤ j)))) := rfl
@[simp] theorem opGt_int : opGt (.int i) (.int j) = some (.val (.bl (decide (j < i)))) := rfl
@[simp] theorem opGe_int : opGe (.int i) (.int j) = some (.val (.bl (decide (j ≤ i)))) := rfl
@[simp] theorem opEq_int : opEq (.int i) (.int j) = some (.val (.bl (decide (i = j)))) := rfl
@[simp] theorem opNe_int : opNe (.int i) (.int j) = some (.val (.bl (!decide (i = j)))) := rfl
@[simp] theorem opEq_str : opEq (.str a) (.str b) = some (.val (.bl (decide (a = b)))) := rfl
@[simp] theorem opNe_str : opNe (.str a) (.str b) = some (.val (.bl (!decide (a = b)))) := rfl
@[simp] theorem opEq_bl : opEq (.bl p) (.bl q) = some (.val (.bl (decide (p = q)))) := rfl
@[simp] theorem opNe_bl : opNe (.bl p) (.bl q) = some (.val (.bl (!decide (p = q)))) := rfl
@[simp] theorem opIx_lst : opIx (.lst xs) (.int i) = (L2.atI xs i).map .val := rfl
@[simp] theorem opIx_scr : opIx (.scr xs) (.int i) = (L2.atI xs i).map .val := rfl
@[simp] theorem opIx_tup : opIx (.tup xs) (.int i) = (L2.atI xs i).map .val := rfl
@[simp] theorem ixD_lst : ixD (.lst xs) (.int i) = L2.atI xs i := rfl
@[simp] theorem keyOf_int : keyOf (.int i) = some (.inl i) := rfl
@[simp] theorem keyOf_str : keyOf (.str a) = some (.inr a) := rfl
@[simp] theorem opNeg_int : opNeg (.int i) = some (.val (.int (-i))) := rfl
@[simp] theorem fInt_int : fInt [.int i] = some (.val (.int i)) := rfl
@[simp] theorem fAbs_int : fAbs [.int i] = some (.val (.int (if i < 0 then -i else i))) := rfl
@[simp] theorem fLen_lst : fLen [.lst xs] = some (.val (.int xs.length)) := rfl
@[simp] theorem fLen_tup : fLen [.tup xs] = some (.val (.int xs.length)) := rfl
@[simp] theorem fLen_scr : fLen [.scr xs] = some (.val (.int xs.length)) := rfl
@[simp] theorem fMax2_int : fMax2 [.int i, .int j] = some (.val (.int (if j > i then j else i))) := rfl
@[simp] theorem fMin2_int : fMin2 [.int i, .int j] = some (.val (.int (if j < i then j else i))) := rfl
@[simp] theorem opSl_lst {lo hi : Option Int} : opSl (.lst xs) lo hi = some (.new (.lst (cutD xs lo hi))) := rfl
@[simp] theorem opSl_scr {lo hi : Option Int} : opSl (.scr xs) lo hi = some (.new (.lst (cutD xs lo hi))) := rfl
@[simp] theorem opSl_tup {lo hi : Option Int} : opSl (.tup xs) lo hi = some (.val (.tup (cutD xs lo hi))) := rfl
@[simp] theorem stored_lst {d : D} : stored (.lst xs) (.int i) d = (ixN xs.length i).map fun j => .lst (xs.set j d) := rfl
theorem stAt_ap {ρ : Env} {n : Nat} {k d : D} : stAt n k d ρ = match ownAt ρ n with
  | some x => (stored x k d).map fun x' => setO ρ n x'
  | none => none := rfl
theorem CMul_ap : CMul i j = ((-(2 ^ 64) < i ∧ i < 2 ^ 64) ∨ (-(2 ^ 64) < j ∧ j < 2 ^ 64)) := rfl
theorem CDiv_ap : CDiv i j = (0 < j ∧ j < 1073741824) := rfl
theorem CPow_ap : CPow i j = (0 ≤ j ∧ j ≤ 1000000 ∧ i.natAbs < 2 ^ 64) := rfl
/-- from a place on -/
theorem cut_from (ds : List D) (c : Int) : ∃ n, cutD ds (some c) none = ds.drop n := by
  unfold cutD
  refine ⟨HT.sIx ds.length 0 (some c), ?_⟩
  rw [List.take_of_length_le]
  rw [List.length_drop]
  exact Nat.le_refl _
theorem cut_front (ds : List D) (c : Nat) : cutD ds none (some (c : Int)) = ds.take c := by
  show (ds.drop 0).take (HT.sIx ds.length ds.length (some (c : Int)) - 0) = ds.take c
  rw [HT.sIx_nat, List.drop_zero, Nat.sub_zero]
  by_cases h : c ≤ ds.length
  · rw [Nat.min_eq_left h]
  · rw [Nat.min_eq_right (by omega), List.take_of_length_le (Nat.le_refl _), List.take_of_length_le (by omega)]
end
theorem isi_of {d : D} {t T : String} {b : Bool} (h1 : tyName d = some t) (h2 : kitB t T = some b) : fIsi [d, .raw (.ty T)] = some (.val (.bl b)) := by
  unfold fIsi
  simp only [h1, h2]
  rfl
@[simp] theorem isi_non_int : fIsi [.non, .raw (.ty "int")] = some (.val (.bl false)) := isi_of rfl (by decide +kernel)
@[simp] theorem isi_non_str : fIsi [.non, .raw (.ty "str")] = some (.val (.bl false)) := isi_of rfl (by decide +kernel)
@[simp] theorem isi_non_bool : fIsi [.non, .raw (.ty "bool")] = some (.val (.bl false)) := isi_of rfl (by decide +kernel)
@[simp] theorem isi_non_list : fIsi [.non, .raw (.ty "list")] = some (.val (.bl false)) := isi_of rfl (by decide +kernel)
@[simp] theorem isi_non_tuple : fIsi [.non, .raw (.ty "tuple")] = some (.val (.bl false)) := isi_of rfl (by decide +kernel)
@[simp] theorem isi_non_dict : fIsi [.non, .raw (.ty "dict")] = some (.val (.bl false)) := isi_of rfl (by decide +kernel)
@[simp] theorem isi_bl_int {p : Bool} : fIsi [(.bl p), .raw (.ty "int")] = some (.val (.bl true)) := isi_of rfl (by decide +kernel)
@[simp] theorem isi_bl_str {p : Bool} : fIsi [(.bl p), .raw (.ty "str")] = some (.val (.bl false)) := isi_of rfl (by decide +kernel)
@[simp] theorem isi_bl_bool {p : Bool} : fIsi [(.bl p), .raw (.ty "bool")] = some (.val (.bl true)) := isi_of rfl (by decide +kernel)
@[simp] theorem isi_bl_list {p : Bool} : fIsi [(.bl p), .raw (.ty "list")] = some (.val (.bl false)) := isi_of rfl (by decide +kernel)
@[simp] theorem isi_bl_tuple {p : Bool} : fIsi [(.bl p), .raw (.ty "tuple")] = some (.val (.bl false)) := isi_of rfl (by decide +kernel)
@[simp] theorem isi_bl_dict {p : Bool} : fIsi [(.bl p), .raw (.ty "dict")] = some (.val (.bl false)) := isi_of rfl (by decide +kernel)
@[simp] theorem isi_int_int {i : Int} : fIsi [(.int i), .raw (.ty "int")] = some (.val (.bl true)) := isi_of rfl (by decide +kernel)
@[simp] theorem isi_int_str {i : Int} : fIsi [(.int i), .raw (.ty "str")] = some (.val (.bl false)) := isi_of rfl (by decide +kernel)
@[simp] theorem isi_int_bool {i : Int} : fIsi [(.int i), .raw (.ty "bool")] = some (.val (.bl false)) := isi_of rfl (by decide +kernel)
@[simp] theorem isi_int_list {i : Int} : fIsi [(.int i), .raw (.ty "list")] = some (.val (.bl false)) := isi_of rfl (by decide +kernel)
@[simp] theorem isi_int_tuple {i : Int} : fIsi [(.int i), .raw (.ty "tuple")] = some (.val (.bl false)) := isi_of rfl (by decide +kernel)
@[simp] theorem isi_int_dict {i : Int} : fIsi [(.int i), .raw (.ty "dict")] = some (.val (.bl false)) := isi_of rfl (by decide +kernel)
@[simp] theorem isi_str_int {a : Str} : fIsi [(.str a), .raw (.ty "int")] = some (.val (.bl false)) := isi_of rfl (by decide +kernel)
@[simp] theorem isi_str_str {a : Str} : fIsi [(.str a), .raw (.ty "str")] = some (.val (.bl true)) := isi_of rfl (by decide +kernel)
@[simp] theorem isi_str_bool {a : Str} : fIsi [(.str a), .raw (.ty "bool")] = some (.val (.bl false)) := isi_of rfl (by decide +kernel)
@[simp] theorem isi_str_list {a : Str} : fIsi [(.str a), .raw (.ty "list")] = some (.val (.bl false)) := isi_of rfl (by decide +kernel)
@[simp] theorem isi_str_tuple {a : Str} : fIsi [(.str a), .raw (.ty "tuple")] = some (.val (.bl false)) := isi_of rfl (by decide +kernel)
@[simp] theorem isi_str_dict {a : Str} : fIsi [(.str a), .raw (.ty "dict")] = some (.val (.bl false)) := isi_of rfl (by decide +kernel)
@[simp] theorem isi_tup_int {xs : List D} : fIsi [(.tup xs), .raw (.ty "int")] = some (.val (.bl false)) := isi_of rfl (by decide +kernel)
@[simp] theorem isi_tup_str {xs : List D} : fIsi [(.tup xs), .raw (.ty "str")] = some (.val (.bl false)) := isi_of rfl (by decide +kernel)
@[simp] theorem isi_tup_bool {xs : List D} : fIsi [(.tup xs), .raw (.ty "bool")] = some (.val (.bl false)) := isi_of rfl (by decide +kernel)
@[simp] theorem isi_tup_list {xs : List D} : fIsi [(.tup xs), .raw (.ty "list")] = some (.val (.bl false)) := isi_of rfl (by decide +kernel)
@[simp] theorem isi_tup_tuple {xs : List D} : fIsi [(.tup xs), .raw (.ty "tuple")] = some (.val (.bl true)) := isi_of rfl (by decide +kernel)
@[simp] theorem isi_tup_dict {xs : List D} : fIsi [(.tup xs), .raw (.ty "dict")] = some (.val (.bl false)) := isi_of rfl (by decide +kernel)
@[simp] theorem isi_lst_int {xs : List D} : fIsi [(.lst xs), .raw (.ty "int")] = some (.val (.bl false)) := isi_of rfl (by decide +kernel)
@[simp] theorem isi_lst_str {xs : List D} : fIsi [(.lst xs), .raw (.ty "str")] = some (.val (.bl false)) := isi_of rfl (by decide +kernel)
@[simp] theorem isi_lst_bool {xs : List D} : fIsi [(.lst xs), .raw (.ty "bool")] = some (.val (.bl false)) := isi_of rfl (by decide +kernel)
@[simp] theorem isi_lst_list {xs : List D} : fIsi [(.lst xs), .raw (.ty "list")] = some (.val (.bl true)) := isi_of rfl (by decide +kernel)
@[simp] theorem isi_lst_tuple {xs : List D} : fIsi [(.lst xs), .raw (.ty "tuple")] = some (.val (.bl false)) := isi_of rfl (by decide +kernel)
@[simp] theorem isi_lst_dict {xs : List D} : fIsi [(.lst xs), .raw (.ty "dict")] = some (.val (.bl false)) := isi_of rfl (by decide +kernel)
@[simp] theorem isi_scr_int {xs : List D} : fIsi [(.scr xs), .raw (.ty "int")] = some (.val (.bl false)) := isi_of rfl (by decide +kernel)
@[simp] theorem isi_scr_str {xs : List D} : fIsi [(.scr xs), .raw (.ty "str")] = some (.val (.bl false)) := isi_of rfl (by decide +kernel)
@[simp] theorem isi_scr_bool {xs : List D} : fIsi [(.scr xs), .raw (.ty "bool")] = some (.val (.bl false)) := isi_of rfl (by decide +kernel)
@[simp] theorem isi_scr_list {xs : List D} : fIsi [(.scr xs), .raw (.ty "list")] = some (.val (.bl true)) := isi_of rfl (by decide +kernel)
@[simp] theorem isi_scr_tuple {xs : List D} : fIsi [(.scr xs), .raw (.ty "tuple")] = some (.val (.bl false)) := isi_of rfl (by decide +kernel)
@[simp] theorem isi_scr_dict {xs : List D} : fIsi [(.scr xs), .raw (.ty "dict")] = some (.val (.bl false)) := isi_of rfl (by decide +kernel)
@[simp] theorem isi_dic_int {ks : List Key} {xs : List D} : fIsi [(.dic ks xs), .raw (.ty "int")] = some (.val (.bl false)) := isi_of rfl (by decide +kernel)
@[simp] theorem isi_dic_str {ks : List Key} {xs : List D} : fIsi [(.dic ks xs), .raw (.ty "str")] = some (.val (.bl false)) := isi_of rfl (by decide +kernel)
@[simp] theorem isi_dic_bool {ks : List Key} {xs : List D} : fIsi [(.dic ks xs), .raw (.ty "bool")] = some (.val (.bl false)) := isi_of rfl (by decide +kernel)
@[simp] theorem isi_dic_list {ks : List Key} {xs : List D} : fIsi [(.dic ks xs), .raw (.ty "list")] = some (.val (.bl false)) := isi_of rfl (by decide +kernel)
@[simp] theorem isi_dic_tuple {ks : List Key} {xs : List D} : fIsi [(.dic ks xs), .raw (.ty "tuple")] = some (.val (.bl false)) := isi_of rfl (by decide +kernel)
@[simp] theorem isi_dic_dict {ks : List Key} {xs : List D} : fIsi [(.dic ks xs), .raw (.ty "dict")] = some (.val (.bl true)) := isi_of rfl (by decide +kernel)
end DL

/-! what is computed, by simp alone. -/
namespace DL
open PySem PySem.Spec L2
section
variable {ρ : Env} {d e : D} {i j : Nat} {r : RV} {ms : List Bool} {ds os : List D} {rs : List RV} {s : Slot} {b : Bool}
@[simp] theorem s_argEnv_nil : argEnv [] ds = [] := by cases ds <;> rfl
@[simp] theorem s_argEnv_t : argEnv (true :: ms) (d :: ds) = .bor d :: argEnv ms ds := rfl
@[simp] theorem s_argEnv_f : argEnv (false :: ms) (d :: ds) = .val d :: argEnv ms ds := rfl
@[simp] theorem s_passes_nil : passes [] [] ρ = some ([], ρ) := rfl
@[simp] theorem s_passes_f : passes (false :: ms) (r :: rs) ρ = match frz r ρ with
    | some (d, ρ1) => match passes ms rs ρ1 with
      | some (ds, ρ2) => some (d :: ds, ρ2)
      | none => none
    | none => none := rfl
@[simp] theorem s_passes_t : passes (true :: ms) (.loc i :: rs) ρ = match passes ms rs ρ with
    | some (ds, ρ2) => match ρ2[i]? with
      | some (.own d) => some (d :: ds, ρ2)
      | some (.bor d) => some (d :: ds, ρ2)
      | _ => none
    | none => none := rfl
@[simp] theorem s_lents_nil : lents [] rs = [] := by cases rs <;> rfl
@[simp] theorem s_lents_t : lents (true :: ms) (.loc i :: rs) = i :: lents ms rs := rfl
@[simp] theorem s_lents_f : lents (false :: ms) (r :: rs) = lents ms rs := rfl
@[simp] theorem s_backs_nil : backs [] rs os ρ = ρ := by cases rs <;> cases os <;> rfl
@[simp] theorem s_backs_t : backs (true :: ms) (.loc i :: rs) (d :: ds) ρ = setO (backs ms rs ds ρ) i d := rfl
@[simp] theorem s_backs_f : backs (false :: ms) (r :: rs) (d :: ds) ρ = backs ms rs ds ρ := rfl
@[simp] theorem s_outs_nil : outsOf [] [] ρ = some [] := rfl
@[simp] theorem s_outs_t : outsOf (true :: ms) (e :: ds) (.bor d :: ρ) = match outsOf ms ds ρ with
    | some os => some (d :: os)
    | none => none := rfl
@[simp] theorem s_outs_f : outsOf (false :: ms) (d :: ds) (s :: ρ) = match outsOf ms ds ρ with
    | some os => some (d :: os)
    | none => none := rfl
@[simp] theorem s_dVar : dVar i ρ = match ρ[i]? with
    | some (.val d) => .ok (.val d) ρ
    | some (.own _) => .ok (.loc i) ρ
    | some (.bor _) => .ok (.loc i) ρ
    | _ => .no := rfl
@[simp] theorem s_frz_loc : frz (.loc i) ρ = match ρ[i]? with
    | some (.val d) => some (d, ρ)
    | some (.own d) => some (d, ρ.set i (.val d))
    | _ => none := rfl
@[simp] theorem s_peek_loc : peek (.loc i) ρ = match ρ[i]? with
    | some (.val d) => some d
    | some (.own d) => some d
    | some (.bor d) => some d
    | _ => none := rfl
@[simp] theorem s_setV : setV ρ i s = match ρ[i]? with
  | some (.bor _) => none
  | some _ => some (ρ.set i s)
  | none => none := rfl
@[simp] theorem s_setO : setO ρ i d = match ρ[i]? with
  | some (.own _) => ρ.set i (.own d)
  | some (.bor _) => ρ.set i (.bor d)
  | _ => ρ := rfl
@[simp] theorem s_ownAt : ownAt ρ i = match ρ[i]? with
  | some (.own d) => some d
  | some (.bor d) => some d
  | _ => none := rfl
@[simp] theorem s_stAt {k : D} : stAt i k d ρ = match ownAt ρ i with
  | some x => (stored x k d).map fun x' => setO ρ i x'
  | none => none := rfl
@[simp] theorem s_owns_non : Slot.non.owns = false := rfl
@[simp] theorem s_owns_val : (Slot.val d).owns = false := rfl
@[simp] theorem s_idle_nil : idle ρ [] = true := rfl
@[simp] theorem s_idle_cons {vs : List Nat} : idle ρ (i :: vs) = ((match ρ[i]? with
    | some s => !s.owns
    | none => true) && idle ρ vs) := rfl
@[simp] theorem s_wipe_nil : wipeE ρ [] = ρ := rfl
@[simp] theorem s_wipe_cons {vs : List Nat} : wipeE ρ (i :: vs) = (wipeE ρ vs).set i .non := rfl
@[simp] theorem s_rest_nil {ρ1 : Env} : restE ρ ρ1 [] = ρ := rfl
@[simp] theorem s_rest_cons {ρ1 : Env} {vs : List Nat} : restE ρ ρ1 (i :: vs) = match ρ1[i]? with
    | some s => (restE ρ ρ1 vs).set i s
    | none => restE ρ ρ1 vs := rfl
@[simp] theorem s_gtName : gtName i d ρ = setV ρ i (.val d) := rfl
@[simp] theorem s_gtNil : gtNil [] ρ = some ρ := rfl
@[simp] theorem s_gtCons {f : D → Env → Option Env} {fs : List D → Env → Option Env} : gtCons f fs (d :: ds) ρ = match f d ρ with
    | some ρ1 => fs ds ρ1
    | none => none := rfl
@[simp] theorem s_gtTup {n : Nat} {fs : List D → Env → Option Env} : gtTup n fs (.tup ds) ρ = if ds.length = n then fs ds ρ else none := rfl
@[simp] theorem s_dYes : dYes ρ = .ok (.val (.bl true)) ρ := rfl
@[simp] theorem s_dAsg {ft : D → Env → Option Env} {g : Ev} : dAsg ft g ρ = (g ρ).settle.st fun r ρ1 => match frz r ρ1 with
  | some (d, ρ2) => SR.of (ft d ρ2)
  | none => .no := rfl
@[simp] theorem s_iSeq {g : Ev} : iSeq g ρ = match (g ρ).settle with
  | .ok r ρ1 => match frz r ρ1 with
    | some (d, ρ2) => match seqOf d with
      | some xs => .ok xs ρ2
      | none => .no
    | none => .no
  | .ex x ρ1 => .ex x ρ1
  | .no => .no := rfl
@[simp] theorem s_seq_lst : seqOf (.lst ds) = some ds := rfl
@[simp] theorem s_seq_tup : seqOf (.tup ds) = some ds := rfl
@[simp] theorem s_seq_scr : seqOf (.scr ds) = some ds := rfl
@[simp] theorem s_iArgs {k : List D → Option (List D)} {gs : Av} : iArgs k gs ρ = match gs ρ with
  | .ok rs ρ1 => match frzs rs ρ1 with
    | some (ds, ρ2) => match k ds with
      | some xs => .ok xs ρ2
      | none => .no
    | none => .no
  | .ex x ρ1 => .ex x ρ1
  | .no => .no := rfl
@[simp] theorem s_zipL {xs ys : List D} : kZip [.lst xs, .lst ys] = some (List.zipWith (fun x y => .tup [x, y]) xs ys) := rfl
@[simp] theorem s_zipT {xs ys : List D} : kZip [.tup xs, .tup ys] = some (List.zipWith (fun x y => .tup [x, y]) xs ys) := rfl
@[simp] theorem s_dLc {gi : Iv} {vs : List Nat} {ft : D → Env → Option Env} {gt ge : Ev} : dLc gi vs ft gt ge ρ = match gi ρ with
  | .ok ds ρ1 => if idle ρ1 vs = true ∧ ds.length ≤ 1000000 then match compGo vs ft gt ge ds (wipeE ρ1 vs) with
      | some (ys, ρ2) => .ok (.new (.lst ys)) (restE ρ2 ρ1 vs)
      | none => .no
    else .no
  | .ex x ρ1 => .ex x ρ1
  | .no => .no := rfl
@[simp] theorem s_dMut {T : String} {f : D → List D → Option (D × D)} {gs : Av} : dMut T i f gs ρ = match (ownAt ρ i).bind tyName with
  | none => .no
  | some T' => if T' = T then match gs ρ with
    | .ok rs ρ1 => match frzs rs ρ1 with
      | some (ds, ρ2) => match ownAt ρ2 i with
        | some d => match f d ds with
          | some (ret, d') => .ok (.val ret) (setO ρ2 i d')
          | none => .no
        | none => .no
      | none => .no
    | .ex x ρ1 => .ex x ρ1
    | .no => .no
    else .no := rfl
@[simp] theorem s_ty_lst : tyName (.lst ds) = some "list" := rfl
@[simp] theorem s_ty_tup : tyName (.tup ds) = some "tuple" := rfl
@[simp] theorem s_ty_dic {ks : List Key} : tyName (.dic ks ds) = some "dict" := rfl
@[simp] theorem s_append {xs : List D} : mAppend (.lst xs) [d] = if xs.length < sizeLine then some (.non, .lst (xs ++ [d])) else none := rfl
@[simp] theorem s_extend {xs ys : List D} : mExtend (.lst xs) [.lst ys] = if xs.length + ys.length ≤ sizeLine then some (.non, .lst (xs ++ ys)) else none := rfl
@[simp] theorem s_dAug {g : Ev} {f : D → D → Option RV} : dAug i g f ρ = match ρ[i]? with
  | some (.val d0) => (g ρ).settle.st fun r2 ρ2 => match peek r2 ρ2 with
    | some y => match f d0 y with
      | some z => SR.of (asgn i z ρ2)
      | none => .no
    | none => .no
  | _ => .no := rfl
@[simp] theorem s_tupOf {xs : List D} : fTuple [.lst xs] = some (.val (.tup xs)) := rfl
@[simp] theorem s_tupOfT {xs : List D} : fTuple [.tup xs] = some (.val (.tup xs)) := rfl
@[simp] theorem s_lstOf {xs : List D} : fList [.tup xs] = some (.new (.lst xs)) := rfl
@[simp] theorem s_lstOfL {xs : List D} : fList [.lst xs] = some (.new (.lst xs)) := rfl
@[simp] theorem s_truth_bl : truth (.bl b) = some b := rfl
theorem dDef_run {n : Nat} {g : Sv} (h : ds.length = ms.length) : dDef n ms g ds = match g (argEnv ms ds ++ List.replicate (n - ms.length) .non) with
    | .nx ρ => match outsOf ms ds ρ with
      | some os => .ok (.val .non) os
      | none => .no
    | .rt r ρ => match r with
      | .loc _ => .no
      | r => match outsOf ms ds ρ with
        | some os => .ok r os
        | none => .no
    | .ex x ρ => match outsOf ms ds ρ with
      | some os => .ex x os
      | none => .no
    | _ => .no := if_pos h
end
/-! comprehensions over what is given by a function -/
theorem compGo_fm {vs : List Nat} {ft : D → Env → Option Env} {gt ge : Ev} {β : Type} {f g : β → D} {p : β → Bool} {ρ : Env} :
    ∀ l : List β, (∀ b ∈ l, ∃ ρ1, ft (f b) ρ = some ρ1 ∧ gt ρ1 = .ok (.val (.bl (p b))) ρ1 ∧ (p b = true → ∃ r, (ge ρ1).settle = .ok r ρ1 ∧ frz r ρ1 = some (g b, ρ1)) ∧ wipeE ρ1 vs = ρ) → compGo vs ft gt ge (l.map f) ρ = some ((l.filter p).map g, ρ)
  | [], _ => rfl
  | b :: l, h => by
    obtain ⟨ρ1, h1, h2, h3, h4⟩ := h b List.mem_cons_self
    have ih := compGo_fm l fun c hc => h c (List.mem_cons_of_mem _ hc)
    rw [List.map_cons]
    unfold compGo
    rw [h1]
    dsimp only
    rw [h2]
    cases e : p b with
    | false =>
      dsimp only
      rw [h4, ih, List.filter_cons, if_neg (by rw [e]; decide)]
    | true =>
      obtain ⟨r, h5, h6⟩ := h3 e
      dsimp only
      rw [h5]
      dsimp only
      rw [h6]
      dsimp only
      rw [h4, ih, List.filter_cons, if_pos e]
      rfl
theorem compGo_m {vs : List Nat} {ft : D → Env → Option Env} {ge : Ev} {β : Type} {f g : β → D} {ρ : Env} (l : List β) (h : ∀ b ∈ l, ∃ ρ1, ft (f b) ρ = some ρ1 ∧ (∃ r, (ge ρ1).settle = .ok r ρ1 ∧ frz r ρ1 = some (g b, ρ1)) ∧ wipeE ρ1 vs = ρ) : compGo vs ft dYes ge (l.map f) ρ = some (l.map g, ρ) := by
  have := compGo_fm (vs := vs) (ft := ft) (gt := dYes) (ge := ge) (f := f) (g := g) (p := fun _ => true) (ρ := ρ) l fun b hb => by
    obtain ⟨ρ1, h1, h2, h3⟩ := h b hb
    exact ⟨ρ1, h1, rfl, fun _ => h2, h3⟩
  rw [this, List.filter_eq_self.mpr fun _ _ => rfl]
end DL

/-! data that may be shown and compared. -/
namespace DL
open PySem PySem.Spec L2
/-- d is the kit's p, of whole numbers that are not great, h deep, of weight w at the most -/
structure Nice (d : D) (p : PyData) (h w : Nat) : Prop where
  py : py d = some p
  lay : p.canLay0 = true
  show' : p.showable = true
  short : p.intsShort 13 = true
  deep : p.depth ≤ h
  wt : p.weight ≤ w
structure NiceL (ds : List D) (ps : List PyData) (h w : Nat) : Prop where
  py : pys ds = some ps
  lay : PyData.canLayAll0 ps = true
  show' : PyData.showableAll ps = true
  short : PyData.intsShortAll 13 ps = true
  deep : PyData.depthAll ps ≤ h
  wt : PyData.weightAll ps ≤ w
theorem log_lt {i : Int} {k : Nat} (hk : 0 < k) (h : i.natAbs < 2 ^ k) : i.natAbs.log2 < k := by
  by_cases h0 : i.natAbs = 0
  · rw [h0]; simpa using hk
  · exact (Nat.log2_lt h0).mpr h
theorem shown_int {i : Int} (h : i.natAbs < 10 ^ 12) : (PyData.shown (.int i)).length ≤ 13 := by
  simp only [PyData.shown]
  by_cases h0 : 0 ≤ i
  · exact Nat.le_trans (PyProof.Rows.toString_length_le h0 (k := 12) (by decide) (by omega)) (by decide)
  · have h1 : 0 ≤ -i := by omega
    have h2 := PyProof.Rows.toString_length_le h1 (k := 12) (by decide) (by omega)
    have e : (0 : Int) - i = -i := by omega
    rw [PyProof.Rows.toString_neg (by omega), e, PyProof.Rows.ofString_len, String.length_append]
    rw [PyProof.Rows.ofString_len] at h2
    have : ("-" : String).length = 1 := by decide
    omega
theorem Nice.int {i : Int} (h : i.natAbs < 10 ^ 12) : Nice (.int i) (.int i) 0 41 where
  py := rfl
  lay := rfl
  show' := by
    have := log_lt (i := i) (k := 40) (by decide) (Nat.lt_trans h (by decide))
    simp only [PyData.showable, decide_eq_true_eq]
    omega
  short := by
    have := shown_int h
    simp only [PyData.intsShort]
    exact decide_eq_true this
  deep := Nat.le_refl 0
  wt := by
    have := log_lt (i := i) (k := 40) (by decide) (Nat.lt_trans h (by decide))
    simp only [PyData.weight]
    split <;> omega
theorem Nice.non : Nice .non .none 0 0 := ⟨rfl, rfl, rfl, rfl, Nat.le_refl 0, Nat.le_refl 0⟩
theorem Nice.bl (b : Bool) : Nice (.bl b) (.bool b) 0 0 := ⟨rfl, rfl, rfl, rfl, Nat.le_refl 0, Nat.le_refl 0⟩
theorem Nice.str {x : Str} (h : PyData.strOk x = true) : Nice (.str x) (.str x) 0 x.cps.size := ⟨rfl, h, rfl, rfl, Nat.le_refl 0, Nat.le_refl _⟩
theorem NiceL.nil : NiceL [] [] 0 0 := ⟨rfl, rfl, rfl, rfl, Nat.le_refl 0, Nat.le_refl 0⟩
theorem Nice.up {d : D} {p : PyData} {h w h' w' : Nat} (a : Nice d p h w) (b : h ≤ h') (c : w ≤ w') : Nice d p h' w' := ⟨a.py, a.lay, a.show', a.short, Nat.le_trans a.deep b, Nat.le_trans a.wt c⟩
theorem NiceL.up {d : List D} {p : List PyData} {h w h' w' : Nat} (a : NiceL d p h w) (b : h ≤ h') (c : w ≤ w') : NiceL d p h' w' := ⟨a.py, a.lay, a.show', a.short, Nat.le_trans a.deep b, Nat.le_trans a.wt c⟩
theorem NiceL.cons {d : D} {p : PyData} {ds : List D} {ps : List PyData} {h w h' w' : Nat} (a : Nice d p h w) (b : NiceL ds ps h' w') : NiceL (d :: ds) (p :: ps) (max h h') (w + 1 + w') where
  py := by unfold pys; rw [a.py, b.py]
  lay := by simp [PyData.canLayAll0, a.lay, b.lay]
  show' := by simp [PyData.showableAll, a.show', b.show']
  short := by simp [PyData.intsShortAll, a.short, b.short]
  deep := by have := a.deep; have := b.deep; simp only [PyData.depthAll]; omega
  wt := by have := a.wt; have := b.wt; simp only [PyData.weightAll]; omega
theorem NiceL.map {β : Type} {f : β → D} {g : β → PyData} {h w : Nat} : ∀ (l : List β), (∀ b ∈ l, Nice (f b) (g b) h w) → NiceL (l.map f) (l.map g) h (l.length * (w + 1))
  | [], _ => ⟨rfl, rfl, rfl, rfl, Nat.zero_le _, Nat.zero_le _⟩
  | b :: l, hb => by
    have ih := NiceL.map l fun c hc => hb c (List.mem_cons_of_mem _ hc)
    exact (NiceL.cons (hb b List.mem_cons_self) ih).up (by omega) (by rw [List.length_cons, Nat.add_mul]; omega)
theorem Nice.tup {ds : List D} {ps : List PyData} {h w : Nat} (a : NiceL ds ps h w) : Nice (.tup ds) (.tuple ps) (h + 1) w where
  py := by unfold DL.py; rw [a.py]; rfl
  lay := by simp [PyData.canLay0, a.lay]
  show' := by simp [PyData.showable, a.show']
  short := by simp [PyData.intsShort, a.short]
  deep := by have := a.deep; simp only [PyData.depth]; omega
  wt := by have := a.wt; simp only [PyData.weight]; omega
theorem Nice.lst {ds : List D} {ps : List PyData} {h w : Nat} (a : NiceL ds ps h w) : Nice (.lst ds) (.list ps) (h + 1) w where
  py := by unfold DL.py; rw [a.py]; rfl
  lay := by simp [PyData.canLay0, a.lay]
  show' := by simp [PyData.showable, a.show']
  short := by simp [PyData.intsShort, a.short]
  deep := by have := a.deep; simp only [PyData.depth]; omega
  wt := by have := a.wt; simp only [PyData.weight]; omega
theorem Nice.shaped {d : D} {p : PyData} {h w : Nat} (a : Nice d p h w) (h1 : h ≤ 60) : SeqAt.shaped p = true := by
  have := a.deep
  simp only [SeqAt.shaped, a.lay, Bool.true_and, decide_eq_true_eq]
  omega
mutual
theorem eqv_refl : ∀ p : PyData, p.canLay0 = true → PyData.eqv p p = true
  | .none, _ => by simp [PyData.eqv]
  | .bool b, _ => by simp [PyData.eqv]
  | .int i, _ => by simp [PyData.eqv]
  | .str x, _ => by simp [PyData.eqv]
  | .list xs, h => by
    have h1 : PyData.canLayAll0 xs = true := by simpa [PyData.canLay0] using h
    simpa [PyData.eqv] using eqvAll_refl xs h1
  | .tuple xs, h => by
    have h1 : PyData.canLayAll0 xs = true := by simpa [PyData.canLay0] using h
    simpa [PyData.eqv] using eqvAll_refl xs h1
  | .dict kvs, h => by simp [PyData.canLay0] at h
theorem eqvAll_refl : ∀ ps : List PyData, PyData.canLayAll0 ps = true → PyData.eqvAll ps ps = true
  | [], _ => by simp [PyData.eqvAll]
  | p :: ps, h => by
    have h1 : p.canLay0 = true ∧ PyData.canLayAll0 ps = true := by simpa [PyData.canLayAll0] using h
    simp [PyData.eqvAll, eqv_refl p h1.1, eqvAll_refl ps h1.2]
end
theorem Nice.repr {d : D} {p : PyData} {h w : Nat} (a : Nice d p h w) (h1 : h ≤ 60) (h2 : w ≤ 2 ^ 20) : fRepr [d] = some (.val (.str p.shown)) := by
  have d1 := a.deep
  have w1 := a.wt
  have l : PyData.layable0 p = true := by
    simp only [PyData.layable0, a.lay, Bool.true_and, Bool.and_eq_true, decide_eq_true_eq]
    exact ⟨by omega, by omega⟩
  have s := PyProof.Rows.shown_le13 l a.short
  have s2 : p.shown.length ≤ sizeLine := by rw [sizeLine_eq]; omega
  have d2 : p.depth ≤ 64 := by omega
  unfold fRepr
  simp [a.py, a.show', d2, s2]
theorem eqDeep_nice {d e : D} {p q : PyData} {h w h' w' : Nat} (a : Nice d p h w) (b : Nice e q h' w') (h1 : h ≤ 60) (h2 : h' ≤ 60) : eqDeep d e = some (PyData.eqv p q) := by
  unfold eqDeep
  rw [a.py, b.py]
  exact if_pos ⟨a.shaped h1, b.shaped h2⟩
theorem eqD_self {d : D} {p : PyData} {h w : Nat} (a : Nice d p h w) (h1 : h ≤ 60) : eqD d d = some true := by
  have e := eqDeep_nice a a h1 h1
  rw [eqv_refl p a.lay] at e
  cases d with
  | int i => simp [eqD]
  | str x => simp [eqD]
  | bl b => simp [eqD]
  | _ => exact e
/-- the body of _law_alike -/
def alikeD : List D → DR := dDef 2 [false, false]
    (dRet (dAndV (dOp2 opEq (dB fRepr (dCons (dVar 0) dNil)) (dB fRepr (dCons (dVar 1) dNil))) (dOp2 opEq (dVar 0) (dVar 1))))
theorem alike_nice {d : D} {p : PyData} {h w : Nat} (a : Nice d p h w) (h1 : h ≤ 60) (h2 : w ≤ 2 ^ 20) : alikeD [d, d] = .ok (.val (.bl true)) [d, d] := by
  have e1 := a.repr h1 h2
  have e2 : opEq d d = some (.val (.bl true)) := by unfold opEq; rw [eqD_self a h1]; rfl
  unfold alikeD dDef
  simp [e1, e2]
end DL

/-! more of what is computed, by simp. -/
namespace DL
open PySem PySem.Spec L2
section
variable {ρ : Env} {d e : D} {i j : Nat} {ks xs ys : List D} {g g1 g2 : Ev} {a b : Bool}
@[simp] theorem s_orE : orE g1 g2 ρ = match g1 ρ with
  | .no => g2 ρ
  | r => r := rfl
@[simp] theorem s_pop : mPop (.lst xs) [] = match xs[xs.length - 1]? with
    | some d => some (d, .lst xs.dropLast)
    | none => none := rfl
@[simp] theorem s_insert {n : Int} : mInsert (.lst xs) [.int n, d] = if xs.length < sizeLine ∧ 0 ≤ n ∧ n < 2 ^ 63 then some (.non, .lst (xs.take n.toNat ++ [d] ++ xs.drop n.toNat)) else none := rfl
@[simp] theorem s_rev : opRev (.lst xs) = some (.new (.lst xs.reverse)) := rfl
@[simp] theorem s_isB : opIsB (.bl a) (.bl b) = some (.val (.bl (decide (a = b)))) := rfl
@[simp] theorem s_notB : opNotB (.bl a) (.bl b) = some (.val (.bl (!decide (a = b)))) := rfl
@[simp] theorem s_dGet2X {go ge gf : Ev} : dGet2X go ge gf ρ = (go ρ).settle.bind fun r ρ1 => match (peek r ρ1).bind xdic with
  | some _ => (ge ρ1).settle.bind fun r1 ρ2 => (gf ρ2).settle.bind fun r2 ρ3 => match (peek r ρ3).bind xdic, (peek r1 ρ3).bind kOf, frz r2 ρ3 with
    | some (ks, xs), some k, some (d, ρ4) => .ok (.val ((dctGet ks xs k).getD d)) ρ4
    | _, _, _ => .no
  | none => .no := rfl
@[simp] theorem s_xdic : xdic (.dct ks xs) = some (ks, xs) := rfl
@[simp] theorem s_xdic0 : xdic (.dic [] xs) = some ([], []) := rfl
@[simp] theorem s_hr_add {r : RV} {rs : List RV} : (HR.ok rs ρ).add r = .ok (r :: rs) ρ := rfl
@[simp] theorem s_hold_nil : dHold [] ρ = .ok [] ρ := rfl
@[simp] theorem s_hold_cons {gs : List Ev} : dHold (g :: gs) ρ = match g ρ with
    | .ok r ρ1 => match r with
      | .loc i => match frz (.loc i) ρ1 with
        | some (d, ρ2) => (dHold gs ρ2).add (.val d)
        | none => .no
      | .val d => (dHold gs ρ1).add (.val d)
      | .new d => (dHold gs ρ1).add (.new d)
    | _ => .no := rfl
@[simp] theorem s_setHs_nil : setHs [] [] ρ = some ρ := rfl
@[simp] theorem s_setHs_cons {is : List Nat} {r : RV} {rs : List RV} : setHs (i :: is) (r :: rs) ρ = match setH ρ i r with
    | some ρ1 => setHs is rs ρ1
    | none => none := rfl
@[simp] theorem s_setH_val : setH ρ i (.val d) = setV ρ i (.val d) := rfl
@[simp] theorem s_setH_new : setH ρ i (.new d) = setV ρ i (.own d) := rfl
@[simp] theorem s_dParH {is : List Nat} {gs : List Ev} : dParH is gs ρ = match dHold gs ρ with
  | .ok rs ρ1 => SR.of (setHs is rs ρ1)
  | .no => .no := rfl
@[simp] theorem s_rv_loc : (RV.loc i).settle = .loc i := rfl
end
end DL

/-! walks over the keys of a dict. -/
namespace DL
open PySem PySem.Spec L2
variable [HasW]
def ItXk (d : Addr) (o : Obj) (es : List Ent) : It :=
  ⟨fun i H => H d = some (.frz o (dxO d es)) ∧ i < es.length, fun i H v H' => H' = H ∧ ∃ e, es[i]? = some e ∧ v = .ref e.2.1, fun i H => H d = some (.frz o (dxO d es)) ∧ es.length ≤ i⟩
theorem jd_dkt {K : PySem.W.Frag} {F : Hp} {d : Addr} {o : Obj} {ks xs : List D} {es : List Ent} (h : F d = some (.frz o (dxO d es))) (l : ks.map kOf = es.map (fun e => some e.1)) (rk : Reps K F ks (es.map fun e => .ref e.2.1)) (r : Reps K F xs (es.map (·.2.2))) : JD K F (ItXk d o es) ks := fun H1 F1 s1 s2 => by
  have hd : H1 d = some (.frz o (dxO d es)) := s2 _ _ (s1 _ _ h)
  have rk1 := Reps.mono s1 _ _ rk
  have lw : ks.length = es.length := by have := congrArg List.length l; simpa using this
  refine ⟨fun i e he => ?_, ⟨hd, by rw [lw]; exact Nat.le_refl _⟩⟩
  have hi : i < es.length := by rw [← lw]; exact (List.getElem?_eq_some_iff.mp he).1
  refine ⟨⟨hd, hi⟩, fun x H2 y => ?_⟩
  obtain ⟨rfl, e1, he1, rfl⟩ := y
  obtain ⟨v, hv, rv⟩ := rk1.get he
  rw [List.getElem?_map, he1] at hv
  cases hv
  exact ⟨_, Ext.refl s2, rv⟩
section
variable {P : Program} {w : World} {K : PySem.W.Frag} {d : Addr} {o : Obj} {des : Array DictEntry} {ep : Nat}
theorem turn_keysX {es : List Ent} {tg : Expr} (it : Addr) (hod : o.data = .dict des ep) (hsz : des.size = es.length) :
    Turn P w K tg (ItXk d o es) [it] it (fun i h => h.IsKeyIter it d i es.length ep) where
  mem := by simp
  obj := fun i h st b hb => by
    have e : b = it := by simpa using hb
    subst e
    obtain ⟨oi, e, c, dd⟩ := st
    exact ⟨oi, e, fun v z => by rw [dd] at z; cases z⟩
  keep := fun i h h' st k => st.at fun oi e => k it (by simp) oi e
  item := by
    intro X hP hw hK hc i pins s σ H E I hf st hg
    subst hP hw hK
    obtain ⟨hd, hi⟩ := hg
    obtain ⟨f0, f1, f2, f3, f4, f5⟩ := hf it (by simp)
    obtain ⟨hs, hgd, hx, des', ep', us, hdt, rv, he0⟩ := frzX I hd
    obtain ⟨rfl, rfl⟩ := dict_ep hod hdt
    obtain ⟨e, hei⟩ : ∃ p, es[i]? = some p := ⟨es[i], List.getElem?_eq_getElem hi⟩
    obtain ⟨u, hu, ru⟩ := entsOf_get rv hei
    have hen : des'[i]? = some (entryH e.1 e.2.1 u) := by rw [← Array.getElem?_toList, he0, hu]
    refine next_key_item st hgd hdt hsz hen fun h' st' sb => ?_
    have I1 : Inv X pins σ H { s with heap := h' } := I.turned (t' := s.toks) (fun b ob hb e => (sb.2 b hb).trans e) f0 f1 f3 f4 f5
    obtain ⟨oi, e', c, dd⟩ := id st'
    exact ⟨.ref e.2.1, rfl, go_of (s := { s with heap := h' }) e' c dd (by decide) ⟨.ref e.2.1, H, I1, rfl, ⟨rfl, e, hei, rfl⟩, st', fun b hb => (hf b hb).1⟩⟩
  done := by
    intro X hP hw hK hc i pins s σ H E I hf st hg
    subst hP hw hK
    obtain ⟨hd, hi⟩ := hg
    obtain ⟨f0, f1, f2, f3, f4, f5⟩ := hf it (by simp)
    obtain ⟨hs, hgd, hx, des', ep', us, hdt, rv, he0⟩ := frzX I hd
    obtain ⟨rfl, rfl⟩ := dict_ep hod hdt
    exact next_key_end (I.ok.hd hc) st hgd hdt hsz hi fun h' eb => ⟨rfl, I.turned (t' := s.toks) (fun b ob hb e => eb b ob hb e) f0 f1 f3 f4 f5⟩
  self := fun A i s Q E st h => by
    refine wpAny_pyIter_slot st.typeIs PySem.F.slot_dict_keyiterator_iter (wpAny_call_entry PySem.F.slot_dict_keyiterator_iter st.typeIs PySem.F.entry_dict_keyiterator_iter ?_ (PySem.F.args_dict_keyiterator_iter_1 _))
    show wpAny _ _ (ret (.ref it)) _ _ s
    exact wpAny_pure ⟨_, rfl, "dict_keyiterator", _, st.typeIs, PySem.F.slot_dict_keyiterator_next.lookup, h⟩
end
def iKeysX (td : TE) : TI := fun σ H R => td σ H fun x H1 => ∃ d o es, x = .ref d ∧ H1 d = some (.frz o (dxO d es)) ∧ R (ItXk d o es) H1
theorem pi_keysX {X : Cx} {e tg : Expr} {td : TE} (he : PE X e td) : PI X tg e (iKeysX td) := by
  refine ⟨fun pins s σ H R I h => ?_⟩
  refine thn (he.run pins s σ H _ I h) fun u s1 ⟨x, H1, I1, rx, d, o, es, ex, hd, q⟩ => ?_
  subst ex
  obtain rfl : u = Value.ref d := rx
  obtain ⟨hs, hgd, hx, des, ep, us, hdt, rv, he0⟩ := frzX I1 hd
  have hl : des.size = es.length := by rw [← Array.length_toList, he0, entsOf_length rv]
  refine iter_keys hs hgd hx hdt (pi_one (tk := s1.toks) I1 _ (turn_keysX _ hdt hl) ⟨_, Heap.get?_push_size _ rfl, rfl, ?_⟩ q)
  rw [hl] <;> rfl
def iDkt (i : Nat) : Iv := fun ρ => match dctAt ρ i with
  | some (ks, xs, ρ1) => .ok ks ρ1
  | none => .no
def dLcK (i : Nat) (vs : List Nat) (ft : D → Env → Option Env) (gt ge : Ev) : Ev := fun ρ => offEx (dLc (iDkt i) vs ft gt ge ρ)
section
variable {K : PySem.W.Frag} {W : WX} {ft : D → Env → Option Env} {gt ge : Ev} {tch : List Nat} {vs : List Nat} {i : Nat}
/-- the walk, the dict being locked -/
theorem ec_walkK {α : Nat → Addr} {ρ : Env} {σ : L2.St} {H F G : Hp} {R : It → Hp → Prop} {d : Addr} {o : Obj} {ks xs : List D} {es : List Ent} (f : Fits K α ρ σ H F G) (hs : ρ[i]? = some (.val (.dct ks xs))) (hv : σ[i]? = some (some (.ref d))) (hF : F d = some (.frz o (dxO d es))) (l : ks.map kOf = es.map (fun e => some e.1)) (rk : Reps K F ks (es.map fun e => .ref e.2.1)) (r : Reps K F xs (es.map (·.2.2)))
    (h : IC K W0 α σ F G R (iDkt i ρ)) : iKeysX (tVar i) σ H R := by
  have e2 : iDkt i ρ = .ok (ks) ρ := by unfold iDkt dctAt; rw [hs]
  rw [e2] at h
  exact ⟨.ref d, hv, d, o, _, rfl, f.fh _ _ hF, h _ H F (Grow.refl _ _) f (jd_dkt hF l rk r)⟩
theorem ec_lcK_val {α : Nat → Addr} {ρ : Env} {σ : L2.St} {H F G : Hp} {Q : VK} {ks xs : List D} (ht : ∀ j ∈ tch, j ∈ vs) (f : Fits K α ρ σ H F G) (hs : ρ[i]? = some (.val (.dct ks xs))) (h : EC K W α σ F G Q (dLcK i vs ft gt ge ρ)) :
    tLockE (tLc (iKeysX (tVar i)) (tG K tch ft) (tT K W0 gt) (tE K W0 ge) vs) σ H Q ∨ tLc (iKeysX (tVar i)) (tG K tch ft) (tT K W0 gt) (tE K W0 ge) vs σ H Q := by
  obtain ⟨x, hx, v, rfl, d, es, rfl, rd, l, rk, r⟩ := f.slot i _ hs
  rcases rd with hF | ⟨o, hF⟩
  · refine .inl ⟨d, _, f.fh _ _ hF, trivial, fun od => ?_⟩
    let z : HO := .frz od (dxO d es)
    have hH : H d = some (dxO d es) := f.fh _ _ hF
    have al : Alike F (upd F d z) := alike_lockX hF
    have f0 : Fits K α ρ σ (upd H d z) (upd F d z) (updIf G d z) := f.told hF al (fun b => updIf_none) (fun b u e => by
      by_cases q : b = d
      · subst q
        rw [upd_same]
        have e' : (match G b with | some _ => some z | none => none) = some u := by
          have := e
          unfold updIf at this
          rw [if_pos rfl] at this
          exact this
        cases e2 : G b with
        | none => rw [e2] at e'; cases e'
        | some w => rw [e2] at e'; exact e'
      · rw [updIf_ne q] at e
        rw [upd_ne q]
        exact f.gh _ _ e)
    refine ec_lc_at (W := W0) ht f0 (fun R q => ec_walkK f0 hs hx upd_same l (Reps.alike al _ _ rk) (Reps.alike al _ _ r) q) ?_
    have key : ∀ {e : ER}, EC K W α σ F G Q (offEx e) → EC K W0 α σ (upd F d z) (updIf G d z) (fun v H' => H' d = some (.frz od (dxO d es)) ∧ Q v (upd H' d (dxO d es))) e := by
      intro e h
      cases e with
      | no => exact h
      | ex x ρ1 => exact h.elim
      | ok rv ρ1 =>
        intro v H' F' g1 f1 r1
        have hz : F' d = some z := g1.sub _ _ upd_same
        have hz2 : H' d = some z := f1.fh _ _ hz
        refine ⟨hz2, ?_⟩
        have al2 : Alike F' (upd F' d (dxO d es)) := alike_openX hz
        have f2 : Fits K α ρ1 σ (upd H' d (dxO d es)) (upd F' d (dxO d es)) G := f1.told hz al2 (fun b => updIf_none.symm) (fun b u e => by
          by_cases q : b = d
          · subst q
            have := f.gh _ _ e
            rw [hH] at this
            cases this
            exact upd_same
          · rw [upd_ne q]
            exact f1.gh _ _ (by rw [updIf_ne q]; exact e))
        have g2 : Grow G F (upd F' d (dxO d es)) := by
          refine ⟨fun a o e => ?_, fun a o e => ?_⟩
          · by_cases q : a = d
            · subst q
              rw [hF] at e
              cases e
              exact upd_same
            · rw [upd_ne q]
              exact g1.sub _ _ (by rw [upd_ne q]; exact e)
          · by_cases q : a = d
            · subst q
              rw [upd_same] at e
              cases e
              exact .inl hF
            · rw [upd_ne q] at e
              rcases g1.new a o e with w | ⟨w1, w2⟩
              · rw [upd_ne q] at w
                exact .inl w
              · exact .inr ⟨(upd_none hF).mp w1, updIf_none.mp w2⟩
        refine h v _ _ g2 f2 ?_
        cases rv with
        | val dd => exact Rep.alike al2 _ _ r1
        | loc j => exact r1
        | new dd =>
          obtain ⟨a, rfl, fa, ga, c, sp⟩ := r1
          have ne : a ≠ d := fun q => by rw [q, hz] at fa; cases fa
          exact ⟨a, rfl, by rw [upd_ne ne]; exact fa, updIf_none.mp ga, c.alike al2 fun w q => by rw [upd_ne ne]; exact q, sp⟩
    exact key h
  · exact .inr (ec_lc_at (W := W0) ht f (fun R q => ec_walkK f hs hx hF l rk r q) (EC.off h))
theorem dctAtK_own {ρ : Env} {i : Nat} {ks xs : List D} (h : ρ[i]? = some (.own (.dct ks xs))) : dLcK i vs ft gt ge ρ = dLcK i vs ft gt ge (ρ.set i (.val (.dct ks xs))) := by
  have hi : i < ρ.length := (List.getElem?_eq_some_iff.mp h).1
  have e : iDkt i ρ = iDkt i (ρ.set i (.val (.dct ks xs))) := by
    unfold iDkt dctAt
    rw [h, List.getElem?_set_self hi]
  unfold dLcK dLc
  rw [e]
theorem ec_lcK {σ : L2.St} {H : Hp} {Q : VK} (ht : ∀ j ∈ tch, j ∈ vs) (h : tE K W (dLcK i vs ft gt ge) σ H Q) :
    tLockE (tLc (iKeysX (tVar i)) (tG K tch ft) (tT K W0 gt) (tE K W0 ge) vs) σ H Q ∨ tLc (iKeysX (tVar i)) (tG K tch ft) (tT K W0 gt) (tE K W0 ge) vs σ H Q := by
  obtain ⟨α, ρ, F, G, f, h⟩ := h
  have no : dctAt ρ i = none → False := fun e => by
    have : dLcK i vs ft gt ge ρ = .no := by
      unfold dLcK dLc iDkt
      rw [e]
      rfl
    rw [this] at h
    exact h
  cases e : ρ[i]? with
  | none => exact (no (by unfold dctAt; rw [e])).elim
  | some s =>
    cases s with
    | non => exact (no (by unfold dctAt; rw [e])).elim
    | bor d => exact (no (by unfold dctAt; rw [e])).elim
    | val d =>
      cases d with
      | dct ks xs => exact ec_lcK_val ht f e h
      | _ => exact (no (by unfold dctAt; rw [e])).elim
    | own d =>
      cases d with
      | dct ks xs =>
        obtain ⟨x, hx, a, rfl, _⟩ := f.slot i _ e
        obtain ⟨F1, g1, f1, r1⟩ := f.freeze e hx
        have hi : i < ρ.length := (List.getElem?_eq_some_iff.mp e).1
        rw [dctAtK_own e] at h
        exact ec_lcK_val ht f1 (List.getElem?_set_self hi) (EC.mono g1 h)
      | _ => exact (no (by unfold dctAt; rw [e])).elim
end
section
variable {X : Cx} {W : WX} {elt e : Expr} {elts : List Expr} {kk : Nat} {tpos : Pos} {ifs : List Expr} {scope : Scope} {own : List (Str × Nat)} {ft : D → Env → Option Env} {gt ge : Ev} {tch : List Nat} {pos apos cpos : Pos} {i : Nat}
theorem ed_lcK {iter tg : Expr} (hc : X.calm = true) (hN : X.N.Nodup) (ok : BlkOk X.N X.env.scope scope own) (ht : ∀ j ∈ tch, j ∈ own.map (·.2)) (hi : PI X tg iter (iKeysX (tVar i)))
    (hg : ∀ (s : Shared) (H : Hp) (C : Addr) (cl : List (Str × Addr)) (fp : List Addr), PG (X.blk s H scope (compEnvC scope cl C X.env) fp) tg (tG X.K tch ft)) (hif : ∀ (s : Shared) (H : Hp) (C : Addr) (cl : List (Str × Addr)) (fp : List Addr), PTs (X.blk s H scope (compEnvC scope cl C X.env) fp) ifs (tT X.K W0 gt))
    (he : ∀ (s : Shared) (H : Hp) (C : Addr) (cl : List (Str × Addr)) (fp : List Addr), PE (X.blk s H scope (compEnvC scope cl C X.env) fp) elt (tE X.K W0 ge)) (hs : ∀ x, foldedSetIterable iter X.env x = pure x := by intro _; rfl) :
    PE X (.ListComp elt [⟨tg, iter, ifs, 0⟩] scope pos) (tE X.K W (dLcK i (own.map (·.2)) ft gt ge)) := by
  have p := pe_lc (pos := pos) hc hN hi ok hg hif he hs
  exact (PE.or (pe_lock p) p).weak fun σ H Q h => ec_lcK ht h
theorem iw_keysN {tg : Expr} (he : PE X e (tVar i)) : PI X tg e (iWalk .keys (tVar i)) := ⟨fun pins s σ H R I h => by
  obtain ⟨x, hx, d, o, kvs, ex, hd, q⟩ := h
  exact (pi_keys he).run pins s σ H R I ⟨x, hx, d, o, ex, .inl ⟨kvs, hd, q⟩⟩⟩
/-- [.. for a in d], whatever d is -/
theorem ed_lcN {iter tg : Expr} {gi : Iv} (hc : X.calm = true) (hN : X.N.Nodup) (ok : BlkOk X.N X.env.scope scope own) (ht : ∀ j ∈ tch, j ∈ own.map (·.2)) (hv : PE X iter (tVar i)) (hi : PI X tg iter (tI X.K W gi))
    (hg : ∀ (s : Shared) (H : Hp) (C : Addr) (cl : List (Str × Addr)) (fp : List Addr), PG (X.blk s H scope (compEnvC scope cl C X.env) fp) tg (tG X.K tch ft)) (hif : ∀ (s : Shared) (H : Hp) (C : Addr) (cl : List (Str × Addr)) (fp : List Addr), PTs (X.blk s H scope (compEnvC scope cl C X.env) fp) ifs (tT X.K W0 gt))
    (he : ∀ (s : Shared) (H : Hp) (C : Addr) (cl : List (Str × Addr)) (fp : List Addr), PE (X.blk s H scope (compEnvC scope cl C X.env) fp) elt (tE X.K W0 ge)) (hs : ∀ x, foldedSetIterable iter X.env x = pure x := by intro _; rfl) :
    PE X (.ListComp elt [⟨tg, iter, ifs, 0⟩] scope pos) (tE X.K W (orE (dLcK i (own.map (·.2)) ft gt ge) (orE (dLcD .keys i (own.map (·.2)) ft gt ge) (dLc gi (own.map (·.2)) ft gt ge)))) :=
  ed_orE (ed_lcK hc hN ok ht (pi_keysX hv) hg hif he hs) (ed_orE (ed_lcD hc hN ok ht (iw_keysN hv) hg hif he hs) (ed_lc hc hN ok ht hi hg hif he hs))
end
end DL

/-! slots that are not lent, sorting: for plain laws. -/
namespace DL
open PySem PySem.Spec L2 PySem.W PyProof.Rows
def NB (x : Slot) : Prop := ∀ d, x ≠ .bor d
theorem nb_non : NB .non := fun d h => by cases h
theorem nb_val (d : D) : NB (.val d) := fun e h => by cases h
theorem nb_own (d : D) : NB (.own d) := fun e h => by cases h
theorem setV_nb {ρ : Env} {i : Nat} {x s : Slot} (h : ρ[i]? = some x) (hx : NB x) : setV ρ i s = some (ρ.set i s) := by
  unfold setV
  rw [h]
  cases x with
  | bor d => exact absurd rfl (hx d)
  | _ => rfl
/-- holds nothing of its own -/
def NW (x : Slot) : Prop := x.owns = false
theorem nw_non : NW .non := rfl
theorem nw_val (d : D) : NW (.val d) := rfl
theorem NW.nb {x : Slot} (h : NW x) : NB x := fun d e => by subst e; cases h
theorem intsD_map : ∀ l : List Int, intsD (l.map .int) = some l
  | [] => rfl
  | x :: l => by
    show (intsD (l.map .int)).map (x :: ·) = _
    rw [intsD_map l]
    rfl
theorem sortD_perm {l l' : List D} (p : l.Perm l') (inj : ∀ a ∈ l, ∀ b ∈ l, keyToks (sortKey a) = keyToks (sortKey b) → a = b) : sortD l = sortD l' := by
  have T : TotalLe (dataLe false sortKey) := sortLe_total _ _ _
  have p1 : (sortD l).Perm l := List.mergeSort_perm l _
  have p2 : (sortD l').Perm l' := List.mergeSort_perm l' _
  have q : (sortD l).Perm (sortD l') := p1.trans (p.trans p2.symm)
  refine List.Perm.eq_of_pairwise (le := fun a b => dataLe false sortKey a b = true) ?_ (sort_pairwise T l) (sort_pairwise T l') q
  intro a b ha hb h1 h2
  have ha' : a ∈ l := p1.subset ha
  have hb' : b ∈ l := p.symm.subset (p2.subset hb)
  refine inj a ha' b hb' ?_
  have h1' : (!(listOrd itemOrd).blt (keyToks (sortKey b)) (keyToks (sortKey a))) = true := h1
  have h2' : (!(listOrd itemOrd).blt (keyToks (sortKey a)) (keyToks (sortKey b))) = true := h2
  rw [Bool.not_eq_true'] at h1' h2'
  exact (listOrd itemOrd).total _ _ h2' h1'
end DL

/-! tuple * n, n at most 1000, negative too. -/
namespace DL
open PySem PySem.Spec L2 PyProof.Rows
variable [HasW]
section
theorem tuple_mul1 (l : Addr) (items : Array Value) (n : Nat) (dd : Option Addr) (sl : Array (Option Value)) (u : Tok) :
    Meets (Builtin.«tuple.__mul__» ⟨[.ref l, .int 1 u], []⟩) (fun _ R s => s.heap.get? l = some { cls := .type "tuple", dict := dd, data := .seq items n, slots := sl } ∧
      R (.ok (.ret (Value.ref l))) s) :=
  .of_wp fun prog w A R s h => by
    obtain ⟨hp, g, d, tk, os⟩ := s
    obtain ⟨hl, h⟩ := h
    have f1 := AutoSeq1.idx_int
    have c0 : (decide ((1 : Int) < -(2 ^ 63)) || decide ((1 : Int) ≥ 2 ^ 63)) = false := by decide
    have c1 : (items.isEmpty || (1 : Int) == 1) = true := by simp
    wp_walk using wpAny_loadPart' hl
    repeat (first
      | (refine wpAny_ite_false (decide_eq_false (by rw [c0]; exact Bool.false_ne_true)) ?_; wp_walk using wpAny_loadPart' hl)
      | (refine wpAny_ite_true (decide_eq_true c1) ?_; wp_walk using wpAny_loadPart' hl))
    exact ⟨_, rfl, h⟩
theorem tuple_mul0 (l : Addr) (items : Array Value) (n : Nat) (dd : Option Addr) (sl : Array (Option Value)) (x : Int) (u : Tok) (c0 : (decide (x < -(2 ^ 63)) || decide (x ≥ 2 ^ 63)) = false) (c1 : (items.isEmpty || x == 1) = false) (c2 : (decide (x ≤ 0) || items.isEmpty) = true) :
    Meets (Builtin.«tuple.__mul__» ⟨[.ref l, .int x u], []⟩) (fun _ R s => s.heap.get? l = some { cls := .type "tuple", dict := dd, data := .seq items n, slots := sl } ∧
      R (.ok (.ret (Value.ref s.heap.objs.size))) { s with heap := s.heap.push { cls := Value.type "tuple", data := Data.seq #[] }, toks := s.toks }) :=
  .of_wp fun prog w A R s h => by
    obtain ⟨hp, g, d, tk, os⟩ := s
    obtain ⟨hl, h⟩ := h
    have f1 := AutoSeq1.idx_int
    wp_walk using wpAny_loadPart' hl
    repeat (first
      | (refine wpAny_ite_false (decide_eq_false (by rw [c0]; exact Bool.false_ne_true)) ?_; wp_walk using wpAny_loadPart' hl)
      | (refine wpAny_ite_false (decide_eq_false (by rw [c1]; exact Bool.false_ne_true)) ?_; wp_walk using wpAny_loadPart' hl)
      | (refine wpAny_ite_true (decide_eq_true c2) ?_; wp_walk using wpAny_loadPart' hl))
    exact ⟨_, rfl, h⟩
end
def rRepT1 (K : PySem.W.Frag) : R2 := fun x y H Q => ∃ l xs, x = .ref l ∧ y = .int 1 ∧ SqT K H l xs ∧ Q x H
def rRepT0 (K : PySem.W.Frag) : R2 := fun x y H Q => ∃ l k xs, x = .ref l ∧ y = .int k ∧ SqT K H l xs ∧ xs ≠ [] ∧ -(2 ^ 63) ≤ k ∧ k ≤ 0 ∧ ∀ p, H p = none → Q (.ref p) (upd H p (.tup []))
section
variable {X : Cx}
theorem op_repT1 : OpR X (binaryOp .Mult) (rRepT1 X.K) := by
  intro pins s σ H x y v u Q I rx ry h
  obtain ⟨l, xs, rfl, rfl, hT, q⟩ := h
  cases rx
  obtain ⟨t, rfl⟩ := ry
  obtain ⟨its, r, ⟨⟨cls, dd, data, sl⟩, ho, hc, n, hd⟩, hs⟩ := I.tuple hT
  simp only at hc hd
  subst hc hd
  exact wpAny_binaryOp_repeat_ref (T := "tuple") (U := "int") (by decide) ⟨_, ho, rfl⟩ (fun s' => typeIs_int s' 1 t) noFill_tuple_mul PySem.F.fills_int_mul PySem.F.slot_int_rmul repeat_tuple PySem.F.slot_int_index.lookup
    (call_meets PySem.F.slot_int_rmul (typeIs_int s 1 t) PySem.F.entry_int_rmul (PySem.F.args_int_rmul_2 _ _) (int_rmul_tuple 1 t l its.toArray n dd sl)
      ⟨ho, rfl, ⟨_, ho, rfl⟩, call_meets PySem.F.slot_tuple_mul ⟨_, ho, rfl⟩ PySem.F.entry_tuple_mul (PySem.F.args_tuple_mul_2 _ _) (tuple_mul1 l its.toArray n dd sl t) ⟨ho, ⟨.ref l, H, I, rfl, q⟩⟩⟩)
theorem op_repT0 : OpR X (binaryOp .Mult) (rRepT0 X.K) := by
  intro pins s σ H x y v u Q I rx ry h
  obtain ⟨l, k, xs, rfl, rfl, hT, hne, h1, h2, q⟩ := h
  cases rx
  obtain ⟨t, rfl⟩ := ry
  obtain ⟨its, r, ⟨⟨cls, dd, data, sl⟩, ho, hc, n, hd⟩, hs⟩ := I.tuple hT
  simp only at hc hd
  subst hc hd
  have hle : its.length = xs.length := r.length.symm
  have hn : its ≠ [] := fun e => hne (by
    rw [e] at hle
    exact List.eq_nil_of_length_eq_zero hle.symm)
  have hi : its.toArray.isEmpty = false := by
    cases its with
    | nil => exact absurd rfl hn
    | cons a b => rfl
  have c0 : (decide (k < -(2 ^ 63)) || decide (k ≥ 2 ^ 63)) = false := by
    rw [decide_eq_false (by omega), decide_eq_false (by omega)] <;> rfl
  have c1 : (its.toArray.isEmpty || k == 1) = false := by
    rw [hi, Bool.false_or]
    exact beq_eq_false_iff_ne.mpr (by omega)
  have c2 : (decide (k ≤ 0) || its.toArray.isEmpty) = true := by
    rw [decide_eq_true h2, Bool.true_or]
  refine wpAny_binaryOp_repeat_ref (T := "tuple") (U := "int") (by decide) ⟨_, ho, rfl⟩ (fun s' => typeIs_int s' k t) noFill_tuple_mul PySem.F.fills_int_mul PySem.F.slot_int_rmul repeat_tuple PySem.F.slot_int_index.lookup
    (call_meets PySem.F.slot_int_rmul (typeIs_int s k t) PySem.F.entry_int_rmul (PySem.F.args_int_rmul_2 _ _) (int_rmul_tuple k t l its.toArray n dd sl)
      ⟨ho, rfl, ⟨_, ho, rfl⟩, call_meets PySem.F.slot_tuple_mul ⟨_, ho, rfl⟩ PySem.F.entry_tuple_mul (PySem.F.args_tuple_mul_2 _ _) (tuple_mul0 l its.toArray n dd sl k t c0 c1 c2) ⟨ho, ?_⟩⟩)
  refine ⟨.ref s.heap.objs.size, _, I.laid (t' := s.toks) (o := .tup []) (fun b ob q => Heap.get?_push_of_some _ q) (Nat.le_refl _) ?_, rfl, q _ (I.hok.fresh (Nat.le_refl _))⟩
  exact ⟨Nat.zero_le _, [], .nil, IsTup.new _ _⟩
end
/-! ### over data -/
def opMulA (x y : D) : Option RV := match x, y with
  | .tup xs, .int k => if xs ≠ [] ∧ -(2 ^ 63) ≤ k ∧ k ≤ 0 then some (.val (.tup [])) else if k = 1 then some (.val (.tup xs)) else opMul (.tup xs) (.int k)
  | x, y => opMul x y
section
variable {K : PySem.W.Frag}
abbrev rMulA (K : PySem.W.Frag) : R2 := fun x y H Q => rMul K x y H Q ∨ rRepT1 K x y H Q ∨ rRepT0 K x y H Q
theorem o_mulAll : Op2 K (rMulA K) opMulA := by
  intro F H d e x y z Q s a b h q
  unfold opMulA at h
  split at h
  · rename_i xs k
    split at h
    · rename_i c
      cases h
      obtain ⟨p, vs, rfl, q1, r1⟩ := a
      cases b
      have ne : vs ≠ [] := fun e => by
        have := r1.length
        rw [e] at this
        exact c.1 (List.length_eq_zero_iff.mp this.symm)
      refine .inr (.inr ⟨p, k, vs, rfl, rfl, s.sqT q1, ne, c.2.1, c.2.2, fun pp hp => ?_⟩)
      exact q _ _ _ (Ext.alloc s hp) ⟨pp, _, rfl, SqT.of upd_same, .nil⟩
    · split at h
      · rename_i c1 c2
        cases h
        subst c2
        obtain ⟨p, vs, rfl, q1, r1⟩ := a
        cases b
        exact .inr (.inl ⟨p, vs, rfl, rfl, s.sqT q1, q _ _ _ (Ext.refl s) ⟨p, vs, rfl, q1, r1⟩⟩)
      · exact .inl (o_mul F H _ _ x y z Q s a b h q)
  · exact .inl (o_mul F H _ _ x y z Q s a b h q)
end
section
variable {X : Cx} {W : WX} {a b : Expr} {ga gb : Ev} {pos : Pos}
theorem ed_mulA (ha : PE X a (tE X.K W ga)) (hb : PE X b (tE X.K W gb)) : PE X (.BinOp a .Mult b pos) (tE X.K W (dOp2 opMulA ga gb)) := ed_bin (op_mulA.or (op_repT1.or op_repT0)) o_mulAll ha hb
end
omit [HasW] in
@[simp] theorem opMulA_int {i j : Int} : opMulA (.int i) (.int j) = if CMul i j then some (.val (.int (i * j))) else none := rfl
omit [HasW] in
theorem opMulA_tup {x : D} {xs : List D} (n : Nat) (h : n ≤ 1000) (hl : xs.length < 1000) : opMulA (.tup (x :: xs)) (.int n) = some (.val (.tup (List.replicate n (x :: xs)).flatten)) := by
  unfold opMulA
  dsimp only
  match n, h with
  | 0, _ => rfl
  | 1, _ => simp
  | n + 2, h =>
    rw [if_neg (by omega), if_neg (by omega)]
    unfold opMul
    dsimp only
    rw [if_pos ⟨by simp, by omega, by omega, by rw [List.length_cons]; omega⟩]
    simp only [Int.toNat_natCast]
omit [HasW] in
@[simp] theorem opMulA_one {d : D} (n : Nat) (h : n ≤ 1000) : opMulA (.tup [d]) (.int n) = some (.val (.tup (List.replicate n d))) := by
  rw [opMulA_tup n h (by decide)]
  congr 3
  induction n with
  | zero => rfl
  | succ n ih => rw [List.replicate_succ, List.replicate_succ, List.flatten_cons, ih (by omega)] <;> rfl
end DL

/-! what the defs of law_k19_systems_over_counts compute (printed by gen.py). -/
namespace K19
open PySem PySem.Spec L2 DL
def wl_common : Nat := 64
/-! common: 0 one 1 other -/
def d_common : List D → DR := dDef 2 [false, false]
    (dSeq (dPar 0 1 (dB fAbs (dCons (dVar 0) dNil)) (dB fAbs (dCons (dVar 1) dNil)))
    (dSeq (whileGo (dOp2 opNe (dVar 1) (dC (.int 0)))
      (dPar 0 1 (dVar 1) (dOp2 opMod (dVar 0) (dVar 1))) wl_common)
    (dRet (dVar 0))))
/-! common_of: 0 numbers 1 found 2 number -/
def d_common_of : List D → DR := dDef 3 [false]
    (dSeq (dSet 1 (dC (.int 0)))
    (dSeq (dFor (iSeq (dVar 0)) (gtName 2)
      (dSet 1 (dCall [false, false] d_common (dCons (dVar 1) (dCons (dVar 2) dNil)))))
    (dRet (dVar 1))))
/-! value: 0 row 1 numbers 2 part 3 number -/
def d_value : List D → DR := dDef 4 [false, false]
    (dRet (dOp2 opAdd (dOp2 opIx (dVar 0) (dC (.int 0))) (dB fSum (dCons (dLc (iArgs kZip (dCons (dOp2 opIx (dVar 0) (dC (.int 1))) (dCons (dVar 1) dNil))) [2, 3] (gtTup 2 (gtCons (gtName 2) (gtCons (gtName 3) gtNil))) dYes (dOp2 opMulA (dVar 2) (dVar 3))) dNil))))
/-! never: 0 many -/
def d_never : List D → DR := dDef 1 [false]
    (dRet (dTup (dCons (dOp1 opNeg (dC (.int 1))) (dCons (dOp2 opMulA (dTup (dCons (dC (.int 0)) dNil)) (dVar 0)) dNil))))
/-! least_lines: 0 many 1 lines 2 found 3 whole 4 parts 5 part 6 key 7 one -/
def d_least_lines : List D → DR := dDef 8 [false, false]
    (dSeq (dSet 2 (fun ρ => .ok (.new (.dic [] [])) ρ))
    (dSeq (dFor (iSeq (dVar 1)) (gtTup 2 (gtCons (gtName 3) (gtCons (gtName 4) gtNil)))
      (dSeq (dSet 5 (dCall [false] d_common_of (dCons (dVar 4) dNil)))
    (dIfS (dAndT (dOp2 opGt (dVar 5) (dC (.int 0))) (dOrT (dOp2 opLt (dVar 3) (dC (.int 0))) (dOp2 opNe (dLc (iSeq (dVar 4)) [7] (gtName 7) (dOp2 opLt (dVar 7) (dC (.int 0))) (dVar 7)) (dLst dNil))))
      (dSeq (dSet 6 (dB fTuple (dCons (dLc (iSeq (dVar 4)) [7] (gtName 7) dYes (dOp2 opFdiv (dVar 7) (dVar 5))) dNil)))
    (dStore 2 (dVar 6) (dB fMin2 (dCons (orE (dGet2X (dVar 2) (dVar 6) (dOp2 opFdiv (dVar 3) (dVar 5))) (dGet2 (dVar 2) (dVar 6) (dOp2 opFdiv (dVar 3) (dVar 5)))) (dCons (dOp2 opFdiv (dVar 3) (dVar 5)) dNil)))))
      (dIfS (dOp2 opLt (dVar 3) (dC (.int 0)))
      (dStore 2 (dOp2 opIx (dCall [false] d_never (dCons (dVar 0) dNil)) (dC (.int 1))) (dOp1 opNeg (dC (.int 1))))
      (fun ρ => .nx ρ)))))
    (dRet (dB fTuple (dCons (dB fSorted (dCons (orE (dLcX 2 [3, 4] (gtTup 2 (gtCons (gtName 4) (gtCons (gtName 3) gtNil))) dYes (dTup (dCons (dVar 3) (dCons (dVar 4) dNil)))) (dLcD .items 2 [3, 4] (gtTup 2 (gtCons (gtName 4) (gtCons (gtName 3) gtNil))) dYes (dTup (dCons (dVar 3) (dCons (dVar 4) dNil))))) dNil)) dNil)))))
/-! least_rest: 0 number 1 row 2 numbers 3 part 4 one -/
def d_least_rest : List D → DR := dDef 5 [false, false]
    (dSeq (dSet 2 (dLc (iSeq (dOp2 opAdd (dTup (dCons (dOp2 opIx (dVar 1) (dC (.int 0))) dNil)) (dOp2 opIx (dVar 1) (dC (.int 1))))) [4] (gtName 4) dYes (dOp2 opMod (dVar 4) (dVar 0))))
    (dSeq (dSet 3 (dCall [false] d_common_of (dCons (dOp2 opAdd (dLst (dCons (dVar 0) dNil)) (dVar 2)) dNil)))
    (dSeq (dIfS (dOp2 opEq (dVar 0) (dVar 3))
      (dRet (dC .non))
      (fun ρ => .nx ρ))
    (dRet (dTup (dCons (dOp2 opFdiv (dVar 0) (dVar 3)) (dCons (dTup (dCons (dOp2 opFdiv (dOp2 opIx (dVar 2) (dC (.int 0))) (dVar 3)) (dCons (dB fTuple (dCons (dLc (iSeq (dSl opSl (dVar 2) (some (dC (.int 1))) none)) [4] (gtName 4) dYes (dOp2 opFdiv (dVar 4) (dVar 3))) dNil)) dNil))) dNil)))))))
/-! made_system: 0 many 1 lines 2 rests 3 found 4 left 5 number 6 row 7 its 8 whole 9 parts -/
def d_made_system : List D → DR := dDef 10 [false, false, false]
    (dSeq (dParH [3, 4] [(dLc (iSeq (dVar 1)) [8, 9] (gtTup 2 (gtCons (gtName 8) (gtCons (gtName 9) gtNil))) dYes (dTup (dCons (dVar 8) (dCons (dB fTuple (dCons (dVar 9) dNil)) dNil)))), (fun ρ => .ok (.new (.dic [] [])) ρ)])
    (dSeq (dFor (iSeq (dVar 2)) (gtTup 2 (gtCons (gtName 5) (gtCons (gtName 6) gtNil)))
      (dSeq (dSet 7 (dCall [false, false] d_least_rest (dCons (dVar 5) (dCons (dTup (dCons (dOp2 opIx (dVar 6) (dC (.int 0))) (dCons (dB fTuple (dCons (dOp2 opIx (dVar 6) (dC (.int 1))) dNil)) dNil))) dNil))))
    (dIfS (dAndT (dOp1 opNotN (dVar 7)) (dOp2 opEq (dOp2 opIx (dOp2 opIx (dVar 7) (dC (.int 1))) (dC (.int 1))) (dOp2 opMulA (dTup (dCons (dC (.int 0)) dNil)) (dVar 0))))
      (dExpr (dMut "list" 3 mAppend (dCons (dCall [false] d_never (dCons (dVar 0) dNil)) dNil)))
      (dIfS (dOp1 opNotN (dVar 7))
      (dStore 4 (dVar 7) (dC (.bl true)))
      (fun ρ => .nx ρ)))))
    (dRet (dTup (dCons (dVar 0) (dCons (dCall [false, false] d_least_lines (dCons (dVar 0) (dCons (dVar 3) dNil))) (dCons (dB fTuple (dCons (dB fSorted (dCons (dVar 4) dNil)) dNil)) dNil)))))))
/-! is_false: 0 system -/
def d_is_false : List D → DR := dDef 1 [false]
    (dRet (dOp2 opIn (dCall [false] d_never (dCons (dOp2 opIx (dVar 0) (dC (.int 0))) dNil)) (dOp2 opIx (dVar 0) (dC (.int 1)))))
/-! keeps: 0 system 1 numbers 2 one 3 row 4 number -/
def d_keeps : List D → DR := dDef 5 [false, false]
    (dSeq (dIfS (dOrT (dOp2 opNe (dB fLen (dCons (dVar 1) dNil)) (dOp2 opIx (dVar 0) (dC (.int 0)))) (dOp2 opNe (dLc (iSeq (dVar 1)) [2] (gtName 2) (dOp2 opLt (dVar 2) (dC (.int 0))) (dVar 2)) (dLst dNil)))
      (dRet (dC (.bl false)))
      (fun ρ => .nx ρ))
    (dSeq (dIfS (dOp2 opNe (dLc (iSeq (dOp2 opIx (dVar 0) (dC (.int 1)))) [3] (gtName 3) (dOp2 opLt (dCall [false, false] d_value (dCons (dVar 3) (dCons (dVar 1) dNil))) (dC (.int 0))) (dVar 3)) (dLst dNil))
      (dRet (dC (.bl false)))
      (fun ρ => .nx ρ))
    (dRet (dOp2 opEq (dLc (iSeq (dOp2 opIx (dVar 0) (dC (.int 2)))) [3, 4] (gtTup 2 (gtCons (gtName 4) (gtCons (gtName 3) gtNil))) (dOp2 opNe (dOp2 opMod (dCall [false, false] d_value (dCons (dVar 3) (dCons (dVar 1) dNil))) (dVar 4)) (dC (.int 0))) (dC (.int 1))) (dLst dNil)))))
/-! _law_bag: 0 script 1 cell -/
def d__law_bag : List D → DR := dDef 2 [false]
    (dRet (dLst (dCons (dC (.int 0)) (dCons (dC (.int 1234567891)) (dCons (dC (.int 0)) (dCons (dLc (iSeq (dSl opSl (dVar 0) none (some (dC (.int 63))))) [1] (gtName 1) dYes (dB fAbs (dCons (dVar 1) dNil))) dNil))))))
/-! _law_take: 0 bag 1 many 2 cell 3 stirred 4 drawn 5 begin 6 second -/
def d__law_take : List D → DR := dDef 7 [true, false]
    (dSeq (dIfS (dOp2 opEq (dOp2 opIx (dVar 0) (dC (.int 0))) (dC (.int 0)))
      (dSeq (dSet 2 (dOp2 opIx (dOp2 opAdd (dSl opSl (dOp2 opIx (dVar 0) (dC (.int 3))) (some (dOp2 opIx (dVar 0) (dC (.int 2)))) none) (dLst (dCons (dC (.int 0)) dNil))) (dC (.int 0))))
    (dSeq (dAugS 0 (dC (.int 2)) (dC (.int 1)) opAddI)
    (dSeq (dIfS (dOp2 opGe (dVar 2) (dOp2 opPow (dC (.int 10)) (dC (.int 18))))
      (dStore 0 (dC (.int 0)) (dVar 2))
      (fun ρ => .nx ρ))
    (dSeq (dSet 3 (dOp2 opAdd (dOp2 opAdd (dOp2 opMulA (dOp2 opIx (dVar 0) (dC (.int 1))) (dC (.int 48271))) (dOp2 opMod (dB fInt (dCons (dVar 2) dNil)) (dC (.int 2147483647)))) (dOp2 opMulA (dC (.int 7919)) (dOp2 opIx (dVar 0) (dC (.int 2))))))
    (dStore 0 (dC (.int 1)) (dOp2 opMod (dB fInt (dCons (dVar 3) dNil)) (dC (.int 2147483647))))))))
      (fun ρ => .nx ρ))
    (dSeq (dIfS (dOp2 opGt (dOp2 opIx (dVar 0) (dC (.int 0))) (dC (.int 0)))
      (dSeq (dSet 4 (dOp2 opMod (dB fInt (dCons (dOp2 opIx (dVar 0) (dC (.int 0))) dNil)) (dVar 1)))
    (dSeq (dStore 0 (dC (.int 0)) (dOp2 opFdiv (dB fInt (dCons (dOp2 opIx (dVar 0) (dC (.int 0))) dNil)) (dVar 1)))
    (dRet (dVar 4))))
      (fun ρ => .nx ρ))
    (dSeq (dSet 5 (dOp2 opMod (dB fInt (dCons (dOp2 opMulA (dOp2 opAdd (dOp2 opIx (dVar 0) (dC (.int 1))) (dC (.int 1))) (dC (.int 39373))) dNil)) (dC (.int 1000000007))))
    (dSeq (dSet 6 (dOp2 opMod (dB fInt (dCons (dOp2 opMulA (dOp2 opMod (dB fInt (dCons (dOp2 opMulA (dVar 5) (dVar 5)) dNil)) (dC (.int 998244353))) (dC (.int 30011))) dNil)) (dC (.int 998244353))))
    (dRet (dOp2 opMod (dB fInt (dCons (dOp2 opFdiv (dVar 6) (dC (.int 7))) dNil)) (dVar 1)))))))
/-! _law_some: 0 bag 1 things -/
def d__law_some : List D → DR := dDef 2 [true, false]
    (dRet (dOp2 opIx (dVar 1) (dCall [true, false] d__law_take (dCons (dVar 0) (dCons (dB fLen (dCons (dVar 1) dNil)) dNil)))))
/-! _law_mixed: 0 bag 1 things 2 found 3 thing -/
def d__law_mixed : List D → DR := dDef 4 [true, false]
    (dSeq (dSet 2 (dLst dNil))
    (dSeq (dFor (iSeq (dVar 1)) (gtName 3)
      (dExpr (dMut "list" 2 mInsert (dCons (dCall [true, false] d__law_take (dCons (dVar 0) (dCons (dOp2 opAdd (dB fLen (dCons (dVar 2) dNil)) (dC (.int 1))) dNil))) (dCons (dVar 3) dNil)))))
    (dRet (dVar 2))))
/-! _law_alike: 0 found 1 due -/
def d__law_alike : List D → DR := dDef 2 [false, false]
    (dRet (dAndV (dOp2 opEq (dB fRepr (dCons (dVar 0) dNil)) (dB fRepr (dCons (dVar 1) dNil))) (dOp2 opEq (dVar 0) (dVar 1))))
def wl__law_gcd : Nat := 64
/-! _law_gcd: 0 numbers 1 found 2 number 3 one 4 other -/
def d__law_gcd : List D → DR := dDef 5 [false]
    (dSeq (dSet 1 (dC (.int 0)))
    (dSeq (dFor (iSeq (dVar 0)) (gtName 2)
      (dSeq (dPar 3 4 (dVar 1) (dB fAbs (dCons (dVar 2) dNil)))
    (dSeq (whileGo (dOp2 opNe (dVar 4) (dC (.int 0)))
      (dPar 3 4 (dVar 4) (dOp2 opMod (dVar 3) (dVar 4))) wl__law_gcd)
    (dSet 1 (dVar 3)))))
    (dRet (dVar 1))))
/-! _law_value: 0 row 1 numbers 2 part 3 number -/
def d__law_value : List D → DR := dDef 4 [false, false]
    (dRet (dOp2 opAdd (dOp2 opIx (dVar 0) (dC (.int 0))) (dB fSum (dCons (dLc (iArgs kZip (dCons (dOp2 opIx (dVar 0) (dC (.int 1))) (dCons (dVar 1) dNil))) [2, 3] (gtTup 2 (gtCons (gtName 2) (gtCons (gtName 3) gtNil))) dYes (dOp2 opMulA (dVar 2) (dVar 3))) dNil))))
/-! _law_keeps: 0 system 1 numbers 2 row 3 m -/
def d__law_keeps : List D → DR := dDef 4 [false, false]
    (dRet (dAndV (dOp2 opEq (dLc (iSeq (dOp2 opIx (dVar 0) (dC (.int 1)))) [2] (gtName 2) (dOp2 opLt (dCall [false, false] d__law_value (dCons (dVar 2) (dCons (dVar 1) dNil))) (dC (.int 0))) (dVar 2)) (dLst dNil)) (dOp2 opEq (dLc (iSeq (dOp2 opIx (dVar 0) (dC (.int 2)))) [2, 3] (gtTup 2 (gtCons (gtName 3) (gtCons (gtName 2) gtNil))) (dOp2 opNe (dOp2 opMod (dCall [false, false] d__law_value (dCons (dVar 2) (dCons (dVar 1) dNil))) (dVar 3)) (dC (.int 0))) (dC (.int 1))) (dLst dNil))))
/-! _law_least: 0 many 1 lines 2 rests 3 found 4 kept 5 never_v 6 whole 7 parts 8 g 9 key 10 m 11 numbers 12 part 13 one -/
def d__law_least : List D → DR := dDef 14 [false, false, false]
    (dSeq (dParH [3, 4, 5] [(fun ρ => .ok (.new (.dic [] [])) ρ), (fun ρ => .ok (.new (.dic [] [])) ρ), (dOp2 opMulA (dTup (dCons (dC (.int 0)) dNil)) (dVar 0))])
    (dSeq (dFor (iSeq (dVar 1)) (gtTup 2 (gtCons (gtName 6) (gtCons (gtName 7) gtNil)))
      (dSeq (dSet 8 (dCall [false] d__law_gcd (dCons (dVar 7) dNil)))
    (dIfS (dAndT (dOp2 opGt (dVar 8) (dC (.int 0))) (dOrT (dOp2 opLt (dVar 6) (dC (.int 0))) (dOp2 opLt (dB fMin1 (dCons (dVar 7) dNil)) (dC (.int 0)))))
      (dSeq (dSet 9 (dB fTuple (dCons (dLc (iSeq (dVar 7)) [12] (gtName 12) dYes (dOp2 opFdiv (dVar 12) (dVar 8))) dNil)))
    (dStore 3 (dVar 9) (dB fMin2 (dCons (orE (dGet2X (dVar 3) (dVar 9) (dOp2 opFdiv (dVar 6) (dVar 8))) (dGet2 (dVar 3) (dVar 9) (dOp2 opFdiv (dVar 6) (dVar 8)))) (dCons (dOp2 opFdiv (dVar 6) (dVar 8)) dNil)))))
      (dIfS (dAndT (dOp2 opEq (dVar 8) (dC (.int 0))) (dOp2 opLt (dVar 6) (dC (.int 0))))
      (dStore 3 (dVar 5) (dOp1 opNeg (dC (.int 1))))
      (fun ρ => .nx ρ)))))
    (dSeq (dFor (iSeq (dVar 2)) (gtTup 2 (gtCons (gtName 10) (gtCons (gtTup 2 (gtCons (gtName 6) (gtCons (gtName 7) gtNil))) gtNil)))
      (dSeq (dSet 11 (dLc (iSeq (dOp2 opAdd (dTup (dCons (dVar 6) dNil)) (dB fTuple (dCons (dVar 7) dNil)))) [13] (gtName 13) dYes (dOp2 opMod (dVar 13) (dVar 10))))
    (dSeq (dSet 8 (dCall [false] d__law_gcd (dCons (dOp2 opAdd (dLst (dCons (dVar 10) dNil)) (dVar 11)) dNil)))
    (dIfS (dAndT (dOp2 opGt (dOp2 opFdiv (dVar 10) (dVar 8)) (dC (.int 1))) (dOp2 opEq (dB fMax1 (dCons (dOp2 opAdd (dLst (dCons (dC (.int 0)) dNil)) (dSl opSl (dVar 11) (some (dC (.int 1))) none)) dNil)) (dC (.int 0))))
      (dStore 3 (dVar 5) (dOp1 opNeg (dC (.int 1))))
      (dIfS (dOp2 opGt (dOp2 opFdiv (dVar 10) (dVar 8)) (dC (.int 1)))
      (dStore 4 (dTup (dCons (dOp2 opFdiv (dVar 10) (dVar 8)) (dCons (dTup (dCons (dOp2 opFdiv (dOp2 opIx (dVar 11) (dC (.int 0))) (dVar 8)) (dCons (dB fTuple (dCons (dLc (iSeq (dSl opSl (dVar 11) (some (dC (.int 1))) none)) [13] (gtName 13) dYes (dOp2 opFdiv (dVar 13) (dVar 8))) dNil)) dNil))) dNil))) (dC (.bl true)))
      (fun ρ => .nx ρ))))))
    (dRet (dTup (dCons (dVar 0) (dCons (dB fTuple (dCons (dB fSorted (dCons (orE (dLcK 3 [9] (gtName 9) dYes (dTup (dCons (dOp2 opIx (dVar 3) (dVar 9)) (dCons (dVar 9) dNil)))) (orE (dLcD .keys 3 [9] (gtName 9) dYes (dTup (dCons (dOp2 opIx (dVar 3) (dVar 9)) (dCons (dVar 9) dNil)))) (dLc (iSeq (dVar 3)) [9] (gtName 9) dYes (dTup (dCons (dOp2 opIx (dVar 3) (dVar 9)) (dCons (dVar 9) dNil)))))) dNil)) dNil)) (dCons (dB fTuple (dCons (dB fSorted (dCons (dVar 4) dNil)) dNil)) dNil))))))))
/-! _law_drawn_row: 0 bag 1 many 2 k -/
def d__law_drawn_row : List D → DR := dDef 3 [true, false]
    (dRet (dTup (dCons (dCall [true, false] d__law_some (dCons (dVar 0) (dCons (dLst (dCons (dC (.int 0)) (dCons (dC (.int 1)) (dCons (dOp1 opNeg (dC (.int 1))) (dCons (dC (.int 2)) (dCons (dOp1 opNeg (dC (.int 3))) (dCons (dC (.int 6)) (dCons (dOp1 opNeg (dC (.int 7))) dNil)))))))) dNil))) (dCons (dB fTuple (dCons (dLc (iArgs kRange1 (dCons (dVar 1) dNil)) [2] (gtName 2) dYes (dCall [true, false] d__law_some (dCons (dVar 0) (dCons (dLst (dCons (dC (.int 0)) (dCons (dC (.int 0)) (dCons (dC (.int 1)) (dCons (dC (.int 1)) (dCons (dOp1 opNeg (dC (.int 1))) (dCons (dOp1 opNeg (dC (.int 1))) (dCons (dC (.int 2)) (dCons (dOp1 opNeg (dC (.int 2))) (dCons (dC (.int 3)) dNil)))))))))) dNil)))) dNil)) dNil))))
/-! law: 0 script 1 bag 2 lap 3 many 4 lines 5 rests 6 due 7 turn 8 numbers 9 k 10 row 11 part -/
def d_law : List D → DR := dDef 12 [false]
    (dSeq (dSet 1 (dCall [false] d__law_bag (dCons (dVar 0) dNil)))
    (dSeq (dFor (iArgs kRange1 (dCons (dC (.int 10)) dNil)) (gtName 2)
      (dSeq (dSet 3 (dCall [true, false] d__law_take (dCons (dVar 1) (dCons (dC (.int 4)) dNil))))
    (dSeq (dSet 4 (dLc (iArgs kRange1 (dCons (dCall [true, false] d__law_take (dCons (dVar 1) (dCons (dC (.int 5)) dNil))) dNil)) [9] (gtName 9) dYes (dCall [true, false] d__law_drawn_row (dCons (dVar 1) (dCons (dVar 3) dNil)))))
    (dSeq (dSet 4 (dCall [true, false] d__law_mixed (dCons (dVar 1) (dCons (dOp2 opAdd (dOp2 opAdd (dVar 4) (dLc (iSeq (dSl opSl (dVar 4) none (some (dC (.int 1))))) [10] (gtName 10) dYes (dTup (dCons (dOp2 opSub (dOp2 opAdd (dOp2 opIx (dVar 10) (dC (.int 0))) (dCall [true, false] d__law_take (dCons (dVar 1) (dCons (dC (.int 3)) dNil)))) (dC (.int 1))) (dCons (dOp2 opIx (dVar 10) (dC (.int 1))) dNil))))) (dLc (iSeq (dSl opSl (dVar 4) (some (dC (.int 1))) (some (dC (.int 2))))) [10] (gtName 10) dYes (dTup (dCons (dOp2 opMulA (dC (.int 3)) (dOp2 opIx (dVar 10) (dC (.int 0)))) (dCons (dB fTuple (dCons (dLc (iSeq (dOp2 opIx (dVar 10) (dC (.int 1)))) [11] (gtName 11) dYes (dOp2 opMulA (dC (.int 3)) (dVar 11))) dNil)) dNil))))) dNil))))
    (dSeq (dSet 5 (dLc (iArgs kRange1 (dCons (dCall [true, false] d__law_take (dCons (dVar 1) (dCons (dC (.int 3)) dNil))) dNil)) [9] (gtName 9) dYes (dTup (dCons (dCall [true, false] d__law_some (dCons (dVar 1) (dCons (dLst (dCons (dC (.int 1)) (dCons (dC (.int 2)) (dCons (dC (.int 3)) (dCons (dC (.int 4)) (dCons (dC (.int 6)) dNil)))))) dNil))) (dCons (dCall [true, false] d__law_drawn_row (dCons (dVar 1) (dCons (dVar 3) dNil))) dNil)))))
    (dSeq (dSet 6 (dCall [false, false, false] d__law_least (dCons (dVar 3) (dCons (dVar 4) (dCons (dVar 5) dNil)))))
    (dSeq (dIfS (dNot (dTru (dCall [false, false] d__law_alike (dCons (dLst (dCons (dCall [false, false, false] d_made_system (dCons (dVar 3) (dCons (dVar 4) (dCons (dVar 5) dNil)))) (dCons (dCall [false, false, false] d_made_system (dCons (dVar 3) (dCons (dB fTuple (dCons (dOp1 opRev (dVar 4)) dNil)) (dCons (dB fTuple (dCons (dOp1 opRev (dVar 5)) dNil)) dNil)))) (dCons (dCall [false, false, false] d_made_system (dCons (dVar 3) (dCons (dOp2 opIx (dVar 6) (dC (.int 1))) (dCons (dOp2 opIx (dVar 6) (dC (.int 2))) dNil)))) dNil)))) (dCons (dOp2 opMulA (dLst (dCons (dVar 6) dNil)) (dC (.int 3))) dNil)))))
      (dRet (dC (.bl false)))
      (fun ρ => .nx ρ))
    (dSeq (dIfS (dNot (dTru (dCall [false, false] d__law_alike (dCons (dCall [false] d_is_false (dCons (dVar 6) dNil)) (dCons (dOp2 opIn (dTup (dCons (dOp1 opNeg (dC (.int 1))) (dCons (dOp2 opMulA (dTup (dCons (dC (.int 0)) dNil)) (dVar 3)) dNil))) (dOp2 opIx (dVar 6) (dC (.int 1)))) dNil)))))
      (dRet (dC (.bl false)))
      (fun ρ => .nx ρ))
    (dSeq (dFor (iArgs kRange1 (dCons (dC (.int 12)) dNil)) (gtName 7)
      (dSeq (dSet 8 (dB fTuple (dCons (dLc (iArgs kRange1 (dCons (dVar 3) dNil)) [9] (gtName 9) dYes (dCall [true, false] d__law_take (dCons (dVar 1) (dCons (dC (.int 7)) dNil)))) dNil)))
    (dIfS (dNot (dTru (dCall [false, false] d__law_alike (dCons (dLst (dCons (dCall [false, false] d_keeps (dCons (dVar 6) (dCons (dVar 8) dNil))) (dCons (dLc (iSeq (dVar 4)) [10] (gtName 10) dYes (dCall [false, false] d_value (dCons (dVar 10) (dCons (dVar 8) dNil)))) dNil))) (dCons (dLst (dCons (dCall [false, false] d__law_keeps (dCons (dTup (dCons (dVar 3) (dCons (dVar 4) (dCons (dVar 5) dNil)))) (dCons (dVar 8) dNil))) (dCons (dLc (iSeq (dVar 4)) [10] (gtName 10) dYes (dCall [false, false] d__law_value (dCons (dVar 10) (dCons (dVar 8) dNil)))) dNil))) dNil)))))
      (dRet (dC (.bl false)))
      (fun ρ => .nx ρ))))
    (dSeq (dIfS (dIf (dOp2 opGt (dVar 3) (dC (.int 0))) (dOp2 opNotB (dCall [false, false] d_keeps (dCons (dVar 6) (dCons (dOp2 opAdd (dTup (dCons (dOp1 opNeg (dC (.int 1))) dNil)) (dOp2 opMulA (dTup (dCons (dC (.int 0)) dNil)) (dOp2 opSub (dVar 3) (dC (.int 1))))) dNil))) (dC (.bl false))) (dTru (dC (.bl false))))
      (dRet (dC (.bl false)))
      (fun ρ => .nx ρ))
    (dIfS (dOp2 opNotB (dCall [false, false] d_keeps (dCons (dVar 6) (dCons (dOp2 opMulA (dTup (dCons (dC (.int 0)) dNil)) (dOp2 opAdd (dVar 3) (dC (.int 1)))) dNil))) (dC (.bl false)))
      (dRet (dC (.bl false)))
      (fun ρ => .nx ρ))))))))))))
    (dRet (dC (.bl true)))))
end K19

/-! the walk through law_k19_systems_over_counts (printed by gen.py). -/
namespace K19
open PySem PySem.Spec L2 DL
def top (i : Nat) : Stmt := PySem.Challenge.pw_mergewright_k19_systems_over_counts.main.body.getD i (.Pass ⟨0, 0, 0, 0⟩)
section
variable [HasW] {P : Program} {K : PySem.W.Frag} {mg : Str → Option Value} {base : Heap}
/-! ### common -/
abbrev st_common : Stmt := top 1
abbrev n_common : List Str := ["one", "other"]
theorem sc_common : FnScope ["one", "other"] ["one", "other"] (defScope st_common) := ⟨rfl, rfl, rfl, by decide +kernel, rfl, by decide +kernel, by decide +kernel⟩
theorem ok_common (df : DefAt K mg "common" st_common ["one", "other"]) (z_abs : mg "abs" = none) :
    FnC P HasW.w K mg base 1 "common" [false, false] d_common :=
  fnC_of df sc_common rfl fun f0 cdv A outer s H E hr =>
    (sd_cons (sd_par rfl sc_common.nd (ed_bi call_abs on_abs z_abs bo_abs (ad_cons (ed_var 0) ad_nil)) (ed_bi call_abs on_abs z_abs bo_abs (ad_cons (ed_var 1) ad_nil)) (by decide) (i := 0) (j := 1))
    (sd_cons (sd_while wl_common (passes_of rfl) (td_ofC (cd_ne hr (ed_var 1) ed_int) bf_ne)
      (sd_one (sd_par rfl sc_common.nd (ed_var 1) (ed_mod (ed_var 0) (ed_var 1)) (by decide) (i := 0) (j := 1))))
    (sd_one (sd_ret (ed_var 0)))))
/-! ### common_of -/
abbrev st_common_of : Stmt := top 2
abbrev n_common_of : List Str := ["numbers", "found", "number"]
theorem sc_common_of : FnScope ["numbers", "found", "number"] ["numbers"] (defScope st_common_of) := ⟨rfl, rfl, rfl, by decide +kernel, rfl, by decide +kernel, by decide +kernel⟩
theorem ok_common_of (df : DefAt K mg "common_of" st_common_of ["numbers"]) (c_common : FnC P HasW.w K mg base 1 "common" [false, false] d_common) :
    FnC P HasW.w K mg base 2 "common_of" [false] d_common_of :=
  fnC_of df sc_common_of rfl fun f0 cdv A outer s H E hr =>
    (sd_cons (sd_set sc_common_of.nd ed_int (i := 1))
    (sd_cons (sd_for (passes_of rfl) rfl (id_seq (ed_var 0)) (gd_name sc_common_of.nd (i := 2))
      (sd_one (sd_set sc_common_of.nd (ed_callF c_common hr (takes_of rfl rfl rfl rfl) (ad_cons (ed_var 1) (ad_cons (ed_var 2) ad_nil))) (i := 1))))
    (sd_one (sd_ret (ed_var 1)))))
/-! ### value -/
abbrev st_value : Stmt := top 3
abbrev n_value : List Str := ["row", "numbers", "part", "number"]
theorem sc_value : FnScope ["row", "numbers", "part", "number"] ["row", "numbers"] (defScope st_value) := ⟨rfl, rfl, rfl, by decide +kernel, rfl, by decide +kernel, by decide +kernel⟩
theorem ok_value (df : DefAt K mg "value" st_value ["row", "numbers"]) (z_sum : mg "sum" = none) (z_zip : mg "zip" = none) :
    FnC P HasW.w K mg base 1 "value" [false, false] d_value :=
  fnC_of df sc_value rfl fun f0 cdv A outer s H E hr =>
    (sd_one (sd_ret (ed_add (ed_ixA hr (ed_var 0) ed_int) (ed_bi (cr_sum rfl) on_sum z_sum bo_sum (ad_cons (ed_lc rfl sc_value.nd (blkOk_by (own := [("part", 2), ("number", 3)]) (show blkC n_value (defScope st_value) _ _ = true from by decide +kernel)) (by decide) (id_zip z_zip (ad_cons (ed_ixA hr (ed_var 0) ed_int) (ad_cons (ed_var 1) ad_nil))) (fun _ _ _ _ _ => (gd_tup rfl (gd_cons (gd_name sc_value.nd (i := 2)) (gd_cons (gd_name sc_value.nd (i := 3)) gd_nil)))) (fun _ _ _ _ _ => id_yes) (fun _ _ _ _ _ => (ed_mulA (ed_var 2) (ed_var 3)))) ad_nil)))))
/-! ### never -/
abbrev st_never : Stmt := top 4
abbrev n_never : List Str := ["many"]
theorem sc_never : FnScope ["many"] ["many"] (defScope st_never) := ⟨rfl, rfl, rfl, by decide +kernel, rfl, by decide +kernel, by decide +kernel⟩
theorem ok_never (df : DefAt K mg "never" st_never ["many"]) :
    FnC P HasW.w K mg base 1 "never" [false] d_never :=
  fnC_of df sc_never rfl fun f0 cdv A outer s H E hr =>
    (sd_one (sd_ret (ed_tup (ad_cons (ed_neg ed_int) (ad_cons (ed_mulA (ed_tup (ad_cons ed_int ad_nil)) (ed_var 0)) ad_nil)))))
/-! ### least_lines -/
abbrev st_least_lines : Stmt := top 5
abbrev n_least_lines : List Str := ["many", "lines", "found", "whole", "parts", "part", "key", "one"]
theorem sc_least_lines : FnScope ["many", "lines", "found", "whole", "parts", "part", "key", "one"] ["many", "lines"] (defScope st_least_lines) := ⟨rfl, rfl, rfl, by decide +kernel, rfl, by decide +kernel, by decide +kernel⟩
theorem ok_least_lines (df : DefAt K mg "least_lines" st_least_lines ["many", "lines"]) (c_common_of : FnC P HasW.w K mg base 2 "common_of" [false] d_common_of) (c_never : FnC P HasW.w K mg base 1 "never" [false] d_never) (z_tuple : mg "tuple" = none) (z_min : mg "min" = none) (z_sorted : mg "sorted" = none) :
    FnC P HasW.w K mg base 3 "least_lines" [false, false] d_least_lines :=
  fnC_of df sc_least_lines rfl fun f0 cdv A outer s H E hr =>
    (sd_cons (sd_set sc_least_lines.nd ed_disp0 (i := 2))
    (sd_cons (sd_for (passes_of rfl) rfl (id_seq (ed_var 1)) (gd_tup rfl (gd_cons (gd_name sc_least_lines.nd (i := 3)) (gd_cons (gd_name sc_least_lines.nd (i := 4)) gd_nil)))
      (sd_cons (sd_set sc_least_lines.nd (ed_callF c_common_of hr (takes_of rfl rfl rfl rfl) (ad_cons (ed_var 4) ad_nil)) (i := 5))
    (sd_one (sd_if (tw_and (td_ofC (cd_gt (ed_var 5) ed_int) bf_gt) (tw_and1 (tw_or (td_ofC (cd_lt (ed_var 3) ed_int) bf_lt) (tw_or1 (td_ofC (cd_ne hr (ed_lc rfl sc_least_lines.nd (blkOk_by (own := [("one", 7)]) (show blkC n_least_lines (defScope st_least_lines) _ _ = true from by decide +kernel)) (by decide) (id_seq (ed_var 4)) (fun _ _ _ _ _ => (gd_name sc_least_lines.nd (i := 7))) (fun _ _ _ _ _ => (id_test (td_ofC (cd_lt (ed_var 7) ed_int) bf_lt))) (fun _ _ _ _ _ => (ed_var 7))) (ed_lst ad_nil)) bf_ne))).pt)).pt
      (sd_cons (sd_set sc_least_lines.nd (ed_bt call_tuple_of on_tuple z_tuple bo_tuple (ad_cons (ed_lc rfl sc_least_lines.nd (blkOk_by (own := [("one", 7)]) (show blkC n_least_lines (defScope st_least_lines) _ _ = true from by decide +kernel)) (by decide) (id_seq (ed_var 4)) (fun _ _ _ _ _ => (gd_name sc_least_lines.nd (i := 7))) (fun _ _ _ _ _ => id_yes) (fun _ _ _ _ _ => (ed_fdiv (ed_var 7) (ed_var 5)))) ad_nil)) (i := 6))
    (sd_one (sd_store hr (ed_var 2) (ed_var 6) (ed_bi (call_min2 rfl) on_min2 z_min bo_min (ad_cons (ed_get2A hr (ed_var 2) (ed_var 6) (ed_fdiv (ed_var 3) (ed_var 5))) (ad_cons (ed_fdiv (ed_var 3) (ed_var 5)) ad_nil))))))
      (sd_one (sd_if (td_ofC (cd_lt (ed_var 3) ed_int) bf_lt)
      (sd_one (sd_store hr (ed_var 2) (ed_ixA hr (ed_callF c_never hr (takes_of rfl rfl rfl rfl) (ad_cons (ed_var 0) ad_nil)) ed_int) (ed_neg ed_int)))
      sd_nil))))))
    (sd_one (sd_ret (ed_bt call_tuple_of on_tuple z_tuple bo_tuple (ad_cons (ed_bi (call_sortedAny rfl (u65 hr) rfl) on_sorted z_sorted bo_sorted (ad_cons (ed_lcA rfl sc_least_lines.nd (blkOk_by (own := [("whole", 3), ("parts", 4)]) (show blkC n_least_lines (defScope st_least_lines) _ _ = true from by decide +kernel)) (by decide) (pv 2) (fun _ _ _ _ _ => (gd_tup rfl (gd_cons (gd_name sc_least_lines.nd (i := 4)) (gd_cons (gd_name sc_least_lines.nd (i := 3)) gd_nil)))) (fun _ _ _ _ _ => id_yes) (fun _ _ _ _ _ => (ed_tup (ad_cons (ed_var 3) (ad_cons (ed_var 4) ad_nil))))) ad_nil)) ad_nil))))))
/-! ### least_rest -/
abbrev st_least_rest : Stmt := top 6
abbrev n_least_rest : List Str := ["number", "row", "numbers", "part", "one"]
theorem sc_least_rest : FnScope ["number", "row", "numbers", "part", "one"] ["number", "row"] (defScope st_least_rest) := ⟨rfl, rfl, rfl, by decide +kernel, rfl, by decide +kernel, by decide +kernel⟩
theorem ok_least_rest (df : DefAt K mg "least_rest" st_least_rest ["number", "row"]) (c_common_of : FnC P HasW.w K mg base 2 "common_of" [false] d_common_of) (z_tuple : mg "tuple" = none) :
    FnC P HasW.w K mg base 3 "least_rest" [false, false] d_least_rest :=
  fnC_of df sc_least_rest rfl fun f0 cdv A outer s H E hr =>
    (sd_cons (sd_setLc rfl sc_least_rest.nd (blkOk_by (own := [("one", 4)]) (show blkC n_least_rest (defScope st_least_rest) _ _ = true from by decide +kernel)) (by decide) (id_seq (ed_add (ed_tup (ad_cons (ed_ixA hr (ed_var 1) ed_int) ad_nil)) (ed_ixA hr (ed_var 1) ed_int))) (fun _ _ _ _ _ => (gd_name sc_least_rest.nd (i := 4))) (fun _ _ _ _ _ => id_yes) (fun _ _ _ _ _ => (ed_mod (ed_var 4) (ed_var 0))) (i := 2))
    (sd_cons (sd_set sc_least_rest.nd (ed_callF c_common_of hr (takes_of rfl rfl rfl rfl) (ad_cons (ed_add (ed_lst (ad_cons (ed_var 0) ad_nil)) (ed_var 2)) ad_nil)) (i := 3))
    (sd_cons (sd_if (td_ofC (cd_eq hr (ed_var 0) (ed_var 3)) bf_eq)
      (sd_one (sd_ret ed_non))
      sd_nil)
    (sd_one (sd_ret (ed_tup (ad_cons (ed_fdiv (ed_var 0) (ed_var 3)) (ad_cons (ed_tup (ad_cons (ed_fdiv (ed_ixA hr (ed_var 2) ed_int) (ed_var 3)) (ad_cons (ed_bt call_tuple_of on_tuple z_tuple bo_tuple (ad_cons (ed_lc rfl sc_least_rest.nd (blkOk_by (own := [("one", 4)]) (show blkC n_least_rest (defScope st_least_rest) _ _ = true from by decide +kernel)) (by decide) (id_seq (ed_slice (ed_var 2) (od_some ed_int) od_none)) (fun _ _ _ _ _ => (gd_name sc_least_rest.nd (i := 4))) (fun _ _ _ _ _ => id_yes) (fun _ _ _ _ _ => (ed_fdiv (ed_var 4) (ed_var 3)))) ad_nil)) ad_nil))) ad_nil))))))))
/-! ### made_system -/
abbrev st_made_system : Stmt := top 7
abbrev n_made_system : List Str := ["many", "lines", "rests", "found", "left", "number", "row", "its", "whole", "parts"]
theorem sc_made_system : FnScope ["many", "lines", "rests", "found", "left", "number", "row", "its", "whole", "parts"] ["many", "lines", "rests"] (defScope st_made_system) := ⟨rfl, rfl, rfl, by decide +kernel, rfl, by decide +kernel, by decide +kernel⟩
theorem ok_made_system (df : DefAt K mg "made_system" st_made_system ["many", "lines", "rests"]) (c_least_rest : FnC P HasW.w K mg base 3 "least_rest" [false, false] d_least_rest) (c_never : FnC P HasW.w K mg base 1 "never" [false] d_never) (c_least_lines : FnC P HasW.w K mg base 3 "least_lines" [false, false] d_least_lines) (z_tuple : mg "tuple" = none) (z_sorted : mg "sorted" = none) :
    FnC P HasW.w K mg base 4 "made_system" [false, false, false] d_made_system :=
  fnC_of df sc_made_system rfl fun f0 cdv A outer s H E hr =>
    (sd_cons (sd_par2 rfl sc_made_system.nd (ed_lc rfl sc_made_system.nd (blkOk_by (own := [("whole", 8), ("parts", 9)]) (show blkC n_made_system (defScope st_made_system) _ _ = true from by decide +kernel)) (by decide) (id_seq (ed_var 1)) (fun _ _ _ _ _ => (gd_tup rfl (gd_cons (gd_name sc_made_system.nd (i := 8)) (gd_cons (gd_name sc_made_system.nd (i := 9)) gd_nil)))) (fun _ _ _ _ _ => id_yes) (fun _ _ _ _ _ => (ed_tup (ad_cons (ed_var 8) (ad_cons (ed_bt call_tuple_of on_tuple z_tuple bo_tuple (ad_cons (ed_var 9) ad_nil)) ad_nil))))) ed_disp0 (by decide) (i := 3) (j := 4))
    (sd_cons (sd_for (passes_of rfl) rfl (id_seq (ed_var 2)) (gd_tup rfl (gd_cons (gd_name sc_made_system.nd (i := 5)) (gd_cons (gd_name sc_made_system.nd (i := 6)) gd_nil)))
      (sd_cons (sd_set sc_made_system.nd (ed_callF c_least_rest hr (takes_of rfl rfl rfl rfl) (ad_cons (ed_var 5) (ad_cons (ed_tup (ad_cons (ed_ixA hr (ed_var 6) ed_int) (ad_cons (ed_bt call_tuple_of on_tuple z_tuple bo_tuple (ad_cons (ed_ixA hr (ed_var 6) ed_int) ad_nil)) ad_nil))) ad_nil))) (i := 7))
    (sd_one (sd_if (tw_and (td_ofC1 (cd_notN (ed_var 7)) bf_notN) (tw_and1 (td_ofC (cd_eq hr (ed_ixA hr (ed_ixA hr (ed_var 7) ed_int) ed_int) (ed_mulA (ed_tup (ad_cons ed_int ad_nil)) (ed_var 0))) bf_eq))).pt
      (sd_one (sd_expr (ed_append (ed_var 3) (ad_cons (ed_callF c_never hr (takes_of rfl rfl rfl rfl) (ad_cons (ed_var 0) ad_nil)) ad_nil))))
      (sd_one (sd_if (td_ofC1 (cd_notN (ed_var 7)) bf_notN)
      (sd_one (sd_store hr (ed_var 4) (ed_var 7) ed_bl))
      sd_nil))))))
    (sd_one (sd_ret (ed_tup (ad_cons (ed_var 0) (ad_cons (ed_callF c_least_lines hr (takes_of rfl rfl rfl rfl) (ad_cons (ed_var 0) (ad_cons (ed_var 3) ad_nil))) (ad_cons (ed_bt call_tuple_of on_tuple z_tuple bo_tuple (ad_cons (ed_bi (call_sortedAny rfl (u65 hr) rfl) on_sorted z_sorted bo_sorted (ad_cons (ed_var 4) ad_nil)) ad_nil)) ad_nil))))))))
/-! ### is_false -/
abbrev st_is_false : Stmt := top 8
abbrev n_is_false : List Str := ["system"]
theorem sc_is_false : FnScope ["system"] ["system"] (defScope st_is_false) := ⟨rfl, rfl, rfl, by decide +kernel, rfl, by decide +kernel, by decide +kernel⟩
theorem ok_is_false (df : DefAt K mg "is_false" st_is_false ["system"]) (c_never : FnC P HasW.w K mg base 1 "never" [false] d_never) :
    FnC P HasW.w K mg base 2 "is_false" [false] d_is_false :=
  fnC_of df sc_is_false rfl fun f0 cdv A outer s H E hr =>
    (sd_one (sd_ret (ed_ofC (cd_in hr (ed_callF c_never hr (takes_of rfl rfl rfl rfl) (ad_cons (ed_ixA hr (ed_var 0) ed_int) ad_nil)) (ed_ixA hr (ed_var 0) ed_int)))))
/-! ### keeps -/
abbrev st_keeps : Stmt := top 9
abbrev n_keeps : List Str := ["system", "numbers", "one", "row", "number"]
theorem sc_keeps : FnScope ["system", "numbers", "one", "row", "number"] ["system", "numbers"] (defScope st_keeps) := ⟨rfl, rfl, rfl, by decide +kernel, rfl, by decide +kernel, by decide +kernel⟩
theorem ok_keeps (df : DefAt K mg "keeps" st_keeps ["system", "numbers"]) (c_value : FnC P HasW.w K mg base 1 "value" [false, false] d_value) (z_len : mg "len" = none) :
    FnC P HasW.w K mg base 2 "keeps" [false, false] d_keeps :=
  fnC_of df sc_keeps rfl fun f0 cdv A outer s H E hr =>
    (sd_cons (sd_if (tw_or (td_ofC (cd_ne hr (ed_bi call_lenA on_len z_len bo_len (ad_cons (ed_var 1) ad_nil)) (ed_ixA hr (ed_var 0) ed_int)) bf_ne) (tw_or1 (td_ofC (cd_ne hr (ed_lc rfl sc_keeps.nd (blkOk_by (own := [("one", 2)]) (show blkC n_keeps (defScope st_keeps) _ _ = true from by decide +kernel)) (by decide) (id_seq (ed_var 1)) (fun _ _ _ _ _ => (gd_name sc_keeps.nd (i := 2))) (fun _ _ _ _ _ => (id_test (td_ofC (cd_lt (ed_var 2) ed_int) bf_lt))) (fun _ _ _ _ _ => (ed_var 2))) (ed_lst ad_nil)) bf_ne))).pt
      (sd_one (sd_ret ed_bl))
      sd_nil)
    (sd_cons (sd_if (td_ofC (cd_ne hr (ed_lc rfl sc_keeps.nd (blkOk_by (own := [("row", 3)]) (show blkC n_keeps (defScope st_keeps) _ _ = true from by decide +kernel)) (by decide) (id_seq (ed_ixA hr (ed_var 0) ed_int)) (fun _ _ _ _ _ => (gd_name sc_keeps.nd (i := 3))) (fun _ _ _ _ _ => (id_test (td_ofC (cd_lt (ed_callF c_value hr takes0 (ad_cons (ed_var 3) (ad_cons (ed_var 1) ad_nil))) ed_int) bf_lt))) (fun _ _ _ _ _ => (ed_var 3))) (ed_lst ad_nil)) bf_ne)
      (sd_one (sd_ret ed_bl))
      sd_nil)
    (sd_one (sd_ret (ed_ofC (cd_eq hr (ed_lc rfl sc_keeps.nd (blkOk_by (own := [("row", 3), ("number", 4)]) (show blkC n_keeps (defScope st_keeps) _ _ = true from by decide +kernel)) (by decide) (id_seq (ed_ixA hr (ed_var 0) ed_int)) (fun _ _ _ _ _ => (gd_tup rfl (gd_cons (gd_name sc_keeps.nd (i := 4)) (gd_cons (gd_name sc_keeps.nd (i := 3)) gd_nil)))) (fun _ _ _ _ _ => (id_test (td_ofC (cd_ne hr (ed_mod (ed_callF c_value hr takes0 (ad_cons (ed_var 3) (ad_cons (ed_var 1) ad_nil))) (ed_var 4)) ed_int) bf_ne))) (fun _ _ _ _ _ => ed_int)) (ed_lst ad_nil)))))))
/-! ### _law_bag -/
abbrev st__law_bag : Stmt := top 11
abbrev n__law_bag : List Str := ["script", "cell"]
theorem sc__law_bag : FnScope ["script", "cell"] ["script"] (defScope st__law_bag) := ⟨rfl, rfl, rfl, by decide +kernel, rfl, by decide +kernel, by decide +kernel⟩
theorem ok__law_bag (df : DefAt K mg "_law_bag" st__law_bag ["script"]) (z_abs : mg "abs" = none) :
    FnC P HasW.w K mg base 1 "_law_bag" [false] d__law_bag :=
  fnC_of df sc__law_bag rfl fun f0 cdv A outer s H E hr =>
    (sd_one (sd_ret (ed_lst (ad_cons ed_int (ad_cons ed_int (ad_cons ed_int (ad_cons (ed_lc rfl sc__law_bag.nd (blkOk_by (own := [("cell", 1)]) (show blkC n__law_bag (defScope st__law_bag) _ _ = true from by decide +kernel)) (by decide) (id_seq (ed_slice (ed_var 0) od_none (od_some ed_int))) (fun _ _ _ _ _ => (gd_name sc__law_bag.nd (i := 1))) (fun _ _ _ _ _ => id_yes) (fun _ _ _ _ _ => (ed_bi call_abs on_abs z_abs bo_abs (ad_cons (ed_var 1) ad_nil)))) ad_nil)))))))
/-! ### _law_take -/
abbrev st__law_take : Stmt := top 12
abbrev n__law_take : List Str := ["bag", "many", "cell", "stirred", "drawn", "begin", "second"]
theorem sc__law_take : FnScope ["bag", "many", "cell", "stirred", "drawn", "begin", "second"] ["bag", "many"] (defScope st__law_take) := ⟨rfl, rfl, rfl, by decide +kernel, rfl, by decide +kernel, by decide +kernel⟩
theorem ok__law_take (df : DefAt K mg "_law_take" st__law_take ["bag", "many"]) (z_int : mg "int" = none) :
    FnC P HasW.w K mg base 1 "_law_take" [true, false] d__law_take :=
  fnC_of df sc__law_take rfl fun f0 cdv A outer s H E hr =>
    (sd_cons (sd_if (td_ofC (cd_eq hr (ed_ixA hr (ed_var 0) ed_int) ed_int) bf_eq)
      (sd_cons (sd_set sc__law_take.nd (ed_ixA hr (ed_add (ed_slice (ed_ixA hr (ed_var 0) ed_int) (od_some (ed_ixA hr (ed_var 0) ed_int)) od_none) (ed_lst (ad_cons ed_int ad_nil))) ed_int) (i := 2))
    (sd_cons (sd_augS hr iop_add o_addI (ed_var 0) ed_int ed_int)
    (sd_cons (sd_if (td_ofC (cd_ge (ed_var 2) (ed_pow ed_int ed_int)) bf_ge)
      (sd_one (sd_store hr (ed_var 0) ed_int (ed_var 2)))
      sd_nil)
    (sd_cons (sd_set sc__law_take.nd (ed_add (ed_add (ed_mulA (ed_ixA hr (ed_var 0) ed_int) ed_int) (ed_mod (ed_bt call_int1 on_int z_int bo_int (ad_cons (ed_var 2) ad_nil)) ed_int)) (ed_mulA ed_int (ed_ixA hr (ed_var 0) ed_int))) (i := 3))
    (sd_one (sd_store hr (ed_var 0) ed_int (ed_mod (ed_bt call_int1 on_int z_int bo_int (ad_cons (ed_var 3) ad_nil)) ed_int)))))))
      sd_nil)
    (sd_cons (sd_if (td_ofC (cd_gt (ed_ixA hr (ed_var 0) ed_int) ed_int) bf_gt)
      (sd_cons (sd_set sc__law_take.nd (ed_mod (ed_bt call_int1 on_int z_int bo_int (ad_cons (ed_ixA hr (ed_var 0) ed_int) ad_nil)) (ed_var 1)) (i := 4))
    (sd_cons (sd_store hr (ed_var 0) ed_int (ed_fdiv (ed_bt call_int1 on_int z_int bo_int (ad_cons (ed_ixA hr (ed_var 0) ed_int) ad_nil)) (ed_var 1)))
    (sd_one (sd_ret (ed_var 4)))))
      sd_nil)
    (sd_cons (sd_set sc__law_take.nd (ed_mod (ed_bt call_int1 on_int z_int bo_int (ad_cons (ed_mulA (ed_add (ed_ixA hr (ed_var 0) ed_int) ed_int) ed_int) ad_nil)) ed_int) (i := 5))
    (sd_cons (sd_set sc__law_take.nd (ed_mod (ed_bt call_int1 on_int z_int bo_int (ad_cons (ed_mulA (ed_mod (ed_bt call_int1 on_int z_int bo_int (ad_cons (ed_mulA (ed_var 5) (ed_var 5)) ad_nil)) ed_int) ed_int) ad_nil)) ed_int) (i := 6))
    (sd_one (sd_ret (ed_mod (ed_bt call_int1 on_int z_int bo_int (ad_cons (ed_fdiv (ed_var 6) ed_int) ad_nil)) (ed_var 1))))))))
/-! ### _law_some -/
abbrev st__law_some : Stmt := top 13
abbrev n__law_some : List Str := ["bag", "things"]
theorem sc__law_some : FnScope ["bag", "things"] ["bag", "things"] (defScope st__law_some) := ⟨rfl, rfl, rfl, by decide +kernel, rfl, by decide +kernel, by decide +kernel⟩
theorem ok__law_some (df : DefAt K mg "_law_some" st__law_some ["bag", "things"]) (c__law_take : FnC P HasW.w K mg base 1 "_law_take" [true, false] d__law_take) (z_len : mg "len" = none) :
    FnC P HasW.w K mg base 2 "_law_some" [true, false] d__law_some :=
  fnC_of df sc__law_some rfl fun f0 cdv A outer s H E hr =>
    (sd_one (sd_ret (ed_ixA hr (ed_var 1) (ed_callF c__law_take hr (takes_of rfl rfl rfl rfl) (ad_cons (ed_var 0) (ad_cons (ed_bi call_lenA on_len z_len bo_len (ad_cons (ed_var 1) ad_nil)) ad_nil))))))
/-! ### _law_mixed -/
abbrev st__law_mixed : Stmt := top 14
abbrev n__law_mixed : List Str := ["bag", "things", "found", "thing"]
theorem sc__law_mixed : FnScope ["bag", "things", "found", "thing"] ["bag", "things"] (defScope st__law_mixed) := ⟨rfl, rfl, rfl, by decide +kernel, rfl, by decide +kernel, by decide +kernel⟩
theorem ok__law_mixed (df : DefAt K mg "_law_mixed" st__law_mixed ["bag", "things"]) (c__law_take : FnC P HasW.w K mg base 1 "_law_take" [true, false] d__law_take) (z_len : mg "len" = none) :
    FnC P HasW.w K mg base 2 "_law_mixed" [true, false] d__law_mixed :=
  fnC_of df sc__law_mixed rfl fun f0 cdv A outer s H E hr =>
    (sd_cons (sd_set sc__law_mixed.nd (ed_lst ad_nil) (i := 2))
    (sd_cons (sd_for (passes_of rfl) rfl (id_seq (ed_var 1)) (gd_name sc__law_mixed.nd (i := 3))
      (sd_one (sd_expr (ed_insert (ed_var 2) (ad_cons (ed_callF c__law_take hr (takes_of rfl rfl rfl rfl) (ad_cons (ed_var 0) (ad_cons (ed_add (ed_bi call_lenA on_len z_len bo_len (ad_cons (ed_var 2) ad_nil)) ed_int) ad_nil))) (ad_cons (ed_var 3) ad_nil))))))
    (sd_one (sd_ret (ed_var 2)))))
/-! ### _law_alike -/
abbrev st__law_alike : Stmt := top 15
abbrev n__law_alike : List Str := ["found", "due"]
theorem sc__law_alike : FnScope ["found", "due"] ["found", "due"] (defScope st__law_alike) := ⟨rfl, rfl, rfl, by decide +kernel, rfl, by decide +kernel, by decide +kernel⟩
theorem ok__law_alike (df : DefAt K mg "_law_alike" st__law_alike ["found", "due"]) (z_repr : mg "repr" = none) :
    FnC P HasW.w K mg base 1 "_law_alike" [false, false] d__law_alike :=
  fnC_of df sc__law_alike rfl fun f0 cdv A outer s H E hr =>
    (sd_one (sd_ret (ed_and (ed_ofC (cd_eq hr (ed_bi (call_repr hr) on_repr z_repr bo_repr (ad_cons (ed_var 0) ad_nil)) (ed_bi (call_repr hr) on_repr z_repr bo_repr (ad_cons (ed_var 1) ad_nil)))) (ed_one (ed_ofC (cd_eq hr (ed_var 0) (ed_var 1)))))))
/-! ### _law_gcd -/
abbrev st__law_gcd : Stmt := top 16
abbrev n__law_gcd : List Str := ["numbers", "found", "number", "one", "other"]
theorem sc__law_gcd : FnScope ["numbers", "found", "number", "one", "other"] ["numbers"] (defScope st__law_gcd) := ⟨rfl, rfl, rfl, by decide +kernel, rfl, by decide +kernel, by decide +kernel⟩
theorem ok__law_gcd (df : DefAt K mg "_law_gcd" st__law_gcd ["numbers"]) (z_abs : mg "abs" = none) :
    FnC P HasW.w K mg base 1 "_law_gcd" [false] d__law_gcd :=
  fnC_of df sc__law_gcd rfl fun f0 cdv A outer s H E hr =>
    (sd_cons (sd_set sc__law_gcd.nd ed_int (i := 1))
    (sd_cons (sd_for (passes_of rfl) rfl (id_seq (ed_var 0)) (gd_name sc__law_gcd.nd (i := 2))
      (sd_cons (sd_par rfl sc__law_gcd.nd (ed_var 1) (ed_bi call_abs on_abs z_abs bo_abs (ad_cons (ed_var 2) ad_nil)) (by decide) (i := 3) (j := 4))
    (sd_cons (sd_while wl__law_gcd (passes_of rfl) (td_ofC (cd_ne hr (ed_var 4) ed_int) bf_ne)
      (sd_one (sd_par rfl sc__law_gcd.nd (ed_var 4) (ed_mod (ed_var 3) (ed_var 4)) (by decide) (i := 3) (j := 4))))
    (sd_one (sd_set sc__law_gcd.nd (ed_var 3) (i := 1))))))
    (sd_one (sd_ret (ed_var 1)))))
/-! ### _law_value -/
abbrev st__law_value : Stmt := top 17
abbrev n__law_value : List Str := ["row", "numbers", "part", "number"]
theorem sc__law_value : FnScope ["row", "numbers", "part", "number"] ["row", "numbers"] (defScope st__law_value) := ⟨rfl, rfl, rfl, by decide +kernel, rfl, by decide +kernel, by decide +kernel⟩
theorem ok__law_value (df : DefAt K mg "_law_value" st__law_value ["row", "numbers"]) (z_sum : mg "sum" = none) (z_zip : mg "zip" = none) :
    FnC P HasW.w K mg base 1 "_law_value" [false, false] d__law_value :=
  fnC_of df sc__law_value rfl fun f0 cdv A outer s H E hr =>
    (sd_one (sd_ret (ed_add (ed_ixA hr (ed_var 0) ed_int) (ed_bi (cr_sum rfl) on_sum z_sum bo_sum (ad_cons (ed_lc rfl sc__law_value.nd (blkOk_by (own := [("part", 2), ("number", 3)]) (show blkC n__law_value (defScope st__law_value) _ _ = true from by decide +kernel)) (by decide) (id_zip z_zip (ad_cons (ed_ixA hr (ed_var 0) ed_int) (ad_cons (ed_var 1) ad_nil))) (fun _ _ _ _ _ => (gd_tup rfl (gd_cons (gd_name sc__law_value.nd (i := 2)) (gd_cons (gd_name sc__law_value.nd (i := 3)) gd_nil)))) (fun _ _ _ _ _ => id_yes) (fun _ _ _ _ _ => (ed_mulA (ed_var 2) (ed_var 3)))) ad_nil)))))
/-! ### _law_keeps -/
abbrev st__law_keeps : Stmt := top 18
abbrev n__law_keeps : List Str := ["system", "numbers", "row", "m"]
theorem sc__law_keeps : FnScope ["system", "numbers", "row", "m"] ["system", "numbers"] (defScope st__law_keeps) := ⟨rfl, rfl, rfl, by decide +kernel, rfl, by decide +kernel, by decide +kernel⟩
theorem ok__law_keeps (df : DefAt K mg "_law_keeps" st__law_keeps ["system", "numbers"]) (c__law_value : FnC P HasW.w K mg base 1 "_law_value" [false, false] d__law_value) :
    FnC P HasW.w K mg base 2 "_law_keeps" [false, false] d__law_keeps :=
  fnC_of df sc__law_keeps rfl fun f0 cdv A outer s H E hr =>
    (sd_one (sd_ret (ed_and (ed_ofC (cd_eq hr (ed_lc rfl sc__law_keeps.nd (blkOk_by (own := [("row", 2)]) (show blkC n__law_keeps (defScope st__law_keeps) _ _ = true from by decide +kernel)) (by decide) (id_seq (ed_ixA hr (ed_var 0) ed_int)) (fun _ _ _ _ _ => (gd_name sc__law_keeps.nd (i := 2))) (fun _ _ _ _ _ => (id_test (td_ofC (cd_lt (ed_callF c__law_value hr takes0 (ad_cons (ed_var 2) (ad_cons (ed_var 1) ad_nil))) ed_int) bf_lt))) (fun _ _ _ _ _ => (ed_var 2))) (ed_lst ad_nil))) (ed_one (ed_ofC (cd_eq hr (ed_lc rfl sc__law_keeps.nd (blkOk_by (own := [("row", 2), ("m", 3)]) (show blkC n__law_keeps (defScope st__law_keeps) _ _ = true from by decide +kernel)) (by decide) (id_seq (ed_ixA hr (ed_var 0) ed_int)) (fun _ _ _ _ _ => (gd_tup rfl (gd_cons (gd_name sc__law_keeps.nd (i := 3)) (gd_cons (gd_name sc__law_keeps.nd (i := 2)) gd_nil)))) (fun _ _ _ _ _ => (id_test (td_ofC (cd_ne hr (ed_mod (ed_callF c__law_value hr takes0 (ad_cons (ed_var 2) (ad_cons (ed_var 1) ad_nil))) (ed_var 3)) ed_int) bf_ne))) (fun _ _ _ _ _ => ed_int)) (ed_lst ad_nil)))))))
/-! ### _law_least -/
abbrev st__law_least : Stmt := top 19
abbrev n__law_least : List Str := ["many", "lines", "rests", "found", "kept", "never_v", "whole", "parts", "g", "key", "m", "numbers", "part", "one"]
theorem sc__law_least : FnScope ["many", "lines", "rests", "found", "kept", "never_v", "whole", "parts", "g", "key", "m", "numbers", "part", "one"] ["many", "lines", "rests"] (defScope st__law_least) := ⟨rfl, rfl, rfl, by decide +kernel, rfl, by decide +kernel, by decide +kernel⟩
theorem ok__law_least (df : DefAt K mg "_law_least" st__law_least ["many", "lines", "rests"]) (c__law_gcd : FnC P HasW.w K mg base 1 "_law_gcd" [false] d__law_gcd) (z_min : mg "min" = none) (z_tuple : mg "tuple" = none) (z_max : mg "max" = none) (z_sorted : mg "sorted" = none) :
    FnC P HasW.w K mg base 2 "_law_least" [false, false, false] d__law_least :=
  fnC_of df sc__law_least rfl fun f0 cdv A outer s H E hr =>
    (sd_cons (sd_cell3 rfl sc__law_least.nd ed_disp0 ed_disp0 (ed_mulA (ed_tup (ad_cons ed_int ad_nil)) (ed_var 0)) (i := 3) (j := 4) (l := 5))
    (sd_cons (sd_for (passes_of rfl) rfl (id_seq (ed_var 1)) (gd_tup rfl (gd_cons (gd_name sc__law_least.nd (i := 6)) (gd_cons (gd_name sc__law_least.nd (i := 7)) gd_nil)))
      (sd_cons (sd_set sc__law_least.nd (ed_callF c__law_gcd hr (takes_of rfl rfl rfl rfl) (ad_cons (ed_var 7) ad_nil)) (i := 8))
    (sd_one (sd_if (tw_and (td_ofC (cd_gt (ed_var 8) ed_int) bf_gt) (tw_and1 (tw_or (td_ofC (cd_lt (ed_var 6) ed_int) bf_lt) (tw_or1 (td_ofC (cd_lt (ed_bi (call_min1 rfl (u65 hr)) on_min1 z_min bo_min (ad_cons (ed_var 7) ad_nil)) ed_int) bf_lt))).pt)).pt
      (sd_cons (sd_set sc__law_least.nd (ed_bt call_tuple_of on_tuple z_tuple bo_tuple (ad_cons (ed_lc rfl sc__law_least.nd (blkOk_by (own := [("part", 12)]) (show blkC n__law_least (defScope st__law_least) _ _ = true from by decide +kernel)) (by decide) (id_seq (ed_var 7)) (fun _ _ _ _ _ => (gd_name sc__law_least.nd (i := 12))) (fun _ _ _ _ _ => id_yes) (fun _ _ _ _ _ => (ed_fdiv (ed_var 12) (ed_var 8)))) ad_nil)) (i := 9))
    (sd_one (sd_store hr (ed_var 3) (ed_var 9) (ed_bi (call_min2 rfl) on_min2 z_min bo_min (ad_cons (ed_get2A hr (ed_var 3) (ed_var 9) (ed_fdiv (ed_var 6) (ed_var 8))) (ad_cons (ed_fdiv (ed_var 6) (ed_var 8)) ad_nil))))))
      (sd_one (sd_if (tw_and (td_ofC (cd_eq hr (ed_var 8) ed_int) bf_eq) (tw_and1 (td_ofC (cd_lt (ed_var 6) ed_int) bf_lt))).pt
      (sd_one (sd_store hr (ed_var 3) (ed_var 5) (ed_neg ed_int)))
      sd_nil))))))
    (sd_cons (sd_for (passes_of rfl) rfl (id_seq (ed_var 2)) (gd_tup rfl (gd_cons (gd_name sc__law_least.nd (i := 10)) (gd_cons (gd_tup rfl (gd_cons (gd_name sc__law_least.nd (i := 6)) (gd_cons (gd_name sc__law_least.nd (i := 7)) gd_nil))) gd_nil)))
      (sd_cons (sd_setLc rfl sc__law_least.nd (blkOk_by (own := [("one", 13)]) (show blkC n__law_least (defScope st__law_least) _ _ = true from by decide +kernel)) (by decide) (id_seq (ed_add (ed_tup (ad_cons (ed_var 6) ad_nil)) (ed_bt call_tuple_of on_tuple z_tuple bo_tuple (ad_cons (ed_var 7) ad_nil)))) (fun _ _ _ _ _ => (gd_name sc__law_least.nd (i := 13))) (fun _ _ _ _ _ => id_yes) (fun _ _ _ _ _ => (ed_mod (ed_var 13) (ed_var 10))) (i := 11))
    (sd_cons (sd_set sc__law_least.nd (ed_callF c__law_gcd hr (takes_of rfl rfl rfl rfl) (ad_cons (ed_add (ed_lst (ad_cons (ed_var 10) ad_nil)) (ed_var 11)) ad_nil)) (i := 8))
    (sd_one (sd_if (tw_and (td_ofC (cd_gt (ed_fdiv (ed_var 10) (ed_var 8)) ed_int) bf_gt) (tw_and1 (td_ofC (cd_eq hr (ed_bi (call_max1 rfl (u65 hr)) on_max1 z_max bo_max (ad_cons (ed_add (ed_lst (ad_cons ed_int ad_nil)) (ed_slice (ed_var 11) (od_some ed_int) od_none)) ad_nil)) ed_int) bf_eq))).pt
      (sd_one (sd_store hr (ed_var 3) (ed_var 5) (ed_neg ed_int)))
      (sd_one (sd_if (td_ofC (cd_gt (ed_fdiv (ed_var 10) (ed_var 8)) ed_int) bf_gt)
      (sd_one (sd_store hr (ed_var 4) (ed_tup (ad_cons (ed_fdiv (ed_var 10) (ed_var 8)) (ad_cons (ed_tup (ad_cons (ed_fdiv (ed_ixA hr (ed_var 11) ed_int) (ed_var 8)) (ad_cons (ed_bt call_tuple_of on_tuple z_tuple bo_tuple (ad_cons (ed_lc rfl sc__law_least.nd (blkOk_by (own := [("one", 13)]) (show blkC n__law_least (defScope st__law_least) _ _ = true from by decide +kernel)) (by decide) (id_seq (ed_slice (ed_var 11) (od_some ed_int) od_none)) (fun _ _ _ _ _ => (gd_name sc__law_least.nd (i := 13))) (fun _ _ _ _ _ => id_yes) (fun _ _ _ _ _ => (ed_fdiv (ed_var 13) (ed_var 8)))) ad_nil)) ad_nil))) ad_nil))) ed_bl))
      sd_nil)))))))
    (sd_one (sd_ret (ed_tup (ad_cons (ed_var 0) (ad_cons (ed_bt call_tuple_of on_tuple z_tuple bo_tuple (ad_cons (ed_bi (call_sortedAny rfl (u65 hr) rfl) on_sorted z_sorted bo_sorted (ad_cons (ed_lcN rfl sc__law_least.nd (blkOk_by (own := [("key", 9)]) (show blkC n__law_least (defScope st__law_least) _ _ = true from by decide +kernel)) (by decide) (pv 3) (id_seq (ed_var 3)) (fun _ _ _ _ _ => (gd_name sc__law_least.nd (i := 9))) (fun _ _ _ _ _ => id_yes) (fun _ _ _ _ _ => (ed_tup (ad_cons (ed_ixA hr (ed_var 3) (ed_var 9)) (ad_cons (ed_var 9) ad_nil))))) ad_nil)) ad_nil)) (ad_cons (ed_bt call_tuple_of on_tuple z_tuple bo_tuple (ad_cons (ed_bi (call_sortedAny rfl (u65 hr) rfl) on_sorted z_sorted bo_sorted (ad_cons (ed_var 4) ad_nil)) ad_nil)) ad_nil)))))))))
/-! ### _law_drawn_row -/
abbrev st__law_drawn_row : Stmt := top 20
abbrev n__law_drawn_row : List Str := ["bag", "many", "k"]
theorem sc__law_drawn_row : FnScope ["bag", "many", "k"] ["bag", "many"] (defScope st__law_drawn_row) := ⟨rfl, rfl, rfl, by decide +kernel, rfl, by decide +kernel, by decide +kernel⟩
theorem ok__law_drawn_row (df : DefAt K mg "_law_drawn_row" st__law_drawn_row ["bag", "many"]) (c__law_some : FnC P HasW.w K mg base 2 "_law_some" [true, false] d__law_some) (z_tuple : mg "tuple" = none) (z_range : mg "range" = none) :
    FnC P HasW.w K mg base 3 "_law_drawn_row" [true, false] d__law_drawn_row :=
  fnC_of df sc__law_drawn_row rfl fun f0 cdv A outer s H E hr =>
    (sd_one (sd_ret (ed_tup (ad_cons (ed_callF c__law_some hr (takes_of rfl rfl rfl rfl) (ad_cons (ed_var 0) (ad_cons (ed_lst (ad_cons ed_int (ad_cons ed_int (ad_cons (ed_neg ed_int) (ad_cons ed_int (ad_cons (ed_neg ed_int) (ad_cons ed_int (ad_cons (ed_neg ed_int) ad_nil)))))))) ad_nil))) (ad_cons (ed_bt call_tuple_of on_tuple z_tuple bo_tuple (ad_cons (ed_lc rfl sc__law_drawn_row.nd (blkOk_by (own := [("k", 2)]) (show blkC n__law_drawn_row (defScope st__law_drawn_row) _ _ = true from by decide +kernel)) (by decide) (id_range1 z_range (ad_cons (ed_var 1) ad_nil)) (fun _ _ _ _ _ => (gd_name sc__law_drawn_row.nd (i := 2))) (fun _ _ _ _ _ => id_yes) (fun _ _ _ _ _ => (ed_callF c__law_some hr takes0 (ad_cons (ed_var 0) (ad_cons (ed_lst (ad_cons ed_int (ad_cons ed_int (ad_cons ed_int (ad_cons ed_int (ad_cons (ed_neg ed_int) (ad_cons (ed_neg ed_int) (ad_cons ed_int (ad_cons (ed_neg ed_int) (ad_cons ed_int ad_nil)))))))))) ad_nil))))) ad_nil)) ad_nil)))))
/-! ### law -/
abbrev st_law : Stmt := top 21
abbrev n_law : List Str := ["script", "bag", "lap", "many", "lines", "rests", "due", "turn", "numbers", "k", "row", "part"]
theorem sc_law : FnScope ["script", "bag", "lap", "many", "lines", "rests", "due", "turn", "numbers", "k", "row", "part"] ["script"] (defScope st_law) := ⟨rfl, rfl, rfl, by decide +kernel, rfl, by decide +kernel, by decide +kernel⟩
theorem ok_law {f : Addr} {fd : FuncData} (F : Fun K "law" "law" st_law f fd) (c__law_bag : FnC P HasW.w K mg base 1 "_law_bag" [false] d__law_bag) (c__law_take : FnC P HasW.w K mg base 1 "_law_take" [true, false] d__law_take) (c__law_drawn_row : FnC P HasW.w K mg base 3 "_law_drawn_row" [true, false] d__law_drawn_row) (c__law_mixed : FnC P HasW.w K mg base 2 "_law_mixed" [true, false] d__law_mixed) (c__law_some : FnC P HasW.w K mg base 2 "_law_some" [true, false] d__law_some) (c__law_least : FnC P HasW.w K mg base 2 "_law_least" [false, false, false] d__law_least) (c__law_alike : FnC P HasW.w K mg base 1 "_law_alike" [false, false] d__law_alike) (c_made_system : FnC P HasW.w K mg base 4 "made_system" [false, false, false] d_made_system) (c_is_false : FnC P HasW.w K mg base 2 "is_false" [false] d_is_false) (c_keeps : FnC P HasW.w K mg base 2 "keeps" [false, false] d_keeps) (c_value : FnC P HasW.w K mg base 1 "value" [false, false] d_value) (c__law_keeps : FnC P HasW.w K mg base 2 "_law_keeps" [false, false] d__law_keeps) (c__law_value : FnC P HasW.w K mg base 1 "_law_value" [false, false] d__law_value) (z_range : mg "range" = none) (z_tuple : mg "tuple" = none) :
    FnG P HasW.w K mg base 5 f fd ["script"] (spD K [false] d_law) :=
  def_okG F sc_law rfl fun cdv A outer s H E hr =>
    (sd_cons (sd_set sc_law.nd (ed_callF c__law_bag hr (takes_of rfl rfl rfl rfl) (ad_cons (ed_var 0) ad_nil)) (i := 1))
    (sd_cons (sd_for (passes_of rfl) rfl (id_range1 z_range (ad_cons ed_int ad_nil)) (gd_name sc_law.nd (i := 2))
      (sd_cons (sd_set sc_law.nd (ed_callF c__law_take hr (takes_of rfl rfl rfl rfl) (ad_cons (ed_var 1) (ad_cons ed_int ad_nil))) (i := 3))
    (sd_cons (sd_setLc rfl sc_law.nd (blkOk_by (own := [("k", 9)]) (show blkC n_law (defScope st_law) _ _ = true from by decide +kernel)) (by decide) (id_range1 z_range (ad_cons (ed_callF c__law_take hr (takes_of rfl rfl rfl rfl) (ad_cons (ed_var 1) (ad_cons ed_int ad_nil))) ad_nil)) (fun _ _ _ _ _ => (gd_name sc_law.nd (i := 9))) (fun _ _ _ _ _ => id_yes) (fun _ _ _ _ _ => (ed_callF c__law_drawn_row hr takes0 (ad_cons (ed_var 1) (ad_cons (ed_var 3) ad_nil)))) (i := 4))
    (sd_cons (sd_set sc_law.nd (ed_callF c__law_mixed hr (takes_of rfl rfl rfl rfl) (ad_cons (ed_var 1) (ad_cons (ed_add (ed_add (ed_var 4) (ed_lc rfl sc_law.nd (blkOk_by (own := [("row", 10)]) (show blkC n_law (defScope st_law) _ _ = true from by decide +kernel)) (by decide) (id_seq (ed_slice (ed_var 4) od_none (od_some ed_int))) (fun _ _ _ _ _ => (gd_name sc_law.nd (i := 10))) (fun _ _ _ _ _ => id_yes) (fun _ _ _ _ _ => (ed_tup (ad_cons (ed_sub (ed_add (ed_ixA hr (ed_var 10) ed_int) (ed_callF c__law_take hr takes0 (ad_cons (ed_var 1) (ad_cons ed_int ad_nil)))) ed_int) (ad_cons (ed_ixA hr (ed_var 10) ed_int) ad_nil)))))) (ed_lc rfl sc_law.nd (blkOk_by (own := [("row", 10)]) (show blkC n_law (defScope st_law) _ _ = true from by decide +kernel)) (by decide) (id_seq (ed_slice (ed_var 4) (od_some ed_int) (od_some ed_int))) (fun _ _ _ _ _ => (gd_name sc_law.nd (i := 10))) (fun _ _ _ _ _ => id_yes) (fun _ _ _ _ _ => (ed_tup (ad_cons (ed_mulA ed_int (ed_ixA hr (ed_var 10) ed_int)) (ad_cons (ed_bt call_tuple_of on_tuple z_tuple bo_tuple (ad_cons (ed_lc rfl sc_law.nd (blkOk_by (own := [("part", 11)]) (by kernel_rfl)) (by decide) (id_seq (ed_ixA hr (ed_var 10) ed_int)) (fun _ _ _ _ _ => (gd_name sc_law.nd (i := 11))) (fun _ _ _ _ _ => id_yes) (fun _ _ _ _ _ => (ed_mulA ed_int (ed_var 11)))) ad_nil)) ad_nil)))))) ad_nil))) (i := 4))
    (sd_cons (sd_setLc rfl sc_law.nd (blkOk_by (own := [("k", 9)]) (show blkC n_law (defScope st_law) _ _ = true from by decide +kernel)) (by decide) (id_range1 z_range (ad_cons (ed_callF c__law_take hr (takes_of rfl rfl rfl rfl) (ad_cons (ed_var 1) (ad_cons ed_int ad_nil))) ad_nil)) (fun _ _ _ _ _ => (gd_name sc_law.nd (i := 9))) (fun _ _ _ _ _ => id_yes) (fun _ _ _ _ _ => (ed_tup (ad_cons (ed_callF c__law_some hr takes0 (ad_cons (ed_var 1) (ad_cons (ed_lst (ad_cons ed_int (ad_cons ed_int (ad_cons ed_int (ad_cons ed_int (ad_cons ed_int ad_nil)))))) ad_nil))) (ad_cons (ed_callF c__law_drawn_row hr takes0 (ad_cons (ed_var 1) (ad_cons (ed_var 3) ad_nil))) ad_nil)))) (i := 5))
    (sd_cons (sd_set sc_law.nd (ed_callF c__law_least hr (takes_of rfl rfl rfl rfl) (ad_cons (ed_var 3) (ad_cons (ed_var 4) (ad_cons (ed_var 5) ad_nil)))) (i := 6))
    (sd_cons (sd_if (td_not (td_truth (ed_callF c__law_alike hr (takes_of rfl rfl rfl rfl) (ad_cons (ed_lst (ad_cons (ed_callF c_made_system hr (takes_of rfl rfl rfl rfl) (ad_cons (ed_var 3) (ad_cons (ed_var 4) (ad_cons (ed_var 5) ad_nil)))) (ad_cons (ed_callF c_made_system hr (takes_of rfl rfl rfl rfl) (ad_cons (ed_var 3) (ad_cons (ed_bt call_tuple_of on_tuple z_tuple bo_tuple (ad_cons (ed_revL (ed_var 4)) ad_nil)) (ad_cons (ed_bt call_tuple_of on_tuple z_tuple bo_tuple (ad_cons (ed_revL (ed_var 5)) ad_nil)) ad_nil)))) (ad_cons (ed_callF c_made_system hr (takes_of rfl rfl rfl rfl) (ad_cons (ed_var 3) (ad_cons (ed_ixA hr (ed_var 6) ed_int) (ad_cons (ed_ixA hr (ed_var 6) ed_int) ad_nil)))) ad_nil)))) (ad_cons (ed_mulA (ed_lst (ad_cons (ed_var 6) ad_nil)) ed_int) ad_nil)))))
      (sd_one (sd_ret ed_bl))
      sd_nil)
    (sd_cons (sd_if (td_not (td_truth (ed_callF c__law_alike hr (takes_of rfl rfl rfl rfl) (ad_cons (ed_callF c_is_false hr (takes_of rfl rfl rfl rfl) (ad_cons (ed_var 6) ad_nil)) (ad_cons (ed_ofC (cd_in hr (ed_tup (ad_cons (ed_neg ed_int) (ad_cons (ed_mulA (ed_tup (ad_cons ed_int ad_nil)) (ed_var 3)) ad_nil))) (ed_ixA hr (ed_var 6) ed_int))) ad_nil)))))
      (sd_one (sd_ret ed_bl))
      sd_nil)
    (sd_cons (sd_for (passes_of rfl) rfl (id_range1 z_range (ad_cons ed_int ad_nil)) (gd_name sc_law.nd (i := 7))
      (sd_cons (sd_set sc_law.nd (ed_bt call_tuple_of on_tuple z_tuple bo_tuple (ad_cons (ed_lc rfl sc_law.nd (blkOk_by (own := [("k", 9)]) (show blkC n_law (defScope st_law) _ _ = true from by decide +kernel)) (by decide) (id_range1 z_range (ad_cons (ed_var 3) ad_nil)) (fun _ _ _ _ _ => (gd_name sc_law.nd (i := 9))) (fun _ _ _ _ _ => id_yes) (fun _ _ _ _ _ => (ed_callF c__law_take hr takes0 (ad_cons (ed_var 1) (ad_cons ed_int ad_nil))))) ad_nil)) (i := 8))
    (sd_one (sd_if (td_not (td_truth (ed_callF c__law_alike hr (takes_of rfl rfl rfl rfl) (ad_cons (ed_lst (ad_cons (ed_callF c_keeps hr (takes_of rfl rfl rfl rfl) (ad_cons (ed_var 6) (ad_cons (ed_var 8) ad_nil))) (ad_cons (ed_lc rfl sc_law.nd (blkOk_by (own := [("row", 10)]) (show blkC n_law (defScope st_law) _ _ = true from by decide +kernel)) (by decide) (id_seq (ed_var 4)) (fun _ _ _ _ _ => (gd_name sc_law.nd (i := 10))) (fun _ _ _ _ _ => id_yes) (fun _ _ _ _ _ => (ed_callF c_value hr takes0 (ad_cons (ed_var 10) (ad_cons (ed_var 8) ad_nil))))) ad_nil))) (ad_cons (ed_lst (ad_cons (ed_callF c__law_keeps hr (takes_of rfl rfl rfl rfl) (ad_cons (ed_tup (ad_cons (ed_var 3) (ad_cons (ed_var 4) (ad_cons (ed_var 5) ad_nil)))) (ad_cons (ed_var 8) ad_nil))) (ad_cons (ed_lc rfl sc_law.nd (blkOk_by (own := [("row", 10)]) (show blkC n_law (defScope st_law) _ _ = true from by decide +kernel)) (by decide) (id_seq (ed_var 4)) (fun _ _ _ _ _ => (gd_name sc_law.nd (i := 10))) (fun _ _ _ _ _ => id_yes) (fun _ _ _ _ _ => (ed_callF c__law_value hr takes0 (ad_cons (ed_var 10) (ad_cons (ed_var 8) ad_nil))))) ad_nil))) ad_nil)))))
      (sd_one (sd_ret ed_bl))
      sd_nil))))
    (sd_cons (sd_if (td_ifx (td_ofC (cd_gt (ed_var 3) ed_int) bf_gt) (td_ofC (cd_notB (ed_callF c_keeps hr (takes_of rfl rfl rfl rfl) (ad_cons (ed_var 6) (ad_cons (ed_add (ed_tup (ad_cons (ed_neg ed_int) ad_nil)) (ed_mulA (ed_tup (ad_cons ed_int ad_nil)) (ed_sub (ed_var 3) ed_int))) ad_nil))) ed_bl) bf_notB) (td_truth ed_bl))
      (sd_one (sd_ret ed_bl))
      sd_nil)
    (sd_one (sd_if (td_ofC (cd_notB (ed_callF c_keeps hr (takes_of rfl rfl rfl rfl) (ad_cons (ed_var 6) (ad_cons (ed_mulA (ed_tup (ad_cons ed_int ad_nil)) (ed_add (ed_var 3) ed_int)) ad_nil))) ed_bl) bf_notB)
      (sd_one (sd_ret ed_bl))
      sd_nil))))))))))))
    (sd_one (sd_ret ed_bl))))
end
end K19

/-! dicts whose keys are tuples, over a list of pairs. -/
namespace DL
open PySem PySem.Spec L2
section
variable {α β : Type} [DecidableEq α]
def look : List (α × β) → α → Option β
  | [], _ => none
  | p :: m, a => if p.1 = a then some p.2 else look m a
theorem look_cons (p : α × β) (m : List (α × β)) (a : α) : look (p :: m) a = if p.1 = a then some p.2 else look m a := rfl
def tell (m : List (α × β)) (a : α) (b : β) : List (α × β) := m.map fun p => if p.1 = a then (p.1, b) else p
def put (m : List (α × β)) (a : α) (b : β) : List (α × β) := if (look m a).isSome then tell m a b else m ++ [(a, b)]
def dctD (kd : α → D) (vd : β → D) (m : List (α × β)) : D := match m with
  | [] => .dic [] []
  | p :: m => .dct ((p :: m).map fun p => kd p.1) ((p :: m).map fun p => vd p.2)
structure IsKey (kd : α → D) (kn : α → NestedKey) : Prop where
  of : ∀ a, kOf (kd a) = some (kn a)
  inj : ∀ a b, kn a = kn b → a = b
variable {kd : α → D} {kn : α → NestedKey} {vd : β → D}
theorem IsKey.iff (h : IsKey kd kn) (a b : α) : (kOf (kd a) = some (kn b)) ↔ a = b :=
  ⟨fun e => h.inj a b (by rw [h.of a] at e; exact Option.some.inj e), fun e => by rw [e]; exact h.of b⟩
theorem dctGet_look (h : IsKey kd kn) (a : α) : ∀ m : List (α × β), dctGet (m.map fun p => kd p.1) (m.map fun p => vd p.2) (kn a) = (look m a).map vd
  | [] => rfl
  | p :: m => by
    show (if kOf (kd p.1) = some (kn a) then some (vd p.2) else dctGet _ _ (kn a)) = (if p.1 = a then some p.2 else look m a).map vd
    by_cases e : p.1 = a
    · rw [if_pos ((h.iff p.1 a).mpr e), if_pos e]
      rfl
    · rw [if_neg (fun z => e ((h.iff p.1 a).mp z)), if_neg e]
      exact dctGet_look h a m
theorem dctHas_look (h : IsKey kd kn) (a : α) : ∀ m : List (α × β), dctHas (m.map fun p => kd p.1) (kn a) = (look m a).isSome
  | [] => rfl
  | p :: m => by
    have ih := dctHas_look h a m
    unfold dctHas at ih ⊢
    show _ = (if p.1 = a then some p.2 else look m a).isSome
    rw [List.map_cons, List.any_cons, ih]
    by_cases e : p.1 = a
    · rw [if_pos e, decide_eq_true ((h.iff p.1 a).mpr e)]
      rfl
    · rw [if_neg e, decide_eq_false (fun z => e ((h.iff p.1 a).mp z)), Bool.false_or]
theorem tell_ks (m : List (α × β)) (a : α) (b : β) : ((tell m a b).map fun p => kd p.1) = m.map fun p => kd p.1 := by
  unfold tell
  rw [List.map_map]
  refine List.map_congr_left fun p _ => ?_
  show kd (if p.1 = a then (p.1, b) else p).1 = kd p.1
  split <;> rfl
theorem tell_xs (h : IsKey kd kn) (a : α) (b : β) : ∀ m : List (α × β), dctPutXs (m.map fun p => kd p.1) (m.map fun p => vd p.2) (kn a) (vd b) = (tell m a b).map fun p => vd p.2
  | [] => rfl
  | p :: m => by
    have ih := tell_xs h a b m
    show (if kOf (kd p.1) = some (kn a) then vd b :: _ else vd p.2 :: _) = vd (if p.1 = a then (p.1, b) else p).2 :: _
    by_cases e : p.1 = a
    · rw [if_pos ((h.iff p.1 a).mpr e), if_pos e, ih]
      rfl
    · rw [if_neg (fun z => e ((h.iff p.1 a).mp z)), if_neg e, ih]
      rfl
theorem put_ne (m : List (α × β)) (a : α) (b : β) : put m a b ≠ [] := by
  unfold put
  cases m with
  | nil => intro e; cases e
  | cons p m =>
    split <;> (intro e; cases e)
theorem dctD_ne {m : List (α × β)} (h : m ≠ []) : dctD kd vd m = .dct (m.map fun p => kd p.1) (m.map fun p => vd p.2) := by
  cases m with
  | nil => exact absurd rfl h
  | cons p m => rfl
theorem dctPut_put (h : IsKey kd kn) (m : List (α × β)) (a : α) (b : β) : dctPut (m.map fun p => kd p.1) (m.map fun p => vd p.2) (kd a) (kn a) (vd b) = dctD kd vd (put m a b) := by
  rw [dctD_ne (put_ne m a b)]
  unfold dctPut put
  rw [dctHas_look h a m]
  cases (look m a).isSome with
  | true =>
    rw [if_pos rfl, if_pos rfl, tell_xs h a b m, tell_ks]
  | false =>
    rw [if_neg (by decide), if_neg (by decide), List.map_append, List.map_append]
    rfl
theorem stored_put (h : IsKey kd kn) (m : List (α × β)) (a : α) (b : β) (hl : m.length < 1000) : stored (dctD kd vd m) (kd a) (vd b) = some (dctD kd vd (put m a b)) := by
  have e := dctPut_put (vd := vd) h m a b
  have q : storedX (dctD kd vd m) (kd a) (vd b) = some (dctD kd vd (put m a b)) := by
    cases m with
    | nil =>
      rw [← e]
      show (if (List.isEmpty ([] : List Key)) = true then match kOf (kd a) with | some kk => some (dctPut [] [] (kd a) kk (vd b)) | none => none else none) = _
      rw [h.of a]
      rfl
    | cons p m =>
      have hl' : ((p :: m).map fun p => kd p.1).length < sizeLine := by rw [List.length_map, sizeLine_eq]; omega
      rw [← e]
      show (match kOf (kd a) with
        | some kk => if ((p :: m).map fun (p : α × β) => kd p.1).length < sizeLine then some (dctPut ((p :: m).map fun (p : α × β) => kd p.1) ((p :: m).map fun (p : α × β) => vd p.2) (kd a) kk (vd b)) else none
        | none => none) = _
      rw [h.of a]
      dsimp only
      rw [if_pos hl']
  unfold stored
  rw [q]
  rfl
theorem xdic_dctD (m : List (α × β)) : xdic (dctD kd vd m) = some (m.map (fun p => kd p.1), m.map fun p => vd p.2) := by
  cases m <;> rfl
theorem get_look (h : IsKey kd kn) (m : List (α × β)) (a : α) (d : D) : ((xdic (dctD kd vd m)).bind fun q => (kOf (kd a)).map fun k => (dctGet q.1 q.2 k).getD d) = some (((look m a).map vd).getD d) := by
  rw [xdic_dctD, h.of a]
  show some ((dctGet (m.map fun p => kd p.1) (m.map fun p => vd p.2) (kn a)).getD d) = _
  rw [dctGet_look h a m]
/-! what is in it -/
theorem look_mem {m : List (α × β)} {a : α} {b : β} (n : (m.map (·.1)).Nodup) : look m a = some b ↔ (a, b) ∈ m := by
  induction m with
  | nil => constructor <;> (intro e; cases e)
  | cons p m ih =>
    rw [List.map_cons, List.nodup_cons] at n
    unfold look
    rw [List.mem_cons]
    by_cases e : p.1 = a
    · rw [if_pos e]
      constructor
      · intro q
        cases q
        left
        rw [← e]
      · rintro (rfl | q)
        · rfl
        · exact absurd (List.mem_map.mpr ⟨_, q, e.symm⟩) n.1
    · rw [if_neg e, ih n.2]
      constructor
      · exact .inr
      · rintro (rfl | q)
        · exact absurd rfl e
        · exact q
theorem look_none {m : List (α × β)} {a : α} : look m a = none ↔ a ∉ m.map (·.1) := by
  induction m with
  | nil => simp [look]
  | cons p m ih =>
    unfold look
    rw [List.map_cons, List.mem_cons]
    by_cases e : p.1 = a
    · rw [if_pos e]; simp [e]
    · rw [if_neg e, ih]
      constructor
      · rintro q (z | z)
        · exact e z.symm
        · exact q z
      · exact fun q z => q (.inr z)
theorem tell_keys (m : List (α × β)) (a : α) (b : β) : (tell m a b).map (·.1) = m.map (·.1) := by
  unfold tell
  rw [List.map_map]
  refine List.map_congr_left fun p _ => ?_
  show (if p.1 = a then (p.1, b) else p).1 = p.1
  split <;> rfl
theorem put_nodup {m : List (α × β)} (n : (m.map (·.1)).Nodup) (a : α) (b : β) : ((put m a b).map (·.1)).Nodup := by
  unfold put
  split
  · rw [tell_keys]; exact n
  · rename_i h
    rw [List.map_append]
    have hn : look m a = none := by
      cases e : look m a with
      | none => rfl
      | some x => rw [e] at h; exact absurd rfl h
    refine List.nodup_append.mpr ⟨n, by simp, fun x hx y hy e => ?_⟩
    have : y = a := by simpa using hy
    subst this
    subst e
    exact look_none.mp hn hx
theorem look_tell (m : List (α × β)) (a c : α) (b : β) : look (tell m a b) c = if a = c ∧ (look m a).isSome then some b else look m c := by
  induction m with
  | nil => simp [look, tell]
  | cons p m ih =>
    show (if (if p.1 = a then (p.1, b) else p).1 = c then some (if p.1 = a then (p.1, b) else p).2 else look (tell m a b) c) = _
    rw [ih, look_cons, look_cons]
    by_cases e : p.1 = a
    · subst e
      by_cases q : p.1 = c
      · subst q; simp
      · simp [q]
    · by_cases q : p.1 = c
      · subst q
        simp [e, Ne.symm e]
      · simp [e, q]
theorem look_app (m : List (α × β)) (a c : α) (b : β) : look (m ++ [(a, b)]) c = match look m c with | some x => some x | none => if a = c then some b else none := by
  induction m with
  | nil => simp [look]
  | cons p m ih =>
    rw [List.cons_append]
    unfold look
    by_cases e : p.1 = c
    · simp [e]
    · simp [e, ih]
theorem look_put (m : List (α × β)) (a c : α) (b : β) : look (put m a b) c = if a = c then some b else look m c := by
  unfold put
  split
  · rename_i h
    rw [look_tell]
    simp [h]
  · rename_i h
    have hn : look m a = none := by
      cases e : look m a with
      | none => rfl
      | some x => rw [e] at h; exact absurd rfl h
    rw [look_app]
    by_cases e : a = c
    · subst e; simp [hn]
    · simp only [e, if_false]
      cases look m c <;> rfl
theorem put_length (m : List (α × β)) (a : α) (b : β) : (put m a b).length ≤ m.length + 1 := by
  unfold put
  split
  · unfold tell; rw [List.length_map]; omega
  · rw [List.length_append]; exact Nat.le_refl _
end
end DL

/-! law_k19: what is drawn. -/
namespace K19
open PySem PySem.Spec L2 DL
/-- a bag -/
def bagD (a b c : Int) (cs : List Int) : D := .lst [.int a, .int b, .int c, .lst (cs.map .int)]
theorem head_of (cs : List Int) (n : Nat) : ∃ x : Int, ∀ h, ((cs.map D.int).drop n ++ [D.int 0])[0]'h = .int x := by
  cases h : (cs.map D.int).drop n with
  | nil => exact ⟨0, fun _ => rfl⟩
  | cons d r =>
    have : d ∈ cs.map D.int := List.mem_of_mem_drop (by rw [h]; exact List.mem_cons_self)
    obtain ⟨x, _, rfl⟩ := List.mem_map.mp this
    exact ⟨x, fun _ => rfl⟩
theorem take_spec (a b c : Int) (cs : List Int) (m : Int) (hc : cs.length ≤ 1000) (h0 : 0 < m) (h1 : m < 1073741824) :
    ∃ r a' b' c', 0 ≤ r ∧ r < m ∧ d__law_take [bagD a b c cs, .int m] = .ok (.val (.int r)) [bagD a' b' c' cs, .int m] := by
  obtain ⟨n, hn⟩ := cut_from (cs.map D.int) c
  obtain ⟨x, hx⟩ := head_of cs n
  have hl : cs.length - n + 1 ≤ sizeLine := by rw [sizeLine_eq]; omega
  have p1 : ∀ z : Int, 0 ≤ z % m := fun z => Int.emod_nonneg _ (by omega)
  have p2 : ∀ z : Int, z % m < m := fun z => Int.emod_lt_of_pos _ h0
  have p3 : ∀ z : Int, (-18446744073709551616 < z % 1000000007 ∧ z % 1000000007 < 18446744073709551616) = True := fun z => by
    have := Int.emod_nonneg z (b := 1000000007) (by decide)
    have := Int.emod_lt_of_pos z (b := 1000000007) (by decide)
    simp only [eq_iff_iff, iff_true]
    omega
  unfold d__law_take dDef bagD
  by_cases e1 : a = 0
  · subst e1
    by_cases e2 : 1000000000000000000 ≤ x
    · have e3 : 0 < x := by omega
      simp [argEnv, dVar_ap, peek_loc, frz_loc, setV_ap, atI_zero, atI_one, atI_two, atI_three, hn, hl, hx, ownAt, stAt_ap, ixN, setO, CPow_ap, CMul_ap, CDiv_ap, e2, e3, h0, h1, outsOf]
      exact ⟨p1 _, p2 _⟩
    · simp [argEnv, dVar_ap, peek_loc, frz_loc, setV_ap, atI_zero, atI_one, atI_two, atI_three, hn, hl, hx, ownAt, stAt_ap, ixN, setO, CPow_ap, CMul_ap, CDiv_ap, e2, h0, h1, outsOf, p3]
      exact ⟨p1 _, p2 _⟩
  · by_cases e2 : 0 < a
    · simp [argEnv, dVar_ap, peek_loc, frz_loc, setV_ap, atI_zero, atI_one, atI_two, atI_three, ownAt, stAt_ap, ixN, setO, CPow_ap, CMul_ap, CDiv_ap, e1, e2, h0, h1, outsOf]
      exact ⟨p1 _, p2 _⟩
    · simp [argEnv, dVar_ap, peek_loc, frz_loc, setV_ap, atI_zero, atI_one, atI_two, atI_three, ownAt, stAt_ap, ixN, setO, CPow_ap, CMul_ap, CDiv_ap, e1, e2, h0, h1, outsOf, p3]
      exact ⟨p1 _, p2 _⟩
/-- a thing of a list, drawn -/
theorem some_spec (a b c : Int) (cs : List Int) (ds : List D) (hc : cs.length ≤ 1000) (h0 : 0 < ds.length) (h1 : ds.length < 1000000) :
    ∃ d a' b' c', d ∈ ds ∧ d__law_some [bagD a b c cs, .lst ds] = .ok (.val d) [bagD a' b' c' cs, .lst ds] := by
  obtain ⟨r, a', b', c', r0, r1, e⟩ := take_spec a b c cs (ds.length : Int) hc (by omega) (by omega)
  have hr : r.toNat < ds.length := by omega
  refine ⟨ds[r.toNat], a', b', c', List.getElem_mem hr, ?_⟩
  unfold d__law_some dDef
  simp [argEnv, dVar_ap, peek_loc, frz_loc, passes, lents, backs, setO, e, atI_of _ _ r0, List.getElem?_eq_getElem hr, outsOf]
theorem bag_spec (cs : List Int) (h : cs.length ≤ 63) : ∃ ds : List Int, ds.length ≤ 63 ∧ d__law_bag [.scr (cs.map .int)] = .ok (.new (bagD 0 1234567891 0 ds)) [.scr (cs.map .int)] := by
  refine ⟨cs.map fun i => if i < 0 then -i else i, by rw [List.length_map]; exact h, ?_⟩
  have cut : cutD (cs.map D.int) none (some 63) = cs.map D.int := by
    rw [show (63 : Int) = ((63 : Nat) : Int) from rfl, cut_front, List.take_of_length_le (by rw [List.length_map]; exact h)]
  have hl : cs.length ≤ 1000000 := by omega
  have e1 : compGo [1] (gtName 1) dYes (dB fAbs (dCons (dVar 1) dNil)) (cs.map D.int) [.val (.scr (cs.map D.int)), .non] = some (cs.map (fun i => D.int (if i < 0 then -i else i)), [.val (.scr (cs.map D.int)), .non]) :=
    compGo_m cs fun i _ => ⟨_, rfl, ⟨_, rfl, rfl⟩, rfl⟩
  unfold d__law_bag dDef
  simp [cut, hl, e1, bagD, -s_setV]
/-! ### rows -/
abbrev Row := Int × List Int
def intsT (ps : List Int) : D := .tup (ps.map .int)
def rowD (r : Row) : D := .tup [.int r.1, intsT r.2]
/-- small, and n parts -/
def Row.ok (n : Nat) (r : Row) : Prop := r.2.length = n ∧ -40 < r.1 ∧ r.1 < 40 ∧ ∀ p ∈ r.2, -40 < p ∧ p < 40
section
variable {cs : List Int} (hc : cs.length ≤ 1000)
include hc
theorem parts_go : ∀ (ds : List D) (x1 : D) (a b c : Int), ∃ (l : List Int) (a' b' c' : Int), l.length = ds.length ∧ (∀ p ∈ l, -4 < p ∧ p < 4) ∧
    compGo [2] (gtName 2) dYes (dCall [true, false] d__law_some (dCons (dVar 0) (dCons (dLst (dCons (dC (.int 0)) (dCons (dC (.int 0)) (dCons (dC (.int 1)) (dCons (dC (.int 1)) (dCons (dOp1 opNeg (dC (.int 1))) (dCons (dOp1 opNeg (dC (.int 1))) (dCons (dC (.int 2)) (dCons (dOp1 opNeg (dC (.int 2))) (dCons (dC (.int 3)) dNil)))))))))) dNil))) ds [.bor (bagD a b c cs), .val x1, .non] = some (l.map .int, [.bor (bagD a' b' c' cs), .val x1, .non])
  | [], x1, a, b, c => ⟨[], a, b, c, rfl, (fun p h => nomatch h), rfl⟩
  | d :: ds, x1, a, b, c => by
    obtain ⟨x, a1, b1, c1, hx, e1⟩ := some_spec a b c cs [.int 0, .int 0, .int 1, .int 1, .int (-1), .int (-1), .int 2, .int (-2), .int 3] hc (by decide) (by decide)
    obtain ⟨l, a2, b2, c2, h1, h2, e2⟩ := parts_go ds x1 a1 b1 c1
    have : ∃ i : Int, x = .int i ∧ -4 < i ∧ i < 4 := by
      simp only [List.mem_cons, List.not_mem_nil, or_false] at hx
      rcases hx with rfl | rfl | rfl | rfl | rfl | rfl | rfl | rfl | rfl <;> exact ⟨_, rfl, by decide, by decide⟩
    obtain ⟨i, rfl, i1, i2⟩ := this
    refine ⟨i :: l, a2, b2, c2, by simp [h1], fun p hp => ?_, ?_⟩
    · rcases List.mem_cons.mp hp with rfl | hp
      · exact ⟨i1, i2⟩
      · exact h2 p hp
    · unfold compGo
      simp [e1, e2]
theorem row_spec (n : Nat) (hn : n ≤ 3) (a b c : Int) : ∃ (r : Row) (a' b' c' : Int), r.2.length = n ∧ (-8 < r.1 ∧ r.1 < 8) ∧ (∀ p ∈ r.2, -4 < p ∧ p < 4) ∧ d__law_drawn_row [bagD a b c cs, .int n] = .ok (.val (rowD r)) [bagD a' b' c' cs, .int n] := by
  obtain ⟨x, a1, b1, c1, hx, e1⟩ := some_spec a b c cs [.int 0, .int 1, .int (-1), .int 2, .int (-3), .int 6, .int (-7)] hc (by decide) (by decide)
  obtain ⟨l, a2, b2, c2, h1, h2, e2⟩ := parts_go hc ((List.range n).map fun (k : Nat) => D.int (k : Int)) (.int n) a1 b1 c1
  have : ∃ i : Int, x = .int i ∧ -8 < i ∧ i < 8 := by
    simp only [List.mem_cons, List.not_mem_nil, or_false] at hx
    rcases hx with rfl | rfl | rfl | rfl | rfl | rfl | rfl <;> exact ⟨_, rfl, by decide, by decide⟩
  obtain ⟨i, rfl, i1, i2⟩ := this
  refine ⟨(i, l), a2, b2, c2, by simpa using h1, ⟨i1, i2⟩, h2, ?_⟩
  have k : kRange1 [.int (n : Int)] = some ((List.range n).map fun (k : Nat) => D.int (k : Int)) := by
    have : n = 0 ∨ n = 1 ∨ n = 2 ∨ n = 3 := by omega
    rcases this with rfl | rfl | rfl | rfl <;> rfl
  have hn' : n ≤ 1000000 := by omega
  unfold d__law_drawn_row dDef
  simp [e1, e2, k, rowD, intsT, hn']
end
end K19

/-! law_k19: greatest common parts, values. -/
namespace K19
open PySem PySem.Spec L2 DL
theorem abs_nat (i : Int) : (if i < 0 then -i else i) = (i.natAbs : Int) := by split <;> omega
theorem gcd_step (a b : Nat) : Nat.gcd a b = Nat.gcd b (a % b) := by rw [Nat.gcd_comm a b, Nat.gcd_rec b a, Nat.gcd_comm]
theorem common_go : ∀ (n a b : Nat), b < n → whileGo (dOp2 opNe (dVar 1) (dC (.int 0))) (dPar 0 1 (dVar 1) (dOp2 opMod (dVar 0) (dVar 1))) n [.val (.int a), .val (.int b)] = .nx [.val (.int (Nat.gcd a b)), .val (.int 0)]
  | 0, a, b, h => absurd h (Nat.not_lt_zero _)
  | n + 1, a, b, h => by
    unfold whileGo
    by_cases e : b = 0
    · subst e
      simp
    · have hb : 0 < b := Nat.pos_of_ne_zero e
      have e2 : ¬ ((b : Int) = 0) := by omega
      have lt := Nat.mod_lt a hb
      have ih := common_go n b (a % b) (by omega)
      have c : (a : Int) % (b : Int) = ((a % b : Nat) : Int) := by omega
      rw [gcd_step a b, ← ih, ← c]
      simp [e2, e, hb]
theorem common_spec (x y : Int) (h : y.natAbs < 64) : d_common [.int x, .int y] = .ok (.val (.int (Nat.gcd x.natAbs y.natAbs))) [.int x, .int y] := by
  have e := common_go wl_common x.natAbs y.natAbs h
  unfold d_common dDef
  simp [abs_nat]
  rw [e]
  simp
def GG (g : Nat) (ps : List Int) : Nat := ps.foldl (fun g p => Nat.gcd g p.natAbs) g
def G (ps : List Int) : Nat := GG 0 ps
def gB : Sv := (dSet 1 (dCall [false, false] d_common (dCons (dVar 1) (dCons (dVar 2) dNil))))
theorem common_of_go (d : D) : ∀ (ps : List Int) (g : Nat) (x : Slot), (∀ p ∈ ps, p.natAbs < 64) → NB x → ∃ x', forGo (gtName 2) gB (ps.map .int) [.val d, .val (.int g), x] = .nx [.val d, .val (.int (GG g ps)), x']
  | [], g, x, _, n => ⟨x, rfl⟩
  | p :: ps, g, x, h, n => by
    obtain ⟨x', e⟩ := common_of_go d ps (Nat.gcd g p.natAbs) (.val (.int p)) (fun q hq => h q (List.mem_cons_of_mem _ hq)) (nb_val _)
    refine ⟨x', ?_⟩
    have e0 : gtName 2 (.int p) [.val d, .val (.int g), x] = some [.val d, .val (.int g), .val (.int p)] := setV_nb rfl n
    have e1 := common_spec g p (h p List.mem_cons_self)
    rw [List.map_cons]
    unfold forGo
    rw [e0]
    dsimp only
    have e2 : gB [.val d, .val (.int g), .val (.int p)] = .nx [.val d, .val (.int (Nat.gcd g p.natAbs)), .val (.int p)] := by
      unfold gB
      simp [e1]
    rw [e2]
    exact e
theorem common_of_spec {d : D} {ps : List Int} (hd : seqOf d = some (ps.map .int)) (h : ∀ p ∈ ps, p.natAbs < 64) : d_common_of [d] = .ok (.val (.int (G ps))) [d] := by
  obtain ⟨x', e⟩ := common_of_go d ps 0 .non h nb_non
  unfold d_common_of dDef
  have e2 : forGo (gtName 2) (dSet 1 (dCall [false, false] d_common (dCons (dVar 1) (dCons (dVar 2) dNil)))) (ps.map .int) [.val d, .val (.int 0), .non] = _ := e
  simp [hd, -s_gtName]
  rw [e2]
  simp [G]
def wB : Sv := (dSeq (dPar 3 4 (dVar 1) (dB fAbs (dCons (dVar 2) dNil)))
    (dSeq (whileGo (dOp2 opNe (dVar 4) (dC (.int 0)))
      (dPar 3 4 (dVar 4) (dOp2 opMod (dVar 3) (dVar 4))) wl__law_gcd)
    (dSet 1 (dVar 3))))
theorem gcd_go {d : D} {x y : Slot} : ∀ (n a b : Nat), b < n → whileGo (dOp2 opNe (dVar 4) (dC (.int 0))) (dPar 3 4 (dVar 4) (dOp2 opMod (dVar 3) (dVar 4))) n [.val d, x, y, .val (.int a), .val (.int b)] = .nx [.val d, x, y, .val (.int (Nat.gcd a b)), .val (.int 0)]
  | 0, a, b, h => absurd h (Nat.not_lt_zero _)
  | n + 1, a, b, h => by
    unfold whileGo
    by_cases e : b = 0
    · subst e
      simp
    · have hb : 0 < b := Nat.pos_of_ne_zero e
      have e2 : ¬ ((b : Int) = 0) := by omega
      have lt := Nat.mod_lt a hb
      have ih := gcd_go (d := d) (x := x) (y := y) n b (a % b) (by omega)
      have c : (a : Int) % (b : Int) = ((a % b : Nat) : Int) := by omega
      rw [gcd_step a b, ← ih, ← c]
      simp [e2, e, hb]
theorem law_gcd_go (d : D) : ∀ (ps : List Int) (g : Nat) (x y z : Slot), (∀ p ∈ ps, p.natAbs < 64) → NB x → NB y → NB z → ∃ x' y' z', forGo (gtName 2) wB (ps.map .int) [.val d, .val (.int g), x, y, z] = .nx [.val d, .val (.int (GG g ps)), x', y', z']
  | [], g, x, y, z, _, _, _, _ => ⟨x, y, z, rfl⟩
  | p :: ps, g, x, y, z, h, nx, ny, nz => by
    obtain ⟨x', y', z', e⟩ := law_gcd_go d ps (Nat.gcd g p.natAbs) (.val (.int p)) (.val (.int (Nat.gcd g p.natAbs))) (.val (.int 0)) (fun q hq => h q (List.mem_cons_of_mem _ hq)) (nb_val _) (nb_val _) (nb_val _)
    refine ⟨x', y', z', ?_⟩
    have e0 : gtName 2 (.int p) [.val d, .val (.int g), x, y, z] = some [.val d, .val (.int g), .val (.int p), y, z] := setV_nb rfl nx
    have e1 := gcd_go (d := d) (x := .val (.int g)) (y := .val (.int p)) wl__law_gcd g p.natAbs (h p List.mem_cons_self)
    rw [List.map_cons]
    unfold forGo
    rw [e0]
    dsimp only
    have s1 : setV [.val d, .val (.int g), .val (.int p), y, z] 3 (.val (.int g)) = some [.val d, .val (.int g), .val (.int p), .val (.int g), z] := setV_nb rfl ny
    have s2 : ∀ v, setV [.val d, .val (.int g), .val (.int p), .val (.int g), z] 4 (.val v) = some [.val d, .val (.int g), .val (.int p), .val (.int g), .val v] := fun v => setV_nb rfl nz
    have e2 : wB [.val d, .val (.int g), .val (.int p), y, z] = .nx [.val d, .val (.int (Nat.gcd g p.natAbs)), .val (.int p), .val (.int (Nat.gcd g p.natAbs)), .val (.int 0)] := by
      unfold wB
      simp [-s_setV, abs_nat, s1, s2]
      rw [e1]
      simp
    rw [e2]
    exact e
theorem law_gcd_spec {d : D} {ps : List Int} (hd : seqOf d = some (ps.map .int)) (h : ∀ p ∈ ps, p.natAbs < 64) : d__law_gcd [d] = .ok (.val (.int (G ps))) [d] := by
  obtain ⟨x', y', z', e⟩ := law_gcd_go d ps 0 .non .non .non h nb_non nb_non nb_non
  unfold d__law_gcd dDef
  simp [hd, -s_gtName]
  unfold wB at e
  rw [show (D.int ((0 : Nat) : Int)) = .int 0 from rfl] at e
  rw [e]
  simp [G]
/-! ### value -/
def dot : List Int → List Int → Int
  | p :: ps, x :: xs => p * x + dot ps xs
  | _, _ => 0
def val (r : Row) (xs : List Int) : Int := r.1 + dot r.2 xs
theorem value_go (r xs : D) : ∀ (ps qs : List Int), (∀ p ∈ ps, -40 < p ∧ p < 40) → compGo [2, 3] (gtTup 2 (gtCons (gtName 2) (gtCons (gtName 3) gtNil))) dYes (dOp2 opMulA (dVar 2) (dVar 3)) (List.zipWith (fun x y => .tup [x, y]) (ps.map .int) (qs.map .int)) [.val r, .val xs, .non, .non] = some ((List.zipWith (fun p q => p * q) ps qs).map .int, [.val r, .val xs, .non, .non])
  | [], qs, _ => by cases qs <;> rfl
  | _ :: _, [], _ => rfl
  | p :: ps, q :: qs, h => by
    have ih := value_go r xs ps qs fun x hx => h x (List.mem_cons_of_mem _ hx)
    have := h p List.mem_cons_self
    have c : CMul p q = True := by rw [CMul_ap]; simp only [eq_iff_iff, iff_true]; left; omega
    rw [List.map_cons, List.map_cons, List.zipWith_cons_cons]
    unfold compGo
    simp [c]
    rw [List.map_zipWith, List.zipWith_map] at ih
    rw [ih]
theorem sum_dot : ∀ (ps qs : List Int), (List.zipWith (fun p q => p * q) ps qs).sum = dot ps qs
  | [], qs => by simp [dot]
  | _ :: _, [] => by simp [dot]
  | p :: ps, q :: qs => by simp [dot, sum_dot ps qs]
end K19

/-! law_k19: values, zeros, dicts of rows. -/
namespace K19
open PySem PySem.Spec L2 DL
theorem zip_few (ps xs : List Int) (h : ps.length ≤ 1000) : (List.zipWith (fun x y => D.tup [x, y]) (ps.map D.int) (xs.map D.int)).length ≤ 1000000 := by
  rw [List.length_zipWith, List.length_map, List.length_map]; omega
theorem fSum_ints (l : List Int) : fSum [.lst (l.map .int)] = some (.val (.int l.sum)) := by
  unfold fSum DL.listOf
  simp [intsD_map]
abbrev gVal : Ev := (dLc (iArgs kZip (dCons (dOp2 opIx (dVar 0) (dC (.int 1))) (dCons (dVar 1) dNil))) [2, 3] (gtTup 2 (gtCons (gtName 2) (gtCons (gtName 3) gtNil))) dYes (dOp2 opMul (dVar 2) (dVar 3)))
abbrev gVal' : Ev := (dLc (iArgs kZip (dCons (dOp2 opIx (dVar 0) (dC (.int 1))) (dCons (dVar 1) dNil))) [2, 3] (gtTup 2 (gtCons (gtName 2) (gtCons (gtName 3) gtNil))) dYes (dOp2 opMulA (dVar 2) (dVar 3)))
theorem value_spec (r : Row) (xs : List Int) (hl : r.2.length ≤ 1000) (h : ∀ p ∈ r.2, -40 < p ∧ p < 40) : d_value [rowD r, intsT xs] = .ok (.val (.int (val r xs))) [rowD r, intsT xs] := by
  obtain ⟨w, ps⟩ := r
  have e := value_go (rowD (w, ps)) (intsT xs) ps xs h
  have f := zip_few ps xs hl
  have s := fSum_ints (List.zipWith (fun p q => p * q) ps xs)
  rw [sum_dot] at s
  have it : iArgs kZip (dCons (dOp2 opIx (dVar 0) (dC (.int 1))) (dCons (dVar 1) dNil)) [.val (rowD (w, ps)), .val (intsT xs), .non, .non] = .ok (List.zipWith (fun x y => D.tup [x, y]) (ps.map D.int) (xs.map D.int)) [.val (rowD (w, ps)), .val (intsT xs), .non, .non] := by
    simp [rowD, intsT, atI_one]
  have lc : gVal' [.val (rowD (w, ps)), .val (intsT xs), .non, .non] = .ok (.new (.lst ((List.zipWith (fun p q => p * q) ps xs).map .int))) [.val (rowD (w, ps)), .val (intsT xs), .non, .non] := by
    unfold gVal'
    rw [s_dLc, it]
    dsimp only
    rw [if_pos ⟨rfl, f⟩]
    show (match compGo _ _ _ _ _ [.val (rowD (w, ps)), .val (intsT xs), .non, .non] with | some (ys, ρ2) => ER.ok (.new (.lst ys)) (restE ρ2 _ [2, 3]) | none => .no) = _
    rw [e]
    rfl
  have e0 : opIx (rowD (w, ps)) (.int 0) = some (.val (.int w)) := by simp [rowD, atI_zero]
  unfold d_value dDef
  unfold gVal' at lc
  simp [-s_dLc, e0]
  rw [lc]
  simp [-List.map_zipWith, s, val]
theorem law_value_eq : d__law_value = d_value := rfl
theorem never_spec (n : Nat) (hn : n ≤ 1000) : d_never [.int n] = .ok (.val (rowD (-1, List.replicate n 0))) [.int n] := by
  have e := opMulA_one (d := .int 0) n hn
  unfold d_never dDef
  simp [rowD, intsT, e]
end K19

/-! law_k19: keys, least_lines. -/
namespace K19
open PySem PySem.Spec L2 DL
/-! ### keys -/
def keyN (ps : List Int) : NestedKey := .tup (ps.map .num)
theorem nks_ints : ∀ ps : List Int, nks (ps.map .int) = some (ps.map .num)
  | [] => rfl
  | p :: ps => by
    show (match nk (.int p), nks (ps.map .int) with | some k, some ks => some (k :: ks) | _, _ => none) = _
    rw [nks_ints ps]
    rfl
theorem depth_nums : ∀ ps : List Int, NestedKey.depthAll (ps.map .num) = 0
  | [] => rfl
  | p :: ps => by
    rw [List.map_cons]
    simp [NestedKey.depthAll, NestedKey.depth, depth_nums ps]
theorem nums_inj : ∀ a b : List Int, a.map NestedKey.num = b.map NestedKey.num → a = b
  | [], [], _ => rfl
  | [], _ :: _, h => by cases h
  | _ :: _, [], h => by cases h
  | x :: a, y :: b, h => by
    rw [List.map_cons, List.map_cons] at h
    injection h with h1 h2
    injection h1 with h3
    rw [h3, nums_inj a b h2]
theorem isKey : IsKey intsT keyN where
  of ps := by
    show (match nks (ps.map .int) with | some ks => if (NestedKey.tup ks).depth ≤ 8 then some (NestedKey.tup ks) else none | none => none) = _
    rw [nks_ints ps]
    dsimp only
    rw [if_pos (by simp [NestedKey.depth, depth_nums])]
    rfl
  inj a b h := by
    unfold keyN at h
    injection h with h1
    exact nums_inj a b h1
/-! ### greatest common parts, small -/
theorem GG_small : ∀ (ps : List Int) (g : Nat), g < 40 → (∀ p ∈ ps, -40 < p ∧ p < 40) → GG g ps < 40
  | [], g, hg, _ => hg
  | p :: ps, g, hg, h => by
    have hp := h p List.mem_cons_self
    refine GG_small ps _ ?_ fun q hq => h q (List.mem_cons_of_mem _ hq)
    by_cases e : g = 0
    · rw [e]; show Nat.gcd 0 p.natAbs < 40; rw [Nat.gcd_zero_left]; omega
    · exact Nat.lt_of_le_of_lt (Nat.gcd_le_left _ (by omega)) hg
theorem G_small {ps : List Int} (h : ∀ p ∈ ps, -40 < p ∧ p < 40) : G ps < 40 := GG_small ps 0 (by decide) h
theorem small64 {ps : List Int} (h : ∀ p ∈ ps, -40 < p ∧ p < 40) : ∀ p ∈ ps, p.natAbs < 64 := fun p hp => by have := h p hp; omega
/-! ### lists that are empty, or not -/
theorem nice_int {i : Int} (h : -10000 < i ∧ i < 10000) : Nice (.int i) (.int i) 0 41 := Nice.int (by omega)
theorem nice_ints {ps : List Int} (h : ∀ p ∈ ps, -10000 < p ∧ p < 10000) : NiceL (ps.map D.int) (ps.map PyData.int) 0 (ps.length * 42) := NiceL.map ps fun p hp => nice_int (h p hp)
theorem ne_nil {ds : List D} {ps : List PyData} {h w : Nat} (n : NiceL ds ps h w) (h1 : h ≤ 59) : opNe (.lst ds) (.lst []) = some (.val (.bl (!ds.isEmpty))) ∧ opEq (.lst ds) (.lst []) = some (.val (.bl ds.isEmpty)) := by
  have e := eqDeep_nice (Nice.lst n) (Nice.lst NiceL.nil) (by omega) (by decide)
  have e2 : PyData.eqv (.list ps) (.list []) = ds.isEmpty := by
    cases ds with
    | nil =>
      have : ps = [] := by have := n.py; cases this; rfl
      subst this
      simp [PyData.eqv, PyData.eqvAll]
    | cons d ds =>
      cases ps with
      | nil =>
        have q := n.py
        have q' : (match py d, pys ds with | some p, some ps => some (p :: ps) | _, _ => none) = some [] := q
        cases a : py d <;> cases b : pys ds <;> rw [a, b] at q' <;> cases q'
      | cons p ps => simp [PyData.eqv, PyData.eqvAll]
  rw [e2] at e
  constructor
  · show (eqDeep _ _).map _ = _
    rw [e]; rfl
  · show (eqDeep _ _).map _ = _
    rw [e]; rfl
theorem any_filter {α : Type} (p : α → Bool) : ∀ l : List α, (!(l.filter p).isEmpty) = l.any p
  | [] => rfl
  | x :: l => by
    rw [List.filter_cons, List.any_cons]
    cases p x with
    | true => rfl
    | false =>
      rw [Bool.false_or, ← any_filter p l]
      rfl
/-! ### least_lines -/
abbrev M := List (List Int × Int)
abbrev mD (m : M) : D := dctD intsT D.int m
def act (r : Row) : Bool := decide (0 < G r.2) && (decide (r.1 < 0) || r.2.any fun p => decide (p < 0))
def zeros (n : Nat) : List Int := List.replicate n 0
def addL (n : Nat) (m : M) (r : Row) : M :=
  if act r = true then put m (r.2.map fun p => p / (G r.2 : Int)) (let x := (look m (r.2.map fun p => p / (G r.2 : Int))).getD (r.1 / (G r.2 : Int)); if r.1 / (G r.2 : Int) < x then r.1 / (G r.2 : Int) else x)
  else if r.1 < 0 then put m (zeros n) (-1) else m
abbrev E1 (n : Nat) (ls : D) (m : M) (x3 x4 x5 x6 x7 : Slot) : DL.Env := [.val (.int n), .val ls, .own (mD m), x3, x4, x5, x6, x7]
abbrev gKey : Ev := (dLc (iSeq (dVar 4)) [7] (gtName 7) dYes (dOp2 opFdiv (dVar 7) (dVar 5)))
abbrev gNeg : Ev := (dLc (iSeq (dVar 4)) [7] (gtName 7) (dOp2 opLt (dVar 7) (dC (.int 0))) (dVar 7))
abbrev a1 : Sv := (dSet 5 (dCall [false] d_common_of (dCons (dVar 4) dNil)))
abbrev tA : Ev := (dAndT (dOp2 opGt (dVar 5) (dC (.int 0))) (dOrT (dOp2 opLt (dVar 3) (dC (.int 0))) (dOp2 opNe gNeg (dLst dNil))))
abbrev a2 : Sv := (dSet 6 (dB fTuple (dCons gKey dNil)))
abbrev a3 : Sv := (dStore 2 (dVar 6) (dB fMin2 (dCons (orE (dGet2X (dVar 2) (dVar 6) (dOp2 opFdiv (dVar 3) (dVar 5))) (dGet2 (dVar 2) (dVar 6) (dOp2 opFdiv (dVar 3) (dVar 5)))) (dCons (dOp2 opFdiv (dVar 3) (dVar 5)) dNil))))
abbrev a4 : Sv := (dIfS (dOp2 opLt (dVar 3) (dC (.int 0)))
      (dStore 2 (dOp2 opIx (dCall [false] d_never (dCons (dVar 0) dNil)) (dC (.int 1))) (dOp1 opNeg (dC (.int 1))))
      (fun ρ => .nx ρ))
abbrev aB : Sv := (dSeq a1 (dIfS tA (dSeq a2 a3) a4))
section
variable {n : Nat} {ls : D} {m : M} {x5 x6 x7 : Slot} {w : Int} {ps : List Int}
theorem compGo_ints {vs : List Nat} {ft : D → DL.Env → Option DL.Env} {ge : Ev} {ρ : DL.Env} (f : Int → Int) (ps : List Int) (h : ∀ p ∈ ps, ∃ ρ1, ft (.int p) ρ = some ρ1 ∧ (∃ r, (ge ρ1).settle = .ok r ρ1 ∧ frz r ρ1 = some (.int (f p), ρ1)) ∧ wipeE ρ1 vs = ρ) : compGo vs ft dYes ge (ps.map .int) ρ = some ((ps.map f).map .int, ρ) := by
  rw [List.map_map]
  exact compGo_m ps h
theorem a1_spec (hp : ∀ p ∈ ps, -40 < p ∧ p < 40) (h5 : NB x5) : a1 (E1 n ls m (.val (.int w)) (.val (intsT ps)) x5 x6 x7) = .nx (E1 n ls m (.val (.int w)) (.val (intsT ps)) (.val (.int (G ps))) x6 x7) := by
  have e := common_of_spec (d := intsT ps) rfl (small64 hp)
  have s : setV (E1 n ls m (.val (.int w)) (.val (intsT ps)) x5 x6 x7) 5 (.val (.int (G ps))) = some (E1 n ls m (.val (.int w)) (.val (intsT ps)) (.val (.int (G ps))) x6 x7) := setV_nb rfl h5
  unfold a1
  simp [-s_setV, e, s]
theorem a2_spec (hl : ps.length ≤ 1000) (hp : ∀ p ∈ ps, -40 < p ∧ p < 40) (hg : 0 < G ps) (h6 : NB x6) : a2 (E1 n ls m (.val (.int w)) (.val (intsT ps)) (.val (.int (G ps))) x6 .non) = .nx (E1 n ls m (.val (.int w)) (.val (intsT ps)) (.val (.int (G ps))) (.val (intsT (ps.map fun p => p / (G ps : Int)))) .non) := by
  have hs := G_small hp
  have e : compGo [7] (gtName 7) dYes (dOp2 opFdiv (dVar 7) (dVar 5)) (ps.map .int) (E1 n ls m (.val (.int w)) (.val (intsT ps)) (.val (.int (G ps))) x6 .non) = some ((ps.map fun p => p / (G ps : Int)).map .int, E1 n ls m (.val (.int w)) (.val (intsT ps)) (.val (.int (G ps))) x6 .non) :=
    compGo_ints (fun p => p / (G ps : Int)) ps fun p _ => by
      refine ⟨E1 n ls m (.val (.int w)) (.val (intsT ps)) (.val (.int (G ps))) x6 (.val (.int p)), rfl, ⟨.val (.int (p / (G ps : Int))), ?_, rfl⟩, rfl⟩
      have c : CDiv p (G ps) = True := by rw [CDiv_ap]; simp only [eq_iff_iff, iff_true]; omega
      simp [c]
  have s : ∀ d, setV (E1 n ls m (.val (.int w)) (.val (intsT ps)) (.val (.int (G ps))) x6 .non) 6 (.val d) = some (E1 n ls m (.val (.int w)) (.val (intsT ps)) (.val (.int (G ps))) (.val d) .non) := fun d => setV_nb rfl h6
  have lc : gKey (E1 n ls m (.val (.int w)) (.val (intsT ps)) (.val (.int (G ps))) x6 .non) = .ok (.new (.lst ((ps.map fun p => p / (G ps : Int)).map .int))) (E1 n ls m (.val (.int w)) (.val (intsT ps)) (.val (.int (G ps))) x6 .non) := by
    unfold gKey
    rw [s_dLc]
    show (if idle _ [7] = true ∧ (ps.map D.int).length ≤ 1000000 then (match compGo [7] (gtName 7) dYes (dOp2 opFdiv (dVar 7) (dVar 5)) (ps.map .int) (E1 n ls m (.val (.int w)) (.val (intsT ps)) (.val (.int (G ps))) x6 .non) with | some (ys, ρ2) => ER.ok (.new (.lst ys)) (restE ρ2 _ [7]) | none => .no) else .no) = _
    rw [if_pos ⟨rfl, by rw [List.length_map]; omega⟩, e]
    rfl
  unfold a2
  simp only [dSet_ap, dB_ap, dCons_ap]
  rw [lc]
  show SR.of (setV _ 6 (.val (.tup _))) = _
  exact congrArg SR.of (s _)
theorem tA_spec (hl : ps.length ≤ 1000) (hp : ∀ p ∈ ps, -40 < p ∧ p < 40) : tA (E1 n ls m (.val (.int w)) (.val (intsT ps)) (.val (.int (G ps))) x6 .non) = .ok (.val (.bl (act (w, ps)))) (E1 n ls m (.val (.int w)) (.val (intsT ps)) (.val (.int (G ps))) x6 .non) := by
  have e : compGo [7] (gtName 7) (dOp2 opLt (dVar 7) (dC (.int 0))) (dVar 7) (ps.map .int) (E1 n ls m (.val (.int w)) (.val (intsT ps)) (.val (.int (G ps))) x6 .non) = some ((ps.filter fun p => decide (p < 0)).map .int, E1 n ls m (.val (.int w)) (.val (intsT ps)) (.val (.int (G ps))) x6 .non) :=
    compGo_fm ps fun p _ => ⟨E1 n ls m (.val (.int w)) (.val (intsT ps)) (.val (.int (G ps))) x6 (.val (.int p)), rfl, by simp, fun _ => ⟨.val (.int p), rfl, rfl⟩, rfl⟩
  have lc : gNeg (E1 n ls m (.val (.int w)) (.val (intsT ps)) (.val (.int (G ps))) x6 .non) = .ok (.new (.lst ((ps.filter fun p => decide (p < 0)).map .int))) (E1 n ls m (.val (.int w)) (.val (intsT ps)) (.val (.int (G ps))) x6 .non) := by
    unfold gNeg
    rw [s_dLc]
    show (if idle _ [7] = true ∧ (ps.map D.int).length ≤ 1000000 then (match compGo [7] (gtName 7) (dOp2 opLt (dVar 7) (dC (.int 0))) (dVar 7) (ps.map .int) (E1 n ls m (.val (.int w)) (.val (intsT ps)) (.val (.int (G ps))) x6 .non) with | some (ys, ρ2) => ER.ok (.new (.lst ys)) (restE ρ2 _ [7]) | none => .no) else .no) = _
    rw [if_pos ⟨rfl, by rw [List.length_map]; omega⟩, e]
    rfl
  have ne := (ne_nil (nice_ints (ps := ps.filter fun p => decide (p < 0)) fun p q => by have := hp p (List.mem_filter.mp q).1; omega) (by decide)).1
  have an : (!((ps.filter fun p => decide (p < 0)).map D.int).isEmpty) = ps.any fun p => decide (p < 0) := by
    rw [List.isEmpty_map, any_filter]
  unfold tA act
  by_cases h1 : 0 < G ps <;> by_cases h2 : w < 0 <;> simp [-s_dLc, lc, -List.isEmpty_map, ne, an, h1, h2]
theorem a3_spec (hm : m.length < 1000) (hg : 0 < G ps) (hs : G ps < 40) : a3 (E1 n ls m (.val (.int w)) (.val (intsT ps)) (.val (.int (G ps))) (.val (intsT (ps.map fun p => p / (G ps : Int)))) .non) = .nx (E1 n ls (put m (ps.map fun p => p / (G ps : Int)) (let x := (look m (ps.map fun p => p / (G ps : Int))).getD (w / (G ps : Int)); if w / (G ps : Int) < x then w / (G ps : Int) else x)) (.val (.int w)) (.val (intsT ps)) (.val (.int (G ps))) (.val (intsT (ps.map fun p => p / (G ps : Int)))) .non) := by
  have c : CDiv w (G ps) = True := by rw [CDiv_ap]; simp only [eq_iff_iff, iff_true]; omega
  generalize ps.map (fun p => p / (G ps : Int)) = k
  have e1 := xdic_dctD (kd := intsT) (vd := D.int) m
  have e2 := isKey.of k
  have e3 := dctGet_look (vd := D.int) isKey k m
  have e4 : ∀ v : Int, stored (mD m) (intsT k) (.int v) = some (mD (put m k v)) := fun v => stored_put isKey m k v hm
  unfold a3
  simp [c, e1, e2, e3, e4]
theorem a4_spec (hn : n ≤ 1000) (hm : m.length < 1000) {x7 : Slot} : a4 (E1 n ls m (.val (.int w)) (.val (intsT ps)) x5 x6 x7) = .nx (E1 n ls (if w < 0 then put m (zeros n) (-1) else m) (.val (.int w)) (.val (intsT ps)) x5 x6 x7) := by
  have e4 : stored (mD m) (intsT (zeros n)) (.int (-1)) = some (mD (put m (zeros n) (-1))) := stored_put isKey m (zeros n) (-1) hm
  have e5 := never_spec n hn
  unfold a4
  by_cases h : w < 0
  · simp [h, e5, rowD, atI_one]
    unfold zeros at e4 ⊢
    rw [e4]
    rfl
  · simp [h]
theorem aB_spec (hn : n ≤ 1000) (hl : ps.length ≤ 1000) (hp : ∀ p ∈ ps, -40 < p ∧ p < 40) (hm : m.length < 1000) (h5 : NB x5) (h6 : NB x6) : ∃ x5' x6', NB x5' ∧ NB x6' ∧ aB (E1 n ls m (.val (.int w)) (.val (intsT ps)) x5 x6 .non) = .nx (E1 n ls (addL n m (w, ps)) (.val (.int w)) (.val (intsT ps)) x5' x6' .non) := by
  have e1 := a1_spec (n := n) (ls := ls) (m := m) (w := w) (x6 := x6) (x7 := .non) hp h5
  have e2 := tA_spec (n := n) (ls := ls) (m := m) (w := w) (x6 := x6) hl hp
  have go : aB (E1 n ls m (.val (.int w)) (.val (intsT ps)) x5 x6 .non) = if act (w, ps) = true then dSeq a2 a3 (E1 n ls m (.val (.int w)) (.val (intsT ps)) (.val (.int (G ps))) x6 .non) else a4 (E1 n ls m (.val (.int w)) (.val (intsT ps)) (.val (.int (G ps))) x6 .non) := by
    show (a1 _).bind _ = _
    rw [e1]
    show (tA _).ifS _ _ = _
    rw [e2, ifS_bl]
  by_cases h : act (w, ps) = true
  · have hg : 0 < G ps := by
      unfold act at h
      rw [Bool.and_eq_true] at h
      exact of_decide_eq_true h.1
    refine ⟨.val (.int (G ps)), .val (intsT (ps.map fun p => p / (G ps : Int))), nb_val _, nb_val _, ?_⟩
    rw [go, if_pos h]
    show (a2 _).bind a3 = _
    rw [a2_spec hl hp hg h6]
    show a3 _ = _
    rw [a3_spec hm hg (G_small hp)]
    unfold addL
    rw [if_pos h]
  · refine ⟨.val (.int (G ps)), x6, nb_val _, h6, ?_⟩
    rw [go, if_neg h, a4_spec hn hm]
    unfold addL
    rw [if_neg h]
theorem addL_length (n : Nat) (m : M) (r : Row) : (addL n m r).length ≤ m.length + 1 := by
  unfold addL
  split
  · exact put_length _ _ _
  · split
    · exact put_length _ _ _
    · exact Nat.le_succ _
def Rows (n : Nat) (l : List Row) : Prop := ∀ r ∈ l, Row.ok n r
theorem aGo (hn : n ≤ 1000) : ∀ (l : List Row) (m : M) (x3 x4 x5 x6 : Slot), Rows n l → m.length + l.length < 1000 → NW x3 → NW x4 → NB x5 → NB x6 → ∃ x3' x4' x5' x6', NW x3' ∧ NW x4' ∧ NB x5' ∧ NB x6' ∧ forGo (gtTup 2 (gtCons (gtName 3) (gtCons (gtName 4) gtNil))) aB (l.map rowD) (E1 n ls m x3 x4 x5 x6 .non) = .nx (E1 n ls (l.foldl (addL n) m) x3' x4' x5' x6' .non)
  | [], m, x3, x4, x5, x6, _, _, h3, h4, h5, h6 => ⟨x3, x4, x5, x6, h3, h4, h5, h6, rfl⟩
  | (w, ps) :: l, m, x3, x4, x5, x6, hr, hl, h3, h4, h5, h6 => by
    rw [List.length_cons] at hl
    have ok := hr (w, ps) List.mem_cons_self
    obtain ⟨y5, y6, n5, n6, e1⟩ := aB_spec (n := n) (ls := ls) (m := m) (w := w) (ps := ps) hn (by rw [show ps.length = n from ok.1]; exact hn) ok.2.2.2 (by omega) h5 h6
    obtain ⟨z3, z4, z5, z6, n3, n4, n5, n6, e2⟩ := aGo hn l (addL n m (w, ps)) (.val (.int w)) (.val (intsT ps)) y5 y6 (fun r h => hr r (List.mem_cons_of_mem _ h)) (by have := addL_length n m (w, ps); omega) (nw_val _) (nw_val _) n5 n6
    refine ⟨z3, z4, z5, z6, n3, n4, n5, n6, ?_⟩
    have e0 : gtTup 2 (gtCons (gtName 3) (gtCons (gtName 4) gtNil)) (rowD (w, ps)) (E1 n ls m x3 x4 x5 x6 .non) = some (E1 n ls m (.val (.int w)) (.val (intsT ps)) x5 x6 .non) := by
      have s1 : setV (E1 n ls m x3 x4 x5 x6 .non) 3 (.val (.int w)) = some (E1 n ls m (.val (.int w)) x4 x5 x6 .non) := setV_nb rfl h3.nb
      have s2 : setV (E1 n ls m (.val (.int w)) x4 x5 x6 .non) 4 (.val (intsT ps)) = some (E1 n ls m (.val (.int w)) (.val (intsT ps)) x5 x6 .non) := setV_nb rfl h4.nb
      simp [-s_setV, rowD, s1, s2]
    rw [List.map_cons]
    unfold forGo
    rw [e0]
    dsimp only
    rw [e1]
    exact e2
end
end K19

/-! law_k19: what least_lines gives. -/
namespace K19
open PySem PySem.Spec L2 DL PySem.W
def rowP (r : Row) : PyData := .tuple [.int r.1, .tuple (r.2.map .int)]
theorem pys_ints : ∀ ps : List Int, pys (ps.map .int) = some (ps.map .int)
  | [] => rfl
  | p :: ps => by
    show (match py (.int p), pys (ps.map .int) with | some p, some ps => some (p :: ps) | _, _ => none) = _
    rw [pys_ints ps]
    rfl
theorem py_intsT (ps : List Int) : py (intsT ps) = some (.tuple (ps.map .int)) := by
  show (pys (ps.map .int)).map PyData.tuple = _
  rw [pys_ints]
  rfl
theorem py_row (r : Row) : py (rowD r) = some (rowP r) := by
  show (pys [.int r.1, intsT r.2]).map PyData.tuple = _
  unfold pys pys pys
  rw [py_intsT]
  rfl
theorem pys_rows : ∀ l : List Row, pys (l.map rowD) = some (l.map rowP)
  | [] => rfl
  | p :: l => by
    show (match py (rowD p), pys (l.map rowD) with | some p, some ps => some (p :: ps) | _, _ => none) = _
    rw [pys_rows l, py_row]
    rfl
theorem alike_ints : ∀ a b : List Int, alikeAll (a.map PyData.int) (b.map PyData.int) = true
  | [], _ => by simp [alikeAll]
  | _ :: _, [] => by simp [alikeAll]
  | x :: a, y :: b => by simp [alikeAll, PySem.W.alike, alike_ints a b]
theorem alike_row (a b : Row) : PySem.W.alike (rowP a) (rowP b) = true := by
  simp [rowP, PySem.W.alike, alikeAll, alike_ints]
theorem depth_ints : ∀ ps : List Int, PyData.depthAll (ps.map PyData.int) = 0
  | [] => by simp [PyData.depthAll]
  | p :: ps => by rw [List.map_cons]; simp [PyData.depthAll, PyData.depth, depth_ints ps]
theorem depth_rows : ∀ l : List Row, PyData.depthAll (l.map rowP) ≤ 2
  | [] => by simp [PyData.depthAll]
  | r :: l => by
    have := depth_rows l
    rw [List.map_cons]
    simp only [PyData.depthAll, rowP, PyData.depth, depth_ints]
    omega
theorem sorts_rows (l : List Row) (h : l.length ≤ 1000) : sortsOk (l.map rowD) = true := by
  unfold sortsOk
  rw [pys_rows]
  dsimp only
  have h1 : ((l.map rowP).all fun p => (l.map rowP).all fun q => PySem.W.alike p q) = true := by
    rw [List.all_eq_true]
    intro p hp
    rw [List.all_eq_true]
    intro q hq
    obtain ⟨a, _, rfl⟩ := List.mem_map.mp hp
    obtain ⟨b, _, rfl⟩ := List.mem_map.mp hq
    exact alike_row a b
  have h2 : ((l.map rowP).all tupKey) = true := by
    rw [List.all_eq_true]
    intro p hp
    obtain ⟨a, _, rfl⟩ := List.mem_map.mp hp
    rfl
  have h3 := depth_rows l
  rw [h1, h2, decide_eq_true (show PyData.depthAll (l.map rowP) ≤ 60 by omega), decide_eq_true (show (l.map rowP).length ≤ sizeLine by rw [List.length_map, sizeLine_eq]; omega)]
  rfl
def sortR (l : List Row) : List Row := l.mergeSort fun a b => dataLe false sortKey (rowD a) (rowD b)
theorem sortD_rows (l : List Row) : sortD (l.map rowD) = (sortR l).map rowD := (sort_maps rowD (fun _ _ _ _ => rfl)).symm
theorem fSorted_rows (l : List Row) (h : l.length ≤ 1000) : fSorted [.lst (l.map rowD)] = some (.new (.lst ((sortR l).map rowD))) := by
  show (if sortsOk (l.map rowD) = true then some (RV.new (.lst (sortD (l.map rowD)))) else none) = _
  rw [if_pos (sorts_rows l h), sortD_rows]
/-- the rows of a dict -/
def rowsOf (m : M) : List Row := m.map fun p => (p.2, p.1)
abbrev tgt : D → DL.Env → Option DL.Env := gtTup 2 (gtCons (gtName 4) (gtCons (gtName 3) gtNil))
abbrev gRow : Ev := dTup (dCons (dVar 3) (dCons (dVar 4) dNil))
theorem walked_rows (m : M) : walkedX (m.map fun p => intsT p.1) (m.map fun p => D.int p.2) = m.map fun p => D.tup [intsT p.1, .int p.2] := by
  unfold walkedX
  induction m with
  | nil => rfl
  | cons p m ih => rw [List.map_cons, List.map_cons, List.zipWith_cons_cons, ih]; rfl
section
variable {n : Nat} {ls : D} {m : M} {x3 x4 x5 x6 : Slot}
abbrev E1v (n : Nat) (ls : D) (m : M) (x3 x4 x5 x6 x7 : Slot) : DL.Env := [.val (.int n), .val ls, .val (mD m), x3, x4, x5, x6, x7]
theorem items_spec (hm : m.length ≤ 1000) (h3 : NW x3) (h4 : NW x4) : orE (dLcX 2 [3, 4] tgt dYes gRow) (dLcD .items 2 [3, 4] tgt dYes gRow) (E1 n ls m x3 x4 x5 x6 .non) = .ok (.new (.lst ((rowsOf m).map rowD))) (E1v n ls m x3 x4 x5 x6 .non) := by
  have idl : idle (E1v n ls m x3 x4 x5 x6 .non) [3, 4] = true := by
    show (!x3.owns && (!x4.owns && true)) = true
    rw [h3, h4]; rfl
  cases m with
  | nil =>
    have e1 : dLcX 2 [3, 4] tgt dYes gRow (E1 n ls [] x3 x4 x5 x6 .non) = .no := rfl
    have e2 : dLcD .items 2 [3, 4] tgt dYes gRow (E1 n ls [] x3 x4 x5 x6 .non) = .ok (.new (.lst [])) (E1v n ls [] x3 x4 x5 x6 .non) := by
      have it : iDic .items 2 (E1 n ls [] x3 x4 x5 x6 .non) = .ok [] (E1v n ls [] x3 x4 x5 x6 .non) := rfl
      unfold dLcD
      rw [s_dLc, it]
      dsimp only
      rw [if_pos ⟨idl, by decide⟩]
      rfl
    unfold orE
    rw [e1]
    exact e2
  | cons p m =>
    have go : compGo [3, 4] tgt dYes gRow ((p :: m).map fun p => D.tup [intsT p.1, .int p.2]) [.val (.int n), .val ls, .val (mD (p :: m)), .non, .non, x5, x6, .non] = some ((p :: m).map (fun p => rowD (p.2, p.1)), [.val (.int n), .val ls, .val (mD (p :: m)), .non, .non, x5, x6, .non]) :=
      compGo_m (p :: m) fun q _ => ⟨[.val (.int n), .val ls, .val (mD (p :: m)), .val (.int q.2), .val (intsT q.1), x5, x6, .non], rfl, ⟨.val (rowD (q.2, q.1)), rfl, rfl⟩, rfl⟩
    have e1 : dLcX 2 [3, 4] tgt dYes gRow (E1 n ls (p :: m) x3 x4 x5 x6 .non) = .ok (.new (.lst ((rowsOf (p :: m)).map rowD))) [.val (.int n), .val ls, .val (mD (p :: m)), x3, x4, x5, x6, .non] := by
      have it : iDct 2 (E1 n ls (p :: m) x3 x4 x5 x6 .non) = .ok ((p :: m).map fun p => D.tup [intsT p.1, .int p.2]) [.val (.int n), .val ls, .val (mD (p :: m)), x3, x4, x5, x6, .non] := by
        rw [← walked_rows]
        rfl
      unfold dLcX
      rw [s_dLc, it]
      dsimp only
      rw [if_pos ⟨idl, by rw [List.length_map]; omega⟩]
      show offEx (match compGo [3, 4] tgt dYes gRow ((p :: m).map fun p => D.tup [intsT p.1, .int p.2]) [.val (.int n), .val ls, .val (mD (p :: m)), .non, .non, x5, x6, .non] with | some (ys, ρ2) => ER.ok (.new (.lst ys)) (restE ρ2 [.val (.int n), .val ls, .val (mD (p :: m)), x3, x4, x5, x6, .non] [3, 4]) | none => .no) = _
      rw [go]
      unfold rowsOf
      rw [List.map_map]
      rfl
    unfold orE
    rw [e1]
theorem foldl_length (n : Nat) : ∀ (l : List Row) (m : M), (l.foldl (addL n) m).length ≤ m.length + l.length
  | [], m => Nat.le_refl _
  | r :: l, m => by
    have := foldl_length n l (addL n m r)
    have := addL_length n m r
    rw [List.foldl_cons, List.length_cons]
    omega
theorem least_lines_spec {l : List Row} (hs : seqOf ls = some (l.map rowD)) (hn : n ≤ 1000) (hr : Rows n l) (hl : l.length < 1000) : d_least_lines [.int n, ls] = .ok (.val (.tup ((sortR (rowsOf (l.foldl (addL n) []))).map rowD))) [.int n, ls] := by
  obtain ⟨y3, y4, y5, y6, n3, n4, n5, n6, e⟩ := aGo (ls := ls) hn l [] .non .non .non .non hr (by simpa using hl) nw_non nw_non nb_non nb_non
  have fl := foldl_length n l []
  have e1 := items_spec (n := n) (ls := ls) (m := l.foldl (addL n) []) (x5 := y5) (x6 := y6) (by simp at fl; omega) n3 n4
  have e2 := fSorted_rows (rowsOf (l.foldl (addL n) [])) (by unfold rowsOf; rw [List.length_map]; simp at fl; omega)
  have it : iSeq (dVar 1) [.val (.int n), .val ls, .own (.dic [] []), .non, .non, .non, .non, .non] = .ok (l.map rowD) [.val (.int n), .val ls, .own (.dic [] []), .non, .non, .non, .non, .non] := by
    simp [hs]
  rw [show d_least_lines = dDef 8 [false, false] (dSeq (dSet 2 (fun ρ => .ok (.new (.dic [] [])) ρ)) (dSeq (dFor (iSeq (dVar 1)) (gtTup 2 (gtCons (gtName 3) (gtCons (gtName 4) gtNil))) aB) (dRet (dB fTuple (dCons (dB fSorted (dCons (orE (dLcX 2 [3, 4] tgt dYes gRow) (dLcD .items 2 [3, 4] tgt dYes gRow)) dNil)) dNil))))) from rfl]
  rw [dDef_run rfl]
  show (match (dSeq (dFor (iSeq (dVar 1)) (gtTup 2 (gtCons (gtName 3) (gtCons (gtName 4) gtNil))) aB) (dRet (dB fTuple (dCons (dB fSorted (dCons (orE (dLcX 2 [3, 4] tgt dYes gRow) (dLcD .items 2 [3, 4] tgt dYes gRow)) dNil)) dNil)))) [.val (.int n), .val ls, .own (.dic [] []), .non, .non, .non, .non, .non] with
    | .nx ρ => _ | .rt r ρ => _ | .ex x ρ => _ | _ => _) = _
  rw [dSeq_ap, dFor_ap, it]
  dsimp only
  rw [show forGo (gtTup 2 (gtCons (gtName 3) (gtCons (gtName 4) gtNil))) aB (l.map rowD) [.val (.int n), .val ls, .own (.dic [] []), .non, .non, .non, .non, .non] = _ from e]
  rw [sr_bind_nx, dRet_ap, dB_ap, dCons_ap, dB_ap, dCons_ap, e1]
  simp [e2]
end
end K19

/-! law_k19: least_rest. -/
namespace K19
open PySem PySem.Spec L2 DL PySem.W
theorem cut_after (ds : List D) (c : Nat) : cutD ds (some (c : Int)) none = ds.drop c := by
  show (ds.drop (HT.sIx ds.length 0 (some (c : Int)))).take (ds.length - HT.sIx ds.length 0 (some (c : Int))) = ds.drop c
  rw [HT.sIx_nat]
  by_cases h : c ≤ ds.length
  · rw [Nat.min_eq_left h, List.take_of_length_le (by rw [List.length_drop]; exact Nat.le_refl _)]
  · rw [Nat.min_eq_right (by omega), List.drop_eq_nil_of_le (Nat.le_refl _), List.drop_eq_nil_of_le (by omega), List.take_nil]
abbrev Rest := Int × Row
def restD (p : Rest) : D := .tup [.int p.1, rowD p.2]
/-- its numbers, over m -/
def overs (m : Int) (r : Row) : List Int := (r.1 :: r.2).map fun x => x % m
def GR (m : Int) (r : Row) : Nat := G (m :: overs m r)
def cutR (m : Int) (r : Row) : Rest := (m / (GR m r : Int), (r.1 % m / (GR m r : Int), r.2.map fun p => p % m / (GR m r : Int)))
def leastR (m : Int) (r : Row) : Option Rest := if m = (GR m r : Int) then none else some (cutR m r)
def optD : Option Rest → D
  | none => .non
  | some p => restD p
/-! G divides -/
theorem GG_dvd : ∀ (ps : List Int) (g : Nat), GG g ps ∣ g ∧ ∀ p ∈ ps, (GG g ps : Int) ∣ p
  | [], g => ⟨Nat.dvd_refl g, fun p h => nomatch h⟩
  | p :: ps, g => by
    obtain ⟨h1, h2⟩ := GG_dvd ps (Nat.gcd g p.natAbs)
    refine ⟨Nat.dvd_trans h1 (Nat.gcd_dvd_left _ _), fun q hq => ?_⟩
    rcases List.mem_cons.mp hq with rfl | hq
    · exact Int.ofNat_dvd_left.mpr (Nat.dvd_trans h1 (Nat.gcd_dvd_right _ _))
    · exact h2 q hq
theorem G_dvd {ps : List Int} {p : Int} (h : p ∈ ps) : (G ps : Int) ∣ p := (GG_dvd ps 0).2 p h
theorem dvd_GG (d : Nat) : ∀ (ps : List Int) (g : Nat), d ∣ g → (∀ p ∈ ps, (d : Int) ∣ p) → d ∣ GG g ps
  | [], g, h, _ => h
  | p :: ps, g, h, hp => dvd_GG d ps _ (Nat.dvd_gcd h (Int.ofNat_dvd_left.mp (hp p List.mem_cons_self))) fun q hq => hp q (List.mem_cons_of_mem _ hq)
theorem dvd_G {d : Nat} {ps : List Int} (h : ∀ p ∈ ps, (d : Int) ∣ p) : d ∣ G ps := dvd_GG d ps 0 (Nat.dvd_zero d) h
theorem GR_dvd {m : Int} {r : Row} : (GR m r : Int) ∣ m := G_dvd List.mem_cons_self
theorem GR_pos {m : Int} {r : Row} (h : 0 < m) : 0 < GR m r := by
  by_cases e : GR m r = 0
  · have := GR_dvd (m := m) (r := r)
    rw [e] at this
    have := Int.zero_dvd.mp this
    omega
  · omega
theorem overs_small {m : Int} {r : Row} (h0 : 0 < m) (h1 : m < 40) : ∀ p ∈ m :: overs m r, -40 < p ∧ p < 40 := by
  intro p hp
  rcases List.mem_cons.mp hp with rfl | hp
  · omega
  · obtain ⟨x, _, rfl⟩ := List.mem_map.mp hp
    have := Int.emod_nonneg x (b := m) (by omega)
    have := Int.emod_lt_of_pos x h0
    omega
abbrev gOv : Ev := (dLc (iSeq (dOp2 opAdd (dTup (dCons (dOp2 opIx (dVar 1) (dC (.int 0))) dNil)) (dOp2 opIx (dVar 1) (dC (.int 1))))) [4] (gtName 4) dYes (dOp2 opMod (dVar 4) (dVar 0)))
abbrev gRs : Ev := (dLc (iSeq (dSl opSl (dVar 2) (some (dC (.int 1))) none)) [4] (gtName 4) dYes (dOp2 opFdiv (dVar 4) (dVar 3)))
theorem least_rest_spec {m : Int} {r : Row} (h0 : 0 < m) (h1 : m < 40) (hl : r.2.length ≤ 1000) : d_least_rest [.int m, rowD r] = .ok (.val (optD (leastR m r))) [.int m, rowD r] := by
  have sm := overs_small (r := r) h0 h1
  have sg : GR m r < 40 := G_small sm
  have pg : 0 < GR m r := GR_pos h0
  have ln : (overs m r).length = r.2.length + 1 := by unfold overs; rw [List.length_map, List.length_cons]
  have e1 : gOv [.val (.int m), .val (rowD r), .non, .non, .non] = .ok (.new (.lst ((overs m r).map .int))) [.val (.int m), .val (rowD r), .non, .non, .non] := by
    have it : iSeq (dOp2 opAdd (dTup (dCons (dOp2 opIx (dVar 1) (dC (.int 0))) dNil)) (dOp2 opIx (dVar 1) (dC (.int 1)))) [.val (.int m), .val (rowD r), .non, .non, .non] = .ok ((r.1 :: r.2).map .int) [.val (.int m), .val (rowD r), .non, .non, .non] := by
      have : 1 + r.2.length ≤ sizeLine := by rw [sizeLine_eq]; omega
      have : r.2.length + 1 ≤ sizeLine := by rw [sizeLine_eq]; omega
      simp [rowD, intsT, atI_zero, atI_one, *]
    have go : compGo [4] (gtName 4) dYes (dOp2 opMod (dVar 4) (dVar 0)) ((r.1 :: r.2).map .int) [.val (.int m), .val (rowD r), .non, .non, .non] = some ((overs m r).map .int, [.val (.int m), .val (rowD r), .non, .non, .non]) :=
      compGo_ints (fun x => x % m) (r.1 :: r.2) fun p _ => ⟨[.val (.int m), .val (rowD r), .non, .non, .val (.int p)], rfl, ⟨.val (.int (p % m)), by simp [h0], rfl⟩, rfl⟩
    unfold gOv
    rw [s_dLc, it]
    dsimp only
    rw [if_pos ⟨rfl, by rw [List.length_map, List.length_cons]; omega⟩]
    show (match compGo _ _ _ _ _ [.val (.int m), .val (rowD r), .non, .non, .non] with | some (ys, ρ2) => ER.ok (.new (.lst ys)) (restE ρ2 _ [4]) | none => .no) = _
    rw [go]
    rfl
  have e2 : d_common_of [.lst (.int m :: (overs m r).map .int)] = .ok (.val (.int (GR m r))) [.lst (.int m :: (overs m r).map .int)] := common_of_spec (ps := m :: overs m r) rfl (small64 sm)
  have e3 : gRs [.val (.int m), .val (rowD r), .own (.lst ((overs m r).map .int)), .val (.int (GR m r)), .non] = .ok (.new (.lst ((r.2.map fun p => p % m / (GR m r : Int)).map .int))) [.val (.int m), .val (rowD r), .own (.lst ((overs m r).map .int)), .val (.int (GR m r)), .non] := by
    have it : iSeq (dSl opSl (dVar 2) (some (dC (.int 1))) none) [.val (.int m), .val (rowD r), .own (.lst ((overs m r).map .int)), .val (.int (GR m r)), .non] = .ok ((r.2.map fun p => p % m).map .int) [.val (.int m), .val (rowD r), .own (.lst ((overs m r).map .int)), .val (.int (GR m r)), .non] := by
      have c : cutD ((overs m r).map .int) (some 1) none = (r.2.map fun p => p % m).map .int := cut_after _ 1
      simp [c, -List.map_map]
    have go : compGo [4] (gtName 4) dYes (dOp2 opFdiv (dVar 4) (dVar 3)) ((r.2.map fun p => p % m).map .int) [.val (.int m), .val (rowD r), .own (.lst ((overs m r).map .int)), .val (.int (GR m r)), .non] = some (((r.2.map fun p => p % m).map fun p => p / (GR m r : Int)).map .int, [.val (.int m), .val (rowD r), .own (.lst ((overs m r).map .int)), .val (.int (GR m r)), .non]) :=
      compGo_ints (fun x => x / (GR m r : Int)) _ fun p _ => ⟨[.val (.int m), .val (rowD r), .own (.lst ((overs m r).map .int)), .val (.int (GR m r)), .val (.int p)], rfl, ⟨.val (.int (p / (GR m r : Int))), by
        have c : CDiv p (GR m r) = True := by rw [CDiv_ap]; simp only [eq_iff_iff, iff_true]; omega
        simp [c], rfl⟩, rfl⟩
    unfold gRs
    rw [s_dLc, it]
    dsimp only
    rw [if_pos ⟨rfl, by rw [List.length_map, List.length_map]; omega⟩]
    show (match compGo _ _ _ _ _ [.val (.int m), .val (rowD r), .own (.lst ((overs m r).map .int)), .val (.int (GR m r)), .non] with | some (ys, ρ2) => ER.ok (.new (.lst ys)) (restE ρ2 _ [4]) | none => .no) = _
    rw [go, show ((r.2.map fun p => p % m).map fun p => p / (GR m r : Int)) = r.2.map fun p => p % m / (GR m r : Int) from List.map_map]
    rfl
  have le : (overs m r).length + 1 ≤ sizeLine := by rw [sizeLine_eq]; omega
  have le2 : 1 + (overs m r).length ≤ sizeLine := by rw [sizeLine_eq]; omega
  have c1 : CDiv m (GR m r) = True := by rw [CDiv_ap]; simp only [eq_iff_iff, iff_true]; omega
  have c2 : CDiv (r.1 % m) (GR m r) = True := by rw [CDiv_ap]; simp only [eq_iff_iff, iff_true]; omega
  have ix0 : opIx (.lst ((overs m r).map .int)) (.int 0) = some (.val (.int (r.1 % m))) := by
    simp [overs, atI_zero]
  unfold d_least_rest dDef
  by_cases hm : m = (GR m r : Int)
  · have o : leastR m r = none := by unfold leastR; rw [if_pos hm]
    rw [o]
    have d : opEq (.int m) (.int (GR m r)) = some (.val (.bl true)) := by rw [opEq_int, decide_eq_true hm]
    simp [-s_dLc, -List.map_map, -opEq_int, e1, le2, e2, d, optD]
  · have o : leastR m r = some (cutR m r) := by unfold leastR; rw [if_neg hm]
    rw [o]
    have d : opEq (.int m) (.int (GR m r)) = some (.val (.bl false)) := by rw [opEq_int, decide_eq_false hm]
    rw [show optD (some (cutR m r)) = .tup [.int (m / (GR m r : Int)), .tup [.int (r.1 % m / (GR m r : Int)), .tup ((r.2.map fun p => p % m / (GR m r : Int)).map .int)]] from rfl]
    simp [-s_dLc, -List.map_map, -opEq_int, -opIx_lst, e1, le2, e2, d, c1, c2, ix0, e3]
end K19

/-! law_k19: made_system. -/
namespace K19
open PySem PySem.Spec L2 DL PySem.W
/-! ### rests as keys -/
def restN (p : Rest) : NestedKey := .tup [.num p.1, .tup [.num p.2.1, keyN p.2.2]]
theorem nk_intsT (ps : List Int) : nk (intsT ps) = some (keyN ps) := by
  show (nks (ps.map .int)).map NestedKey.tup = _
  rw [nks_ints]
  rfl
theorem nks_row (r : Row) : nks [.int r.1, intsT r.2] = some [.num r.1, keyN r.2] := by
  unfold nks nks nks
  rw [nk_intsT]
  rfl
theorem isRestKey : IsKey restD restN where
  of p := by
    have e : nks [.int p.1, rowD p.2] = some [.num p.1, .tup [.num p.2.1, keyN p.2.2]] := by
      have e2 : nk (rowD p.2) = some (.tup [.num p.2.1, keyN p.2.2]) := by
        show (nks [.int p.2.1, intsT p.2.2]).map NestedKey.tup = _
        rw [nks_row]
        rfl
      unfold nks nks nks
      rw [e2]
      rfl
    show (match nks [.int p.1, rowD p.2] with | some ks => if (NestedKey.tup ks).depth ≤ 8 then some (NestedKey.tup ks) else none | none => none) = _
    rw [e]
    dsimp only
    rw [if_pos (by simp [NestedKey.depth, NestedKey.depthAll, keyN, depth_nums])]
    rfl
  inj a b h := by
    obtain ⟨a1, a2, a3⟩ := a
    obtain ⟨b1, b2, b3⟩ := b
    unfold restN at h
    simp only [NestedKey.tup.injEq, List.cons.injEq, NestedKey.num.injEq, and_true] at h
    obtain ⟨h1, h2, h3⟩ := h
    have := isKey.inj a3 b3 h3
    rw [h1, h2, this]
abbrev LM := List (Rest × Bool)
abbrev lD (L : LM) : D := dctD restD D.bl L
/-! ### sorted(left) -/
def restP (p : Rest) : PyData := .tuple [.int p.1, rowP p.2]
theorem py_rest (p : Rest) : py (restD p) = some (restP p) := by
  show (pys [.int p.1, rowD p.2]).map PyData.tuple = _
  unfold pys pys pys
  rw [py_row]
  rfl
theorem pys_rests : ∀ l : List Rest, pys (l.map restD) = some (l.map restP)
  | [] => rfl
  | p :: l => by
    show (match py (restD p), pys (l.map restD) with | some p, some ps => some (p :: ps) | _, _ => none) = _
    rw [pys_rests l, py_rest]
    rfl
theorem alike_rest (a b : Rest) : PySem.W.alike (restP a) (restP b) = true := by
  simp [restP, PySem.W.alike, alikeAll, alike_row]
theorem depth_rests : ∀ l : List Rest, PyData.depthAll (l.map restP) ≤ 3
  | [] => by simp [PyData.depthAll]
  | r :: l => by
    have := depth_rests l
    rw [List.map_cons]
    simp only [PyData.depthAll, restP, rowP, PyData.depth, depth_ints]
    omega
theorem sorts_rests (l : List Rest) (h : l.length ≤ 1000) : sortsOk (l.map restD) = true := by
  unfold sortsOk
  rw [pys_rests]
  dsimp only
  have h1 : ((l.map restP).all fun p => (l.map restP).all fun q => PySem.W.alike p q) = true := by
    rw [List.all_eq_true]
    intro p hp
    rw [List.all_eq_true]
    intro q hq
    obtain ⟨a, _, rfl⟩ := List.mem_map.mp hp
    obtain ⟨b, _, rfl⟩ := List.mem_map.mp hq
    exact alike_rest a b
  have h2 : ((l.map restP).all tupKey) = true := by
    rw [List.all_eq_true]
    intro p hp
    obtain ⟨a, _, rfl⟩ := List.mem_map.mp hp
    rfl
  have h3 := depth_rests l
  rw [h1, h2, decide_eq_true (show PyData.depthAll (l.map restP) ≤ 60 by omega), decide_eq_true (show (l.map restP).length ≤ sizeLine by rw [List.length_map, sizeLine_eq]; omega)]
  rfl
def sortQ (l : List Rest) : List Rest := l.mergeSort fun a b => dataLe false sortKey (restD a) (restD b)
theorem sortD_rests (l : List Rest) : sortD (l.map restD) = (sortQ l).map restD := (sort_maps restD (fun _ _ _ _ => rfl)).symm
theorem fSorted_left (L : LM) (h : L.length ≤ 1000) : fSorted [lD L] = some (.new (.lst ((sortQ (L.map (·.1))).map restD))) := by
  have s : srcOf (lD L) = some ((L.map (·.1)).map restD) := by
    rw [List.map_map]
    cases L <;> rfl
  show (match srcOf (lD L) with | some ds => if sortsOk ds = true then some (RV.new (.lst (sortD ds))) else none | none => none) = _
  rw [s]
  dsimp only
  rw [if_pos (sorts_rests _ (by rw [List.length_map]; exact h)), sortD_rests]
/-! ### == of tuples of whole numbers -/
theorem eqv_ints : ∀ a b : List Int, PyData.eqvAll (a.map PyData.int) (b.map PyData.int) = decide (a = b)
  | [], [] => by simp [PyData.eqvAll]
  | [], _ :: _ => by simp [PyData.eqvAll]
  | _ :: _, [] => by simp [PyData.eqvAll]
  | x :: a, y :: b => by
    rw [List.map_cons, List.map_cons]
    by_cases h : x = y <;> simp [PyData.eqvAll, PyData.eqv, eqv_ints a b, h]
theorem eq_intsT {a b : List Int} (ha : ∀ p ∈ a, -10000 < p ∧ p < 10000) (hb : ∀ p ∈ b, -10000 < p ∧ p < 10000) : opEq (intsT a) (intsT b) = some (.val (.bl (decide (a = b)))) := by
  have e := eqDeep_nice (Nice.tup (nice_ints ha)) (Nice.tup (nice_ints hb)) (by decide) (by decide)
  show (eqDeep (intsT a) (intsT b)).map _ = _
  rw [show eqDeep (intsT a) (intsT b) = _ from e]
  simp [PyData.eqv, eqv_ints]
/-! ### a turn -/
def addR (n : Nat) (S : List Row × LM) (p : Rest) : List Row × LM := match leastR p.1 p.2 with
  | none => S
  | some c => if c.2.2 = zeros n then (S.1 ++ [(-1, zeros n)], S.2) else (S.1, put S.2 c true)
abbrev E2 (n : Nat) (ls rs : D) (S : List Row × LM) (x5 x6 x7 : Slot) : DL.Env := [.val (.int n), .val ls, .val rs, .own (.lst (S.1.map rowD)), .own (lD S.2), x5, x6, x7, .non, .non]
abbrev r1 : Sv := (dSet 7 (dCall [false, false] d_least_rest (dCons (dVar 5) (dCons (dTup (dCons (dOp2 opIx (dVar 6) (dC (.int 0))) (dCons (dB fTuple (dCons (dOp2 opIx (dVar 6) (dC (.int 1))) dNil)) dNil))) dNil))))
abbrev r2 : Sv := (dIfS (dAndT (dOp1 opNotN (dVar 7)) (dOp2 opEq (dOp2 opIx (dOp2 opIx (dVar 7) (dC (.int 1))) (dC (.int 1))) (dOp2 opMulA (dTup (dCons (dC (.int 0)) dNil)) (dVar 0))))
      (dExpr (dMut "list" 3 mAppend (dCons (dCall [false] d_never (dCons (dVar 0) dNil)) dNil)))
      (dIfS (dOp1 opNotN (dVar 7))
      (dStore 4 (dVar 7) (dC (.bl true)))
      (fun ρ => .nx ρ)))
section
variable {n : Nat} {ls rs : D} {S : List Row × LM} {x5 x6 x7 : Slot} {m : Int} {r : Row}
theorem r1_spec (h0 : 0 < m) (h1 : m < 40) (hl : r.2.length ≤ 1000) (h7 : NB x7) : r1 (E2 n ls rs S (.val (.int m)) (.val (rowD r)) x7) = .nx (E2 n ls rs S (.val (.int m)) (.val (rowD r)) (.val (optD (leastR m r)))) := by
  have e := least_rest_spec (r := r) h0 h1 hl
  have s : ∀ d, setV (E2 n ls rs S (.val (.int m)) (.val (rowD r)) x7) 7 (.val d) = some (E2 n ls rs S (.val (.int m)) (.val (rowD r)) (.val d)) := fun d => setV_nb rfl h7
  have i0 : opIx (rowD r) (.int 0) = some (.val (.int r.1)) := by simp [rowD, atI_zero]
  have i1 : opIx (rowD r) (.int 1) = some (.val (intsT r.2)) := by simp [rowD, atI_one]
  have t : fTuple [intsT r.2] = some (.val (intsT r.2)) := rfl
  have rd : D.tup [.int r.1, intsT r.2] = rowD r := rfl
  unfold r1
  simp [-s_setV, i0, i1, t, rd, e, s]
theorem r2_spec (hn : n ≤ 1000) (hF : S.1.length < 1000) (hL : S.2.length < 1000) (h0 : 0 < m) (h1 : m < 40) : r2 (E2 n ls rs S (.val (.int m)) (.val (rowD r)) (.val (optD (leastR m r)))) = .nx (E2 n ls rs (addR n S (m, r)) (.val (.int m)) (.val (rowD r)) (.val (optD (leastR m r)))) := by
  cases e : leastR m r with
  | none =>
    have o : addR n S (m, r) = S := by unfold addR; rw [e]
    rw [o]
    have nn : opNotN (optD none) = some (.val (.bl false)) := rfl
    unfold r2
    simp [nn]
  | some c =>
    have sm : ∀ p ∈ c.2.2, -10000 < p ∧ p < 10000 := by
      unfold leastR at e
      split at e
      · cases e
      · cases e
        intro p hp
        obtain ⟨x, _, rfl⟩ := List.mem_map.mp hp
        have := Int.emod_nonneg x (b := m) (by omega)
        have := Int.emod_lt_of_pos x h0
        have a1 := Int.ediv_nonneg (a := x % m) (b := (GR m r : Int)) (by omega) (by omega)
        have a2 := Int.ediv_le_self (GR m r : Int) (a := x % m) (by omega)
        omega
    have nn : opNotN (optD (some c)) = some (.val (.bl true)) := rfl
    have i1 : opIx (optD (some c)) (.int 1) = some (.val (rowD c.2)) := by simp [optD, restD, atI_one]
    have i2 : opIx (rowD c.2) (.int 1) = some (.val (intsT c.2.2)) := by simp [rowD, atI_one]
    have z := opMulA_one (d := .int 0) n hn
    have zt : D.tup (List.replicate n (.int 0)) = intsT (zeros n) := by unfold intsT zeros; rw [List.map_replicate]
    rw [zt] at z
    have q := eq_intsT sm (b := zeros n) (fun p hp => by have := List.eq_of_mem_replicate hp; omega)
    have nv := never_spec n hn
    have sz : S.1.length < sizeLine := by rw [sizeLine_eq]; omega
    have st : stored (lD S.2) (restD c) (.bl true) = some (lD (put S.2 c true)) := stored_put isRestKey S.2 c true hL
    by_cases h : c.2.2 = zeros n
    · have o : addR n S (m, r) = (S.1 ++ [(-1, zeros n)], S.2) := by unfold addR; rw [e]; dsimp only; rw [if_pos h]
      rw [o]
      rw [decide_eq_true h] at q
      unfold r2
      simp [nn, i1, i2, z, q, nv, sz]
      rfl
    · have o : addR n S (m, r) = (S.1, put S.2 c true) := by unfold addR; rw [e]; dsimp only; rw [if_neg h]
      rw [o]
      rw [decide_eq_false h] at q
      unfold r2
      simp [nn, i1, i2, z, q]
      rw [show DL.stored (lD S.2) (optD (some c)) (.bl true) = some (lD (put S.2 c true)) from st]
      rfl
theorem addR_fst (n : Nat) (S : List Row × LM) (p : Rest) : (addR n S p).1.length ≤ S.1.length + 1 ∧ (addR n S p).2.length ≤ S.2.length + 1 := by
  unfold addR
  split
  · exact ⟨Nat.le_succ _, Nat.le_succ _⟩
  · split
    · exact ⟨by rw [List.length_append]; exact Nat.le_refl _, Nat.le_succ _⟩
    · exact ⟨Nat.le_succ _, put_length _ _ _⟩
theorem foldR_length (n : Nat) : ∀ (l : List Rest) (S : List Row × LM), (l.foldl (addR n) S).1.length ≤ S.1.length + l.length ∧ (l.foldl (addR n) S).2.length ≤ S.2.length + l.length
  | [], S => ⟨Nat.le_refl _, Nat.le_refl _⟩
  | p :: l, S => by
    have h := foldR_length n l (addR n S p)
    have g := addR_fst n S p
    rw [List.foldl_cons, List.length_cons]
    omega
def Rests (n : Nat) (l : List Rest) : Prop := ∀ p ∈ l, 0 < p.1 ∧ p.1 < 40 ∧ Row.ok n p.2
theorem rGo (hn : n ≤ 1000) : ∀ (l : List Rest) (S : List Row × LM) (x5 x6 x7 : Slot), Rests n l → S.1.length + l.length < 1000 → S.2.length + l.length < 1000 → NB x5 → NB x6 → NB x7 → ∃ x5' x6' x7', forGo (gtTup 2 (gtCons (gtName 5) (gtCons (gtName 6) gtNil))) (dSeq r1 r2) (l.map restD) (E2 n ls rs S x5 x6 x7) = .nx (E2 n ls rs (l.foldl (addR n) S) x5' x6' x7')
  | [], S, x5, x6, x7, _, _, _, _, _, _ => ⟨x5, x6, x7, rfl⟩
  | (m, r) :: l, S, x5, x6, x7, hr, hF, hL, h5, h6, h7 => by
    rw [List.length_cons] at hF hL
    obtain ⟨m0, m1, ok⟩ := hr (m, r) List.mem_cons_self
    have g := addR_fst n S (m, r)
    obtain ⟨y5, y6, y7, e2⟩ := rGo hn l (addR n S (m, r)) (.val (.int m)) (.val (rowD r)) (.val (optD (leastR m r))) (fun p h => hr p (List.mem_cons_of_mem _ h)) (by omega) (by omega) (nb_val _) (nb_val _) (nb_val _)
    refine ⟨y5, y6, y7, ?_⟩
    have e0 : gtTup 2 (gtCons (gtName 5) (gtCons (gtName 6) gtNil)) (restD (m, r)) (E2 n ls rs S x5 x6 x7) = some (E2 n ls rs S (.val (.int m)) (.val (rowD r)) x7) := by
      have s1 : setV (E2 n ls rs S x5 x6 x7) 5 (.val (.int m)) = some (E2 n ls rs S (.val (.int m)) x6 x7) := setV_nb rfl h5
      have s2 : setV (E2 n ls rs S (.val (.int m)) x6 x7) 6 (.val (rowD r)) = some (E2 n ls rs S (.val (.int m)) (.val (rowD r)) x7) := setV_nb rfl h6
      simp [-s_setV, restD, s1, s2]
    rw [List.map_cons]
    unfold forGo
    rw [e0]
    dsimp only
    have e1 : dSeq r1 r2 (E2 n ls rs S (.val (.int m)) (.val (rowD r)) x7) = .nx (E2 n ls rs (addR n S (m, r)) (.val (.int m)) (.val (rowD r)) (.val (optD (leastR m r)))) := by
      show (r1 _).bind r2 = _
      rw [r1_spec m0 m1 (by rw [ok.1]; exact hn) h7]
      exact r2_spec hn (by omega) (by omega) m0 m1
    rw [e1]
    exact e2
/-- a system -/
def sysD (n : Nat) (rows : List Row) (rests : List Rest) : D := .tup [.int n, .tup (rows.map rowD), .tup (rests.map restD)]
def madeM (n : Nat) (l : List Row) (q : List Rest) : M := (q.foldl (addR n) (l, [])).1.foldl (addL n) []
def madeL (n : Nat) (l : List Row) (q : List Rest) : LM := (q.foldl (addR n) (l, [])).2
theorem zeros_ok (n : Nat) : Row.ok n (-1, zeros n) := ⟨by unfold zeros; rw [List.length_replicate], (by show -40 < (-1 : Int); decide), (by show (-1 : Int) < 40; decide), fun p hp => by have := List.eq_of_mem_replicate hp; omega⟩
theorem addR_rows {n : Nat} {S : List Row × LM} {p : Rest} (h : Rows n S.1) : Rows n (addR n S p).1 := by
  unfold addR
  split
  · exact h
  · split
    · intro r hr
      rcases List.mem_append.mp hr with hr | hr
      · exact h r hr
      · have : r = (-1, zeros n) := by simpa using hr
        rw [this]
        exact zeros_ok n
    · exact h
theorem foldR_rows {n : Nat} : ∀ (l : List Rest) {S : List Row × LM}, Rows n S.1 → Rows n (l.foldl (addR n) S).1
  | [], S, h => h
  | p :: l, S, h => foldR_rows l (addR_rows h)
abbrev gLn : Ev := (dLc (iSeq (dVar 1)) [8, 9] (gtTup 2 (gtCons (gtName 8) (gtCons (gtName 9) gtNil))) dYes (dTup (dCons (dVar 8) (dCons (dB fTuple (dCons (dVar 9) dNil)) dNil))))
abbrev gRt : Sv := (dRet (dTup (dCons (dVar 0) (dCons (dCall [false, false] d_least_lines (dCons (dVar 0) (dCons (dVar 3) dNil))) (dCons (dB fTuple (dCons (dB fSorted (dCons (dVar 4) dNil)) dNil)) dNil)))))
theorem made_system_spec {l : List Row} {q : List Rest} (hl : seqOf ls = some (l.map rowD)) (hq : seqOf rs = some (q.map restD)) (hn : n ≤ 1000) (hr : Rows n l) (hs : Rests n q) (l1 : l.length < 300) (l2 : q.length < 300) :
    d_made_system [.int n, ls, rs] = .ok (.val (sysD n (sortR (rowsOf (madeM n l q))) (sortQ ((madeL n l q).map (·.1))))) [.int n, ls, rs] := by
  have pl := foldR_length n q (l, [])
  have rw' := foldR_rows q (S := (l, [])) hr
  obtain ⟨y5, y6, y7, e⟩ := rGo (ls := ls) (rs := rs) hn q (l, []) .non .non .non hs (by simp; omega) (by simp; omega) nb_non nb_non nb_non
  let env0 : DL.Env := [.val (.int n), .val ls, .val rs, .non, .non, .non, .non, .non, .non, .non]
  have lc : gLn env0 = .ok (.new (.lst (l.map rowD))) env0 := by
    have it : iSeq (dVar 1) env0 = .ok (l.map rowD) env0 := by simp [env0, hl]
    have go : compGo [8, 9] (gtTup 2 (gtCons (gtName 8) (gtCons (gtName 9) gtNil))) dYes (dTup (dCons (dVar 8) (dCons (dB fTuple (dCons (dVar 9) dNil)) dNil))) (l.map rowD) env0 = some (l.map rowD, env0) :=
      compGo_m l fun r _ => ⟨[.val (.int n), .val ls, .val rs, .non, .non, .non, .non, .non, .val (.int r.1), .val (intsT r.2)], rfl, ⟨.val (rowD r), rfl, rfl⟩, rfl⟩
    unfold gLn
    rw [s_dLc, it]
    dsimp only
    rw [if_pos ⟨rfl, by rw [List.length_map]; omega⟩]
    show (match compGo _ _ _ _ _ env0 with | some (ys, ρ2) => ER.ok (.new (.lst ys)) (restE ρ2 _ [8, 9]) | none => .no) = _
    rw [go]
    rfl
  have p : dParH [3, 4] [gLn, (fun ρ => .ok (.new (.dic [] [])) ρ)] env0 = .nx (E2 n ls rs (l, []) .non .non .non) := by
    simp only [s_dParH, s_hold_cons, s_hold_nil, lc, s_hr_add]
    rfl
  have it : iSeq (dVar 2) (E2 n ls rs (l, []) .non .non .non) = .ok (q.map restD) (E2 n ls rs (l, []) .non .non .non) := by simp [hq]
  have e1 := least_lines_spec (n := n) (ls := .lst ((q.foldl (addR n) (l, [])).1.map rowD)) rfl hn rw' (by simp at pl; omega)
  have e2 := fSorted_left (q.foldl (addR n) (l, [])).2 (by simp at pl; omega)
  rw [show d_made_system = dDef 10 [false, false, false] (dSeq (dParH [3, 4] [gLn, (fun ρ => .ok (.new (.dic [] [])) ρ)]) (dSeq (dFor (iSeq (dVar 2)) (gtTup 2 (gtCons (gtName 5) (gtCons (gtName 6) gtNil))) (dSeq r1 r2)) gRt)) from rfl]
  rw [dDef_run rfl]
  show (match (dSeq (dParH [3, 4] [gLn, (fun ρ => .ok (.new (.dic [] [])) ρ)]) (dSeq (dFor (iSeq (dVar 2)) (gtTup 2 (gtCons (gtName 5) (gtCons (gtName 6) gtNil))) (dSeq r1 r2)) gRt)) env0 with
    | .nx ρ => _ | .rt r ρ => _ | .ex x ρ => _ | _ => _) = _
  rw [dSeq_ap, p, sr_bind_nx, dSeq_ap, dFor_ap, it]
  dsimp only
  rw [e, sr_bind_nx]
  unfold gRt
  simp [e1, e2, sysD, madeM, madeL]
end
end K19

/-! law_k19: _law_least, its first loop. -/
namespace K19
open PySem PySem.Spec L2 DL PySem.W
theorem min_neg : ∀ (ns : List Int) (x : Int), decide (ns.foldl min x < 0) = (decide (x < 0) || ns.any fun p => decide (p < 0))
  | [], x => by rw [List.any_nil, Bool.or_false]; rfl
  | y :: ns, x => by
    rw [List.foldl_cons, min_neg ns, List.any_cons]
    by_cases h1 : x < 0 <;> by_cases h2 : y < 0 <;> simp [h1, h2] <;> omega
theorem fMin1_ints {ps : List Int} (h : ps ≠ []) : ∃ z : Int, fMin1 [intsT ps] = some (.val (.int z)) ∧ decide (z < 0) = ps.any fun p => decide (p < 0) := by
  cases ps with
  | nil => exact absurd rfl h
  | cons x ns =>
    refine ⟨ns.foldl min x, ?_, by rw [min_neg, List.any_cons]⟩
    show (match intsD ((x :: ns).map .int) with | some (n :: ns) => some (RV.val (.int (ns.foldl min n))) | _ => none) = _
    rw [intsD_map]
abbrev E3 (n : Nat) (ls rs : D) (m : M) (L : LM) (x6 x7 x8 x9 x10 x11 x12 x13 : Slot) : DL.Env := [.val (.int n), .val ls, .val rs, .own (mD m), .own (lD L), .val (intsT (zeros n)), x6, x7, x8, x9, x10, x11, x12, x13]
abbrev lKey : Ev := (dLc (iSeq (dVar 7)) [12] (gtName 12) dYes (dOp2 opFdiv (dVar 12) (dVar 8)))
abbrev l1 : Sv := (dSet 8 (dCall [false] d__law_gcd (dCons (dVar 7) dNil)))
abbrev tL : Ev := (dAndT (dOp2 opGt (dVar 8) (dC (.int 0))) (dOrT (dOp2 opLt (dVar 6) (dC (.int 0))) (dOp2 opLt (dB fMin1 (dCons (dVar 7) dNil)) (dC (.int 0)))))
abbrev l2 : Sv := (dSet 9 (dB fTuple (dCons lKey dNil)))
abbrev l3 : Sv := (dStore 3 (dVar 9) (dB fMin2 (dCons (orE (dGet2X (dVar 3) (dVar 9) (dOp2 opFdiv (dVar 6) (dVar 8))) (dGet2 (dVar 3) (dVar 9) (dOp2 opFdiv (dVar 6) (dVar 8)))) (dCons (dOp2 opFdiv (dVar 6) (dVar 8)) dNil))))
abbrev l4 : Sv := (dIfS (dAndT (dOp2 opEq (dVar 8) (dC (.int 0))) (dOp2 opLt (dVar 6) (dC (.int 0))))
      (dStore 3 (dVar 5) (dOp1 opNeg (dC (.int 1))))
      (fun ρ => .nx ρ))
abbrev lB : Sv := (dSeq l1 (dIfS tL (dSeq l2 l3) l4))
section
variable {n : Nat} {ls rs : D} {m : M} {L : LM} {x8 x9 x10 x11 : Slot} {w : Int} {ps : List Int}
theorem l1_spec (hp : ∀ p ∈ ps, -40 < p ∧ p < 40) (h8 : NB x8) : l1 (E3 n ls rs m L (.val (.int w)) (.val (intsT ps)) x8 x9 x10 x11 .non .non) = .nx (E3 n ls rs m L (.val (.int w)) (.val (intsT ps)) (.val (.int (G ps))) x9 x10 x11 .non .non) := by
  have e := law_gcd_spec (d := intsT ps) rfl (small64 hp)
  have s : setV (E3 n ls rs m L (.val (.int w)) (.val (intsT ps)) x8 x9 x10 x11 .non .non) 8 (.val (.int (G ps))) = some (E3 n ls rs m L (.val (.int w)) (.val (intsT ps)) (.val (.int (G ps))) x9 x10 x11 .non .non) := setV_nb rfl h8
  unfold l1
  simp [-s_setV, e, s]
theorem l2_spec (hl : ps.length ≤ 1000) (hp : ∀ p ∈ ps, -40 < p ∧ p < 40) (hg : 0 < G ps) (h9 : NB x9) : l2 (E3 n ls rs m L (.val (.int w)) (.val (intsT ps)) (.val (.int (G ps))) x9 x10 x11 .non .non) = .nx (E3 n ls rs m L (.val (.int w)) (.val (intsT ps)) (.val (.int (G ps))) (.val (intsT (ps.map fun p => p / (G ps : Int)))) x10 x11 .non .non) := by
  have hs := G_small hp
  let ρ := E3 n ls rs m L (.val (.int w)) (.val (intsT ps)) (.val (.int (G ps))) x9 x10 x11 .non .non
  have e : compGo [12] (gtName 12) dYes (dOp2 opFdiv (dVar 12) (dVar 8)) (ps.map .int) ρ = some ((ps.map fun p => p / (G ps : Int)).map .int, ρ) :=
    compGo_ints (fun p => p / (G ps : Int)) ps fun p _ => by
      refine ⟨E3 n ls rs m L (.val (.int w)) (.val (intsT ps)) (.val (.int (G ps))) x9 x10 x11 (.val (.int p)) .non, rfl, ⟨.val (.int (p / (G ps : Int))), ?_, rfl⟩, rfl⟩
      have c : CDiv p (G ps) = True := by rw [CDiv_ap]; simp only [eq_iff_iff, iff_true]; omega
      simp [c]
  have s : ∀ d, setV ρ 9 (.val d) = some (E3 n ls rs m L (.val (.int w)) (.val (intsT ps)) (.val (.int (G ps))) (.val d) x10 x11 .non .non) := fun d => setV_nb rfl h9
  have lc : lKey ρ = .ok (.new (.lst ((ps.map fun p => p / (G ps : Int)).map .int))) ρ := by
    unfold lKey
    rw [s_dLc]
    show (if idle _ [12] = true ∧ (ps.map D.int).length ≤ 1000000 then (match compGo [12] (gtName 12) dYes (dOp2 opFdiv (dVar 12) (dVar 8)) (ps.map .int) ρ with | some (ys, ρ2) => ER.ok (.new (.lst ys)) (restE ρ2 _ [12]) | none => .no) else .no) = _
    rw [if_pos ⟨rfl, by rw [List.length_map]; omega⟩, e]
    rfl
  unfold l2
  show dSet 9 (dB fTuple (dCons lKey dNil)) ρ = _
  simp only [dSet_ap, dB_ap, dCons_ap]
  rw [lc]
  show SR.of (setV _ 9 (.val (.tup _))) = _
  exact congrArg SR.of (s _)
theorem tL_spec (hp : ∀ p ∈ ps, -40 < p ∧ p < 40) : tL (E3 n ls rs m L (.val (.int w)) (.val (intsT ps)) (.val (.int (G ps))) x9 x10 x11 .non .non) = .ok (.val (.bl (act (w, ps)))) (E3 n ls rs m L (.val (.int w)) (.val (intsT ps)) (.val (.int (G ps))) x9 x10 x11 .non .non) := by
  unfold tL act
  by_cases h1 : 0 < G ps
  · have ne : ps ≠ [] := fun e => by rw [e] at h1; exact absurd h1 (by decide)
    obtain ⟨z, e1, e2⟩ := fMin1_ints ne
    rw [← e2]
    by_cases h2 : w < 0 <;> simp [h1, h2, e1]
  · simp [h1]
theorem l3_spec (hm : m.length < 1000) (hg : 0 < G ps) (hs : G ps < 40) : l3 (E3 n ls rs m L (.val (.int w)) (.val (intsT ps)) (.val (.int (G ps))) (.val (intsT (ps.map fun p => p / (G ps : Int)))) x10 x11 .non .non) = .nx (E3 n ls rs (put m (ps.map fun p => p / (G ps : Int)) (let x := (look m (ps.map fun p => p / (G ps : Int))).getD (w / (G ps : Int)); if w / (G ps : Int) < x then w / (G ps : Int) else x)) L (.val (.int w)) (.val (intsT ps)) (.val (.int (G ps))) (.val (intsT (ps.map fun p => p / (G ps : Int)))) x10 x11 .non .non) := by
  have c : CDiv w (G ps) = True := by rw [CDiv_ap]; simp only [eq_iff_iff, iff_true]; omega
  generalize ps.map (fun p => p / (G ps : Int)) = k
  have e1 := xdic_dctD (kd := intsT) (vd := D.int) m
  have e2 := isKey.of k
  have e3 := dctGet_look (vd := D.int) isKey k m
  have e4 : ∀ v : Int, stored (mD m) (intsT k) (.int v) = some (mD (put m k v)) := fun v => stored_put isKey m k v hm
  unfold l3
  simp [c, e1, e2, e3, e4]
theorem st3 (hm : m.length < 1000) {x6 x7 : Slot} : (dStore 3 (dVar 5) (dOp1 opNeg (dC (.int 1)))) (E3 n ls rs m L x6 x7 x8 x9 x10 x11 .non .non) = .nx (E3 n ls rs (put m (zeros n) (-1)) L x6 x7 x8 x9 x10 x11 .non .non) := by
  have e4 : stored (mD m) (intsT (zeros n)) (.int (-1)) = some (mD (put m (zeros n) (-1))) := stored_put isKey m (zeros n) (-1) hm
  simp [e4]
theorem l4_spec (hm : m.length < 1000) (ha : act (w, ps) = false) : l4 (E3 n ls rs m L (.val (.int w)) (.val (intsT ps)) (.val (.int (G ps))) x9 x10 x11 .non .non) = .nx (E3 n ls rs (if w < 0 then put m (zeros n) (-1) else m) L (.val (.int w)) (.val (intsT ps)) (.val (.int (G ps))) x9 x10 x11 .non .non) := by
  have e4 : stored (mD m) (intsT (zeros n)) (.int (-1)) = some (mD (put m (zeros n) (-1))) := stored_put isKey m (zeros n) (-1) hm
  unfold l4
  by_cases h : w < 0
  · have g0 : G ps = 0 := by
      unfold act at ha
      simp [h] at ha
      exact ha
    simp [h, g0, e4]
  · by_cases g0 : G ps = 0 <;> simp [h, g0]
theorem lB_spec (hl : ps.length ≤ 1000) (hp : ∀ p ∈ ps, -40 < p ∧ p < 40) (hm : m.length < 1000) (h8 : NB x8) (h9 : NW x9) : ∃ x8' x9', NB x8' ∧ NW x9' ∧ lB (E3 n ls rs m L (.val (.int w)) (.val (intsT ps)) x8 x9 x10 x11 .non .non) = .nx (E3 n ls rs (addL n m (w, ps)) L (.val (.int w)) (.val (intsT ps)) x8' x9' x10 x11 .non .non) := by
  have e1 := l1_spec (n := n) (ls := ls) (rs := rs) (m := m) (L := L) (w := w) (x9 := x9) (x10 := x10) (x11 := x11) hp h8
  have e2 := tL_spec (n := n) (ls := ls) (rs := rs) (m := m) (L := L) (w := w) (x9 := x9) (x10 := x10) (x11 := x11) hp
  have go : lB (E3 n ls rs m L (.val (.int w)) (.val (intsT ps)) x8 x9 x10 x11 .non .non) = if act (w, ps) = true then dSeq l2 l3 (E3 n ls rs m L (.val (.int w)) (.val (intsT ps)) (.val (.int (G ps))) x9 x10 x11 .non .non) else l4 (E3 n ls rs m L (.val (.int w)) (.val (intsT ps)) (.val (.int (G ps))) x9 x10 x11 .non .non) := by
    show (l1 _).bind _ = _
    rw [e1]
    show (tL _).ifS _ _ = _
    rw [e2, ifS_bl]
  by_cases h : act (w, ps) = true
  · have hg : 0 < G ps := by
      unfold act at h
      rw [Bool.and_eq_true] at h
      exact of_decide_eq_true h.1
    refine ⟨.val (.int (G ps)), .val (intsT (ps.map fun p => p / (G ps : Int))), nb_val _, nw_val _, ?_⟩
    rw [go, if_pos h]
    show (l2 _).bind l3 = _
    rw [l2_spec hl hp hg h9.nb]
    show l3 _ = _
    rw [l3_spec hm hg (G_small hp)]
    unfold addL
    rw [if_pos h]
  · refine ⟨.val (.int (G ps)), x9, nb_val _, h9, ?_⟩
    rw [go, if_neg h, l4_spec hm (by cases q : act (w, ps) with | true => exact absurd q h | false => rfl)]
    unfold addL
    rw [if_neg h]
theorem lGo (hn : n ≤ 1000) : ∀ (l : List Row) (m : M) (x6 x7 x8 x9 : Slot), Rows n l → m.length + l.length < 1000 → NB x6 → NB x7 → NB x8 → NW x9 → ∃ x6' x7' x8' x9', NB x6' ∧ NB x7' ∧ NB x8' ∧ NW x9' ∧ forGo (gtTup 2 (gtCons (gtName 6) (gtCons (gtName 7) gtNil))) lB (l.map rowD) (E3 n ls rs m L x6 x7 x8 x9 x10 x11 .non .non) = .nx (E3 n ls rs (l.foldl (addL n) m) L x6' x7' x8' x9' x10 x11 .non .non)
  | [], m, x6, x7, x8, x9, _, _, h3, h4, h5, h6 => ⟨x6, x7, x8, x9, h3, h4, h5, h6, rfl⟩
  | (w, ps) :: l, m, x6, x7, x8, x9, hr, hl, h3, h4, h5, h6 => by
    rw [List.length_cons] at hl
    have ok := hr (w, ps) List.mem_cons_self
    obtain ⟨y5, y6, n5, n6, e1⟩ := lB_spec (n := n) (ls := ls) (rs := rs) (m := m) (L := L) (w := w) (ps := ps) (x10 := x10) (x11 := x11) (by rw [show ps.length = n from ok.1]; exact hn) ok.2.2.2 (by omega) h5 h6
    obtain ⟨z3, z4, z5, z6, n3, n4, n5, n6, e2⟩ := lGo hn l (addL n m (w, ps)) (.val (.int w)) (.val (intsT ps)) y5 y6 (fun r h => hr r (List.mem_cons_of_mem _ h)) (by have := addL_length n m (w, ps); omega) (nb_val _) (nb_val _) n5 n6
    refine ⟨z3, z4, z5, z6, n3, n4, n5, n6, ?_⟩
    have e0 : gtTup 2 (gtCons (gtName 6) (gtCons (gtName 7) gtNil)) (rowD (w, ps)) (E3 n ls rs m L x6 x7 x8 x9 x10 x11 .non .non) = some (E3 n ls rs m L (.val (.int w)) (.val (intsT ps)) x8 x9 x10 x11 .non .non) := by
      have s1 : setV (E3 n ls rs m L x6 x7 x8 x9 x10 x11 .non .non) 6 (.val (.int w)) = some (E3 n ls rs m L (.val (.int w)) x7 x8 x9 x10 x11 .non .non) := setV_nb rfl h3
      have s2 : setV (E3 n ls rs m L (.val (.int w)) x7 x8 x9 x10 x11 .non .non) 7 (.val (intsT ps)) = some (E3 n ls rs m L (.val (.int w)) (.val (intsT ps)) x8 x9 x10 x11 .non .non) := setV_nb rfl h4
      simp [-s_setV, rowD, s1, s2]
    rw [List.map_cons]
    unfold forGo
    rw [e0]
    dsimp only
    rw [e1]
    exact e2
end
end K19

/-! law_k19: _law_least. -/
namespace K19
open PySem PySem.Spec L2 DL PySem.W
theorem max_zero : ∀ (ns : List Int) (x : Int), 0 ≤ x → (∀ p ∈ ns, 0 ≤ p) → decide (ns.foldl max x = 0) = (decide (x = 0) && ns.all fun p => decide (p = 0))
  | [], x, _, _ => by rw [List.all_nil, Bool.and_true]; rfl
  | y :: ns, x, hx, h => by
    have hy := h y List.mem_cons_self
    rw [List.foldl_cons, max_zero ns _ (by omega) (fun p hp => h p (List.mem_cons_of_mem _ hp)), List.all_cons]
    by_cases h1 : x = 0 <;> by_cases h2 : y = 0 <;> simp [h1, h2] <;> omega
theorem fMax1_ints (ps : List Int) : fMax1 [.lst (.int 0 :: ps.map .int)] = some (.val (.int (ps.foldl max 0))) := by
  show (match intsD ((0 :: ps).map .int) with | some (n :: ns) => some (RV.val (.int (ns.foldl max n))) | _ => none) = _
  rw [intsD_map]
theorem div_one {m : Int} {g : Nat} (h0 : 0 < m) (hg : 0 < g) (hd : (g : Int) ∣ m) : decide (1 < m / (g : Int)) = !decide (m = (g : Int)) := by
  obtain ⟨k, rfl⟩ := hd
  rw [Int.mul_ediv_cancel_left k (by omega)]
  have kp : 0 < k := by
    rcases Int.lt_or_le 0 k with q | q
    · exact q
    · have := Int.mul_nonpos_of_nonneg_of_nonpos (a := (g : Int)) (b := k) (by omega) q
      omega
  by_cases h : k = 1
  · subst h; simp
  · have h1 : 1 < k := by omega
    have h2 : ¬ ((g : Int) * k = (g : Int)) := by
      intro e
      have : (g : Int) * 1 < (g : Int) * k := Int.mul_lt_mul_of_pos_left h1 (by omega)
      omega
    rw [decide_eq_true h1, decide_eq_false h2]
    rfl
theorem div_zero {x : Int} {g : Nat} (hg : 0 < g) (hd : (g : Int) ∣ x) : (x / (g : Int) = 0) ↔ x = 0 := by
  obtain ⟨k, rfl⟩ := hd
  rw [Int.mul_ediv_cancel_left k (by omega)]
  constructor
  · intro e; rw [e, Int.mul_zero]
  · intro e
    rcases Int.mul_eq_zero.mp e with q | q
    · omega
    · exact q
theorem all_zeros : ∀ (l : List Int) (n : Nat), l.length = n → (l = zeros n ↔ ∀ p ∈ l, p = 0)
  | [], n, h => by subst h; simp [zeros]
  | x :: l, n, h => by
    subst h
    have ih := all_zeros l l.length rfl
    unfold zeros at ih ⊢
    rw [List.length_cons, List.replicate_succ]
    simp only [List.cons.injEq, List.mem_cons, forall_eq_or_imp]
    rw [ih]
theorem overs_dvd {m : Int} {r : Row} {x : Int} (h : x ∈ overs m r) : (GR m r : Int) ∣ x := G_dvd (List.mem_cons_of_mem _ h)
theorem cut_zero {n : Nat} {m : Int} {r : Row} (h0 : 0 < m) (hl : r.2.length = n) : ((cutR m r).2.2 = zeros n) ↔ ∀ p ∈ r.2.map (fun p => p % m), p = 0 := by
  rw [all_zeros _ n (by unfold cutR; rw [List.length_map]; exact hl)]
  unfold cutR
  constructor
  · intro h p hp
    obtain ⟨x, hx, rfl⟩ := List.mem_map.mp hp
    have := h (x % m / (GR m r : Int)) (List.mem_map.mpr ⟨x, hx, rfl⟩)
    exact (div_zero (GR_pos h0) (overs_dvd (List.mem_map.mpr ⟨x, List.mem_cons_of_mem _ hx, rfl⟩))).mp this
  · intro h p hp
    obtain ⟨x, hx, rfl⟩ := List.mem_map.mp hp
    exact (div_zero (GR_pos h0) (overs_dvd (List.mem_map.mpr ⟨x, List.mem_cons_of_mem _ hx, rfl⟩))).mpr (h _ (List.mem_map.mpr ⟨x, hx, rfl⟩))
def addK (n : Nat) (S : M × LM) (p : Rest) : M × LM := match leastR p.1 p.2 with
  | none => S
  | some c => if c.2.2 = zeros n then (put S.1 (zeros n) (-1), S.2) else (S.1, put S.2 c true)
abbrev lOv : Ev := (dLc (iSeq (dOp2 opAdd (dTup (dCons (dVar 6) dNil)) (dB fTuple (dCons (dVar 7) dNil)))) [13] (gtName 13) dYes (dOp2 opMod (dVar 13) (dVar 10)))
abbrev lRs : Ev := (dLc (iSeq (dSl opSl (dVar 11) (some (dC (.int 1))) none)) [13] (gtName 13) dYes (dOp2 opFdiv (dVar 13) (dVar 8)))
abbrev k1 : Sv := dSet 11 lOv
abbrev k2 : Sv := (dSet 8 (dCall [false] d__law_gcd (dCons (dOp2 opAdd (dLst (dCons (dVar 10) dNil)) (dVar 11)) dNil)))
abbrev g1 : Ev := (dOp2 opGt (dOp2 opFdiv (dVar 10) (dVar 8)) (dC (.int 1)))
abbrev k3 : Sv := (dIfS (dAndT g1 (dOp2 opEq (dB fMax1 (dCons (dOp2 opAdd (dLst (dCons (dC (.int 0)) dNil)) (dSl opSl (dVar 11) (some (dC (.int 1))) none)) dNil)) (dC (.int 0))))
      (dStore 3 (dVar 5) (dOp1 opNeg (dC (.int 1))))
      (dIfS g1
      (dStore 4 (dTup (dCons (dOp2 opFdiv (dVar 10) (dVar 8)) (dCons (dTup (dCons (dOp2 opFdiv (dOp2 opIx (dVar 11) (dC (.int 0))) (dVar 8)) (dCons (dB fTuple (dCons lRs dNil)) dNil))) dNil))) (dC (.bl true)))
      (fun ρ => .nx ρ)))
section
variable {n : Nat} {ls rs : D} {S : M × LM} {x8 x9 x11 : Slot} {m : Int} {r : Row}
abbrev E4 (n : Nat) (ls rs : D) (S : M × LM) (m : Int) (r : Row) (x8 x9 x11 : Slot) : DL.Env := E3 n ls rs S.1 S.2 (.val (.int r.1)) (.val (intsT r.2)) x8 x9 (.val (.int m)) x11 .non .non
theorem k1_spec (h0 : 0 < m) (hl : r.2.length ≤ 1000) (h11 : NB x11) : k1 (E4 n ls rs S m r x8 x9 x11) = .nx (E4 n ls rs S m r x8 x9 (.own (.lst ((overs m r).map .int)))) := by
  let ρ := E4 n ls rs S m r x8 x9 x11
  have it : iSeq (dOp2 opAdd (dTup (dCons (dVar 6) dNil)) (dB fTuple (dCons (dVar 7) dNil))) ρ = .ok ((r.1 :: r.2).map .int) ρ := by
    have : 1 + r.2.length ≤ sizeLine := by rw [sizeLine_eq]; omega
    have t : fTuple [intsT r.2] = some (.val (intsT r.2)) := rfl
    have ad : opAdd (.tup [.int r.1]) (intsT r.2) = some (.val (.tup ((r.1 :: r.2).map .int))) := by
      show (if [D.int r.1].length + (r.2.map D.int).length ≤ sizeLine then some (RV.val (.tup ([D.int r.1] ++ r.2.map D.int))) else none) = _
      rw [if_pos (by rw [List.length_map, List.length_singleton]; exact this)]
      rfl
    simp [ρ, t, ad]
  have go : compGo [13] (gtName 13) dYes (dOp2 opMod (dVar 13) (dVar 10)) ((r.1 :: r.2).map .int) ρ = some ((overs m r).map .int, ρ) :=
    compGo_ints (fun x => x % m) (r.1 :: r.2) fun p _ => ⟨E3 n ls rs S.1 S.2 (.val (.int r.1)) (.val (intsT r.2)) x8 x9 (.val (.int m)) x11 .non (.val (.int p)), rfl, ⟨.val (.int (p % m)), by simp [h0], rfl⟩, rfl⟩
  have lc : lOv ρ = .ok (.new (.lst ((overs m r).map .int))) ρ := by
    unfold lOv
    rw [s_dLc, it]
    dsimp only
    rw [if_pos ⟨rfl, by rw [List.length_map, List.length_cons]; omega⟩]
    show (match compGo _ _ _ _ _ ρ with | some (ys, ρ2) => ER.ok (.new (.lst ys)) (restE ρ2 _ [13]) | none => .no) = _
    rw [go]
    rfl
  show dSet 11 lOv ρ = _
  rw [dSet_ap, lc]
  show SR.of (setV ρ 11 (.own _)) = _
  rw [show setV ρ 11 (.own (.lst ((overs m r).map .int))) = some (E4 n ls rs S m r x8 x9 (.own (.lst ((overs m r).map .int)))) from setV_nb rfl h11]
  rfl
theorem k2_spec (h0 : 0 < m) (h1 : m < 40) (hl : r.2.length ≤ 1000) (h8 : NB x8) : k2 (E4 n ls rs S m r x8 x9 (.own (.lst ((overs m r).map .int)))) = .nx (E4 n ls rs S m r (.val (.int (GR m r))) x9 (.own (.lst ((overs m r).map .int)))) := by
  have sm := overs_small (r := r) h0 h1
  have ln : (overs m r).length = r.2.length + 1 := by unfold overs; rw [List.length_map, List.length_cons]
  have le2 : 1 + (overs m r).length ≤ sizeLine := by rw [ln, sizeLine_eq]; omega
  have e2 : d__law_gcd [.lst (.int m :: (overs m r).map .int)] = .ok (.val (.int (GR m r))) [.lst (.int m :: (overs m r).map .int)] := law_gcd_spec (ps := m :: overs m r) rfl (small64 sm)
  have s : ∀ d, setV (E4 n ls rs S m r x8 x9 (.own (.lst ((overs m r).map .int)))) 8 (.val d) = some (E4 n ls rs S m r (.val d) x9 (.own (.lst ((overs m r).map .int)))) := fun d => setV_nb rfl h8
  unfold k2
  simp [-s_setV, le2, e2, s]
theorem k3_spec (hn : r.2.length = n) (hn' : n ≤ 1000) (hm : S.1.length < 1000) (hL : S.2.length < 1000) (h0 : 0 < m) (h1 : m < 40) : k3 (E4 n ls rs S m r (.val (.int (GR m r))) x9 (.own (.lst ((overs m r).map .int)))) = .nx (E4 n ls rs (addK n S (m, r)) m r (.val (.int (GR m r))) x9 (.own (.lst ((overs m r).map .int)))) := by
  have sm := overs_small (r := r) h0 h1
  have sg : GR m r < 40 := G_small sm
  have pg : 0 < GR m r := GR_pos h0
  have c1 : CDiv m (GR m r) = True := by rw [CDiv_ap]; simp only [eq_iff_iff, iff_true]; omega
  have c2 : CDiv (r.1 % m) (GR m r) = True := by rw [CDiv_ap]; simp only [eq_iff_iff, iff_true]; omega
  let ρ := E4 n ls rs S m r (.val (.int (GR m r))) x9 (.own (.lst ((overs m r).map .int)))
  have eg : g1 ρ = .ok (.val (.bl (!decide (m = (GR m r : Int))))) ρ := by
    rw [← div_one h0 pg GR_dvd]
    unfold g1
    simp [ρ, c1]
  have cut : cutD ((overs m r).map .int) (some 1) none = (r.2.map fun p => p % m).map .int := cut_after _ 1
  have ix0 : opIx (.lst ((overs m r).map .int)) (.int 0) = some (.val (.int (r.1 % m))) := by simp [overs, atI_zero]
  show k3 ρ = _
  by_cases hg : m = (GR m r : Int)
  · have o : leastR m r = none := by unfold leastR; rw [if_pos hg]
    have a : addK n S (m, r) = S := by unfold addK; rw [o]
    rw [a]
    rw [decide_eq_true hg] at eg
    unfold k3
    rw [dIfS_ap, dAndT_ap, eg, two_bl, if_neg (by decide), ifS_bl, if_neg (by decide), dIfS_ap, eg, ifS_bl, if_neg (by decide)]
  · have o : leastR m r = some (cutR m r) := by unfold leastR; rw [if_neg hg]
    rw [decide_eq_false hg] at eg
    have mx := fMax1_ints (r.2.map fun p => p % m)
    have nn : ∀ p ∈ r.2.map (fun p => p % m), 0 ≤ p := fun p hp => by
      obtain ⟨x, _, rfl⟩ := List.mem_map.mp hp
      exact Int.emod_nonneg x (by omega)
    have z := max_zero (r.2.map fun p => p % m) 0 (by omega) nn
    have ad : opAdd (.lst [.int 0]) (.lst ((r.2.map fun p => p % m).map .int)) = some (.new (.lst (.int 0 :: (r.2.map fun p => p % m).map .int))) := by
      rw [opAdd_lst, if_pos (by rw [List.length_map, List.length_map, List.length_singleton, sizeLine_eq]; omega)]
      rfl
    have cz := cut_zero (n := n) (m := m) (r := r) h0 hn
    by_cases hz : (cutR m r).2.2 = zeros n
    · have a : addK n S (m, r) = (put S.1 (zeros n) (-1), S.2) := by unfold addK; rw [o]; dsimp only; rw [if_pos hz]
      have al : (r.2.map fun p => p % m).foldl max 0 = 0 := by
        refine of_decide_eq_true (p := (r.2.map fun p => p % m).foldl max 0 = 0) ?_
        rw [z]
        simp only [decide_true, Bool.true_and, List.all_eq_true, decide_eq_true_eq]
        exact cz.mp hz
      rw [a]
      rw [al] at mx
      have q : dOp2 opEq (dB fMax1 (dCons (dOp2 opAdd (dLst (dCons (dC (.int 0)) dNil)) (dSl opSl (dVar 11) (some (dC (.int 1))) none)) dNil)) (dC (.int 0)) ρ = .ok (.val (.bl true)) ρ := by
        simp [ρ, cut, -List.map_map, -opAdd_lst, ad, mx]
      unfold k3
      rw [dIfS_ap, dAndT_ap, eg, two_bl, if_pos (by rfl), q, ifS_bl, if_pos rfl]
      exact st3 hm
    · have a : addK n S (m, r) = (S.1, put S.2 (cutR m r) true) := by unfold addK; rw [o]; dsimp only; rw [if_neg hz]
      have al : ¬ ((r.2.map fun p => p % m).foldl max 0 = 0) := by
        intro e
        rw [decide_eq_true e] at z
        simp only [decide_true, Bool.true_and] at z
        refine hz (cz.mpr fun p hp => ?_)
        exact of_decide_eq_true (List.all_eq_true.mp z.symm p hp)
      rw [a]
      have q : dOp2 opEq (dB fMax1 (dCons (dOp2 opAdd (dLst (dCons (dC (.int 0)) dNil)) (dSl opSl (dVar 11) (some (dC (.int 1))) none)) dNil)) (dC (.int 0)) ρ = .ok (.val (.bl false)) ρ := by
        simp [ρ, cut, -List.map_map, -opAdd_lst, ad, mx, al]
      have e3 : lRs ρ = .ok (.new (.lst ((r.2.map fun p => p % m / (GR m r : Int)).map .int))) ρ := by
        have it : iSeq (dSl opSl (dVar 11) (some (dC (.int 1))) none) ρ = .ok ((r.2.map fun p => p % m).map .int) ρ := by
          simp [ρ, cut, -List.map_map]
        have go : compGo [13] (gtName 13) dYes (dOp2 opFdiv (dVar 13) (dVar 8)) ((r.2.map fun p => p % m).map .int) ρ = some (((r.2.map fun p => p % m).map fun p => p / (GR m r : Int)).map .int, ρ) :=
          compGo_ints (fun x => x / (GR m r : Int)) _ fun p _ => ⟨E3 n ls rs S.1 S.2 (.val (.int r.1)) (.val (intsT r.2)) (.val (.int (GR m r))) x9 (.val (.int m)) (.own (.lst ((overs m r).map .int))) .non (.val (.int p)), rfl, ⟨.val (.int (p / (GR m r : Int))), by
            have c : CDiv p (GR m r) = True := by rw [CDiv_ap]; simp only [eq_iff_iff, iff_true]; omega
            simp [c], rfl⟩, rfl⟩
        unfold lRs
        rw [s_dLc, it]
        dsimp only
        rw [if_pos ⟨rfl, by rw [List.length_map, List.length_map]; omega⟩]
        show (match compGo _ _ _ _ _ ρ with | some (ys, ρ2) => ER.ok (.new (.lst ys)) (restE ρ2 _ [13]) | none => .no) = _
        rw [go, show ((r.2.map fun p => p % m).map fun p => p / (GR m r : Int)) = r.2.map fun p => p % m / (GR m r : Int) from List.map_map]
        rfl
      have st : stored (lD S.2) (restD (cutR m r)) (.bl true) = some (lD (put S.2 (cutR m r) true)) := stored_put isRestKey S.2 (cutR m r) true hL
      rw [show restD (cutR m r) = .tup [.int (m / (GR m r : Int)), .tup [.int (r.1 % m / (GR m r : Int)), .tup ((r.2.map fun p => p % m / (GR m r : Int)).map .int)]] from rfl] at st
      unfold k3
      rw [dIfS_ap, dAndT_ap, eg, two_bl, if_pos (by rfl), q, ifS_bl, if_neg (by decide), dIfS_ap, eg, ifS_bl, if_pos (by rfl)]
      simp only [ρ] at e3
      simp [ρ, -s_dLc, -List.map_map, -opIx_lst, c1, c2, ix0, e3, st]
theorem addK_len (n : Nat) (S : M × LM) (p : Rest) : (addK n S p).1.length ≤ S.1.length + 1 ∧ (addK n S p).2.length ≤ S.2.length + 1 := by
  unfold addK
  split
  · exact ⟨Nat.le_succ _, Nat.le_succ _⟩
  · split
    · exact ⟨put_length _ _ _, Nat.le_succ _⟩
    · exact ⟨Nat.le_succ _, put_length _ _ _⟩
theorem kGo (hn : n ≤ 1000) : ∀ (l : List Rest) (S : M × LM) (x6 x7 x8 x9 x10 x11 : Slot), Rests n l → S.1.length + l.length < 1000 → S.2.length + l.length < 1000 → NB x6 → NB x7 → NB x8 → NW x9 → NB x10 → NB x11 → ∃ x6' x7' x8' x10' x11', forGo (gtTup 2 (gtCons (gtName 10) (gtCons (gtTup 2 (gtCons (gtName 6) (gtCons (gtName 7) gtNil))) gtNil))) (dSeq k1 (dSeq k2 k3)) (l.map restD) (E3 n ls rs S.1 S.2 x6 x7 x8 x9 x10 x11 .non .non) = .nx (E3 n ls rs (l.foldl (addK n) S).1 (l.foldl (addK n) S).2 x6' x7' x8' x9 x10' x11' .non .non)
  | [], S, x6, x7, x8, x9, x10, x11, _, _, _, _, _, _, _, _, _ => ⟨x6, x7, x8, x10, x11, rfl⟩
  | (m, r) :: l, S, x6, x7, x8, x9, x10, x11, hr, hF, hL, h6, h7, h8, h9, h10, h11 => by
    rw [List.length_cons] at hF hL
    obtain ⟨m0, m1, ok⟩ := hr (m, r) List.mem_cons_self
    have g := addK_len n S (m, r)
    obtain ⟨y6, y7, y8, y10, y11, e2⟩ := kGo hn l (addK n S (m, r)) (.val (.int r.1)) (.val (intsT r.2)) (.val (.int (GR m r))) x9 (.val (.int m)) (.own (.lst ((overs m r).map .int))) (fun p h => hr p (List.mem_cons_of_mem _ h)) (by omega) (by omega) (nb_val _) (nb_val _) (nb_val _) h9 (nb_val _) (nb_own _)
    refine ⟨y6, y7, y8, y10, y11, ?_⟩
    have e0 : gtTup 2 (gtCons (gtName 10) (gtCons (gtTup 2 (gtCons (gtName 6) (gtCons (gtName 7) gtNil))) gtNil)) (restD (m, r)) (E3 n ls rs S.1 S.2 x6 x7 x8 x9 x10 x11 .non .non) = some (E4 n ls rs S m r x8 x9 x11) := by
      have s0 : setV (E3 n ls rs S.1 S.2 x6 x7 x8 x9 x10 x11 .non .non) 10 (.val (.int m)) = some (E3 n ls rs S.1 S.2 x6 x7 x8 x9 (.val (.int m)) x11 .non .non) := setV_nb rfl h10
      have s1 : setV (E3 n ls rs S.1 S.2 x6 x7 x8 x9 (.val (.int m)) x11 .non .non) 6 (.val (.int r.1)) = some (E3 n ls rs S.1 S.2 (.val (.int r.1)) x7 x8 x9 (.val (.int m)) x11 .non .non) := setV_nb rfl h6
      have s2 : setV (E3 n ls rs S.1 S.2 (.val (.int r.1)) x7 x8 x9 (.val (.int m)) x11 .non .non) 7 (.val (intsT r.2)) = some (E4 n ls rs S m r x8 x9 x11) := setV_nb rfl h7
      simp [-s_setV, restD, rowD, s0, s1, s2]
    rw [List.map_cons]
    unfold forGo
    rw [e0]
    dsimp only
    have e1 : dSeq k1 (dSeq k2 k3) (E4 n ls rs S m r x8 x9 x11) = .nx (E4 n ls rs (addK n S (m, r)) m r (.val (.int (GR m r))) x9 (.own (.lst ((overs m r).map .int)))) := by
      show (k1 _).bind _ = _
      rw [k1_spec m0 (by rw [ok.1]; exact hn) h11]
      show (k2 _).bind _ = _
      rw [k2_spec m0 m1 (by rw [ok.1]; exact hn) h8]
      exact k3_spec ok.1 hn (by omega) (by omega) m0 m1
    rw [e1]
    exact e2
theorem addL_nodup {n : Nat} {m : M} {r : Row} (h : (m.map (·.1)).Nodup) : ((addL n m r).map (·.1)).Nodup := by
  unfold addL
  split
  · exact put_nodup h _ _
  · split
    · exact put_nodup h _ _
    · exact h
theorem foldL_nodup {n : Nat} : ∀ (l : List Row) {m : M}, (m.map (·.1)).Nodup → ((l.foldl (addL n) m).map (·.1)).Nodup
  | [], m, h => h
  | r :: l, m, h => foldL_nodup l (addL_nodup h)
theorem addK_nodup {n : Nat} {S : M × LM} {p : Rest} (h : (S.1.map (·.1)).Nodup) (h2 : (S.2.map (·.1)).Nodup) : ((addK n S p).1.map (·.1)).Nodup ∧ ((addK n S p).2.map (·.1)).Nodup := by
  unfold addK
  split
  · exact ⟨h, h2⟩
  · split
    · exact ⟨put_nodup h _ _, h2⟩
    · exact ⟨h, put_nodup h2 _ _⟩
theorem foldK_nodup {n : Nat} : ∀ (l : List Rest) {S : M × LM}, (S.1.map (·.1)).Nodup → (S.2.map (·.1)).Nodup → ((l.foldl (addK n) S).1.map (·.1)).Nodup ∧ ((l.foldl (addK n) S).2.map (·.1)).Nodup
  | [], S, h, h2 => ⟨h, h2⟩
  | r :: l, S, h, h2 => by
    have := addK_nodup (n := n) (p := r) h h2
    exact foldK_nodup l this.1 this.2
theorem never_act (n : Nat) : act (-1, zeros n) = false := by
  have : G (zeros n) = 0 := by
    unfold G
    induction n with
    | zero => rfl
    | succ n ih => show GG (Nat.gcd 0 0) (zeros n) = 0; exact ih
  unfold act
  rw [this]
  rfl
theorem addL_never (n : Nat) (m : M) : addL n m (-1, zeros n) = put m (zeros n) (-1) := by
  unfold addL
  rw [never_act]
  rfl
/-- the two ways are one -/
theorem two_ways {n : Nat} (m0 : M) : ∀ (q : List Rest) (F : List Row) (L : LM), q.foldl (addK n) (F.foldl (addL n) m0, L) = ((q.foldl (addR n) (F, L)).1.foldl (addL n) m0, (q.foldl (addR n) (F, L)).2)
  | [], F, L => rfl
  | p :: q, F, L => by
    rw [List.foldl_cons, List.foldl_cons]
    have e : addK n (F.foldl (addL n) m0, L) p = ((addR n (F, L) p).1.foldl (addL n) m0, (addR n (F, L) p).2) := by
      unfold addK addR
      cases leastR p.1 p.2 with
      | none => rfl
      | some c =>
        dsimp only
        split
        · rw [List.foldl_append, List.foldl_cons, List.foldl_nil, addL_never]
        · rfl
    rw [e]
    exact two_ways m0 q _ _
end
end K19

/-! law_k19: _law_least and made_system give one thing. -/
namespace K19
open PySem PySem.Spec L2 DL PySem.W
abbrev kRow : Ev := (dTup (dCons (dOp2 opIx (dVar 3) (dVar 9)) (dCons (dVar 9) dNil)))
abbrev kAll : Ev := (orE (dLcK 3 [9] (gtName 9) dYes kRow) (orE (dLcD .keys 3 [9] (gtName 9) dYes kRow) (dLc (iSeq (dVar 3)) [9] (gtName 9) dYes kRow)))
section
variable {n : Nat} {ls rs : D} {m : M} {L : LM} {x6 x7 x8 x9 x10 x11 : Slot}
abbrev E3v (n : Nat) (ls rs : D) (m : M) (L : LM) (x6 x7 x8 x9 x10 x11 x12 x13 : Slot) : DL.Env := [.val (.int n), .val ls, .val rs, .val (mD m), .own (lD L), .val (intsT (zeros n)), x6, x7, x8, x9, x10, x11, x12, x13]
theorem keys_spec (hm : m.length ≤ 1000) (nd : (m.map (·.1)).Nodup) (h9 : NW x9) : kAll (E3 n ls rs m L x6 x7 x8 x9 x10 x11 .non .non) = .ok (.new (.lst ((rowsOf m).map rowD))) (E3v n ls rs m L x6 x7 x8 x9 x10 x11 .non .non) := by
  have idl : idle (E3v n ls rs m L x6 x7 x8 x9 x10 x11 .non .non) [9] = true := by
    show (!x9.owns && true) = true
    rw [h9]; rfl
  cases m with
  | nil =>
    have e1 : dLcK 3 [9] (gtName 9) dYes kRow (E3 n ls rs [] L x6 x7 x8 x9 x10 x11 .non .non) = .no := rfl
    have e2 : dLcD .keys 3 [9] (gtName 9) dYes kRow (E3 n ls rs [] L x6 x7 x8 x9 x10 x11 .non .non) = .ok (.new (.lst [])) (E3v n ls rs [] L x6 x7 x8 x9 x10 x11 .non .non) := by
      have it : iDic .keys 3 (E3 n ls rs [] L x6 x7 x8 x9 x10 x11 .non .non) = .ok [] (E3v n ls rs [] L x6 x7 x8 x9 x10 x11 .non .non) := rfl
      unfold dLcD
      rw [s_dLc, it]
      dsimp only
      rw [if_pos ⟨idl, by decide⟩]
      rfl
    unfold kAll orE
    rw [e1]
    dsimp only
    rw [e2]
    rfl
  | cons p m =>
    have go : compGo [9] (gtName 9) dYes kRow ((p :: m).map fun p => intsT p.1) (E3v n ls rs (p :: m) L x6 x7 x8 .non x10 x11 .non .non) = some ((p :: m).map (fun p => rowD (p.2, p.1)), E3v n ls rs (p :: m) L x6 x7 x8 .non x10 x11 .non .non) :=
      compGo_m (p :: m) fun q hq => by
        refine ⟨E3v n ls rs (p :: m) L x6 x7 x8 (.val (intsT q.1)) x10 x11 .non .non, rfl, ⟨.val (rowD (q.2, q.1)), ?_, rfl⟩, rfl⟩
        have g := dctGet_look (vd := D.int) isKey q.1 (p :: m)
        rw [(look_mem nd (a := q.1) (b := q.2)).mpr hq] at g
        have ix : opIx (mD (p :: m)) (intsT q.1) = some (.val (.int q.2)) := by
          show (ixX (.dct ((p :: m).map fun p => intsT p.1) ((p :: m).map fun p => D.int p.2)) (intsT q.1) <|> ixD _ _).map RV.val = _
          have : ixX (.dct ((p :: m).map fun p => intsT p.1) ((p :: m).map fun p => D.int p.2)) (intsT q.1) = some (.int q.2) := by
            show (match kOf (intsT q.1) with | some k => dctGet ((p :: m).map fun (p : List Int × Int) => intsT p.1) ((p :: m).map fun (p : List Int × Int) => D.int p.2) k | none => none) = _
            rw [isKey.of]
            exact g
          rw [this]
          rfl
        have : kRow (E3v n ls rs (p :: m) L x6 x7 x8 (.val (intsT q.1)) x10 x11 .non .non) = .ok (.val (rowD (q.2, q.1))) (E3v n ls rs (p :: m) L x6 x7 x8 (.val (intsT q.1)) x10 x11 .non .non) := by
          unfold kRow
          unfold mD at ix
          simp [ix, rowD]
        rw [this]
        rfl
    have e1 : dLcK 3 [9] (gtName 9) dYes kRow (E3 n ls rs (p :: m) L x6 x7 x8 x9 x10 x11 .non .non) = .ok (.new (.lst ((rowsOf (p :: m)).map rowD))) (E3v n ls rs (p :: m) L x6 x7 x8 x9 x10 x11 .non .non) := by
      have it : iDkt 3 (E3 n ls rs (p :: m) L x6 x7 x8 x9 x10 x11 .non .non) = .ok ((p :: m).map fun p => intsT p.1) (E3v n ls rs (p :: m) L x6 x7 x8 x9 x10 x11 .non .non) := rfl
      unfold dLcK
      rw [s_dLc, it]
      dsimp only
      rw [if_pos ⟨idl, by rw [List.length_map]; omega⟩]
      show offEx (match compGo [9] (gtName 9) dYes kRow ((p :: m).map fun p => intsT p.1) (E3v n ls rs (p :: m) L x6 x7 x8 .non x10 x11 .non .non) with | some (ys, ρ2) => ER.ok (.new (.lst ys)) (restE ρ2 (E3v n ls rs (p :: m) L x6 x7 x8 x9 x10 x11 .non .non) [9]) | none => .no) = _
      rw [go]
      unfold rowsOf
      rw [List.map_map]
      rfl
    unfold kAll orE
    rw [e1]
abbrev lRt : Sv := (dRet (dTup (dCons (dVar 0) (dCons (dB fTuple (dCons (dB fSorted (dCons kAll dNil)) dNil)) (dCons (dB fTuple (dCons (dB fSorted (dCons (dVar 4) dNil)) dNil)) dNil)))))
/-- the system that is due -/
def dueD (n : Nat) (l : List Row) (q : List Rest) : D := sysD n (sortR (rowsOf (madeM n l q))) (sortQ ((madeL n l q).map (·.1)))
theorem law_least_spec {l : List Row} {q : List Rest} (hl : seqOf ls = some (l.map rowD)) (hq : seqOf rs = some (q.map restD)) (hn : n ≤ 1000) (hr : Rows n l) (hs : Rests n q) (l1 : l.length < 300) (l2 : q.length < 300) :
    d__law_least [.int n, ls, rs] = .ok (.val (dueD n l q)) [.int n, ls, rs] := by
  obtain ⟨y6, y7, y8, y9, n6, n7, n8, n9, e1⟩ := lGo (ls := ls) (rs := rs) (L := []) (x10 := .non) (x11 := .non) hn l [] .non .non .non .non hr (by simp; omega) nb_non nb_non nb_non nw_non
  have fl := foldl_length n l []
  obtain ⟨z6, z7, z8, z10, z11, e2⟩ := kGo (ls := ls) (rs := rs) hn q (l.foldl (addL n) [], []) y6 y7 y8 y9 .non .non hs (by simp at fl ⊢; omega) (by simp; omega) n6 n7 n8 n9 nb_non nb_non
  have nd := foldK_nodup (n := n) q (S := (l.foldl (addL n) [], [])) (foldL_nodup l (by simp)) (by simp)
  have ln : (q.foldl (addK n) (l.foldl (addL n) [], [])).1.length ≤ l.length + q.length ∧ (q.foldl (addK n) (l.foldl (addL n) [], [])).2.length ≤ q.length := by
    have : ∀ (q : List Rest) (S : M × LM), (q.foldl (addK n) S).1.length ≤ S.1.length + q.length ∧ (q.foldl (addK n) S).2.length ≤ S.2.length + q.length := by
      intro q
      induction q with
      | nil => intro S; exact ⟨Nat.le_refl _, Nat.le_refl _⟩
      | cons p q ih =>
        intro S
        have h := ih (addK n S p)
        have g := addK_len n S p
        rw [List.foldl_cons, List.length_cons]
        omega
    have h := this q (l.foldl (addL n) [], [])
    simp at fl h ⊢
    omega
  have tw := two_ways (n := n) [] q l []
  rw [tw] at e2 nd ln
  have m1 : (q.foldl (addR n) (l, [])).1.foldl (addL n) [] = madeM n l q := rfl
  have m2 : (q.foldl (addR n) (l, [])).2 = madeL n l q := rfl
  rw [m1, m2] at e2 nd ln
  dsimp only at e2 nd ln
  have e3 := keys_spec (n := n) (ls := ls) (rs := rs) (m := madeM n l q) (L := madeL n l q) (x6 := z6) (x7 := z7) (x8 := z8) (x9 := y9) (x10 := z10) (x11 := z11) (by have := ln.1; omega) nd.1 n9
  have e4 := fSorted_rows (rowsOf (madeM n l q)) (by unfold rowsOf; rw [List.length_map]; have := ln.1; omega)
  have e5 := fSorted_left (madeL n l q) (by have := ln.2; omega)
  have z := opMulA_one (d := .int 0) n hn
  have zt : D.tup (List.replicate n (.int 0)) = intsT (zeros n) := by unfold intsT zeros; rw [List.map_replicate]
  rw [zt] at z
  let env0 : DL.Env := [.val (.int n), .val ls, .val rs, .non, .non, .non, .non, .non, .non, .non, .non, .non, .non, .non]
  have p : dParH [3, 4, 5] [(fun ρ => .ok (.new (.dic [] [])) ρ), (fun ρ => .ok (.new (.dic [] [])) ρ), (dOp2 opMulA (dTup (dCons (dC (.int 0)) dNil)) (dVar 0))] env0 = .nx (E3 n ls rs [] [] .non .non .non .non .non .non .non .non) := by
    simp [env0, z]
    exact ⟨rfl, rfl⟩
  have it1 : iSeq (dVar 1) (E3 n ls rs [] [] .non .non .non .non .non .non .non .non) = .ok (l.map rowD) (E3 n ls rs [] [] .non .non .non .non .non .non .non .non) := by simp [hl]
  have it2 : iSeq (dVar 2) (E3 n ls rs (l.foldl (addL n) []) [] y6 y7 y8 y9 .non .non .non .non) = .ok (q.map restD) (E3 n ls rs (l.foldl (addL n) []) [] y6 y7 y8 y9 .non .non .non .non) := by simp [hq]
  rw [show d__law_least = dDef 14 [false, false, false] (dSeq (dParH [3, 4, 5] [(fun ρ => .ok (.new (.dic [] [])) ρ), (fun ρ => .ok (.new (.dic [] [])) ρ), (dOp2 opMulA (dTup (dCons (dC (.int 0)) dNil)) (dVar 0))]) (dSeq (dFor (iSeq (dVar 1)) (gtTup 2 (gtCons (gtName 6) (gtCons (gtName 7) gtNil))) lB) (dSeq (dFor (iSeq (dVar 2)) (gtTup 2 (gtCons (gtName 10) (gtCons (gtTup 2 (gtCons (gtName 6) (gtCons (gtName 7) gtNil))) gtNil))) (dSeq k1 (dSeq k2 k3))) lRt))) from rfl]
  rw [dDef_run rfl]
  show (match (dSeq (dParH [3, 4, 5] _) (dSeq (dFor (iSeq (dVar 1)) (gtTup 2 (gtCons (gtName 6) (gtCons (gtName 7) gtNil))) lB) (dSeq (dFor (iSeq (dVar 2)) (gtTup 2 (gtCons (gtName 10) (gtCons (gtTup 2 (gtCons (gtName 6) (gtCons (gtName 7) gtNil))) gtNil))) (dSeq k1 (dSeq k2 k3))) lRt))) env0 with
    | .nx ρ => _ | .rt r ρ => _ | .ex x ρ => _ | _ => _) = _
  rw [dSeq_ap, p, sr_bind_nx, dSeq_ap, dFor_ap, it1]
  dsimp only
  rw [e1, sr_bind_nx, dSeq_ap, dFor_ap, it2]
  dsimp only
  rw [show forGo _ (dSeq k1 (dSeq k2 k3)) (q.map restD) (E3 n ls rs (l.foldl (addL n) []) [] y6 y7 y8 y9 .non .non .non .non) = _ from e2, sr_bind_nx]
  unfold lRt
  unfold kAll at e3 ⊢
  simp [-s_orE, e3, e4, e5, dueD, sysD]
end
end K19

/-! law_k19: what is in a least system. -/
namespace K19
open PySem PySem.Spec L2 DL PySem.W
/-! ### greatest common parts -/
theorem GG_zero : ∀ (ps : List Int), (∀ p ∈ ps, p = 0) → GG 0 ps = 0
  | [], _ => rfl
  | p :: ps, h => by
    have := h p List.mem_cons_self
    subst this
    exact GG_zero ps fun q hq => h q (List.mem_cons_of_mem _ hq)
theorem G_one {ps : List Int} (h : 0 < G ps) : G (ps.map fun p => p / (G ps : Int)) = 1 := by
  have d1 : ((G (ps.map fun p => p / (G ps : Int)) * G ps : Nat) : Nat) ∣ G ps := by
    refine dvd_G fun p hp => ?_
    obtain ⟨k, hk⟩ := G_dvd hp
    have : (G (ps.map fun p => p / (G ps : Int)) : Int) ∣ p / (G ps : Int) := G_dvd (List.mem_map.mpr ⟨p, hp, rfl⟩)
    obtain ⟨j, hj⟩ := this
    have e : p / (G ps : Int) = k := by
      have : p / (G ps : Int) = ((G ps : Int) * k) / (G ps : Int) := congrArg (· / (G ps : Int)) hk
      rw [this, Int.mul_ediv_cancel_left k (by omega)]
    rw [e] at hj
    refine ⟨j, ?_⟩
    rw [hk, hj, Int.natCast_mul, ← Int.mul_assoc, Int.mul_comm (G ps : Int)]
  obtain ⟨k, hk⟩ := d1
  have : G (ps.map fun p => p / (G ps : Int)) * k = 1 := by
    have h1 : G ps * 1 = G ps * (G (ps.map fun p => p / (G ps : Int)) * k) := by
      rw [Nat.mul_one, ← Nat.mul_assoc, Nat.mul_comm (G ps)]
      exact hk
    exact (Nat.eq_of_mul_eq_mul_left h h1).symm
  exact Nat.eq_one_of_mul_eq_one_right this
/-! ### what a row adds -/
def con (n : Nat) (r : Row) : Option (List Int × Int) :=
  if act r = true then some (r.2.map fun p => p / (G r.2 : Int), r.1 / (G r.2 : Int)) else if r.1 < 0 then some (zeros n, -1) else none
def C (n : Nat) (F : List Row) (k : List Int) (v : Int) : Prop := ∃ r ∈ F, con n r = some (k, v)
theorem act_pos {r : Row} (h : act r = true) : 0 < G r.2 := by
  unfold act at h
  rw [Bool.and_eq_true] at h
  exact of_decide_eq_true h.1
theorem act_ne {n : Nat} {r : Row} (h : act r = true) : (r.2.map fun p => p / (G r.2 : Int)) ≠ zeros n := by
  intro e
  have hg := act_pos h
  have : G r.2 = 0 := GG_zero r.2 fun p hp => by
    have q : p / (G r.2 : Int) ∈ zeros n := by rw [← e]; exact List.mem_map.mpr ⟨p, hp, rfl⟩
    exact (div_zero hg (G_dvd hp)).mp (List.eq_of_mem_replicate q)
  omega
theorem con_zeros {n : Nat} {r : Row} {v : Int} (h : con n r = some (zeros n, v)) : v = -1 := by
  unfold con at h
  split at h
  · rename_i a
    injection h with h
    injection h with h1 h2
    exact absurd h1 (act_ne a)
  · split at h
    · injection h with h
      injection h with h1 h2
      exact h2.symm
    · cases h
/-- m holds the least of what F adds -/
def Least (n : Nat) (F : List Row) (m : M) : Prop := ∀ k, match look m k with
  | none => ∀ v, ¬ C n F k v
  | some v => C n F k v ∧ ∀ v', C n F k v' → v ≤ v'
theorem C_snoc {n : Nat} {F : List Row} {r : Row} {k : List Int} {v : Int} : C n (F ++ [r]) k v ↔ C n F k v ∨ con n r = some (k, v) := by
  unfold C
  constructor
  · rintro ⟨x, hx, e⟩
    rcases List.mem_append.mp hx with h | h
    · exact .inl ⟨x, h, e⟩
    · rw [List.mem_singleton.mp h] at e; exact .inr e
  · rintro (⟨x, hx, e⟩ | e)
    · exact ⟨x, List.mem_append_left _ hx, e⟩
    · exact ⟨r, List.mem_append_right _ (List.mem_singleton.mpr rfl), e⟩
theorem least_step {n : Nat} {F : List Row} {m : M} {r : Row} (h : Least n F m) : Least n (F ++ [r]) (addL n m r) := by
  intro k
  have hk := h k
  unfold addL
  by_cases a : act r = true
  · rw [if_pos a, look_put]
    have c : con n r = some (r.2.map fun p => p / (G r.2 : Int), r.1 / (G r.2 : Int)) := by unfold con; rw [if_pos a]
    generalize (r.2.map fun p => p / (G r.2 : Int)) = k0 at c ⊢
    generalize r.1 / (G r.2 : Int) = v0 at c ⊢
    by_cases e : k0 = k
    · subst e
      rw [if_pos rfl]
      cases q : look m k0 with
      | none =>
        rw [q] at hk
        dsimp only [Option.getD] at hk ⊢
        rw [if_neg (Int.lt_irrefl _)]
        refine ⟨C_snoc.mpr (.inr c), fun v' hv => ?_⟩
        rcases C_snoc.mp hv with hv | hv
        · exact absurd hv (hk v')
        · rw [c] at hv
          cases hv
          exact Int.le_refl _
      | some x =>
        rw [q] at hk
        dsimp only [Option.getD] at hk ⊢
        by_cases lt : v0 < x
        · rw [if_pos lt]
          refine ⟨C_snoc.mpr (.inr c), fun v' hv => ?_⟩
          rcases C_snoc.mp hv with hv | hv
          · have := hk.2 v' hv; omega
          · rw [c] at hv
            cases hv
            exact Int.le_refl _
        · rw [if_neg lt]
          refine ⟨C_snoc.mpr (.inl hk.1), fun v' hv => ?_⟩
          rcases C_snoc.mp hv with hv | hv
          · exact hk.2 v' hv
          · rw [c] at hv
            cases hv
            omega
    · rw [if_neg e]
      have iff : ∀ v, C n (F ++ [r]) k v ↔ C n F k v := fun v => by
        rw [C_snoc]
        refine ⟨fun z => z.elim id fun z => ?_, .inl⟩
        rw [c] at z
        injection z with z
        injection z with z1 z2
        exact absurd z1 e
      cases q : look m k with
      | none => rw [q] at hk; exact fun v z => hk v ((iff v).mp z)
      | some x => rw [q] at hk; exact ⟨(iff x).mpr hk.1, fun v z => hk.2 v ((iff v).mp z)⟩
  · rw [if_neg a]
    by_cases w : r.1 < 0
    · rw [if_pos w, look_put]
      have c : con n r = some (zeros n, -1) := by unfold con; rw [if_neg a, if_pos w]
      by_cases e : zeros n = k
      · subst e
        rw [if_pos rfl]
        refine ⟨C_snoc.mpr (.inr c), fun v' hv => ?_⟩
        obtain ⟨x, _, hx⟩ := hv
        have := con_zeros hx
        omega
      · rw [if_neg e]
        have iff : ∀ v, C n (F ++ [r]) k v ↔ C n F k v := fun v => by
          rw [C_snoc]
          refine ⟨fun z => z.elim id fun z => ?_, .inl⟩
          rw [c] at z
          injection z with z
          injection z with z1 z2
          exact absurd z1 e
        cases q : look m k with
        | none => rw [q] at hk; exact fun v z => hk v ((iff v).mp z)
        | some x => rw [q] at hk; exact ⟨(iff x).mpr hk.1, fun v z => hk.2 v ((iff v).mp z)⟩
    · rw [if_neg w]
      have c : con n r = none := by unfold con; rw [if_neg a, if_neg w]
      have iff : ∀ v, C n (F ++ [r]) k v ↔ C n F k v := fun v => by
        rw [C_snoc]
        refine ⟨fun z => z.elim id fun z => ?_, .inl⟩
        rw [c] at z
        cases z
      cases q : look m k with
      | none => rw [q] at hk; exact fun v z => hk v ((iff v).mp z)
      | some x => rw [q] at hk; exact ⟨(iff x).mpr hk.1, fun v z => hk.2 v ((iff v).mp z)⟩
theorem least_fold {n : Nat} : ∀ (F2 F1 : List Row) (m : M), Least n F1 m → Least n (F1 ++ F2) (F2.foldl (addL n) m)
  | [], F1, m, h => by rw [List.append_nil]; exact h
  | r :: F2, F1, m, h => by
    have := least_fold F2 (F1 ++ [r]) (addL n m r) (least_step h)
    rw [List.append_assoc] at this
    exact this
theorem least_of (n : Nat) (F : List Row) : Least n F (F.foldl (addL n) []) := by
  have := least_fold (n := n) F [] [] (fun k v h => by obtain ⟨r, hr, _⟩ := h; cases hr)
  exact this
theorem Least.get {n : Nat} {F : List Row} {m : M} (h : Least n F m) {k : List Int} {v : Int} (e : look m k = some v) : C n F k v ∧ ∀ v', C n F k v' → v ≤ v' := by
  have := h k
  rw [e] at this
  exact this
theorem Least.has {n : Nat} {F : List Row} {m : M} (h : Least n F m) {k : List Int} {v : Int} (c : C n F k v) : ∃ x, look m k = some x ∧ x ≤ v := by
  have := h k
  cases e : look m k with
  | none => rw [e] at this; exact absurd c (this v)
  | some x => rw [e] at this; exact ⟨x, rfl, this.2 v c⟩
theorem Least.one {n : Nat} {F F' : List Row} {m m' : M} (h : Least n F m) (h' : Least n F' m') (e : ∀ k v, C n F k v ↔ C n F' k v) (k : List Int) : look m k = look m' k := by
  cases q : look m k with
  | none =>
    cases q' : look m' k with
    | none => rfl
    | some x =>
      have a := (e k x).mpr (h'.get q').1
      obtain ⟨y, hy, _⟩ := h.has a
      rw [q] at hy; cases hy
  | some x =>
    have a := h.get q
    obtain ⟨y, hy, le⟩ := h'.has ((e k x).mp a.1)
    have b := h'.get hy
    have le2 := a.2 y ((e k y).mpr b.1)
    rw [hy, show x = y by omega]
/-! ### one in order -/
theorem toks_row (r : Row) : keyToks (sortKey (rowD r)) = .inl 1 :: .inl r.1 :: .inl 1 :: (keyToksAll (r.2.map PyData.int) ++ [.inl 0]) := by
  have : sortKey (rowD r) = rowP r := by unfold sortKey; rw [py_row]; rfl
  rw [this]
  simp [rowP, keyToks, keyToksAll]
theorem toks_ints_inj : ∀ (a b : List Int) (x y : List (Int ⊕ List Nat)), keyToksAll (a.map PyData.int) ++ x = keyToksAll (b.map PyData.int) ++ y → a = b ∧ x = y
  | [], [], x, y, h => by simp [keyToksAll] at h; exact ⟨rfl, h⟩
  | [], _ :: _, x, y, h => by simp [keyToksAll] at h
  | _ :: _, [], x, y, h => by simp [keyToksAll] at h
  | p :: a, q :: b, x, y, h => by
    simp [keyToksAll, keyToks] at h
    obtain ⟨h1, h2⟩ := h
    obtain ⟨h3, h4⟩ := toks_ints_inj a b x y h2
    exact ⟨by rw [h1, h3], h4⟩
theorem row_inj {a b : Row} (h : keyToks (sortKey (rowD a)) = keyToks (sortKey (rowD b))) : a = b := by
  rw [toks_row, toks_row] at h
  simp only [List.cons.injEq, Sum.inl.injEq, true_and] at h
  obtain ⟨h1, h2⟩ := h
  obtain ⟨h3, _⟩ := toks_ints_inj _ _ _ _ h2
  obtain ⟨a1, a2⟩ := a
  obtain ⟨b1, b2⟩ := b
  simp only at h1 h3
  rw [h1, h3]
theorem rest_inj {a b : Rest} (h : keyToks (sortKey (restD a)) = keyToks (sortKey (restD b))) : a = b := by
  have e : ∀ p : Rest, keyToks (sortKey (restD p)) = .inl 1 :: .inl p.1 :: .inl 1 :: (keyToks (sortKey (rowD p.2)) ++ [.inl 0]) := fun p => by
    have h1 : sortKey (restD p) = restP p := by unfold sortKey; rw [py_rest]; rfl
    have h2 : sortKey (rowD p.2) = rowP p.2 := by unfold sortKey; rw [py_row]; rfl
    rw [h1, h2]
    simp [restP, keyToks, keyToksAll]
  rw [e, e] at h
  simp only [List.cons.injEq, Sum.inl.injEq, true_and] at h
  have h3 := List.append_cancel_right h.2
  obtain ⟨a1, a2⟩ := a
  obtain ⟨b1, b2⟩ := b
  simp only at h h3
  rw [h.1, row_inj h3]
theorem nodup_of_keys {α β : Type} {m : List (α × β)} (h : (m.map (·.1)).Nodup) : m.Nodup := by
  refine List.Pairwise.of_map (fun p : α × β => p.1) (fun a b ne e => ne (by rw [e])) h
theorem rows_perm {m m' : M} (nd : (m.map (·.1)).Nodup) (nd' : (m'.map (·.1)).Nodup) (h : ∀ k, look m k = look m' k) : (rowsOf m).Perm (rowsOf m') := by
  have : m.Perm m' := (List.perm_ext_iff_of_nodup (nodup_of_keys nd) (nodup_of_keys nd')).mpr fun p => by
    rw [← look_mem (a := p.1) (b := p.2) nd, ← look_mem (a := p.1) (b := p.2) nd', h]
  exact this.map _
theorem sort_rows {a b : List Row} (h : a.Perm b) : (sortR a).map rowD = (sortR b).map rowD := by
  rw [← sortD_rows, ← sortD_rows]
  refine sortD_perm (h.map _) fun x hx y hy e => ?_
  obtain ⟨p, _, rfl⟩ := List.mem_map.mp hx
  obtain ⟨q, _, rfl⟩ := List.mem_map.mp hy
  rw [row_inj e]
theorem sort_rests {a b : List Rest} (h : a.Perm b) : (sortQ a).map restD = (sortQ b).map restD := by
  rw [← sortD_rests, ← sortD_rests]
  refine sortD_perm (h.map _) fun x hx y hy e => ?_
  obtain ⟨p, _, rfl⟩ := List.mem_map.mp hx
  obtain ⟨q, _, rfl⟩ := List.mem_map.mp hy
  rw [rest_inj e]
end K19

/-! law_k19: the least system does not depend on the order, and is its own least system. -/
namespace K19
open PySem PySem.Spec L2 DL PySem.W
/-- the rest can never hold -/
def Bad (n : Nat) (p : Rest) : Prop := ∃ c, leastR p.1 p.2 = some c ∧ c.2.2 = zeros n
def Keep (n : Nat) (p c : Rest) : Prop := leastR p.1 p.2 = some c ∧ c.2.2 ≠ zeros n
theorem rows_mem {n : Nat} : ∀ (q : List Rest) (S : List Row × LM) (r : Row), r ∈ (q.foldl (addR n) S).1 ↔ r ∈ S.1 ∨ (r = (-1, zeros n) ∧ ∃ p ∈ q, Bad n p)
  | [], S, r => ⟨.inl, fun h => h.elim id fun h => by obtain ⟨_, p, hp, _⟩ := h; cases hp⟩
  | p :: q, S, r => by
    rw [List.foldl_cons, rows_mem q]
    have st : r ∈ (addR n S p).1 ↔ r ∈ S.1 ∨ (r = (-1, zeros n) ∧ Bad n p) := by
      unfold addR Bad
      cases e : leastR p.1 p.2 with
      | none => exact ⟨.inl, fun h => h.elim id fun h => by obtain ⟨_, c, hc, _⟩ := h; cases hc⟩
      | some c =>
        dsimp only
        by_cases z : c.2.2 = zeros n
        · rw [if_pos z]
          dsimp only
          rw [List.mem_append, List.mem_singleton]
          exact ⟨fun h => h.elim .inl fun h => .inr ⟨h, c, rfl, z⟩, fun h => h.elim .inl fun h => .inr h.1⟩
        · rw [if_neg z]
          exact ⟨.inl, fun h => h.elim id fun h => by obtain ⟨_, c', hc, z'⟩ := h; cases hc; exact absurd z' z⟩
    rw [st]
    constructor
    · rintro ((h | ⟨h, b⟩) | ⟨h, x, hx, b⟩)
      · exact .inl h
      · exact .inr ⟨h, p, List.mem_cons_self, b⟩
      · exact .inr ⟨h, x, List.mem_cons_of_mem _ hx, b⟩
    · rintro (h | ⟨h, x, hx, b⟩)
      · exact .inl (.inl h)
      · rcases List.mem_cons.mp hx with rfl | hx
        · exact .inl (.inr ⟨h, b⟩)
        · exact .inr ⟨h, x, hx, b⟩
theorem put_keys {α β : Type} [DecidableEq α] (m : List (α × β)) (a : α) (b : β) (c : α) : c ∈ (put m a b).map (·.1) ↔ c = a ∨ c ∈ m.map (·.1) := by
  unfold put
  split
  · rename_i h
    rw [tell_keys]
    refine ⟨.inr, fun z => z.elim (fun e => ?_) id⟩
    subst e
    cases q : look m c with
    | none => rw [q] at h; cases h
    | some x =>
      refine Decidable.byContradiction fun ne => ?_
      rw [look_none.mpr ne] at q
      cases q
  · rw [List.map_append, List.mem_append, List.map_cons, List.map_nil, List.mem_singleton]
    exact ⟨fun z => z.elim .inr .inl, fun z => z.elim .inr .inl⟩
theorem left_mem {n : Nat} : ∀ (q : List Rest) (S : List Row × LM) (c : Rest), c ∈ (q.foldl (addR n) S).2.map (·.1) ↔ c ∈ S.2.map (·.1) ∨ ∃ p ∈ q, Keep n p c
  | [], S, c => ⟨.inl, fun h => h.elim id fun h => by obtain ⟨p, hp, _⟩ := h; cases hp⟩
  | p :: q, S, c => by
    rw [List.foldl_cons, left_mem q]
    have st : c ∈ (addR n S p).2.map (·.1) ↔ c ∈ S.2.map (·.1) ∨ Keep n p c := by
      unfold addR Keep
      cases e : leastR p.1 p.2 with
      | none => exact ⟨.inl, fun h => h.elim id fun h => by cases h.1⟩
      | some d =>
        dsimp only
        by_cases z : d.2.2 = zeros n
        · rw [if_pos z]
          exact ⟨.inl, fun h => h.elim id fun h => by obtain ⟨hc, z'⟩ := h; cases hc; exact absurd z z'⟩
        · rw [if_neg z]
          dsimp only
          rw [put_keys]
          constructor
          · rintro (rfl | h)
            · exact .inr ⟨rfl, z⟩
            · exact .inl h
          · rintro (h | ⟨h, _⟩)
            · exact .inr h
            · cases h; exact .inl rfl
    rw [st]
    constructor
    · rintro ((h | h) | ⟨x, hx, b⟩)
      · exact .inl h
      · exact .inr ⟨p, List.mem_cons_self, h⟩
      · exact .inr ⟨x, List.mem_cons_of_mem _ hx, b⟩
    · rintro (h | ⟨x, hx, b⟩)
      · exact .inl (.inl h)
      · rcases List.mem_cons.mp hx with rfl | hx
        · exact .inl (.inr b)
        · exact .inr ⟨x, hx, b⟩
theorem addR_nodup {n : Nat} {S : List Row × LM} {p : Rest} (h : (S.2.map (·.1)).Nodup) : ((addR n S p).2.map (·.1)).Nodup := by
  unfold addR
  split
  · exact h
  · split
    · exact h
    · exact put_nodup h _ _
theorem foldR_nodup {n : Nat} : ∀ (q : List Rest) {S : List Row × LM}, (S.2.map (·.1)).Nodup → ((q.foldl (addR n) S).2.map (·.1)).Nodup
  | [], S, h => h
  | r :: l, S, h => foldR_nodup l (addR_nodup h)
def allF (n : Nat) (l : List Row) (q : List Rest) : List Row := (q.foldl (addR n) (l, [])).1
theorem made_least (n : Nat) (l : List Row) (q : List Rest) : Least n (allF n l q) (madeM n l q) := least_of n _
theorem madeM_nodup (n : Nat) (l : List Row) (q : List Rest) : ((madeM n l q).map (·.1)).Nodup := foldL_nodup _ (by simp)
theorem madeL_nodup (n : Nat) (l : List Row) (q : List Rest) : ((madeL n l q).map (·.1)).Nodup := foldR_nodup q (by simp)
theorem allF_mem {n : Nat} {l : List Row} {q : List Rest} {r : Row} : r ∈ allF n l q ↔ r ∈ l ∨ (r = (-1, zeros n) ∧ ∃ p ∈ q, Bad n p) := rows_mem q _ r
theorem madeL_mem {n : Nat} {l : List Row} {q : List Rest} {c : Rest} : c ∈ (madeL n l q).map (·.1) ↔ ∃ p ∈ q, Keep n p c := by
  unfold madeL
  rw [left_mem]
  exact ⟨fun h => h.elim (fun h => by cases h) id, .inr⟩
/-- two systems of the same rows and rests have one least system -/
theorem due_same {n : Nat} {l l' : List Row} {q q' : List Rest} (h1 : ∀ k v, C n (allF n l q) k v ↔ C n (allF n l' q') k v) (h2 : ∀ c, (∃ p ∈ q, Keep n p c) ↔ ∃ p ∈ q', Keep n p c) : dueD n l q = dueD n l' q' := by
  have a := sort_rows (rows_perm (madeM_nodup n l q) (madeM_nodup n l' q') ((made_least n l q).one (made_least n l' q') h1))
  have p : ((madeL n l q).map (·.1)).Perm ((madeL n l' q').map (·.1)) := (List.perm_ext_iff_of_nodup (madeL_nodup n l q) (madeL_nodup n l' q')).mpr fun c => by rw [madeL_mem, madeL_mem, h2]
  have b := sort_rests p
  unfold dueD sysD
  rw [a, b]
theorem due_reverse (n : Nat) (l : List Row) (q : List Rest) : dueD n l.reverse q.reverse = dueD n l q := by
  refine due_same (fun k v => ?_) (fun c => ?_)
  · unfold C
    constructor
    · rintro ⟨r, hr, e⟩
      refine ⟨r, ?_, e⟩
      rw [allF_mem] at hr ⊢
      simpa using hr
    · rintro ⟨r, hr, e⟩
      refine ⟨r, ?_, e⟩
      rw [allF_mem] at hr ⊢
      simpa using hr
  · simp
/-! ### its own least system -/
def dueR (n : Nat) (l : List Row) (q : List Rest) : List Row := sortR (rowsOf (madeM n l q))
def dueQ (n : Nat) (l : List Row) (q : List Rest) : List Rest := sortQ ((madeL n l q).map (·.1))
theorem dueD_eq (n : Nat) (l : List Row) (q : List Rest) : dueD n l q = sysD n (dueR n l q) (dueQ n l q) := rfl
theorem dueR_mem {n : Nat} {l : List Row} {q : List Rest} {r : Row} : r ∈ dueR n l q ↔ look (madeM n l q) r.2 = some r.1 := by
  rw [look_mem (madeM_nodup n l q)]
  unfold dueR sortR
  rw [List.mem_mergeSort]
  unfold rowsOf
  rw [List.mem_map]
  constructor
  · rintro ⟨p, hp, rfl⟩; exact hp
  · intro h; exact ⟨(r.2, r.1), h, rfl⟩
theorem dueQ_mem {n : Nat} {l : List Row} {q : List Rest} {c : Rest} : c ∈ dueQ n l q ↔ ∃ p ∈ q, Keep n p c := by
  unfold dueQ sortQ
  rw [List.mem_mergeSort, madeL_mem]
theorem con_again {n : Nat} {r : Row} {k : List Int} {v : Int} (h : con n r = some (k, v)) : con n (v, k) = some (k, v) := by
  unfold con at h
  split at h
  · rename_i a
    injection h with h
    injection h with h1 h2
    subst h1 h2
    have hg := act_pos a
    have g1 : G (r.2.map fun p => p / (G r.2 : Int)) = 1 := G_one hg
    have a2 : act (r.1 / (G r.2 : Int), r.2.map fun p => p / (G r.2 : Int)) = true := by
      unfold act at a ⊢
      dsimp only
      rw [g1]
      rw [Bool.and_eq_true, Bool.or_eq_true] at a
      have neg : ∀ x : Int, x < 0 → x / (G r.2 : Int) < 0 := fun x hx => Int.ediv_neg_of_neg_of_pos hx (by omega)
      rw [Bool.and_eq_true, Bool.or_eq_true]
      refine ⟨rfl, a.2.imp (fun w => ?_) fun w => ?_⟩
      · exact decide_eq_true (neg _ (of_decide_eq_true w))
      · obtain ⟨p, hp, hp2⟩ := List.any_eq_true.mp w
        exact List.any_eq_true.mpr ⟨_, List.mem_map.mpr ⟨p, hp, rfl⟩, decide_eq_true (neg _ (of_decide_eq_true hp2))⟩
    unfold con
    rw [if_pos a2]
    dsimp only
    rw [g1]
    simp
  · split at h
    · injection h with h
      injection h with h1 h2
      subst h1 h2
      unfold con
      rw [never_act, if_neg (by decide), if_pos (by show (-1 : Int) < 0; decide)]
    · cases h
theorem keep_again {n : Nat} {p c : Rest} (h0 : 0 < p.1) (h : Keep n p c) : Keep n c c := by
  obtain ⟨h1, h2⟩ := h
  refine ⟨?_, h2⟩
  unfold leastR at h1
  split at h1
  · cases h1
  · rename_i hne
    injection h1 with h1
    subst h1
    obtain ⟨m, r⟩ := p
    dsimp only at h0 hne ⊢
    have hg : 0 < GR m r := GR_pos h0
    have hd : (GR m r : Int) ∣ m := GR_dvd
    have mp : 0 < m / (GR m r : Int) := Int.ediv_pos_of_pos_of_dvd h0 (by omega) hd
    -- the numbers stay
    have stay : ∀ x : Int, x % m / (GR m r : Int) % (m / (GR m r : Int)) = x % m / (GR m r : Int) := fun x => by
      have a1 := Int.emod_nonneg x (b := m) (by omega)
      have a2 := Int.emod_lt_of_pos x h0
      refine Int.emod_eq_of_lt (Int.ediv_nonneg a1 (by omega)) ?_
      refine Int.ediv_lt_of_lt_mul (by omega) ?_
      rw [Int.ediv_mul_cancel hd]
      exact a2
    have ov : overs (cutR m r).1 (cutR m r).2 = (overs m r).map fun x => x / (GR m r : Int) := by
      unfold overs cutR
      dsimp only
      rw [List.map_cons, List.map_cons, List.map_cons, stay, List.map_map, List.map_map]
      congr 1
      refine List.map_congr_left fun x _ => ?_
      exact stay x
    have g1 : GR (cutR m r).1 (cutR m r).2 = 1 := by
      have e : G ((m :: overs m r).map fun x => x / (GR m r : Int)) = 1 := G_one (ps := m :: overs m r) hg
      unfold GR
      rw [ov]
      exact e
    have ne : ¬ (cutR m r).1 = (GR (cutR m r).1 (cutR m r).2 : Int) := by
      rw [g1]
      intro e
      have e' : m / (GR m r : Int) = 1 := e
      obtain ⟨k, hk⟩ := hd
      have : m / (GR m r : Int) = k := by
        have : m / (GR m r : Int) = ((GR m r : Int) * k) / (GR m r : Int) := congrArg (· / (GR m r : Int)) hk
        rw [this, Int.mul_ediv_cancel_left k (by omega)]
      rw [e'] at this
      rw [← this, Int.mul_one] at hk
      exact hne hk
    show leastR (cutR m r).1 (cutR m r).2 = _
    unfold leastR
    rw [if_neg ne]
    congr 1
    show ((cutR m r).1 / (GR (cutR m r).1 (cutR m r).2 : Int), ((cutR m r).2.1 % (cutR m r).1 / (GR (cutR m r).1 (cutR m r).2 : Int), (cutR m r).2.2.map fun p => p % (cutR m r).1 / (GR (cutR m r).1 (cutR m r).2 : Int))) = cutR m r
    rw [g1]
    have s1 : (cutR m r).2.1 % (cutR m r).1 = (cutR m r).2.1 := stay r.1
    have s2 : ((cutR m r).2.2.map fun p => p % (cutR m r).1 / ((1 : Nat) : Int)) = (cutR m r).2.2 := by
      unfold cutR
      dsimp only
      rw [List.map_map]
      refine List.map_congr_left fun x _ => ?_
      show x % m / (GR m r : Int) % (m / (GR m r : Int)) / ((1 : Nat) : Int) = _
      rw [stay]
      simp
    rw [s1, s2]
    simp
theorem due_again {n : Nat} {l : List Row} {q : List Rest} (hq : ∀ p ∈ q, 0 < p.1) : dueD n (dueR n l q) (dueQ n l q) = dueD n l q := by
  have L := made_least n l q
  have keep : ∀ c ∈ dueQ n l q, Keep n c c := fun c hc => by
    obtain ⟨p, hp, k⟩ := dueQ_mem.mp hc
    exact keep_again (hq p hp) k
  have nobad : ¬ ∃ p ∈ dueQ n l q, Bad n p := by
    rintro ⟨p, hp, c, h1, h2⟩
    have := keep p hp
    rw [this.1] at h1
    cases h1
    exact this.2 h2
  have cc : ∀ k v, C n (allF n (dueR n l q) (dueQ n l q)) k v ↔ look (madeM n l q) k = some v := fun k v => by
    constructor
    · rintro ⟨r, hr, e⟩
      rw [allF_mem] at hr
      rcases hr with hr | ⟨_, b⟩
      · rw [dueR_mem] at hr
        obtain ⟨⟨r0, _, e0⟩, _⟩ := L.get hr
        have := con_again e0
        rw [show con n r = con n (r.1, r.2) from rfl, this] at e
        injection e with e
        injection e with e1 e2
        rw [← e1, ← e2]
        exact hr
      · exact absurd b nobad
    · intro h
      obtain ⟨⟨r0, _, e0⟩, _⟩ := L.get h
      exact ⟨(v, k), allF_mem.mpr (.inl (dueR_mem.mpr h)), con_again e0⟩
  have L2 := made_least n (dueR n l q) (dueQ n l q)
  have one : ∀ k, look (madeM n (dueR n l q) (dueQ n l q)) k = look (madeM n l q) k := fun k => by
    cases e : look (madeM n l q) k with
    | none =>
      cases e2 : look (madeM n (dueR n l q) (dueQ n l q)) k with
      | none => rfl
      | some x =>
        have := (cc k x).mp (L2.get e2).1
        rw [e] at this
        cases this
    | some v =>
      obtain ⟨y, hy, _⟩ := L2.has ((cc k v).mpr e)
      have := (cc k y).mp (L2.get hy).1
      rw [e] at this
      cases this
      exact hy
  have a := sort_rows (rows_perm (madeM_nodup n (dueR n l q) (dueQ n l q)) (madeM_nodup n l q) one)
  have p : ((madeL n (dueR n l q) (dueQ n l q)).map (·.1)).Perm ((madeL n l q).map (·.1)) := (List.perm_ext_iff_of_nodup (madeL_nodup _ _ _) (madeL_nodup _ _ _)).mpr fun c => by
    rw [madeL_mem]
    have : c ∈ (madeL n l q).map (·.1) ↔ c ∈ dueQ n l q := by rw [dueQ_mem, madeL_mem]
    rw [this]
    constructor
    · rintro ⟨x, hx, k⟩
      have kx := keep x hx
      have : x = c := by
        have a := kx.1
        rw [k.1] at a
        injection a with a
        exact a.symm
      rw [← this]
      exact hx
    · intro hc
      exact ⟨c, hc, keep c hc⟩
  have b := sort_rests p
  unfold dueD sysD
  rw [a, b]
end K19

/-! law_k19: which numbers a system keeps. -/
namespace K19
open PySem PySem.Spec L2 DL PySem.W
def Pos (x : List Int) : Prop := ∀ y ∈ x, 0 ≤ y
theorem dot_pos : ∀ (ps x : List Int), (∀ p ∈ ps, 0 ≤ p) → Pos x → 0 ≤ dot ps x
  | [], x, _, _ => by simp [dot]
  | _ :: _, [], _, _ => by simp [dot]
  | p :: ps, y :: x, h, hx => by
    have a := dot_pos ps x (fun q hq => h q (List.mem_cons_of_mem _ hq)) fun q hq => hx q (List.mem_cons_of_mem _ hq)
    have b := Int.mul_nonneg (h p List.mem_cons_self) (hx y List.mem_cons_self)
    simp only [dot]
    omega
theorem dot_zero : ∀ (ps x : List Int), (∀ p ∈ ps, p = 0) → dot ps x = 0
  | [], x, _ => by simp [dot]
  | _ :: _, [], _ => by simp [dot]
  | p :: ps, y :: x, h => by
    rw [dot, dot_zero ps x (fun q hq => h q (List.mem_cons_of_mem _ hq)), h p List.mem_cons_self]
    omega
theorem dot_zeros (n : Nat) (x : List Int) : dot (zeros n) x = 0 := dot_zero _ _ fun p hp => List.eq_of_mem_replicate hp
theorem dot_div (g : Nat) : ∀ (ps x : List Int), (∀ p ∈ ps, (g : Int) ∣ p) → dot ps x = g * dot (ps.map fun p => p / (g : Int)) x
  | [], x, _ => by simp [dot]
  | _ :: _, [], _ => by simp [dot]
  | p :: ps, y :: x, h => by
    rw [List.map_cons, dot, dot, dot_div g ps x fun q hq => h q (List.mem_cons_of_mem _ hq), Int.mul_add, ← Int.mul_assoc, Int.mul_ediv_cancel' (h p List.mem_cons_self)]
theorem dot_mod (m : Int) : ∀ (ps x : List Int), m ∣ dot ps x - dot (ps.map fun p => p % m) x
  | [], x => by simp [dot]
  | _ :: _, [] => by simp [dot]
  | p :: ps, y :: x => by
    rw [List.map_cons, dot, dot]
    have a := dot_mod m ps x
    have b : m ∣ (p - p % m) * y := Int.dvd_mul_of_dvd_left (Int.dvd_self_sub_emod) 
    have c := Int.dvd_add b a
    have e : (p - p % m) * y + (dot ps x - dot (ps.map fun p => p % m) x) = p * y + dot ps x - (p % m * y + dot (ps.map fun p => p % m) x) := by
      rw [Int.sub_mul]
      omega
    rw [e] at c
    exact c
theorem con_none {n : Nat} {r : Row} {x : List Int} (hx : Pos x) (h : con n r = none) : 0 ≤ val r x := by
  unfold con at h
  split at h
  · cases h
  · rename_i a
    split at h
    · cases h
    · rename_i w
      have pos : ∀ p ∈ r.2, 0 ≤ p := fun p hp => by
        by_cases g : 0 < G r.2
        · refine Decidable.byContradiction fun q => a ?_
          unfold act
          rw [Bool.and_eq_true, Bool.or_eq_true]
          exact ⟨decide_eq_true g, .inr (List.any_eq_true.mpr ⟨p, hp, decide_eq_true (by omega)⟩)⟩
        · have := G_dvd hp
          rw [show G r.2 = 0 by omega] at this
          have := Int.zero_dvd.mp this
          omega
      have := dot_pos r.2 x pos hx
      unfold val
      omega
theorem con_some {n : Nat} {r : Row} {x : List Int} {k : List Int} {v : Int} (h : con n r = some (k, v)) : 0 ≤ val r x ↔ 0 ≤ v + dot k x := by
  unfold con at h
  split at h
  · rename_i a
    injection h with h
    injection h with h1 h2
    subst h1 h2
    have hg := act_pos a
    unfold val
    rw [dot_div (G r.2) r.2 x fun p hp => G_dvd hp]
    generalize dot (r.2.map fun p => p / (G r.2 : Int)) x = d
    have := Int.le_ediv_iff_mul_le (a := -d) (b := r.1) (c := (G r.2 : Int)) (by omega)
    rw [Int.neg_mul, Int.mul_comm d] at this
    omega
  · rename_i a
    split at h
    · rename_i w
      injection h with h
      injection h with h1 h2
      subst h1 h2
      have g0 : G r.2 = 0 := by
        refine Decidable.byContradiction fun q => a ?_
        unfold act
        rw [Bool.and_eq_true, Bool.or_eq_true]
        exact ⟨decide_eq_true (by omega), .inl (decide_eq_true w)⟩
      have z : dot r.2 x = 0 := dot_zero _ _ fun p hp => by
        have := G_dvd hp
        rw [g0] at this
        exact Int.zero_dvd.mp this
      unfold val
      rw [z, dot_zeros]
      omega
    · cases h
theorem rest_iff {m : Int} {r : Row} {x : List Int} (h0 : 0 < m) : val r x % m = 0 ↔ val (cutR m r).2 x % (cutR m r).1 = 0 := by
  have hg : 0 < GR m r := GR_pos h0
  have hd : (GR m r : Int) ∣ m := GR_dvd
  have a : m ∣ val r x - (r.1 % m + dot (r.2.map fun p => p % m) x) := by
    have b := Int.dvd_add (Int.dvd_self_sub_emod (x := r.1) (m := m)) (dot_mod m r.2 x)
    have e : (r.1 - r.1 % m) + (dot r.2 x - dot (r.2.map fun p => p % m) x) = val r x - (r.1 % m + dot (r.2.map fun p => p % m) x) := by unfold val; omega
    rw [e] at b
    exact b
  have c : r.1 % m + dot (r.2.map fun p => p % m) x = GR m r * val (cutR m r).2 x := by
    have d1 : (GR m r : Int) ∣ r.1 % m := overs_dvd List.mem_cons_self
    rw [dot_div (GR m r) (r.2.map fun p => p % m) x fun p hp => by
      obtain ⟨y, hy, rfl⟩ := List.mem_map.mp hp
      exact overs_dvd (List.mem_map.mpr ⟨y, List.mem_cons_of_mem _ hy, rfl⟩)]
    unfold val cutR
    dsimp only
    rw [Int.mul_add, Int.mul_ediv_cancel' d1, List.map_map]
    rfl
  rw [c] at a
  have iff1 : m ∣ val r x ↔ m ∣ GR m r * val (cutR m r).2 x := by
    constructor
    · intro h
      have := Int.dvd_sub h a
      rw [Int.sub_sub_self] at this
      exact this
    · intro h
      have := Int.dvd_add a h
      rw [Int.sub_add_cancel] at this
      exact this
  have iff2 : m ∣ GR m r * val (cutR m r).2 x ↔ (cutR m r).1 ∣ val (cutR m r).2 x := by
    have e : m = GR m r * (cutR m r).1 := (Int.mul_ediv_cancel' hd).symm
    constructor
    · intro h
      have h' : (GR m r : Int) * (cutR m r).1 ∣ GR m r * val (cutR m r).2 x := by rw [← e]; exact h
      exact Int.dvd_of_mul_dvd_mul_left (by omega) h'
    · intro h
      have h' := Int.mul_dvd_mul_left (GR m r : Int) h
      rw [← e] at h'
      exact h'
  rw [← Int.dvd_iff_emod_eq_zero, ← Int.dvd_iff_emod_eq_zero, iff1, iff2]
theorem rest_none {m : Int} {r : Row} {x : List Int} (h0 : 0 < m) (h : leastR m r = none) : val r x % m = 0 := by
  rw [rest_iff h0]
  unfold leastR at h
  split at h
  · rename_i e
    have : (cutR m r).1 = 1 := by
      show m / (GR m r : Int) = 1
      rw [← e]
      exact Int.ediv_self (by omega)
    rw [this]
    exact Int.emod_one _
  · cases h
theorem rest_bad {n : Nat} {p : Rest} {x : List Int} (h0 : 0 < p.1) (hl : p.2.2.length = n) (h : Bad n p) : val p.2 x % p.1 ≠ 0 := by
  intro e
  obtain ⟨c, h1, h2⟩ := h
  rw [rest_iff h0] at e
  unfold leastR at h1
  split at h1
  · cases h1
  · rename_i ne
    injection h1 with h1
    subst h1
    have hg : 0 < GR p.1 p.2 := GR_pos h0
    have hd : (GR p.1 p.2 : Int) ∣ p.1 := GR_dvd
    have z := (cut_zero h0 hl).mp h2
    have v : val (cutR p.1 p.2).2 x = p.2.1 % p.1 / (GR p.1 p.2 : Int) := by
      unfold val
      rw [h2, dot_zeros, Int.add_zero]
      rfl
    rw [v] at e
    have a1 := Int.emod_nonneg p.2.1 (b := p.1) (by omega)
    have a2 := Int.emod_lt_of_pos p.2.1 h0
    have lt : p.2.1 % p.1 / (GR p.1 p.2 : Int) < (cutR p.1 p.2).1 := by
      refine Int.ediv_lt_of_lt_mul (by omega) ?_
      show p.2.1 % p.1 < p.1 / (GR p.1 p.2 : Int) * (GR p.1 p.2 : Int)
      rw [Int.ediv_mul_cancel hd]
      exact a2
    rw [Int.emod_eq_of_lt (Int.ediv_nonneg a1 (by omega)) lt] at e
    have w0 : p.2.1 % p.1 = 0 := (div_zero hg (overs_dvd List.mem_cons_self)).mp e
    have dv : p.1.natAbs ∣ GR p.1 p.2 := by
      refine dvd_G fun y hy => ?_
      rw [Int.natAbs_of_nonneg (by omega)]
      rcases List.mem_cons.mp hy with rfl | hy
      · exact Int.dvd_refl _
      · unfold overs at hy
        rw [List.map_cons] at hy
        rcases List.mem_cons.mp hy with rfl | hy
        · rw [w0]; exact Int.dvd_zero _
        · rw [z y hy]; exact Int.dvd_zero _
    have le1 := Nat.le_of_dvd hg dv
    have le2 := Int.le_of_dvd h0 hd
    omega
def Holds (l : List Row) (q : List Rest) (x : List Int) : Prop := (∀ r ∈ l, 0 ≤ val r x) ∧ ∀ p ∈ q, val p.2 x % p.1 = 0
theorem holds_due {n : Nat} {l : List Row} {q : List Rest} {x : List Int} (hx : Pos x) (hq : Rests n q) : Holds (dueR n l q) (dueQ n l q) x ↔ Holds l q x := by
  have L := made_least n l q
  constructor
  · rintro ⟨h1, h2⟩
    have low : ∀ k v, C n (allF n l q) k v → 0 ≤ v + dot k x := fun k v c => by
      obtain ⟨y, hy, le⟩ := L.has c
      have := h1 (y, k) (dueR_mem.mpr hy)
      unfold val at this
      dsimp only at this
      omega
    refine ⟨fun r hr => ?_, fun p hp => ?_⟩
    · cases e : con n r with
      | none => exact con_none hx e
      | some kv =>
        obtain ⟨k, v⟩ := kv
        exact (con_some e).mpr (low k v ⟨r, allF_mem.mpr (.inl hr), e⟩)
    · have p0 := (hq p hp).1
      cases e : leastR p.1 p.2 with
      | none => exact rest_none p0 e
      | some c =>
        by_cases z : c.2.2 = zeros n
        · have := low (zeros n) (-1) ⟨(-1, zeros n), allF_mem.mpr (.inr ⟨rfl, p, hp, c, e, z⟩), by
            unfold con
            rw [never_act, if_neg (by decide), if_pos (by show (-1 : Int) < 0; decide)]⟩
          rw [dot_zeros] at this
          omega
        · have := h2 c (dueQ_mem.mpr ⟨p, hp, e, z⟩)
          rw [rest_iff p0]
          unfold leastR at e
          split at e
          · cases e
          · injection e with e
            rw [e]
            exact this
  · rintro ⟨h1, h2⟩
    refine ⟨fun r hr => ?_, fun c hc => ?_⟩
    · obtain ⟨⟨r0, m0, e0⟩, _⟩ := L.get (dueR_mem.mp hr)
      rcases allF_mem.mp m0 with m0 | ⟨_, p, hp, b⟩
      · exact (con_some e0).mp (h1 r0 m0)
      · exact absurd (h2 p hp) (rest_bad (hq p hp).1 (hq p hp).2.2.1 b)
    · obtain ⟨p, hp, k⟩ := dueQ_mem.mp hc
      have p0 := (hq p hp).1
      have := (rest_iff p0).mp (h2 p hp)
      have e := k.1
      unfold leastR at e
      split at e
      · cases e
      · injection e with e
        rw [← e]
        exact this
end K19

/-! law_k19: keeps, is_false, as they run. -/
namespace K19
open PySem PySem.Spec L2 DL PySem.W
theorem nice_row {n : Nat} {r : Row} (hn : n ≤ 3) (h : Row.ok n r) : Nice (rowD r) (rowP r) 2 200 := by
  obtain ⟨h1, h2, h3, h4⟩ := h
  have a := Nice.tup (NiceL.cons (nice_int (i := r.1) (by omega)) (NiceL.cons (Nice.tup (nice_ints (ps := r.2) fun p hp => by have := h4 p hp; omega)) NiceL.nil))
  exact a.up (by decide) (by omega)
theorem nice_rows {n : Nat} {l : List Row} (hn : n ≤ 3) (h : Rows n l) : NiceL (l.map rowD) (l.map rowP) 2 (l.length * 201) := NiceL.map l fun r hr => nice_row hn (h r hr)
theorem nice_rest {n : Nat} {p : Rest} (hn : n ≤ 3) (h0 : 0 < p.1) (h1 : p.1 < 40) (h : Row.ok n p.2) : Nice (restD p) (restP p) 3 300 := by
  have a := Nice.tup (NiceL.cons (nice_int (i := p.1) (by omega)) (NiceL.cons (nice_row hn h) NiceL.nil))
  exact a.up (by decide) (by omega)
theorem nice_rests {n : Nat} {q : List Rest} (hn : n ≤ 3) (h : Rests n q) : NiceL (q.map restD) (q.map restP) 3 (q.length * 301) := NiceL.map q fun r hr => nice_rest hn (h r hr).1 (h r hr).2.1 (h r hr).2.2
theorem nice_sys {n : Nat} {l : List Row} {q : List Rest} (hn : n ≤ 3) (h : Rows n l) (h' : Rests n q) (l1 : l.length ≤ 300) (l2 : q.length ≤ 300) : ∃ p, Nice (sysD n l q) p 5 160000 := by
  have a := Nice.tup (NiceL.cons (nice_int (i := n) (by omega)) (NiceL.cons (Nice.tup (nice_rows hn h)) (NiceL.cons (Nice.tup (nice_rests hn h')) NiceL.nil)))
  exact ⟨_, a.up (by decide) (by omega)⟩
/-! ### what is asked of rows and rests -/
def okRows (l : List Row) (x : List Int) : Bool := !l.any fun r => decide (val r x < 0)
def okRests (q : List Rest) (x : List Int) : Bool := !q.any fun p => !decide (val p.2 x % p.1 = 0)
theorem ok_iff {l : List Row} {q : List Rest} {x : List Int} : (okRows l x && okRests q x) = true ↔ Holds l q x := by
  unfold okRows okRests Holds
  simp only [Bool.and_eq_true, Bool.not_eq_true', List.any_eq_false, decide_eq_true_eq, Bool.not_eq_eq_eq_not, Bool.not_true, decide_eq_false_iff_not, Decidable.not_not, Int.not_lt]
theorem value_small {r : Row} {n : Nat} (hn : n ≤ 3) (h : Row.ok n r) (x : List Int) : d_value [rowD r, intsT x] = .ok (.val (.int (val r x))) [rowD r, intsT x] := value_spec r x (by rw [h.1]; omega) h.2.2.2
section
variable {n : Nat} {l : List Row} {q : List Rest} {x : List Int} {sy : D}
theorem isEmpty_filter {α : Type} (p : α → Bool) (l : List α) : (l.filter p).isEmpty = !l.any p := by
  rw [← any_filter, Bool.not_not]
abbrev kR : Ev := (dLc (iSeq (dOp2 opIx (dVar 0) (dC (.int 1)))) [3] (gtName 3) (dOp2 opLt (dCall [false, false] d_value (dCons (dVar 3) (dCons (dVar 1) dNil))) (dC (.int 0))) (dVar 3))
abbrev kQ : Ev := (dLc (iSeq (dOp2 opIx (dVar 0) (dC (.int 2)))) [3, 4] (gtTup 2 (gtCons (gtName 4) (gtCons (gtName 3) gtNil))) (dOp2 opNe (dOp2 opMod (dCall [false, false] d_value (dCons (dVar 3) (dCons (dVar 1) dNil))) (dVar 4)) (dC (.int 0))) (dC (.int 1)))
abbrev kN : Ev := (dLc (iSeq (dVar 1)) [2] (gtName 2) (dOp2 opLt (dVar 2) (dC (.int 0))) (dVar 2))
abbrev KE (n : Nat) (l : List Row) (q : List Rest) (x : List Int) : DL.Env := [.val (sysD n l q), .val (intsT x), .non, .non, .non]
theorem kR_spec (hn : n ≤ 3) (h : Rows n l) (hl : l.length ≤ 1000) : kR (KE n l q x) = .ok (.new (.lst ((l.filter fun r => decide (val r x < 0)).map rowD))) (KE n l q x) := by
  have i1 : opIx (sysD n l q) (.int 1) = some (.val (.tup (l.map rowD))) := by simp [sysD, atI_one]
  have it : iSeq (dOp2 opIx (dVar 0) (dC (.int 1))) (KE n l q x) = .ok (l.map rowD) (KE n l q x) := by simp [i1]
  have go : compGo [3] (gtName 3) (dOp2 opLt (dCall [false, false] d_value (dCons (dVar 3) (dCons (dVar 1) dNil))) (dC (.int 0))) (dVar 3) (l.map rowD) (KE n l q x) = some ((l.filter fun r => decide (val r x < 0)).map rowD, KE n l q x) :=
    compGo_fm l fun r hr => ⟨[.val (sysD n l q), .val (intsT x), .non, .val (rowD r), .non], rfl, by simp [value_small hn (h r hr) x], fun _ => ⟨.val (rowD r), rfl, rfl⟩, rfl⟩
  unfold kR
  rw [s_dLc, it]
  dsimp only
  rw [if_pos ⟨rfl, by rw [List.length_map]; omega⟩]
  show (match compGo _ _ _ _ _ (KE n l q x) with | some (ys, ρ2) => ER.ok (.new (.lst ys)) (restE ρ2 _ [3]) | none => .no) = _
  rw [go]
  rfl
theorem kQ_spec (hn : n ≤ 3) (h : Rests n q) (hl : q.length ≤ 1000) : kQ (KE n l q x) = .ok (.new (.lst ((q.filter fun p => !decide (val p.2 x % p.1 = 0)).map fun _ => .int 1))) (KE n l q x) := by
  have i1 : opIx (sysD n l q) (.int 2) = some (.val (.tup (q.map restD))) := by simp [sysD, atI_two]
  have it : iSeq (dOp2 opIx (dVar 0) (dC (.int 2))) (KE n l q x) = .ok (q.map restD) (KE n l q x) := by simp [i1]
  have go : compGo [3, 4] (gtTup 2 (gtCons (gtName 4) (gtCons (gtName 3) gtNil))) (dOp2 opNe (dOp2 opMod (dCall [false, false] d_value (dCons (dVar 3) (dCons (dVar 1) dNil))) (dVar 4)) (dC (.int 0))) (dC (.int 1)) (q.map restD) (KE n l q x) = some ((q.filter fun p => !decide (val p.2 x % p.1 = 0)).map (fun _ => D.int 1), KE n l q x) :=
    compGo_fm q fun p hp => ⟨[.val (sysD n l q), .val (intsT x), .non, .val (rowD p.2), .val (.int p.1)], rfl, by simp [value_small hn (h p hp).2.2 x, (h p hp).1], fun _ => ⟨.val (.int 1), rfl, rfl⟩, rfl⟩
  unfold kQ
  rw [s_dLc, it]
  dsimp only
  rw [if_pos ⟨rfl, by rw [List.length_map]; omega⟩]
  show (match compGo _ _ _ _ _ (KE n l q x) with | some (ys, ρ2) => ER.ok (.new (.lst ys)) (restE ρ2 _ [3, 4]) | none => .no) = _
  rw [go]
  rfl
theorem kN_spec (hl : x.length ≤ 1000) : kN (KE n l q x) = .ok (.new (.lst ((x.filter fun y => decide (y < 0)).map .int))) (KE n l q x) := by
  have it : iSeq (dVar 1) (KE n l q x) = .ok (x.map .int) (KE n l q x) := rfl
  have go : compGo [2] (gtName 2) (dOp2 opLt (dVar 2) (dC (.int 0))) (dVar 2) (x.map .int) (KE n l q x) = some ((x.filter fun y => decide (y < 0)).map .int, KE n l q x) :=
    compGo_fm x fun y _ => ⟨[.val (sysD n l q), .val (intsT x), .val (.int y), .non, .non], rfl, by simp, fun _ => ⟨.val (.int y), rfl, rfl⟩, rfl⟩
  unfold kN
  rw [s_dLc, it]
  dsimp only
  rw [if_pos ⟨rfl, by rw [List.length_map]; omega⟩]
  show (match compGo _ _ _ _ _ (KE n l q x) with | some (ys, ρ2) => ER.ok (.new (.lst ys)) (restE ρ2 _ [2]) | none => .no) = _
  rw [go]
  rfl
theorem nice_ones {α : Type} (q : List α) : NiceL (q.map fun _ => D.int 1) (q.map fun _ => PyData.int 1) 0 (q.length * 42) := NiceL.map q fun _ _ => nice_int (by decide)
/-- keeps -/
theorem keeps_spec (hn : n ≤ 3) (h : Rows n l) (h' : Rests n q) (hl : l.length ≤ 1000) (hq : q.length ≤ 1000) (hx : x.length ≤ 1000) (hs : ∀ y ∈ x, -10000 < y ∧ y < 10000) :
    d_keeps [sysD n l q, intsT x] = .ok (.val (.bl (decide (x.length = n) && !(x.any fun y => decide (y < 0)) && (okRows l x && okRests q x)))) [sysD n l q, intsT x] := by
  have e1 := kN_spec (n := n) (l := l) (q := q) hx
  have e2 := kR_spec (q := q) (x := x) hn h hl
  have e3 := kQ_spec (l := l) (x := x) hn h' hq
  have n1 := (ne_nil (nice_ints (ps := x.filter fun y => decide (y < 0)) fun y hy => hs y (List.mem_filter.mp hy).1) (by decide)).1
  have n2 := (ne_nil (nice_rows hn (l := l.filter fun r => decide (val r x < 0)) fun r hr => h r (List.mem_filter.mp hr).1) (by decide)).1
  have n3 := (ne_nil (nice_ones (q.filter fun p => !decide (val p.2 x % p.1 = 0))) (by decide)).2
  rw [List.isEmpty_map, isEmpty_filter, Bool.not_not] at n1 n2
  rw [List.isEmpty_map, isEmpty_filter] at n3
  have i0 : opIx (sysD n l q) (.int 0) = some (.val (.int n)) := by simp [sysD, atI_zero]
  have t1 : dOp2 opNe kN (dLst dNil) (KE n l q x) = .ok (.val (.bl (x.any fun y => decide (y < 0)))) (KE n l q x) := by
    rw [dOp2_ap, e1]
    simp only [er_settle_new, er_bind_ok, dLst_ap, dFz_ap, dNil_ap, frzs_nil, peek_val]
    simp [-List.isEmpty_map, n1]
  have t2 : dOp2 opNe kR (dLst dNil) (KE n l q x) = .ok (.val (.bl (l.any fun r => decide (val r x < 0)))) (KE n l q x) := by
    rw [dOp2_ap, e2]
    simp only [er_settle_new, er_bind_ok, dLst_ap, dFz_ap, dNil_ap, frzs_nil, peek_val]
    simp [-List.isEmpty_map, n2]
  have t3 : dOp2 opEq kQ (dLst dNil) (KE n l q x) = .ok (.val (.bl (okRests q x))) (KE n l q x) := by
    rw [dOp2_ap, e3]
    simp only [er_settle_new, er_bind_ok, dLst_ap, dFz_ap, dNil_ap, frzs_nil, peek_val]
    simp only [List.length_nil, Nat.zero_le, if_true, er_settle_new, er_bind_ok, peek_val, n3, er_of_some]
    rfl
  have t0 : dOp2 opNe (dB fLen (dCons (dVar 1) dNil)) (dOp2 opIx (dVar 0) (dC (.int 0))) (KE n l q x) = .ok (.val (.bl (!decide (x.length = n)))) (KE n l q x) := by
    have lt : fLen [intsT x] = some (.val (.int x.length)) := by simp [intsT]
    have dd : decide ((x.length : Int) = (n : Int)) = decide (x.length = n) := by
      by_cases q : x.length = n
      · rw [decide_eq_true q, decide_eq_true (by omega)]
      · rw [decide_eq_false q, decide_eq_false (by omega)]
    simp only [KE] at *
    simp [lt, i0, -opNe_int]
    show ER.ok (.val (.bl (!decide ((x.length : Int) = (n : Int))))) _ = _
    rw [dd]
  rw [show d_keeps = dDef 5 [false, false] (dSeq (dIfS (dOrT (dOp2 opNe (dB fLen (dCons (dVar 1) dNil)) (dOp2 opIx (dVar 0) (dC (.int 0)))) (dOp2 opNe kN (dLst dNil))) (dRet (dC (.bl false))) (fun ρ => .nx ρ)) (dSeq (dIfS (dOp2 opNe kR (dLst dNil)) (dRet (dC (.bl false))) (fun ρ => .nx ρ)) (dRet (dOp2 opEq kQ (dLst dNil))))) from rfl]
  rw [dDef_run rfl]
  show (match (dSeq (dIfS (dOrT (dOp2 opNe (dB fLen (dCons (dVar 1) dNil)) (dOp2 opIx (dVar 0) (dC (.int 0)))) (dOp2 opNe kN (dLst dNil))) (dRet (dC (.bl false))) (fun ρ => .nx ρ)) (dSeq (dIfS (dOp2 opNe kR (dLst dNil)) (dRet (dC (.bl false))) (fun ρ => .nx ρ)) (dRet (dOp2 opEq kQ (dLst dNil))))) (KE n l q x) with
    | .nx ρ => _ | .rt r ρ => _ | .ex x ρ => _ | _ => _) = _
  rw [dSeq_ap, dIfS_ap, dOrT_ap, t0, two_bl]
  by_cases c0 : x.length = n
  · rw [decide_eq_true c0, if_neg (by decide), t1, ifS_bl]
    by_cases c1 : (x.any fun y => decide (y < 0)) = true
    · rw [c1, if_pos rfl]
      rfl
    · rw [Bool.not_eq_true] at c1
      rw [c1, if_neg (by decide), sr_bind_nx, dSeq_ap, dIfS_ap, t2, ifS_bl]
      unfold okRows
      by_cases c2 : (l.any fun r => decide (val r x < 0)) = true
      · rw [c2, if_pos rfl]
        rfl
      · rw [Bool.not_eq_true] at c2
        rw [c2, if_neg (by decide), sr_bind_nx, dRet_ap, t3]
        rfl
  · rw [decide_eq_false c0, if_pos (by rfl), ifS_bl, if_pos rfl]
    rfl
end
end K19

/-! law_k19: _law_keeps, is_false, _law_mixed; a least system is small. -/
namespace K19
open PySem PySem.Spec L2 DL PySem.W
section
variable {n : Nat} {l : List Row} {q : List Rest} {x : List Int}
def lawS (n : Nat) (l : List Row) (q : List Rest) : D := .tup [.int n, .lst (l.map rowD), .lst (q.map restD)]
abbrev LE (n : Nat) (l : List Row) (q : List Rest) (x : List Int) : DL.Env := [.val (lawS n l q), .val (intsT x), .non, .non]
abbrev vR : Ev := (dLc (iSeq (dOp2 opIx (dVar 0) (dC (.int 1)))) [2] (gtName 2) (dOp2 opLt (dCall [false, false] d__law_value (dCons (dVar 2) (dCons (dVar 1) dNil))) (dC (.int 0))) (dVar 2))
abbrev vQ : Ev := (dLc (iSeq (dOp2 opIx (dVar 0) (dC (.int 2)))) [2, 3] (gtTup 2 (gtCons (gtName 3) (gtCons (gtName 2) gtNil))) (dOp2 opNe (dOp2 opMod (dCall [false, false] d__law_value (dCons (dVar 2) (dCons (dVar 1) dNil))) (dVar 3)) (dC (.int 0))) (dC (.int 1)))
theorem law_value_small {r : Row} (hn : n ≤ 3) (h : Row.ok n r) (x : List Int) : d__law_value [rowD r, intsT x] = .ok (.val (.int (val r x))) [rowD r, intsT x] := value_small hn h x
theorem vR_spec (hn : n ≤ 3) (h : Rows n l) (hl : l.length ≤ 1000) : vR (LE n l q x) = .ok (.new (.lst ((l.filter fun r => decide (val r x < 0)).map rowD))) (LE n l q x) := by
  have i1 : opIx (lawS n l q) (.int 1) = some (.val (.lst (l.map rowD))) := by simp [lawS, atI_one]
  have it : iSeq (dOp2 opIx (dVar 0) (dC (.int 1))) (LE n l q x) = .ok (l.map rowD) (LE n l q x) := by simp [i1]
  have go : compGo [2] (gtName 2) (dOp2 opLt (dCall [false, false] d__law_value (dCons (dVar 2) (dCons (dVar 1) dNil))) (dC (.int 0))) (dVar 2) (l.map rowD) (LE n l q x) = some ((l.filter fun r => decide (val r x < 0)).map rowD, LE n l q x) :=
    compGo_fm l fun r hr => ⟨[.val (lawS n l q), .val (intsT x), .val (rowD r), .non], rfl, by simp [law_value_small hn (h r hr) x], fun _ => ⟨.val (rowD r), rfl, rfl⟩, rfl⟩
  unfold vR
  rw [s_dLc, it]
  dsimp only
  rw [if_pos ⟨rfl, by rw [List.length_map]; omega⟩]
  show (match compGo _ _ _ _ _ (LE n l q x) with | some (ys, ρ2) => ER.ok (.new (.lst ys)) (restE ρ2 _ [2]) | none => .no) = _
  rw [go]
  rfl
theorem vQ_spec (hn : n ≤ 3) (h : Rests n q) (hl : q.length ≤ 1000) : vQ (LE n l q x) = .ok (.new (.lst ((q.filter fun p => !decide (val p.2 x % p.1 = 0)).map fun _ => .int 1))) (LE n l q x) := by
  have i1 : opIx (lawS n l q) (.int 2) = some (.val (.lst (q.map restD))) := by simp [lawS, atI_two]
  have it : iSeq (dOp2 opIx (dVar 0) (dC (.int 2))) (LE n l q x) = .ok (q.map restD) (LE n l q x) := by simp [i1]
  have go : compGo [2, 3] (gtTup 2 (gtCons (gtName 3) (gtCons (gtName 2) gtNil))) (dOp2 opNe (dOp2 opMod (dCall [false, false] d__law_value (dCons (dVar 2) (dCons (dVar 1) dNil))) (dVar 3)) (dC (.int 0))) (dC (.int 1)) (q.map restD) (LE n l q x) = some ((q.filter fun p => !decide (val p.2 x % p.1 = 0)).map (fun _ => D.int 1), LE n l q x) :=
    compGo_fm q fun p hp => ⟨[.val (lawS n l q), .val (intsT x), .val (rowD p.2), .val (.int p.1)], rfl, by simp [law_value_small hn (h p hp).2.2 x, (h p hp).1], fun _ => ⟨.val (.int 1), rfl, rfl⟩, rfl⟩
  unfold vQ
  rw [s_dLc, it]
  dsimp only
  rw [if_pos ⟨rfl, by rw [List.length_map]; omega⟩]
  show (match compGo _ _ _ _ _ (LE n l q x) with | some (ys, ρ2) => ER.ok (.new (.lst ys)) (restE ρ2 _ [2, 3]) | none => .no) = _
  rw [go]
  rfl
theorem law_keeps_spec (hn : n ≤ 3) (h : Rows n l) (h' : Rests n q) (hl : l.length ≤ 1000) (hq : q.length ≤ 1000) :
    d__law_keeps [lawS n l q, intsT x] = .ok (.val (.bl (okRows l x && okRests q x))) [lawS n l q, intsT x] := by
  have e2 := vR_spec (q := q) (x := x) hn h hl
  have e3 := vQ_spec (l := l) (x := x) hn h' hq
  have n2 := (ne_nil (nice_rows hn (l := l.filter fun r => decide (val r x < 0)) fun r hr => h r (List.mem_filter.mp hr).1) (by decide)).2
  have n3 := (ne_nil (nice_ones (q.filter fun p => !decide (val p.2 x % p.1 = 0))) (by decide)).2
  rw [List.isEmpty_map, isEmpty_filter] at n2
  rw [List.isEmpty_map, isEmpty_filter] at n3
  have t2 : dOp2 opEq vR (dLst dNil) (LE n l q x) = .ok (.val (.bl (okRows l x))) (LE n l q x) := by
    rw [dOp2_ap, e2]
    simp only [er_settle_new, er_bind_ok, dLst_ap, dFz_ap, dNil_ap, frzs_nil, peek_val]
    simp only [List.length_nil, Nat.zero_le, if_true, er_settle_new, er_bind_ok, peek_val, n2, er_of_some]
    rfl
  have t3 : dOp2 opEq vQ (dLst dNil) (LE n l q x) = .ok (.val (.bl (okRests q x))) (LE n l q x) := by
    rw [dOp2_ap, e3]
    simp only [er_settle_new, er_bind_ok, dLst_ap, dFz_ap, dNil_ap, frzs_nil, peek_val]
    simp only [List.length_nil, Nat.zero_le, if_true, er_settle_new, er_bind_ok, peek_val, n3, er_of_some]
    rfl
  rw [show d__law_keeps = dDef 4 [false, false] (dRet (dAndV (dOp2 opEq vR (dLst dNil)) (dOp2 opEq vQ (dLst dNil)))) from rfl]
  rw [dDef_run rfl]
  show (match (dRet (dAndV (dOp2 opEq vR (dLst dNil)) (dOp2 opEq vQ (dLst dNil)))) (LE n l q x) with
    | .nx ρ => _ | .rt r ρ => _ | .ex x ρ => _ | _ => _) = _
  rw [dRet_ap, dAndV_ap, t2, tru_bl]
  cases okRows l x with
  | true => rw [if_pos rfl, t3]; rfl
  | false => rfl
theorem in_rows {r : Row} (hn : n ≤ 3) (hr : Row.ok n r) (h : Rows n l) : ∃ b, opIn (rowD r) (.tup (l.map rowD)) = some (.val (.bl b)) := by
  have a := (nice_row hn hr).shaped (by decide)
  have b := (Nice.tup (nice_rows hn h)).shaped (by decide)
  have e : DL.among (rowD r) (l.map rowD) .tuple = some ((l.map rowP).any fun z => PyData.eqv z (rowP r)) := by
    unfold DL.among
    rw [py_row, pys_rows]
    dsimp only
    rw [if_pos ⟨a, b⟩]
  refine ⟨(l.map rowP).any fun z => PyData.eqv z (rowP r), ?_⟩
  unfold opIn
  rw [show memX (rowD r) (.tup (l.map rowD)) = none from rfl, show memD (rowD r) (.tup (l.map rowD)) = DL.among (rowD r) (l.map rowD) .tuple from rfl, e]
  rfl
theorem is_false_spec {b : Bool} (hn : n ≤ 3) (h : opIn (rowD (-1, zeros n)) (.tup (l.map rowD)) = some (.val (.bl b))) : d_is_false [sysD n l q] = .ok (.val (.bl b)) [sysD n l q] := by
  have i0 : opIx (sysD n l q) (.int 0) = some (.val (.int n)) := by simp [sysD, atI_zero]
  have i1 : opIx (sysD n l q) (.int 1) = some (.val (.tup (l.map rowD))) := by simp [sysD, atI_one]
  have e := never_spec n (by omega)
  have h' : opIn (rowD (-1, List.replicate n 0)) (.tup (l.map rowD)) = some (.val (.bl b)) := h
  unfold d_is_false dDef
  simp [i0, i1, e, h']
/-! ### a least system is small -/
theorem div_small {w : Int} {g : Nat} (hg : 0 < g) (h : -40 < w ∧ w < 40) : -40 < w / (g : Int) ∧ w / (g : Int) < 40 := by
  by_cases p : 0 ≤ w
  · have a := Int.ediv_nonneg (a := w) (b := (g : Int)) p (by omega)
    have b := Int.ediv_le_self (g : Int) p
    omega
  · have a := Int.ediv_neg_of_neg_of_pos (a := w) (b := (g : Int)) (by omega) (by omega)
    have b : w ≤ w / (g : Int) := by
      rw [Int.le_ediv_iff_mul_le (by omega)]
      have : w * (g : Int) ≤ w * 1 := Int.mul_le_mul_of_nonpos_left (by omega) (by omega)
      omega
    omega
theorem con_ok {r : Row} {k : List Int} {v : Int} (hr : Row.ok n r) (h : con n r = some (k, v)) : Row.ok n (v, k) := by
  unfold con at h
  split at h
  · rename_i a
    injection h with h
    injection h with h1 h2
    subst h1 h2
    have hg := act_pos a
    obtain ⟨a1, a2, a3, a4⟩ := hr
    refine ⟨by show (List.map _ _).length = n; rw [List.length_map]; exact a1, (div_small hg ⟨a2, a3⟩).1, (div_small hg ⟨a2, a3⟩).2, fun p hp => ?_⟩
    obtain ⟨y, hy, rfl⟩ := List.mem_map.mp hp
    exact div_small hg (a4 y hy)
  · split at h
    · injection h with h
      injection h with h1 h2
      subst h1 h2
      exact zeros_ok n
    · cases h
theorem due_rows (h : Rows n l) : Rows n (dueR n l q) := fun r hr => by
  obtain ⟨⟨r0, m0, e0⟩, _⟩ := (made_least n l q).get (dueR_mem.mp hr)
  rcases allF_mem.mp m0 with m0 | ⟨rfl, _⟩
  · exact con_ok (h r0 m0) e0
  · exact con_ok (zeros_ok n) e0
theorem due_rests (h : Rests n q) : Rests n (dueQ n l q) := fun c hc => by
  obtain ⟨p, hp, k⟩ := dueQ_mem.mp hc
  obtain ⟨p0, p1, ok⟩ := h p hp
  have e := k.1
  unfold leastR at e
  split at e
  · cases e
  · injection e with e
    subst e
    have hg : 0 < GR p.1 p.2 := GR_pos p0
    have a := div_small hg (w := p.1) (by omega)
    have b := Int.ediv_pos_of_pos_of_dvd p0 (by omega) (GR_dvd (m := p.1) (r := p.2))
    have sm : ∀ y : Int, -40 < y % p.1 / (GR p.1 p.2 : Int) ∧ y % p.1 / (GR p.1 p.2 : Int) < 40 := fun y => by
      have := Int.emod_nonneg y (b := p.1) (by omega)
      have := Int.emod_lt_of_pos y p0
      exact div_small hg (by omega)
    refine ⟨b, a.2, by show (List.map _ _).length = n; rw [List.length_map]; exact ok.1, (sm _).1, (sm _).2, fun y hy => ?_⟩
    obtain ⟨z, _, rfl⟩ := List.mem_map.mp hy
    exact sm z
theorem due_few : (dueR n l q).length ≤ l.length + q.length ∧ (dueQ n l q).length ≤ q.length := by
  have a := foldR_length n q (l, [])
  have b := foldl_length n (q.foldl (addR n) (l, [])).1 []
  unfold dueR dueQ sortR sortQ
  rw [List.length_mergeSort, List.length_mergeSort]
  unfold rowsOf
  rw [List.length_map, List.length_map]
  unfold madeM madeL
  simp only [List.length_nil] at a b
  omega
end
/-! ### _law_mixed -/
section
variable {cs : List Int} (hc : cs.length ≤ 1000)
include hc
abbrev mB : Sv := (dExpr (dMut "list" 2 mInsert (dCons (dCall [true, false] d__law_take (dCons (dVar 0) (dCons (dOp2 opAdd (dB fLen (dCons (dVar 2) dNil)) (dC (.int 1))) dNil))) (dCons (dVar 3) dNil))))
theorem mixed_go (t : D) : ∀ (l F : List Row) (x3 : Slot) (a b c : Int), F.length + l.length < 1000 → NB x3 → ∃ (F' : List Row) (x3' : Slot) (a' b' c' : Int), F'.length = F.length + l.length ∧ (∀ r ∈ F', r ∈ F ∨ r ∈ l) ∧
    forGo (gtName 3) mB (l.map rowD) [.bor (bagD a b c cs), .val t, .own (.lst (F.map rowD)), x3] = .nx [.bor (bagD a' b' c' cs), .val t, .own (.lst (F'.map rowD)), x3']
  | [], F, x3, a, b, c, _, _ => ⟨F, x3, a, b, c, rfl, fun r h => .inl h, rfl⟩
  | r :: l, F, x3, a, b, c, hl, h3 => by
    rw [List.length_cons] at hl
    obtain ⟨z, a1, b1, c1, z0, z1, e1⟩ := take_spec a b c cs ((F.length : Int) + 1) hc (by omega) (by omega)
    obtain ⟨F', x3', a2, b2, c2, f1, f2, e2⟩ := mixed_go t l (F.take z.toNat ++ [r] ++ F.drop z.toNat) (.val (rowD r)) a1 b1 c1 (by simp; omega) (nb_val _)
    refine ⟨F', x3', a2, b2, c2, by rw [f1]; simp; omega, fun y hy => ?_, ?_⟩
    · rcases f2 y hy with h | h
      · rcases List.mem_append.mp h with h | h
        · rcases List.mem_append.mp h with h | h
          · exact .inl (List.mem_of_mem_take h)
          · rw [List.mem_singleton.mp h]; exact .inr List.mem_cons_self
        · exact .inl (List.mem_of_mem_drop h)
      · exact .inr (List.mem_cons_of_mem _ h)
    · have e0 : gtName 3 (rowD r) [.bor (bagD a b c cs), .val t, .own (.lst (F.map rowD)), x3] = some [.bor (bagD a b c cs), .val t, .own (.lst (F.map rowD)), .val (rowD r)] := setV_nb rfl h3
      rw [List.map_cons]
      unfold forGo
      rw [e0]
      dsimp only
      have zl : (F.map rowD).length < sizeLine ∧ 0 ≤ z ∧ z < 2 ^ 63 := ⟨by rw [List.length_map, sizeLine_eq]; omega, z0, by omega⟩
      have zl' : F.length < sizeLine := by rw [sizeLine_eq]; omega
      have z2 : z < 9223372036854775808 := by omega
      have st : mB [.bor (bagD a b c cs), .val t, .own (.lst (F.map rowD)), .val (rowD r)] = .nx [.bor (bagD a1 b1 c1 cs), .val t, .own (.lst ((F.take z.toNat ++ [r] ++ F.drop z.toNat).map rowD)), .val (rowD r)] := by
        unfold mB
        simp [e1, zl', z0, z2, List.map_take, List.map_drop]
      rw [st]
      exact e2
theorem mixed_spec (l : List Row) (a b c : Int) (hl : l.length < 900) : ∃ (l' : List Row) (a' b' c' : Int), l'.length = l.length ∧ (∀ r ∈ l', r ∈ l) ∧
    d__law_mixed [bagD a b c cs, .lst (l.map rowD)] = .ok (.new (.lst (l'.map rowD))) [bagD a' b' c' cs, .lst (l.map rowD)] := by
  obtain ⟨F', x3', a1, b1, c1, f1, f2, e⟩ := mixed_go hc (.lst (l.map rowD)) l [] .non a b c (by simp; omega) nb_non
  refine ⟨F', a1, b1, c1, by simpa using f1, fun r hr => by simpa using f2 r hr, ?_⟩
  unfold d__law_mixed dDef
  unfold mB at e
  simp [-s_gtName, -s_dMut]
  rw [show forGo (gtName 3) _ (l.map rowD) [.bor (bagD a b c cs), .val (.lst (l.map rowD)), .own (.lst []), .non] = _ from e]
  simp
end
end K19

/-! law_k19: what a lap draws. -/
namespace K19
open PySem PySem.Spec L2 DL
abbrev E (s bag : D) (x2 x3 x4 x5 x6 x7 x8 : Slot) : DL.Env := [.val s, .own bag, x2, x3, x4, x5, x6, x7, x8, .non, .non, .non]
def Sm (n : Nat) (r : Row) : Prop := r.2.length = n ∧ (-8 < r.1 ∧ r.1 < 8) ∧ ∀ p ∈ r.2, -4 < p ∧ p < 4
theorem Sm.ok {n : Nat} {r : Row} (h : Sm n r) : Row.ok n r := ⟨h.1, by have := h.2.1; omega, by have := h.2.1; omega, fun p hp => by have := h.2.2 p hp; omega⟩
theorem range_of {k : Int} (h0 : 0 ≤ k) (h1 : k < 1000) : kRange1 [.int k] = some ((List.range k.toNat).map fun (k : Nat) => D.int (k : Int)) := by
  show (if k ≤ 1000000 ∧ -1000000 ≤ k then some ((List.range k.toNat).map fun (k : Nat) => D.int (k : Int)) else none) = _
  rw [if_pos ⟨by omega, by omega⟩]
theorem cut_map {α : Type} (f : α → D) (l : List α) (lo hi : Option Int) : ∃ l' : List α, cutD (l.map f) lo hi = l'.map f ∧ (∀ r ∈ l', r ∈ l) ∧ l'.length ≤ l.length := by
  refine ⟨(l.drop (HT.sIx (l.map f).length 0 lo)).take (HT.sIx (l.map f).length (l.map f).length hi - HT.sIx (l.map f).length 0 lo), ?_, fun r hr => List.mem_of_mem_drop (List.mem_of_mem_take hr), ?_⟩
  · unfold cutD
    rw [List.map_take, List.map_drop]
  · rw [List.length_take, List.length_drop]
    omega
section
variable {cs : List Int} (hc : cs.length ≤ 1000) {s : D} {x2 x3 x4 x5 x6 x7 x8 : Slot} {n : Nat}
include hc
abbrev gRw : Ev := (dCall [true, false] d__law_drawn_row (dCons (dVar 1) (dCons (dVar 3) dNil)))
theorem rows_go (hn : n ≤ 3) : ∀ (ds : List D) (a b c : Int), ∃ (l : List Row) (a' b' c' : Int), l.length = ds.length ∧ (∀ r ∈ l, Sm n r) ∧ compGo [9] (gtName 9) dYes gRw ds (E s (bagD a b c cs) x2 (.val (.int n)) x4 x5 x6 x7 x8) = some (l.map rowD, E s (bagD a' b' c' cs) x2 (.val (.int n)) x4 x5 x6 x7 x8)
  | [], a, b, c => ⟨[], a, b, c, rfl, (fun p h => nomatch h), rfl⟩
  | d :: ds, a, b, c => by
    obtain ⟨r, a1, b1, c1, h1, h2, h3, e1⟩ := row_spec hc n hn a b c
    obtain ⟨l, a2, b2, c2, hl, hi, e2⟩ := rows_go hn ds a1 b1 c1
    refine ⟨r :: l, a2, b2, c2, by simp [hl], fun p hp => ?_, ?_⟩
    · rcases List.mem_cons.mp hp with rfl | hp
      · exact ⟨h1, h2, h3⟩
      · exact hi p hp
    · unfold compGo
      simp only [E] at e2
      simp [E, e1, e2]
abbrev gTk (k : Int) : Ev := (dCall [true, false] d__law_take (dCons (dVar 1) (dCons (dC (.int k)) dNil)))
theorem range_go (k : Int) (k0 : 0 < k) (k1 : k < 1000) (a b c : Int) : ∃ (z : Nat) (a' b' c' : Int), (z : Int) < k ∧ iArgs kRange1 (dCons (gTk k) dNil) (E s (bagD a b c cs) x2 x3 x4 x5 x6 x7 x8) = .ok ((List.range z).map fun (k : Nat) => D.int (k : Int)) (E s (bagD a' b' c' cs) x2 x3 x4 x5 x6 x7 x8) := by
  obtain ⟨r, a1, b1, c1, r0, r1, e1⟩ := take_spec a b c cs k hc k0 (by omega)
  have e2 := range_of r0 (by omega)
  refine ⟨r.toNat, a1, b1, c1, by omega, ?_⟩
  unfold gTk
  simp [E, e1, e2]
abbrev b1 : Sv := (dSet 3 (gTk 4))
theorem b1_spec (a b c : Int) (h3 : NB x3) : ∃ (n : Nat) (a' b' c' : Int), n ≤ 3 ∧ b1 (E s (bagD a b c cs) x2 x3 x4 x5 x6 x7 x8) = .nx (E s (bagD a' b' c' cs) x2 (.val (.int n)) x4 x5 x6 x7 x8) := by
  obtain ⟨r, a1, b1', c1, r0, r1, e1⟩ := take_spec a b c cs 4 hc (by decide) (by decide)
  have e : (r.toNat : Int) = r := by omega
  have st := setV_nb (ρ := E s (bagD a1 b1' c1 cs) x2 x3 x4 x5 x6 x7 x8) (i := 3) (s := .val (.int r)) rfl h3
  refine ⟨r.toNat, a1, b1', c1, by omega, ?_⟩
  rw [e]
  unfold b1 gTk
  simp only [E] at st
  simp [-s_setV, E, e1, st]
abbrev b2 : Sv := (dSet 4 (dLc (iArgs kRange1 (dCons (gTk 5) dNil)) [9] (gtName 9) dYes gRw))
theorem b2_spec (hn : n ≤ 3) (a b c : Int) (h4 : NB x4) : ∃ (l : List Row) (a' b' c' : Int), l.length < 5 ∧ (∀ r ∈ l, Sm n r) ∧ b2 (E s (bagD a b c cs) x2 (.val (.int n)) x4 x5 x6 x7 x8) = .nx (E s (bagD a' b' c' cs) x2 (.val (.int n)) (.own (.lst (l.map rowD))) x5 x6 x7 x8) := by
  obtain ⟨z, a1, b1, c1, hz, e1⟩ := range_go (s := s) (x2 := x2) (x3 := .val (.int n)) (x4 := x4) (x5 := x5) (x6 := x6) (x7 := x7) (x8 := x8) hc 5 (by decide) (by decide) a b c
  obtain ⟨l, a2, b2', c2, hl, hi, e2⟩ := rows_go (s := s) (x2 := x2) (x4 := x4) (x5 := x5) (x6 := x6) (x7 := x7) (x8 := x8) hc hn ((List.range z).map fun (k : Nat) => D.int (k : Int)) a1 b1 c1
  rw [List.length_map, List.length_range] at hl
  refine ⟨l, a2, b2', c2, by omega, hi, ?_⟩
  have st := setV_nb (ρ := E s (bagD a2 b2' c2 cs) x2 (.val (.int n)) x4 x5 x6 x7 x8) (i := 4) (s := .own (.lst (l.map rowD))) rfl h4
  unfold b2
  rw [dSet_ap, s_dLc, e1]
  dsimp only
  rw [if_pos ⟨rfl, by rw [List.length_map, List.length_range]; omega⟩]
  show (match compGo [9] (gtName 9) dYes gRw ((List.range z).map fun (k : Nat) => D.int (k : Int)) (E s (bagD a1 b1 c1 cs) x2 (.val (.int n)) x4 x5 x6 x7 x8) with | some (ys, ρ2) => ER.ok (.new (.lst ys)) (restE ρ2 _ [9]) | none => .no).st _ = _
  rw [e2]
  show SR.of (setV _ 4 (.own _)) = _
  exact congrArg SR.of st
/-! ### lines made alike -/
abbrev gA : Ev := (dTup (dCons (dOp2 opSub (dOp2 opAdd (dOp2 opIx (dVar 10) (dC (.int 0))) (dCall [true, false] d__law_take (dCons (dVar 1) (dCons (dC (.int 3)) dNil)))) (dC (.int 1))) (dCons (dOp2 opIx (dVar 10) (dC (.int 1))) dNil)))
theorem alter_go : ∀ (l : List Row) (a b c : Int), (∀ r ∈ l, Sm n r) → ∃ (l' : List Row) (a' b' c' : Int), l'.length = l.length ∧ Rows n l' ∧ compGo [10] (gtName 10) dYes gA (l.map rowD) (E s (bagD a b c cs) x2 x3 x4 x5 x6 x7 x8) = some (l'.map rowD, E s (bagD a' b' c' cs) x2 x3 x4 x5 x6 x7 x8)
  | [], a, b, c, _ => ⟨[], a, b, c, rfl, (fun p h => nomatch h), rfl⟩
  | r :: l, a, b, c, h => by
    obtain ⟨z, a1, b1, c1, z0, z1, e1⟩ := take_spec a b c cs 3 hc (by decide) (by decide)
    obtain ⟨l', a2, b2, c2, hl, hi, e2⟩ := alter_go l a1 b1 c1 fun r' hr => h r' (List.mem_cons_of_mem _ hr)
    have hr := h r List.mem_cons_self
    refine ⟨(r.1 + z - 1, r.2) :: l', a2, b2, c2, by simp [hl], fun p hp => ?_, ?_⟩
    · rcases List.mem_cons.mp hp with rfl | hp
      · have := hr.2.1
        exact ⟨hr.1, by show -40 < r.1 + z - 1; omega, by show r.1 + z - 1 < 40; omega, fun p hp => by have := hr.2.2 p hp; omega⟩
      · exact hi p hp
    · have i0 : opIx (rowD r) (.int 0) = some (.val (.int r.1)) := by simp [rowD, atI_zero]
      have i1 : opIx (rowD r) (.int 1) = some (.val (intsT r.2)) := by simp [rowD, atI_one]
      rw [List.map_cons]
      unfold compGo
      simp only [E] at e2
      simp [E, i0, i1, e1, e2]
      rfl
abbrev gB3 : Ev := (dTup (dCons (dOp2 opMulA (dC (.int 3)) (dOp2 opIx (dVar 10) (dC (.int 0)))) (dCons (dB fTuple (dCons (dLc (iSeq (dOp2 opIx (dVar 10) (dC (.int 1)))) [11] (gtName 11) dYes (dOp2 opMulA (dC (.int 3)) (dVar 11))) dNil)) dNil)))
omit hc in
theorem triple_go {bag : D} (l : List Row) (hn : n ≤ 3) (h : ∀ r ∈ l, Sm n r) : compGo [10] (gtName 10) dYes gB3 (l.map rowD) (E s bag x2 x3 x4 x5 x6 x7 x8) = some ((l.map fun r => (3 * r.1, r.2.map fun p => 3 * p)).map rowD, E s bag x2 x3 x4 x5 x6 x7 x8) := by
  rw [List.map_map]
  refine compGo_m l fun r hr => ⟨[.val s, .own bag, x2, x3, x4, x5, x6, x7, x8, .non, .val (rowD r), .non], rfl, ⟨.val (rowD (3 * r.1, r.2.map fun p => 3 * p)), ?_, rfl⟩, rfl⟩
  have sm := h r hr
  have i0 : opIx (rowD r) (.int 0) = some (.val (.int r.1)) := by simp [rowD, atI_zero]
  have i1 : opIx (rowD r) (.int 1) = some (.val (intsT r.2)) := by simp [rowD, atI_one]
  let ρ : DL.Env := [.val s, .own bag, x2, x3, x4, x5, x6, x7, x8, .non, .val (rowD r), .non]
  have lc : dLc (iSeq (dOp2 opIx (dVar 10) (dC (.int 1)))) [11] (gtName 11) dYes (dOp2 opMulA (dC (.int 3)) (dVar 11)) ρ = .ok (.new (.lst ((r.2.map fun p => 3 * p).map .int))) ρ := by
    have it : iSeq (dOp2 opIx (dVar 10) (dC (.int 1))) ρ = .ok (r.2.map .int) ρ := by
      simp [ρ, i1, intsT]
    have go : compGo [11] (gtName 11) dYes (dOp2 opMulA (dC (.int 3)) (dVar 11)) (r.2.map .int) ρ = some ((r.2.map fun p => 3 * p).map .int, ρ) :=
      compGo_ints (fun p => 3 * p) r.2 fun p hp => ⟨[.val s, .own bag, x2, x3, x4, x5, x6, x7, x8, .non, .val (rowD r), .val (.int p)], rfl, ⟨.val (.int (3 * p)), by
        have c : CMul 3 p = True := by rw [CMul_ap]; simp only [eq_iff_iff, iff_true]; left; decide
        simp [c], rfl⟩, rfl⟩
    rw [s_dLc, it]
    dsimp only
    rw [if_pos ⟨rfl, by rw [List.length_map]; have := sm.1; omega⟩]
    show (match compGo _ _ _ _ _ ρ with | some (ys, ρ2) => ER.ok (.new (.lst ys)) (restE ρ2 _ [11]) | none => .no) = _
    rw [go]
    rfl
  have c : CMul 3 r.1 = True := by rw [CMul_ap]; simp only [eq_iff_iff, iff_true]; left; decide
  simp only [ρ] at lc
  unfold gB3
  simp [-s_dLc, i0, c, lc, -List.map_map]
  rfl
abbrev gLA : Ev := (dLc (iSeq (dSl opSl (dVar 4) none (some (dC (.int 1))))) [10] (gtName 10) dYes gA)
abbrev gLB : Ev := (dLc (iSeq (dSl opSl (dVar 4) (some (dC (.int 1))) (some (dC (.int 2))))) [10] (gtName 10) dYes gB3)
abbrev b3 : Sv := (dSet 4 (dCall [true, false] d__law_mixed (dCons (dVar 1) (dCons (dOp2 opAdd (dOp2 opAdd (dVar 4) gLA) gLB) dNil))))
theorem b3_spec (hn : n ≤ 3) (l : List Row) (hl : l.length < 5) (h : ∀ r ∈ l, Sm n r) (a b c : Int) : ∃ (l' : List Row) (a' b' c' : Int), l'.length < 20 ∧ Rows n l' ∧ b3 (E s (bagD a b c cs) x2 x3 (.own (.lst (l.map rowD))) x5 x6 x7 x8) = .nx (E s (bagD a' b' c' cs) x2 x3 (.own (.lst (l'.map rowD))) x5 x6 x7 x8) := by
  obtain ⟨lA, cA, mA, nA⟩ := cut_map rowD l none (some 1)
  obtain ⟨lB, cB, mB', nB⟩ := cut_map rowD l (some 1) (some 2)
  let x4' : Slot := .own (.lst (l.map rowD))
  obtain ⟨lA', a1, b1, c1, hlA, hA, eA⟩ := alter_go (s := s) (x2 := x2) (x3 := x3) (x4 := x4') (x5 := x5) (x6 := x6) (x7 := x7) (x8 := x8) (n := n) hc lA a b c fun r hr => h r (mA r hr)
  have eB := triple_go (s := s) (bag := bagD a1 b1 c1 cs) (x2 := x2) (x3 := x3) (x4 := x4') (x5 := x5) (x6 := x6) (x7 := x7) (x8 := x8) lB hn fun r hr => h r (mB' r hr)
  let lB' := lB.map fun r => ((3 * r.1, r.2.map fun p => 3 * p) : Row)
  have hB : Rows n lB' := fun r hr => by
    obtain ⟨y, hy, rfl⟩ := List.mem_map.mp hr
    have sm := h y (mB' y hy)
    have := sm.2.1
    refine ⟨by show (List.map _ _).length = n; rw [List.length_map]; exact sm.1, by show -40 < 3 * y.1; omega, by show 3 * y.1 < 40; omega, fun p hp => ?_⟩
    obtain ⟨z, hz, rfl⟩ := List.mem_map.mp hp
    have := sm.2.2 z hz
    omega
  have lA_len : lA'.length < 5 := by omega
  have lB_len : lB'.length < 5 := by show (List.map _ _).length < 5; rw [List.length_map]; omega
  obtain ⟨l', a2, b2, c2, hl', hm', eM⟩ := mixed_spec hc (l ++ lA' ++ lB') a1 b1 c1 (by rw [List.length_append, List.length_append]; omega)
  refine ⟨l', a2, b2, c2, by rw [hl', List.length_append, List.length_append]; omega, fun r hr => ?_, ?_⟩
  · rcases List.mem_append.mp (hm' r hr) with q | q
    · rcases List.mem_append.mp q with q | q
      · exact (h r q).ok
      · exact hA r q
    · exact hB r q
  · have tA : gLA (E s (bagD a b c cs) x2 x3 x4' x5 x6 x7 x8) = .ok (.new (.lst (lA'.map rowD))) (E s (bagD a1 b1 c1 cs) x2 x3 x4' x5 x6 x7 x8) := by
      have it : iSeq (dSl opSl (dVar 4) none (some (dC (.int 1)))) (E s (bagD a b c cs) x2 x3 x4' x5 x6 x7 x8) = .ok (lA.map rowD) (E s (bagD a b c cs) x2 x3 x4' x5 x6 x7 x8) := by
        simp [E, x4', cA]
      unfold gLA
      rw [s_dLc, it]
      dsimp only
      rw [if_pos ⟨rfl, by rw [List.length_map]; omega⟩]
      show (match compGo [10] (gtName 10) dYes gA (lA.map rowD) (E s (bagD a b c cs) x2 x3 x4' x5 x6 x7 x8) with | some (ys, ρ2) => ER.ok (.new (.lst ys)) (restE ρ2 _ [10]) | none => .no) = _
      rw [eA]
      rfl
    have tB : gLB (E s (bagD a1 b1 c1 cs) x2 x3 x4' x5 x6 x7 x8) = .ok (.new (.lst (lB'.map rowD))) (E s (bagD a1 b1 c1 cs) x2 x3 x4' x5 x6 x7 x8) := by
      have it : iSeq (dSl opSl (dVar 4) (some (dC (.int 1))) (some (dC (.int 2)))) (E s (bagD a1 b1 c1 cs) x2 x3 x4' x5 x6 x7 x8) = .ok (lB.map rowD) (E s (bagD a1 b1 c1 cs) x2 x3 x4' x5 x6 x7 x8) := by
        simp [E, x4', cB]
      unfold gLB
      rw [s_dLc, it]
      dsimp only
      rw [if_pos ⟨rfl, by rw [List.length_map]; omega⟩]
      show (match compGo [10] (gtName 10) dYes gB3 (lB.map rowD) (E s (bagD a1 b1 c1 cs) x2 x3 x4' x5 x6 x7 x8) with | some (ys, ρ2) => ER.ok (.new (.lst ys)) (restE ρ2 _ [10]) | none => .no) = _
      rw [eB]
      rfl
    have o1 : opAdd (.lst (l.map rowD)) (.lst (lA'.map rowD)) = some (.new (.lst ((l ++ lA').map rowD))) := by
      rw [opAdd_lst, if_pos (by rw [List.length_map, List.length_map, sizeLine_eq]; omega), List.map_append]
    have o2 : opAdd (.lst ((l ++ lA').map rowD)) (.lst (lB'.map rowD)) = some (.new (.lst ((l ++ lA' ++ lB').map rowD))) := by
      rw [opAdd_lst, if_pos (by rw [List.length_map, List.length_map, List.length_append, sizeLine_eq]; omega), ← List.map_append]
    have p1 : dOp2 opAdd (dVar 4) gLA (E s (bagD a b c cs) x2 x3 x4' x5 x6 x7 x8) = .ok (.new (.lst ((l ++ lA').map rowD))) (E s (bagD a1 b1 c1 cs) x2 x3 x4' x5 x6 x7 x8) := by
      rw [dOp2_ap, show dVar 4 (E s (bagD a b c cs) x2 x3 x4' x5 x6 x7 x8) = .ok (.loc 4) (E s (bagD a b c cs) x2 x3 x4' x5 x6 x7 x8) from rfl, er_settle_loc, er_bind_ok, tA, er_settle_new, er_bind_ok]
      show ER.of (opAdd (.lst (l.map rowD)) (.lst (lA'.map rowD))) _ = _
      rw [o1]
      rfl
    have p2 : dOp2 opAdd (dOp2 opAdd (dVar 4) gLA) gLB (E s (bagD a b c cs) x2 x3 x4' x5 x6 x7 x8) = .ok (.new (.lst ((l ++ lA' ++ lB').map rowD))) (E s (bagD a1 b1 c1 cs) x2 x3 x4' x5 x6 x7 x8) := by
      rw [dOp2_ap, p1, er_settle_new, er_bind_ok, tB, er_settle_new, er_bind_ok]
      show ER.of (opAdd (.lst ((l ++ lA').map rowD)) (.lst (lB'.map rowD))) _ = _
      rw [o2]
      rfl
    clear o2 hm' hl'
    generalize l ++ lA' ++ lB' = lw at eM p2
    show dSet 4 (dCall [true, false] d__law_mixed (dCons (dVar 1) (dCons (dOp2 opAdd (dOp2 opAdd (dVar 4) gLA) gLB) dNil))) (E s (bagD a b c cs) x2 x3 x4' x5 x6 x7 x8) = _
    rw [dSet_ap, dCall_ap, dCons_ap, show dVar 1 (E s (bagD a b c cs) x2 x3 x4' x5 x6 x7 x8) = .ok (.loc 1) (E s (bagD a b c cs) x2 x3 x4' x5 x6 x7 x8) from rfl, er_settle_loc]
    dsimp only
    rw [dCons_ap, p2, er_settle_new]
    simp [eM, x4']
/-! ### rests -/
abbrev gRst : Ev := (dTup (dCons (dCall [true, false] d__law_some (dCons (dVar 1) (dCons (dLst (dCons (dC (.int 1)) (dCons (dC (.int 2)) (dCons (dC (.int 3)) (dCons (dC (.int 4)) (dCons (dC (.int 6)) dNil)))))) dNil))) (dCons (dCall [true, false] d__law_drawn_row (dCons (dVar 1) (dCons (dVar 3) dNil))) dNil)))
theorem rests_go (hn : n ≤ 3) : ∀ (ds : List D) (a b c : Int), ∃ (q : List Rest) (a' b' c' : Int), q.length = ds.length ∧ Rests n q ∧ compGo [9] (gtName 9) dYes gRst ds (E s (bagD a b c cs) x2 (.val (.int n)) x4 x5 x6 x7 x8) = some (q.map restD, E s (bagD a' b' c' cs) x2 (.val (.int n)) x4 x5 x6 x7 x8)
  | [], a, b, c => ⟨[], a, b, c, rfl, (fun p h => nomatch h), rfl⟩
  | d :: ds, a, b, c => by
    obtain ⟨z, a0, b0, c0, hz, e0⟩ := some_spec a b c cs [.int 1, .int 2, .int 3, .int 4, .int 6] hc (by decide) (by decide)
    obtain ⟨r, a1, b1, c1, h1, h2, h3, e1⟩ := row_spec hc n hn a0 b0 c0
    obtain ⟨l, a2, b2, c2, hl, hi, e2⟩ := rests_go hn ds a1 b1 c1
    have : ∃ i : Int, z = .int i ∧ 0 < i ∧ i < 40 := by
      simp only [List.mem_cons, List.not_mem_nil, or_false] at hz
      rcases hz with rfl | rfl | rfl | rfl | rfl <;> exact ⟨_, rfl, by decide, by decide⟩
    obtain ⟨i, rfl, i1, i2⟩ := this
    refine ⟨(i, r) :: l, a2, b2, c2, by simp [hl], fun p hp => ?_, ?_⟩
    · rcases List.mem_cons.mp hp with rfl | hp
      · exact ⟨i1, i2, Sm.ok ⟨h1, h2, h3⟩⟩
      · exact hi p hp
    · unfold compGo
      simp only [E] at e2
      simp [E, e0, e1, e2]
      rfl
abbrev b4 : Sv := (dSet 5 (dLc (iArgs kRange1 (dCons (gTk 3) dNil)) [9] (gtName 9) dYes gRst))
theorem b4_spec (hn : n ≤ 3) (a b c : Int) (h5 : NB x5) : ∃ (q : List Rest) (a' b' c' : Int), q.length < 3 ∧ Rests n q ∧ b4 (E s (bagD a b c cs) x2 (.val (.int n)) x4 x5 x6 x7 x8) = .nx (E s (bagD a' b' c' cs) x2 (.val (.int n)) x4 (.own (.lst (q.map restD))) x6 x7 x8) := by
  obtain ⟨z, a1, b1, c1, hz, e1⟩ := range_go (s := s) (x2 := x2) (x3 := .val (.int n)) (x4 := x4) (x5 := x5) (x6 := x6) (x7 := x7) (x8 := x8) hc 3 (by decide) (by decide) a b c
  obtain ⟨l, a2, b2', c2, hl, hi, e2⟩ := rests_go (s := s) (x2 := x2) (x4 := x4) (x5 := x5) (x6 := x6) (x7 := x7) (x8 := x8) hc hn ((List.range z).map fun (k : Nat) => D.int (k : Int)) a1 b1 c1
  rw [List.length_map, List.length_range] at hl
  refine ⟨l, a2, b2', c2, by omega, hi, ?_⟩
  have st := setV_nb (ρ := E s (bagD a2 b2' c2 cs) x2 (.val (.int n)) x4 x5 x6 x7 x8) (i := 5) (s := .own (.lst (l.map restD))) rfl h5
  unfold b4
  rw [dSet_ap, s_dLc, e1]
  dsimp only
  rw [if_pos ⟨rfl, by rw [List.length_map, List.length_range]; omega⟩]
  show (match compGo [9] (gtName 9) dYes gRst ((List.range z).map fun (k : Nat) => D.int (k : Int)) (E s (bagD a1 b1 c1 cs) x2 (.val (.int n)) x4 x5 x6 x7 x8) with | some (ys, ρ2) => ER.ok (.new (.lst ys)) (restE ρ2 _ [9]) | none => .no).st _ = _
  rw [e2]
  show SR.of (setV _ 5 (.own _)) = _
  exact congrArg SR.of st
abbrev b5 : Sv := (dSet 6 (dCall [false, false, false] d__law_least (dCons (dVar 3) (dCons (dVar 4) (dCons (dVar 5) dNil)))))
omit hc in
theorem b5_spec {bag : D} {l : List Row} {q : List Rest} (hn : n ≤ 3) (hr : Rows n l) (hs : Rests n q) (l1 : l.length < 300) (l2 : q.length < 300) (h6 : NB x6) : b5 (E s bag x2 (.val (.int n)) (.own (.lst (l.map rowD))) (.own (.lst (q.map restD))) x6 x7 x8) = .nx (E s bag x2 (.val (.int n)) (.val (.lst (l.map rowD))) (.val (.lst (q.map restD))) (.val (dueD n l q)) x7 x8) := by
  have e := law_least_spec (n := n) (ls := .lst (l.map rowD)) (rs := .lst (q.map restD)) (l := l) (q := q) rfl rfl (by omega) hr hs l1 l2
  have st := setV_nb (ρ := E s bag x2 (.val (.int n)) (.val (.lst (l.map rowD))) (.val (.lst (q.map restD))) x6 x7 x8) (i := 6) (s := .val (dueD n l q)) rfl h6
  unfold b5
  simp only [E] at st
  simp [-s_setV, E, e, st]
/-- numbers -/
abbrev gNm : Ev := (dCall [true, false] d__law_take (dCons (dVar 1) (dCons (dC (.int 7)) dNil)))
theorem nums_go : ∀ (ds : List D) (a b c : Int), ∃ (l : List Int) (a' b' c' : Int), l.length = ds.length ∧ (∀ y ∈ l, 0 ≤ y ∧ y < 7) ∧ compGo [9] (gtName 9) dYes gNm ds (E s (bagD a b c cs) x2 x3 x4 x5 x6 x7 x8) = some (l.map .int, E s (bagD a' b' c' cs) x2 x3 x4 x5 x6 x7 x8)
  | [], a, b, c => ⟨[], a, b, c, rfl, (fun p h => nomatch h), rfl⟩
  | d :: ds, a, b, c => by
    obtain ⟨z, a1, b1, c1, z0, z1, e1⟩ := take_spec a b c cs 7 hc (by decide) (by decide)
    obtain ⟨l, a2, b2, c2, hl, hi, e2⟩ := nums_go ds a1 b1 c1
    refine ⟨z :: l, a2, b2, c2, by simp [hl], fun p hp => ?_, ?_⟩
    · rcases List.mem_cons.mp hp with rfl | hp
      · exact ⟨z0, z1⟩
      · exact hi p hp
    · unfold compGo
      simp only [E] at e2
      simp [E, e1, e2]
abbrev c1 : Sv := (dSet 8 (dB fTuple (dCons (dLc (iArgs kRange1 (dCons (dVar 3) dNil)) [9] (gtName 9) dYes gNm) dNil)))
theorem c1_spec (hn : n ≤ 3) (a b c : Int) (h8 : NB x8) : ∃ (x : List Int) (a' b' c' : Int), x.length = n ∧ (∀ y ∈ x, 0 ≤ y ∧ y < 7) ∧ c1 (E s (bagD a b c cs) x2 (.val (.int n)) x4 x5 x6 x7 x8) = .nx (E s (bagD a' b' c' cs) x2 (.val (.int n)) x4 x5 x6 x7 (.val (intsT x))) := by
  obtain ⟨l, a2, b2', c2, hl, hi, e2⟩ := nums_go (s := s) (x2 := x2) (x3 := .val (.int n)) (x4 := x4) (x5 := x5) (x6 := x6) (x7 := x7) (x8 := x8) hc ((List.range n).map fun (k : Nat) => D.int (k : Int)) a b c
  rw [List.length_map, List.length_range] at hl
  refine ⟨l, a2, b2', c2, hl, hi, ?_⟩
  have st := setV_nb (ρ := E s (bagD a2 b2' c2 cs) x2 (.val (.int n)) x4 x5 x6 x7 x8) (i := 8) (s := .val (intsT l)) rfl h8
  have rg := range_of (k := (n : Int)) (by omega) (by omega)
  rw [Int.toNat_natCast] at rg
  have it : iArgs kRange1 (dCons (dVar 3) dNil) (E s (bagD a b c cs) x2 (.val (.int n)) x4 x5 x6 x7 x8) = .ok ((List.range n).map fun (k : Nat) => D.int (k : Int)) (E s (bagD a b c cs) x2 (.val (.int n)) x4 x5 x6 x7 x8) := by
    simp [E, rg]
  have lc : dLc (iArgs kRange1 (dCons (dVar 3) dNil)) [9] (gtName 9) dYes gNm (E s (bagD a b c cs) x2 (.val (.int n)) x4 x5 x6 x7 x8) = .ok (.new (.lst (l.map .int))) (E s (bagD a2 b2' c2 cs) x2 (.val (.int n)) x4 x5 x6 x7 x8) := by
    rw [s_dLc, it]
    dsimp only
    rw [if_pos ⟨rfl, by rw [List.length_map, List.length_range]; omega⟩]
    show (match compGo [9] (gtName 9) dYes gNm ((List.range n).map fun (k : Nat) => D.int (k : Int)) (E s (bagD a b c cs) x2 (.val (.int n)) x4 x5 x6 x7 x8) with | some (ys, ρ2) => ER.ok (.new (.lst ys)) (restE ρ2 _ [9]) | none => .no) = _
    rw [e2]
    rfl
  unfold c1
  rw [dSet_ap, dB_ap, dCons_ap, lc]
  show SR.of (setV _ 8 (.val (intsT l))) = _
  exact congrArg SR.of st
end
end K19

/-! law_k19: what a lap asks. -/
namespace K19
open PySem PySem.Spec L2 DL
/-- asked, and it is so -/
abbrev ask (gs : Av) : Sv := (dIfS (dNot (dTru (dCall [false, false] d__law_alike gs))) (dRet (dC (.bl false))) (fun ρ => .nx ρ))
theorem ask_spec {gs : Av} {ρ : DL.Env} {d : D} {p : PyData} {h w : Nat} (g : gs ρ = .ok [.val d, .val d] ρ) (a : Nice d p h w) (h1 : h ≤ 60) (h2 : w ≤ 2 ^ 20) : ask gs ρ = .nx ρ := by
  have e : d__law_alike [d, d] = .ok (.val (.bl true)) [d, d] := alike_nice a h1 h2
  unfold ask
  simp [g, e]
theorem ask_spec2 {g1 g2 : Ev} {ρ : DL.Env} {d : D} {p : PyData} {h w : Nat} {r1 r2 : RV} (e1 : (g1 ρ).settle = .ok (.val d) ρ) (e2 : (g2 ρ).settle = .ok (.val d) ρ) (a : Nice d p h w) (h1 : h ≤ 60) (h2 : w ≤ 2 ^ 20) : ask (dCons g1 (dCons g2 dNil)) ρ = .nx ρ :=
  ask_spec (by rw [dCons_ap, e1]; dsimp only; rw [dCons_ap, e2]; rfl) a h1 h2
theorem two_list {g1 g2 : Ev} {ρ : DL.Env} {a b : D} (e1 : (g1 ρ).settle = .ok (.val a) ρ) (e2 : (g2 ρ).settle = .ok (.val b) ρ) : dLst (dCons g1 (dCons g2 dNil)) ρ = .ok (.new (.lst [a, b])) ρ := by
  rw [dLst_ap, dFz_ap, dCons_ap, e1]
  dsimp only
  rw [dCons_ap, e2]
  rfl
section
variable {s bag : D} {x2 x7 x8 : Slot} {n : Nat} {l : List Row} {q : List Rest}
abbrev EL (s bag : D) (x2 : Slot) (n : Nat) (l : List Row) (q : List Rest) (x7 x8 : Slot) : DL.Env := E s bag x2 (.val (.int n)) (.val (.lst (l.map rowD))) (.val (.lst (q.map restD))) (.val (dueD n l q)) x7 x8
abbrev m1 : Ev := (dCall [false, false, false] d_made_system (dCons (dVar 3) (dCons (dVar 4) (dCons (dVar 5) dNil))))
abbrev m2 : Ev := (dCall [false, false, false] d_made_system (dCons (dVar 3) (dCons (dB fTuple (dCons (dOp1 opRev (dVar 4)) dNil)) (dCons (dB fTuple (dCons (dOp1 opRev (dVar 5)) dNil)) dNil))))
abbrev m3 : Ev := (dCall [false, false, false] d_made_system (dCons (dVar 3) (dCons (dOp2 opIx (dVar 6) (dC (.int 1))) (dCons (dOp2 opIx (dVar 6) (dC (.int 2))) dNil))))
abbrev b6 : Sv := ask (dCons (dLst (dCons m1 (dCons m2 (dCons m3 dNil)))) (dCons (dOp2 opMulA (dLst (dCons (dVar 6) dNil)) (dC (.int 3))) dNil))
theorem due_i1 : opIx (dueD n l q) (.int 1) = some (.val (.tup ((dueR n l q).map rowD))) := by rw [dueD_eq]; simp [sysD, atI_one]
theorem due_i2 : opIx (dueD n l q) (.int 2) = some (.val (.tup ((dueQ n l q).map restD))) := by rw [dueD_eq]; simp [sysD, atI_two]
theorem nice_due (hn : n ≤ 3) (hr : Rows n l) (hs : Rests n q) (l1 : l.length < 100) (l2 : q.length < 100) : ∃ p, Nice (dueD n l q) p 5 160000 := by
  have f := due_few (n := n) (l := l) (q := q)
  rw [dueD_eq]
  exact nice_sys hn (due_rows hr) (due_rests hs) (by omega) (by omega)
theorem b6_spec (hn : n ≤ 3) (hr : Rows n l) (hs : Rests n q) (l1 : l.length < 100) (l2 : q.length < 100) : b6 (EL s bag x2 n l q x7 x8) = .nx (EL s bag x2 n l q x7 x8) := by
  have f := due_few (n := n) (l := l) (q := q)
  have e1 : d_made_system [.int n, .lst (l.map rowD), .lst (q.map restD)] = .ok (.val (dueD n l q)) [.int n, .lst (l.map rowD), .lst (q.map restD)] := made_system_spec (l := l) (q := q) rfl rfl (by omega) hr hs (by omega) (by omega)
  have e2 : d_made_system [.int n, .tup (l.map rowD).reverse, .tup (q.map restD).reverse] = .ok (.val (dueD n l q)) [.int n, .tup (l.map rowD).reverse, .tup (q.map restD).reverse] := by
    have := made_system_spec (n := n) (ls := .tup (l.map rowD).reverse) (rs := .tup (q.map restD).reverse) (l := l.reverse) (q := q.reverse) (by rw [List.map_reverse]; rfl) (by rw [List.map_reverse]; rfl) (by omega) (fun r h => hr r (List.mem_reverse.mp h)) (fun r h => hs r (List.mem_reverse.mp h)) (by rw [List.length_reverse]; omega) (by rw [List.length_reverse]; omega)
    rw [show sysD n (sortR (rowsOf (madeM n l.reverse q.reverse))) (sortQ ((madeL n l.reverse q.reverse).map (·.1))) = dueD n l q from due_reverse n l q] at this
    exact this
  have e3 : d_made_system [.int n, .tup ((dueR n l q).map rowD), .tup ((dueQ n l q).map restD)] = .ok (.val (dueD n l q)) [.int n, .tup ((dueR n l q).map rowD), .tup ((dueQ n l q).map restD)] := by
    have := made_system_spec (n := n) (ls := .tup ((dueR n l q).map rowD)) (rs := .tup ((dueQ n l q).map restD)) (l := dueR n l q) (q := dueQ n l q) rfl rfl (by omega) (due_rows hr) (due_rests hs) (by omega) (by omega)
    rw [show sysD n (sortR (rowsOf (madeM n (dueR n l q) (dueQ n l q)))) (sortQ ((madeL n (dueR n l q) (dueQ n l q)).map (·.1))) = dueD n l q from due_again fun p hp => (hs p hp).1] at this
    exact this
  obtain ⟨p, np⟩ := nice_due hn hr hs l1 l2
  have a := Nice.lst (NiceL.cons np (NiceL.cons np (NiceL.cons np NiceL.nil)))
  have t1 : m1 (EL s bag x2 n l q x7 x8) = .ok (.val (dueD n l q)) (EL s bag x2 n l q x7 x8) := by simp [E, e1]
  have t2 : m2 (EL s bag x2 n l q x7 x8) = .ok (.val (dueD n l q)) (EL s bag x2 n l q x7 x8) := by simp [E, e2, -List.map_reverse]
  have t3 : m3 (EL s bag x2 n l q x7 x8) = .ok (.val (dueD n l q)) (EL s bag x2 n l q x7 x8) := by simp [E, e3, due_i1, due_i2]
  have mul : opMulA (.lst [dueD n l q]) (.int 3) = some (.new (.lst [dueD n l q, dueD n l q, dueD n l q])) := rfl
  refine ask_spec2 (r1 := .loc 0) (r2 := .loc 0) ?_ ?_ a (by decide) (by decide)
  · rw [dLst_ap, dFz_ap, dCons_ap, t1, er_settle_val]
    dsimp only
    rw [dCons_ap, t2, er_settle_val]
    dsimp only
    rw [dCons_ap, t3, er_settle_val]
    rfl
  · simp [E, mul]
abbrev b7 : Sv := ask (dCons (dCall [false] d_is_false (dCons (dVar 6) dNil)) (dCons (dOp2 opIn (dTup (dCons (dOp1 opNeg (dC (.int 1))) (dCons (dOp2 opMulA (dTup (dCons (dC (.int 0)) dNil)) (dVar 3)) dNil))) (dOp2 opIx (dVar 6) (dC (.int 1)))) dNil))
theorem b7_spec (hn : n ≤ 3) (hr : Rows n l) (hs : Rests n q) : b7 (EL s bag x2 n l q x7 x8) = .nx (EL s bag x2 n l q x7 x8) := by
  obtain ⟨b, hb⟩ := in_rows (l := dueR n l q) hn (zeros_ok n) (due_rows (q := q) hr)
  have e1 : d_is_false [dueD n l q] = .ok (.val (.bl b)) [dueD n l q] := is_false_spec (q := dueQ n l q) hn hb
  have z := opMulA_one (d := .int 0) n (by omega)
  have zt : D.tup (List.replicate n (.int 0)) = intsT (zeros n) := by unfold intsT zeros; rw [List.map_replicate]
  rw [zt] at z
  have rd : D.tup [.int (-1), intsT (zeros n)] = rowD (-1, zeros n) := rfl
  refine ask_spec2 (r1 := .loc 0) (r2 := .loc 0) ?_ ?_ (Nice.bl b) (by decide) (by decide)
  · simp [E, e1]
  · simp [E, z, due_i1, rd, hb]
/-! ### a turn -/
theorem dot_small : ∀ (ps x : List Int), (∀ p ∈ ps, -40 < p ∧ p < 40) → (∀ y ∈ x, 0 ≤ y ∧ y < 7) → -(280 * (ps.length : Int)) ≤ dot ps x ∧ dot ps x ≤ 280 * (ps.length : Int)
  | [], x, _, _ => by simp [dot]
  | _ :: _, [], _, _ => by simp [dot]; omega
  | p :: ps, y :: x, h, hx => by
    have ih := dot_small ps x (fun q hq => h q (List.mem_cons_of_mem _ hq)) fun q hq => hx q (List.mem_cons_of_mem _ hq)
    have hp := h p List.mem_cons_self
    have hy := hx y List.mem_cons_self
    have a : p * y ≤ 40 * y := Int.mul_le_mul_of_nonneg_right (by omega) hy.1
    have b : -40 * y ≤ p * y := Int.mul_le_mul_of_nonneg_right (by omega) hy.1
    simp only [dot, List.length_cons]
    omega
abbrev gV : Ev := (dLc (iSeq (dVar 4)) [10] (gtName 10) dYes (dCall [false, false] d_value (dCons (dVar 10) (dCons (dVar 8) dNil))))
abbrev gW : Ev := (dLc (iSeq (dVar 4)) [10] (gtName 10) dYes (dCall [false, false] d__law_value (dCons (dVar 10) (dCons (dVar 8) dNil))))
abbrev gK : Ev := (dCall [false, false] d_keeps (dCons (dVar 6) (dCons (dVar 8) dNil)))
abbrev gL : Ev := (dCall [false, false] d__law_keeps (dCons (dTup (dCons (dVar 3) (dCons (dVar 4) (dCons (dVar 5) dNil)))) (dCons (dVar 8) dNil)))
abbrev c2 : Sv := ask (dCons (dLst (dCons gK (dCons gV dNil))) (dCons (dLst (dCons gL (dCons gW dNil))) dNil))
theorem keeps_due (hn : n ≤ 3) (hr : Rows n l) (hs : Rests n q) (l1 : l.length < 100) (l2 : q.length < 100) (x : List Int) (hx : x.length ≤ 1000) (hb : ∀ y ∈ x, -10000 < y ∧ y < 10000) :
    d_keeps [dueD n l q, intsT x] = .ok (.val (.bl (decide (x.length = n) && !(x.any fun y => decide (y < 0)) && (okRows (dueR n l q) x && okRests (dueQ n l q) x)))) [dueD n l q, intsT x] := by
  have f := due_few (n := n) (l := l) (q := q)
  rw [dueD_eq]
  exact keeps_spec hn (due_rows hr) (due_rests hs) (by omega) (by omega) hx hb
theorem c2_spec (hn : n ≤ 3) (hr : Rows n l) (hs : Rests n q) (l1 : l.length < 100) (l2 : q.length < 100) (x : List Int) (hx : x.length = n) (hb : ∀ y ∈ x, 0 ≤ y ∧ y < 7) : c2 (EL s bag x2 n l q x7 (.val (intsT x))) = .nx (EL s bag x2 n l q x7 (.val (intsT x))) := by
  let B := okRows l x && okRests q x
  have k1 := keeps_due hn hr hs l1 l2 x (by omega) fun y hy => by have := hb y hy; omega
  have same : (decide (x.length = n) && !(x.any fun y => decide (y < 0)) && (okRows (dueR n l q) x && okRests (dueQ n l q) x)) = B := by
    have ng : (x.any fun y => decide (y < 0)) = false := by
      rw [List.any_eq_false]
      intro y hy
      have := hb y hy
      simp
      omega
    rw [decide_eq_true hx, ng]
    simp only [Bool.not_false, Bool.true_and]
    rw [Bool.eq_iff_iff, ok_iff, ok_iff]
    exact holds_due (fun y hy => (hb y hy).1) hs
  rw [same] at k1
  have k2 : d__law_keeps [lawS n l q, intsT x] = .ok (.val (.bl B)) [lawS n l q, intsT x] := law_keeps_spec hn hr hs (by omega) (by omega)
  let ρ := EL s bag x2 n l q x7 (.val (intsT x))
  have it : iSeq (dVar 4) ρ = .ok (l.map rowD) ρ := by simp [ρ, E]
  have v1 : gV ρ = .ok (.new (.lst (l.map fun r => D.int (val r x)))) ρ := by
    have go : compGo [10] (gtName 10) dYes (dCall [false, false] d_value (dCons (dVar 10) (dCons (dVar 8) dNil))) (l.map rowD) ρ = some (l.map (fun r => D.int (val r x)), ρ) :=
      compGo_m l fun r h => ⟨[.val s, .own bag, x2, .val (.int n), .val (.lst (l.map rowD)), .val (.lst (q.map restD)), .val (dueD n l q), x7, .val (intsT x), .non, .val (rowD r), .non], rfl, ⟨.val (.int (val r x)), by simp [value_small hn (hr r h) x], rfl⟩, rfl⟩
    unfold gV
    rw [s_dLc, it]
    dsimp only
    rw [if_pos ⟨rfl, by rw [List.length_map]; omega⟩]
    show (match compGo [10] (gtName 10) dYes (dCall [false, false] d_value (dCons (dVar 10) (dCons (dVar 8) dNil))) (l.map rowD) ρ with | some (ys, ρ2) => ER.ok (.new (.lst ys)) (restE ρ2 _ [10]) | none => .no) = _
    rw [go]
    rfl
  have v2 : gW ρ = .ok (.new (.lst (l.map fun r => D.int (val r x)))) ρ := v1
  have n1 : NiceL (l.map fun r => D.int (val r x)) (l.map fun r => PyData.int (val r x)) 0 (l.length * 42) := NiceL.map l fun r h => nice_int (by
    have a := dot_small r.2 x (hr r h).2.2.2 hb
    have b := hr r h
    have c := b.1
    unfold val
    have := b.2.1
    have := b.2.2.1
    omega)
  have nb := (Nice.lst (NiceL.cons (Nice.bl B) (NiceL.cons (Nice.lst n1) NiceL.nil))).up (h' := 2) (w' := 10000) (by decide) (by omega)
  have t1 : gK ρ = .ok (.val (.bl B)) ρ := by simp [ρ, E, k1]
  have t2 : gL ρ = .ok (.val (.bl B)) ρ := by
    have ls : D.tup [.int n, .lst (l.map rowD), .lst (q.map restD)] = lawS n l q := rfl
    simp [ρ, E, ls, k2]
  refine ask_spec2 (r1 := .loc 0) (r2 := .loc 0) ?_ ?_ nb (by decide) (by decide)
  · rw [two_list (by rw [t1]; rfl) (by rw [v1]; rfl)]
    rfl
  · rw [two_list (by rw [t2]; rfl) (by rw [v2]; rfl)]
    rfl
end
end K19

/-! law_k19: the law. -/
namespace K19
open PySem PySem.Spec L2 DL
section
variable {cs : List Int} (hc : cs.length ≤ 1000) {s : D} {x2 x7 x8 : Slot} {n : Nat} {l : List Row} {q : List Rest}
include hc
theorem turns_go (hn : n ≤ 3) (hr : Rows n l) (hs : Rests n q) (l1 : l.length < 100) (l2 : q.length < 100) : ∀ (ds : List D) (a b c : Int) (x7 x8 : Slot), NB x7 → NB x8 → ∃ (a' b' c' : Int) (x7' x8' : Slot), NB x7' ∧ NB x8' ∧ forGo (gtName 7) (dSeq c1 c2) ds (EL s (bagD a b c cs) x2 n l q x7 x8) = .nx (EL s (bagD a' b' c' cs) x2 n l q x7' x8')
  | [], a, b, c, x7, x8, h7, h8 => ⟨a, b, c, x7, x8, h7, h8, rfl⟩
  | d :: ds, a, b, c, x7, x8, h7, h8 => by
    obtain ⟨x, a1, b1, c1', hx, hb, e1⟩ := c1_spec (s := s) (x2 := x2) (x4 := .val (.lst (l.map rowD))) (x5 := .val (.lst (q.map restD))) (x6 := .val (dueD n l q)) (x7 := .val d) hc hn a b c h8
    obtain ⟨a2, b2, c2', y7, y8, n7, n8, e2⟩ := turns_go hn hr hs l1 l2 ds a1 b1 c1' (.val d) (.val (intsT x)) (nb_val _) (nb_val _)
    refine ⟨a2, b2, c2', y7, y8, n7, n8, ?_⟩
    have e0 : gtName 7 d (EL s (bagD a b c cs) x2 n l q x7 x8) = some (EL s (bagD a b c cs) x2 n l q (.val d) x8) := setV_nb rfl h7
    unfold forGo
    rw [e0]
    dsimp only
    have e3 : dSeq c1 c2 (EL s (bagD a b c cs) x2 n l q (.val d) x8) = .nx (EL s (bagD a1 b1 c1' cs) x2 n l q (.val d) (.val (intsT x))) := by
      show (c1 _).bind c2 = _
      rw [e1]
      exact c2_spec hn hr hs l1 l2 x hx hb
    rw [e3]
    exact e2
abbrev b8 : Sv := (dFor (iArgs kRange1 (dCons (dC (.int 12)) dNil)) (gtName 7) (dSeq c1 c2))
theorem b8_spec (hn : n ≤ 3) (hr : Rows n l) (hs : Rests n q) (l1 : l.length < 100) (l2 : q.length < 100) (a b c : Int) (h7 : NB x7) (h8 : NB x8) : ∃ (a' b' c' : Int) (x7' x8' : Slot), NB x7' ∧ NB x8' ∧ b8 (EL s (bagD a b c cs) x2 n l q x7 x8) = .nx (EL s (bagD a' b' c' cs) x2 n l q x7' x8') := by
  obtain ⟨a', b', c', y7, y8, n7, n8, e⟩ := turns_go (s := s) (x2 := x2) hc hn hr hs l1 l2 ((List.range 12).map fun (k : Nat) => D.int (k : Int)) a b c x7 x8 h7 h8
  refine ⟨a', b', c', y7, y8, n7, n8, ?_⟩
  have it : iArgs kRange1 (dCons (dC (.int 12)) dNil) (EL s (bagD a b c cs) x2 n l q x7 x8) = .ok ((List.range 12).map fun (k : Nat) => D.int (k : Int)) (EL s (bagD a b c cs) x2 n l q x7 x8) := by
    rw [s_iArgs, dCons_ap]
    rfl
  show dFor _ (gtName 7) (dSeq c1 c2) _ = _
  rw [dFor_ap, it]
  exact e
omit hc
abbrev b9 : Sv := (dIfS (dIf (dOp2 opGt (dVar 3) (dC (.int 0))) (dOp2 opNotB (dCall [false, false] d_keeps (dCons (dVar 6) (dCons (dOp2 opAdd (dTup (dCons (dOp1 opNeg (dC (.int 1))) dNil)) (dOp2 opMulA (dTup (dCons (dC (.int 0)) dNil)) (dOp2 opSub (dVar 3) (dC (.int 1))))) dNil))) (dC (.bl false))) (dTru (dC (.bl false))))
      (dRet (dC (.bl false)))
      (fun ρ => .nx ρ))
theorem zt (n : Nat) : D.tup (List.replicate n (.int 0)) = intsT (zeros n) := by unfold intsT zeros; rw [List.map_replicate]
theorem b9_spec {bag : D} (hn : n ≤ 3) (hr : Rows n l) (hs : Rests n q) (l1 : l.length < 100) (l2 : q.length < 100) : b9 (EL s bag x2 n l q x7 x8) = .nx (EL s bag x2 n l q x7 x8) := by
  by_cases h : 0 < n
  · have e : (n : Int) - 1 = ((n - 1 : Nat) : Int) := by omega
    have z := opMulA_one (d := .int 0) (n - 1) (by omega)
    rw [zt, ← e] at z
    have ad : opAdd (.tup [.int (-1)]) (intsT (zeros (n - 1))) = some (.val (intsT (-1 :: zeros (n - 1)))) := by
      show (if [D.int (-1)].length + ((zeros (n - 1)).map D.int).length ≤ sizeLine then some (RV.val (.tup ([D.int (-1)] ++ (zeros (n - 1)).map D.int))) else none) = _
      rw [if_pos (by rw [List.length_map, List.length_singleton]; unfold zeros; rw [List.length_replicate, sizeLine_eq]; omega)]
      rfl
    have k := keeps_due hn hr hs l1 l2 (-1 :: zeros (n - 1)) (by rw [List.length_cons]; unfold zeros; rw [List.length_replicate]; omega) fun y hy => by
      rcases List.mem_cons.mp hy with rfl | hy
      · decide
      · have := List.eq_of_mem_replicate hy; omega
    have f : (decide ((-1 :: zeros (n - 1)).length = n) && !((-1 :: zeros (n - 1)).any fun y => decide (y < 0)) && (okRows (dueR n l q) (-1 :: zeros (n - 1)) && okRests (dueQ n l q) (-1 :: zeros (n - 1)))) = false := by
      rw [show ((-1 :: zeros (n - 1)).any fun y => decide (y < 0)) = true from rfl]
      simp
    rw [f] at k
    have h' : (0 : Int) < (n : Int) := by omega
    unfold b9
    simp [E, h', z, ad, k, h]
  · have h' : ¬ (0 : Int) < (n : Int) := by omega
    unfold b9
    simp [E, h', h]
abbrev b10 : Sv := (dIfS (dOp2 opNotB (dCall [false, false] d_keeps (dCons (dVar 6) (dCons (dOp2 opMulA (dTup (dCons (dC (.int 0)) dNil)) (dOp2 opAdd (dVar 3) (dC (.int 1)))) dNil))) (dC (.bl false)))
      (dRet (dC (.bl false)))
      (fun ρ => .nx ρ))
theorem b10_spec {bag : D} (hn : n ≤ 3) (hr : Rows n l) (hs : Rests n q) (l1 : l.length < 100) (l2 : q.length < 100) : b10 (EL s bag x2 n l q x7 x8) = .nx (EL s bag x2 n l q x7 x8) := by
  have e : (n : Int) + 1 = ((n + 1 : Nat) : Int) := by omega
  have z := opMulA_one (d := .int 0) (n + 1) (by omega)
  rw [zt, ← e] at z
  have k := keeps_due hn hr hs l1 l2 (zeros (n + 1)) (by unfold zeros; rw [List.length_replicate]; omega) fun y hy => by have := List.eq_of_mem_replicate hy; omega
  have f : decide ((zeros (n + 1)).length = n) = false := decide_eq_false (by unfold zeros; rw [List.length_replicate]; omega)
  rw [f] at k
  simp only [Bool.false_and] at k
  unfold b10
  simp [E, z, k]
abbrev lapB : Sv := dSeq b1 (dSeq b2 (dSeq b3 (dSeq b4 (dSeq b5 (dSeq b6 (dSeq b7 (dSeq b8 (dSeq b9 b10))))))))
theorem d_law_eq : d_law = dDef 12 [false] (dSeq (dSet 1 (dCall [false] d__law_bag (dCons (dVar 0) dNil))) (dSeq (dFor (iArgs kRange1 (dCons (dC (.int 10)) dNil)) (gtName 2) lapB) (dRet (dC (.bl true))))) := rfl
include hc
theorem lap_spec (a b c : Int) {x3 x4 x5 x6 : Slot} (h3 : NB x3) (h4 : NB x4) (h5 : NB x5) (h6 : NB x6) (h7 : NB x7) (h8 : NB x8) : ∃ (a' b' c' : Int) (y3 y4 y5 y6 y7 y8 : Slot), NB y3 ∧ NB y4 ∧ NB y5 ∧ NB y6 ∧ NB y7 ∧ NB y8 ∧ lapB (E s (bagD a b c cs) x2 x3 x4 x5 x6 x7 x8) = .nx (E s (bagD a' b' c' cs) x2 y3 y4 y5 y6 y7 y8) := by
  obtain ⟨n, a1, b1', c1', hn, e1⟩ := b1_spec (s := s) (x2 := x2) (x4 := x4) (x5 := x5) (x6 := x6) (x7 := x7) (x8 := x8) hc a b c h3
  obtain ⟨l0, a2, b2', c2', hl0, sm0, e2⟩ := b2_spec (s := s) (x2 := x2) (x5 := x5) (x6 := x6) (x7 := x7) (x8 := x8) hc hn a1 b1' c1' h4
  obtain ⟨l, a3, b3', c3', hl, hr, e3⟩ := b3_spec (s := s) (x2 := x2) (x3 := .val (.int n)) (x5 := x5) (x6 := x6) (x7 := x7) (x8 := x8) hc hn l0 hl0 sm0 a2 b2' c2'
  obtain ⟨q, a4, b4', c4', hq, hs, e4⟩ := b4_spec (s := s) (x2 := x2) (x4 := .own (.lst (l.map rowD))) (x6 := x6) (x7 := x7) (x8 := x8) hc hn a3 b3' c3' h5
  have e5 := b5_spec (s := s) (bag := bagD a4 b4' c4' cs) (x2 := x2) (x7 := x7) (x8 := x8) hn hr hs (by omega) (by omega) h6
  have e6 := b6_spec (s := s) (bag := bagD a4 b4' c4' cs) (x2 := x2) (x7 := x7) (x8 := x8) hn hr hs (by omega) (by omega)
  have e7 := b7_spec (s := s) (bag := bagD a4 b4' c4' cs) (x2 := x2) (x7 := x7) (x8 := x8) hn hr hs
  obtain ⟨a8, b8', c8', y7, y8, n7, n8, e8⟩ := b8_spec (s := s) (x2 := x2) hc hn hr hs (by omega) (by omega) a4 b4' c4' h7 h8
  have e9 := b9_spec (s := s) (bag := bagD a8 b8' c8' cs) (x2 := x2) (x7 := y7) (x8 := y8) hn hr hs (by omega) (by omega)
  have e10 := b10_spec (s := s) (bag := bagD a8 b8' c8' cs) (x2 := x2) (x7 := y7) (x8 := y8) hn hr hs (by omega) (by omega)
  refine ⟨a8, b8', c8', .val (.int n), .val (.lst (l.map rowD)), .val (.lst (q.map restD)), .val (dueD n l q), y7, y8, nb_val _, nb_val _, nb_val _, nb_val _, n7, n8, ?_⟩
  show (b1 _).bind _ = _
  rw [e1]
  show (b2 _).bind _ = _
  rw [e2]
  show (b3 _).bind _ = _
  rw [e3]
  show (b4 _).bind _ = _
  rw [e4]
  show (b5 _).bind _ = _
  rw [e5]
  show (b6 _).bind _ = _
  rw [e6]
  show (b7 _).bind _ = _
  rw [e7]
  show (b8 _).bind _ = _
  rw [e8]
  show (b9 _).bind _ = _
  rw [e9]
  exact e10
theorem laps_spec : ∀ (ds : List D) (a b c : Int) (x2 x3 x4 x5 x6 x7 x8 : Slot), NB x2 → NB x3 → NB x4 → NB x5 → NB x6 → NB x7 → NB x8 → ∃ (a' b' c' : Int) (y2 y3 y4 y5 y6 y7 y8 : Slot), forGo (gtName 2) lapB ds (E s (bagD a b c cs) x2 x3 x4 x5 x6 x7 x8) = .nx (E s (bagD a' b' c' cs) y2 y3 y4 y5 y6 y7 y8)
  | [], a, b, c, x2, x3, x4, x5, x6, x7, x8, _, _, _, _, _, _, _ => ⟨a, b, c, x2, x3, x4, x5, x6, x7, x8, rfl⟩
  | d :: ds, a, b, c, x2, x3, x4, x5, x6, x7, x8, h2, h3, h4, h5, h6, h7, h8 => by
    obtain ⟨a1, b1', c1', y3, y4, y5, y6, y7, y8, n3, n4, n5, n6, n7, n8, e1⟩ := lap_spec (s := s) (x2 := .val d) hc a b c h3 h4 h5 h6 h7 h8
    obtain ⟨a2, b2', c2', z2, z3, z4, z5, z6, z7, z8, e2⟩ := laps_spec ds a1 b1' c1' (.val d) y3 y4 y5 y6 y7 y8 (nb_val _) n3 n4 n5 n6 n7 n8
    refine ⟨a2, b2', c2', z2, z3, z4, z5, z6, z7, z8, ?_⟩
    have e0 : gtName 2 d (E s (bagD a b c cs) x2 x3 x4 x5 x6 x7 x8) = some (E s (bagD a b c cs) (.val d) x3 x4 x5 x6 x7 x8) := setV_nb rfl h2
    unfold forGo
    rw [e0]
    dsimp only
    rw [e1]
    exact e2
end
theorem law_true (ns : List Int) (h : ns.length ≤ 63) : ∃ outs, d_law [.scr (ns.map .int)] = .ok (.val (.bl true)) outs := by
  obtain ⟨cs, hc, e1⟩ := bag_spec ns h
  obtain ⟨a, b, c, y2, y3, y4, y5, y6, y7, y8, e2⟩ := laps_spec (cs := cs) (s := .scr (ns.map .int)) (by omega) ((List.range 10).map fun (k : Nat) => D.int (k : Int)) 0 1234567891 0 .non .non .non .non .non .non .non nb_non nb_non nb_non nb_non nb_non nb_non nb_non
  refine ⟨[.scr (ns.map .int)], ?_⟩
  let ρ0 := E (.scr (ns.map .int)) (bagD 0 1234567891 0 cs) .non .non .non .non .non .non .non
  have e3 : iArgs kRange1 (dCons (dC (.int 10)) dNil) ρ0 = .ok ((List.range 10).map fun (k : Nat) => D.int (k : Int)) ρ0 := by
    rw [s_iArgs, dCons_ap]
    rfl
  have e0 : dSet 1 (dCall [false] d__law_bag (dCons (dVar 0) dNil)) [.val (.scr (ns.map .int)), .non, .non, .non, .non, .non, .non, .non, .non, .non, .non, .non] = .nx ρ0 := by
    simp [e1, ρ0, E]
  rw [d_law_eq, dDef_run rfl]
  show (match (dSeq (dSet 1 (dCall [false] d__law_bag (dCons (dVar 0) dNil))) (dSeq (dFor (iArgs kRange1 (dCons (dC (.int 10)) dNil)) (gtName 2) lapB) (dRet (dC (.bl true))))) [.val (.scr (ns.map .int)), .non, .non, .non, .non, .non, .non, .non, .non, .non, .non, .non] with
    | .nx ρ => _ | .rt r ρ => _ | .ex x ρ => _ | _ => _) = _
  rw [dSeq_ap, e0, sr_bind_nx, dSeq_ap, dFor_ap, e3]
  dsimp only
  rw [e2]
  rfl
end K19

/-! the end (printed by gen.py). -/
namespace K19
open PySem PySem.Spec L2 DL
theorem all_mk {l : PySem.W.OpenLaw} {w : World} {K : PySem.W.Frag} {h : Heap} {mg : Str → Option Value} {fa : Addr} (X : K.In h) (G : h.Ns mainGlobals mg) (hfa : mg "law" = some (.ref fa))
    {f_common : Addr} {oc_common : Value} {od_common an_common : Option Addr} {sl_common : Array (Option Value)} {kV_common dc_common pm_common cd_common ct_common : Value}
    (a_common : PySem.W.nsIn K mainGlobals "common" = some (some (.ref f_common))) (l_common : K.lookup f_common = some ⟨oc_common, od_common, .func (PySem.W.fnOf "common" "common" (defArgs st_common) (defBody st_common) (defScope st_common) .none kV_common dc_common pm_common an_common cd_common ct_common), sl_common⟩) (e_common : PySem.W.codeIn K cd_common "common" = true) (k_common : PySem.W.keepIn K (.ref f_common) = true)
    {f_common_of : Addr} {oc_common_of : Value} {od_common_of an_common_of : Option Addr} {sl_common_of : Array (Option Value)} {kV_common_of dc_common_of pm_common_of cd_common_of ct_common_of : Value}
    (a_common_of : PySem.W.nsIn K mainGlobals "common_of" = some (some (.ref f_common_of))) (l_common_of : K.lookup f_common_of = some ⟨oc_common_of, od_common_of, .func (PySem.W.fnOf "common_of" "common_of" (defArgs st_common_of) (defBody st_common_of) (defScope st_common_of) .none kV_common_of dc_common_of pm_common_of an_common_of cd_common_of ct_common_of), sl_common_of⟩) (e_common_of : PySem.W.codeIn K cd_common_of "common_of" = true) (k_common_of : PySem.W.keepIn K (.ref f_common_of) = true)
    {f_value : Addr} {oc_value : Value} {od_value an_value : Option Addr} {sl_value : Array (Option Value)} {kV_value dc_value pm_value cd_value ct_value : Value}
    (a_value : PySem.W.nsIn K mainGlobals "value" = some (some (.ref f_value))) (l_value : K.lookup f_value = some ⟨oc_value, od_value, .func (PySem.W.fnOf "value" "value" (defArgs st_value) (defBody st_value) (defScope st_value) .none kV_value dc_value pm_value an_value cd_value ct_value), sl_value⟩) (e_value : PySem.W.codeIn K cd_value "value" = true) (k_value : PySem.W.keepIn K (.ref f_value) = true)
    {f_never : Addr} {oc_never : Value} {od_never an_never : Option Addr} {sl_never : Array (Option Value)} {kV_never dc_never pm_never cd_never ct_never : Value}
    (a_never : PySem.W.nsIn K mainGlobals "never" = some (some (.ref f_never))) (l_never : K.lookup f_never = some ⟨oc_never, od_never, .func (PySem.W.fnOf "never" "never" (defArgs st_never) (defBody st_never) (defScope st_never) .none kV_never dc_never pm_never an_never cd_never ct_never), sl_never⟩) (e_never : PySem.W.codeIn K cd_never "never" = true) (k_never : PySem.W.keepIn K (.ref f_never) = true)
    {f_least_lines : Addr} {oc_least_lines : Value} {od_least_lines an_least_lines : Option Addr} {sl_least_lines : Array (Option Value)} {kV_least_lines dc_least_lines pm_least_lines cd_least_lines ct_least_lines : Value}
    (a_least_lines : PySem.W.nsIn K mainGlobals "least_lines" = some (some (.ref f_least_lines))) (l_least_lines : K.lookup f_least_lines = some ⟨oc_least_lines, od_least_lines, .func (PySem.W.fnOf "least_lines" "least_lines" (defArgs st_least_lines) (defBody st_least_lines) (defScope st_least_lines) .none kV_least_lines dc_least_lines pm_least_lines an_least_lines cd_least_lines ct_least_lines), sl_least_lines⟩) (e_least_lines : PySem.W.codeIn K cd_least_lines "least_lines" = true) (k_least_lines : PySem.W.keepIn K (.ref f_least_lines) = true)
    {f_least_rest : Addr} {oc_least_rest : Value} {od_least_rest an_least_rest : Option Addr} {sl_least_rest : Array (Option Value)} {kV_least_rest dc_least_rest pm_least_rest cd_least_rest ct_least_rest : Value}
    (a_least_rest : PySem.W.nsIn K mainGlobals "least_rest" = some (some (.ref f_least_rest))) (l_least_rest : K.lookup f_least_rest = some ⟨oc_least_rest, od_least_rest, .func (PySem.W.fnOf "least_rest" "least_rest" (defArgs st_least_rest) (defBody st_least_rest) (defScope st_least_rest) .none kV_least_rest dc_least_rest pm_least_rest an_least_rest cd_least_rest ct_least_rest), sl_least_rest⟩) (e_least_rest : PySem.W.codeIn K cd_least_rest "least_rest" = true) (k_least_rest : PySem.W.keepIn K (.ref f_least_rest) = true)
    {f_made_system : Addr} {oc_made_system : Value} {od_made_system an_made_system : Option Addr} {sl_made_system : Array (Option Value)} {kV_made_system dc_made_system pm_made_system cd_made_system ct_made_system : Value}
    (a_made_system : PySem.W.nsIn K mainGlobals "made_system" = some (some (.ref f_made_system))) (l_made_system : K.lookup f_made_system = some ⟨oc_made_system, od_made_system, .func (PySem.W.fnOf "made_system" "made_system" (defArgs st_made_system) (defBody st_made_system) (defScope st_made_system) .none kV_made_system dc_made_system pm_made_system an_made_system cd_made_system ct_made_system), sl_made_system⟩) (e_made_system : PySem.W.codeIn K cd_made_system "made_system" = true) (k_made_system : PySem.W.keepIn K (.ref f_made_system) = true)
    {f_is_false : Addr} {oc_is_false : Value} {od_is_false an_is_false : Option Addr} {sl_is_false : Array (Option Value)} {kV_is_false dc_is_false pm_is_false cd_is_false ct_is_false : Value}
    (a_is_false : PySem.W.nsIn K mainGlobals "is_false" = some (some (.ref f_is_false))) (l_is_false : K.lookup f_is_false = some ⟨oc_is_false, od_is_false, .func (PySem.W.fnOf "is_false" "is_false" (defArgs st_is_false) (defBody st_is_false) (defScope st_is_false) .none kV_is_false dc_is_false pm_is_false an_is_false cd_is_false ct_is_false), sl_is_false⟩) (e_is_false : PySem.W.codeIn K cd_is_false "is_false" = true) (k_is_false : PySem.W.keepIn K (.ref f_is_false) = true)
    {f_keeps : Addr} {oc_keeps : Value} {od_keeps an_keeps : Option Addr} {sl_keeps : Array (Option Value)} {kV_keeps dc_keeps pm_keeps cd_keeps ct_keeps : Value}
    (a_keeps : PySem.W.nsIn K mainGlobals "keeps" = some (some (.ref f_keeps))) (l_keeps : K.lookup f_keeps = some ⟨oc_keeps, od_keeps, .func (PySem.W.fnOf "keeps" "keeps" (defArgs st_keeps) (defBody st_keeps) (defScope st_keeps) .none kV_keeps dc_keeps pm_keeps an_keeps cd_keeps ct_keeps), sl_keeps⟩) (e_keeps : PySem.W.codeIn K cd_keeps "keeps" = true) (k_keeps : PySem.W.keepIn K (.ref f_keeps) = true)
    {f__law_bag : Addr} {oc__law_bag : Value} {od__law_bag an__law_bag : Option Addr} {sl__law_bag : Array (Option Value)} {kV__law_bag dc__law_bag pm__law_bag cd__law_bag ct__law_bag : Value}
    (a__law_bag : PySem.W.nsIn K mainGlobals "_law_bag" = some (some (.ref f__law_bag))) (l__law_bag : K.lookup f__law_bag = some ⟨oc__law_bag, od__law_bag, .func (PySem.W.fnOf "_law_bag" "_law_bag" (defArgs st__law_bag) (defBody st__law_bag) (defScope st__law_bag) .none kV__law_bag dc__law_bag pm__law_bag an__law_bag cd__law_bag ct__law_bag), sl__law_bag⟩) (e__law_bag : PySem.W.codeIn K cd__law_bag "_law_bag" = true) (k__law_bag : PySem.W.keepIn K (.ref f__law_bag) = true)
    {f__law_take : Addr} {oc__law_take : Value} {od__law_take an__law_take : Option Addr} {sl__law_take : Array (Option Value)} {kV__law_take dc__law_take pm__law_take cd__law_take ct__law_take : Value}
    (a__law_take : PySem.W.nsIn K mainGlobals "_law_take" = some (some (.ref f__law_take))) (l__law_take : K.lookup f__law_take = some ⟨oc__law_take, od__law_take, .func (PySem.W.fnOf "_law_take" "_law_take" (defArgs st__law_take) (defBody st__law_take) (defScope st__law_take) .none kV__law_take dc__law_take pm__law_take an__law_take cd__law_take ct__law_take), sl__law_take⟩) (e__law_take : PySem.W.codeIn K cd__law_take "_law_take" = true) (k__law_take : PySem.W.keepIn K (.ref f__law_take) = true)
    {f__law_some : Addr} {oc__law_some : Value} {od__law_some an__law_some : Option Addr} {sl__law_some : Array (Option Value)} {kV__law_some dc__law_some pm__law_some cd__law_some ct__law_some : Value}
    (a__law_some : PySem.W.nsIn K mainGlobals "_law_some" = some (some (.ref f__law_some))) (l__law_some : K.lookup f__law_some = some ⟨oc__law_some, od__law_some, .func (PySem.W.fnOf "_law_some" "_law_some" (defArgs st__law_some) (defBody st__law_some) (defScope st__law_some) .none kV__law_some dc__law_some pm__law_some an__law_some cd__law_some ct__law_some), sl__law_some⟩) (e__law_some : PySem.W.codeIn K cd__law_some "_law_some" = true) (k__law_some : PySem.W.keepIn K (.ref f__law_some) = true)
    {f__law_mixed : Addr} {oc__law_mixed : Value} {od__law_mixed an__law_mixed : Option Addr} {sl__law_mixed : Array (Option Value)} {kV__law_mixed dc__law_mixed pm__law_mixed cd__law_mixed ct__law_mixed : Value}
    (a__law_mixed : PySem.W.nsIn K mainGlobals "_law_mixed" = some (some (.ref f__law_mixed))) (l__law_mixed : K.lookup f__law_mixed = some ⟨oc__law_mixed, od__law_mixed, .func (PySem.W.fnOf "_law_mixed" "_law_mixed" (defArgs st__law_mixed) (defBody st__law_mixed) (defScope st__law_mixed) .none kV__law_mixed dc__law_mixed pm__law_mixed an__law_mixed cd__law_mixed ct__law_mixed), sl__law_mixed⟩) (e__law_mixed : PySem.W.codeIn K cd__law_mixed "_law_mixed" = true) (k__law_mixed : PySem.W.keepIn K (.ref f__law_mixed) = true)
    {f__law_alike : Addr} {oc__law_alike : Value} {od__law_alike an__law_alike : Option Addr} {sl__law_alike : Array (Option Value)} {kV__law_alike dc__law_alike pm__law_alike cd__law_alike ct__law_alike : Value}
    (a__law_alike : PySem.W.nsIn K mainGlobals "_law_alike" = some (some (.ref f__law_alike))) (l__law_alike : K.lookup f__law_alike = some ⟨oc__law_alike, od__law_alike, .func (PySem.W.fnOf "_law_alike" "_law_alike" (defArgs st__law_alike) (defBody st__law_alike) (defScope st__law_alike) .none kV__law_alike dc__law_alike pm__law_alike an__law_alike cd__law_alike ct__law_alike), sl__law_alike⟩) (e__law_alike : PySem.W.codeIn K cd__law_alike "_law_alike" = true) (k__law_alike : PySem.W.keepIn K (.ref f__law_alike) = true)
    {f__law_gcd : Addr} {oc__law_gcd : Value} {od__law_gcd an__law_gcd : Option Addr} {sl__law_gcd : Array (Option Value)} {kV__law_gcd dc__law_gcd pm__law_gcd cd__law_gcd ct__law_gcd : Value}
    (a__law_gcd : PySem.W.nsIn K mainGlobals "_law_gcd" = some (some (.ref f__law_gcd))) (l__law_gcd : K.lookup f__law_gcd = some ⟨oc__law_gcd, od__law_gcd, .func (PySem.W.fnOf "_law_gcd" "_law_gcd" (defArgs st__law_gcd) (defBody st__law_gcd) (defScope st__law_gcd) .none kV__law_gcd dc__law_gcd pm__law_gcd an__law_gcd cd__law_gcd ct__law_gcd), sl__law_gcd⟩) (e__law_gcd : PySem.W.codeIn K cd__law_gcd "_law_gcd" = true) (k__law_gcd : PySem.W.keepIn K (.ref f__law_gcd) = true)
    {f__law_value : Addr} {oc__law_value : Value} {od__law_value an__law_value : Option Addr} {sl__law_value : Array (Option Value)} {kV__law_value dc__law_value pm__law_value cd__law_value ct__law_value : Value}
    (a__law_value : PySem.W.nsIn K mainGlobals "_law_value" = some (some (.ref f__law_value))) (l__law_value : K.lookup f__law_value = some ⟨oc__law_value, od__law_value, .func (PySem.W.fnOf "_law_value" "_law_value" (defArgs st__law_value) (defBody st__law_value) (defScope st__law_value) .none kV__law_value dc__law_value pm__law_value an__law_value cd__law_value ct__law_value), sl__law_value⟩) (e__law_value : PySem.W.codeIn K cd__law_value "_law_value" = true) (k__law_value : PySem.W.keepIn K (.ref f__law_value) = true)
    {f__law_keeps : Addr} {oc__law_keeps : Value} {od__law_keeps an__law_keeps : Option Addr} {sl__law_keeps : Array (Option Value)} {kV__law_keeps dc__law_keeps pm__law_keeps cd__law_keeps ct__law_keeps : Value}
    (a__law_keeps : PySem.W.nsIn K mainGlobals "_law_keeps" = some (some (.ref f__law_keeps))) (l__law_keeps : K.lookup f__law_keeps = some ⟨oc__law_keeps, od__law_keeps, .func (PySem.W.fnOf "_law_keeps" "_law_keeps" (defArgs st__law_keeps) (defBody st__law_keeps) (defScope st__law_keeps) .none kV__law_keeps dc__law_keeps pm__law_keeps an__law_keeps cd__law_keeps ct__law_keeps), sl__law_keeps⟩) (e__law_keeps : PySem.W.codeIn K cd__law_keeps "_law_keeps" = true) (k__law_keeps : PySem.W.keepIn K (.ref f__law_keeps) = true)
    {f__law_least : Addr} {oc__law_least : Value} {od__law_least an__law_least : Option Addr} {sl__law_least : Array (Option Value)} {kV__law_least dc__law_least pm__law_least cd__law_least ct__law_least : Value}
    (a__law_least : PySem.W.nsIn K mainGlobals "_law_least" = some (some (.ref f__law_least))) (l__law_least : K.lookup f__law_least = some ⟨oc__law_least, od__law_least, .func (PySem.W.fnOf "_law_least" "_law_least" (defArgs st__law_least) (defBody st__law_least) (defScope st__law_least) .none kV__law_least dc__law_least pm__law_least an__law_least cd__law_least ct__law_least), sl__law_least⟩) (e__law_least : PySem.W.codeIn K cd__law_least "_law_least" = true) (k__law_least : PySem.W.keepIn K (.ref f__law_least) = true)
    {f__law_drawn_row : Addr} {oc__law_drawn_row : Value} {od__law_drawn_row an__law_drawn_row : Option Addr} {sl__law_drawn_row : Array (Option Value)} {kV__law_drawn_row dc__law_drawn_row pm__law_drawn_row cd__law_drawn_row ct__law_drawn_row : Value}
    (a__law_drawn_row : PySem.W.nsIn K mainGlobals "_law_drawn_row" = some (some (.ref f__law_drawn_row))) (l__law_drawn_row : K.lookup f__law_drawn_row = some ⟨oc__law_drawn_row, od__law_drawn_row, .func (PySem.W.fnOf "_law_drawn_row" "_law_drawn_row" (defArgs st__law_drawn_row) (defBody st__law_drawn_row) (defScope st__law_drawn_row) .none kV__law_drawn_row dc__law_drawn_row pm__law_drawn_row an__law_drawn_row cd__law_drawn_row ct__law_drawn_row), sl__law_drawn_row⟩) (e__law_drawn_row : PySem.W.codeIn K cd__law_drawn_row "_law_drawn_row" = true) (k__law_drawn_row : PySem.W.keepIn K (.ref f__law_drawn_row) = true)
    {f_law : Addr} {oc_law : Value} {od_law an_law : Option Addr} {sl_law : Array (Option Value)} {kV_law dc_law pm_law cd_law ct_law : Value}
    (a_law : PySem.W.nsIn K mainGlobals "law" = some (some (.ref f_law))) (l_law : K.lookup f_law = some ⟨oc_law, od_law, .func (PySem.W.fnOf "law" "law" (defArgs st_law) (defBody st_law) (defScope st_law) .none kV_law dc_law pm_law an_law cd_law ct_law), sl_law⟩) (e_law : PySem.W.codeIn K cd_law "law" = true) (k_law : PySem.W.keepIn K (.ref f_law) = true)
    (y_abs : PySem.W.nsIn K mainGlobals "abs" = some none)
    (y_int : PySem.W.nsIn K mainGlobals "int" = some none)
    (y_len : PySem.W.nsIn K mainGlobals "len" = some none)
    (y_max : PySem.W.nsIn K mainGlobals "max" = some none)
    (y_min : PySem.W.nsIn K mainGlobals "min" = some none)
    (y_range : PySem.W.nsIn K mainGlobals "range" = some none)
    (y_repr : PySem.W.nsIn K mainGlobals "repr" = some none)
    (y_sorted : PySem.W.nsIn K mainGlobals "sorted" = some none)
    (y_sum : PySem.W.nsIn K mainGlobals "sum" = some none)
    (y_tuple : PySem.W.nsIn K mainGlobals "tuple" = some none)
    (y_zip : PySem.W.nsIn K mainGlobals "zip" = some none) :
    ∃ fd : FuncData, (∀ (s : Shared) (u : Value), BindsTo s fd ⟨[u], []⟩ [("script", u)]) ∧ ∀ base : Heap, K.In base → base.Ns mainGlobals mg → FnG l.prog w K mg base 5 fa fd ["script"] (@spD ⟨w⟩ K [false] d_law) := by
  have e := hfa.symm.trans (PySem.W.mg_of X G a_law)
  cases e
  letI : HasW := ⟨w⟩
  have df_common : DefAt K mg "common" st_common ["one", "other"] := defAt_of X G a_common l_common e_common k_common fun _ _ _ _ _ _ us hl => match us, hl with | [_, _], _ => rfl
  have df_common_of : DefAt K mg "common_of" st_common_of ["numbers"] := defAt_of X G a_common_of l_common_of e_common_of k_common_of fun _ _ _ _ _ _ us hl => match us, hl with | [_], _ => rfl
  have df_value : DefAt K mg "value" st_value ["row", "numbers"] := defAt_of X G a_value l_value e_value k_value fun _ _ _ _ _ _ us hl => match us, hl with | [_, _], _ => rfl
  have df_never : DefAt K mg "never" st_never ["many"] := defAt_of X G a_never l_never e_never k_never fun _ _ _ _ _ _ us hl => match us, hl with | [_], _ => rfl
  have df_least_lines : DefAt K mg "least_lines" st_least_lines ["many", "lines"] := defAt_of X G a_least_lines l_least_lines e_least_lines k_least_lines fun _ _ _ _ _ _ us hl => match us, hl with | [_, _], _ => rfl
  have df_least_rest : DefAt K mg "least_rest" st_least_rest ["number", "row"] := defAt_of X G a_least_rest l_least_rest e_least_rest k_least_rest fun _ _ _ _ _ _ us hl => match us, hl with | [_, _], _ => rfl
  have df_made_system : DefAt K mg "made_system" st_made_system ["many", "lines", "rests"] := defAt_of X G a_made_system l_made_system e_made_system k_made_system fun _ _ _ _ _ _ us hl => match us, hl with | [_, _, _], _ => rfl
  have df_is_false : DefAt K mg "is_false" st_is_false ["system"] := defAt_of X G a_is_false l_is_false e_is_false k_is_false fun _ _ _ _ _ _ us hl => match us, hl with | [_], _ => rfl
  have df_keeps : DefAt K mg "keeps" st_keeps ["system", "numbers"] := defAt_of X G a_keeps l_keeps e_keeps k_keeps fun _ _ _ _ _ _ us hl => match us, hl with | [_, _], _ => rfl
  have df__law_bag : DefAt K mg "_law_bag" st__law_bag ["script"] := defAt_of X G a__law_bag l__law_bag e__law_bag k__law_bag fun _ _ _ _ _ _ us hl => match us, hl with | [_], _ => rfl
  have df__law_take : DefAt K mg "_law_take" st__law_take ["bag", "many"] := defAt_of X G a__law_take l__law_take e__law_take k__law_take fun _ _ _ _ _ _ us hl => match us, hl with | [_, _], _ => rfl
  have df__law_some : DefAt K mg "_law_some" st__law_some ["bag", "things"] := defAt_of X G a__law_some l__law_some e__law_some k__law_some fun _ _ _ _ _ _ us hl => match us, hl with | [_, _], _ => rfl
  have df__law_mixed : DefAt K mg "_law_mixed" st__law_mixed ["bag", "things"] := defAt_of X G a__law_mixed l__law_mixed e__law_mixed k__law_mixed fun _ _ _ _ _ _ us hl => match us, hl with | [_, _], _ => rfl
  have df__law_alike : DefAt K mg "_law_alike" st__law_alike ["found", "due"] := defAt_of X G a__law_alike l__law_alike e__law_alike k__law_alike fun _ _ _ _ _ _ us hl => match us, hl with | [_, _], _ => rfl
  have df__law_gcd : DefAt K mg "_law_gcd" st__law_gcd ["numbers"] := defAt_of X G a__law_gcd l__law_gcd e__law_gcd k__law_gcd fun _ _ _ _ _ _ us hl => match us, hl with | [_], _ => rfl
  have df__law_value : DefAt K mg "_law_value" st__law_value ["row", "numbers"] := defAt_of X G a__law_value l__law_value e__law_value k__law_value fun _ _ _ _ _ _ us hl => match us, hl with | [_, _], _ => rfl
  have df__law_keeps : DefAt K mg "_law_keeps" st__law_keeps ["system", "numbers"] := defAt_of X G a__law_keeps l__law_keeps e__law_keeps k__law_keeps fun _ _ _ _ _ _ us hl => match us, hl with | [_, _], _ => rfl
  have df__law_least : DefAt K mg "_law_least" st__law_least ["many", "lines", "rests"] := defAt_of X G a__law_least l__law_least e__law_least k__law_least fun _ _ _ _ _ _ us hl => match us, hl with | [_, _, _], _ => rfl
  have df__law_drawn_row : DefAt K mg "_law_drawn_row" st__law_drawn_row ["bag", "many"] := defAt_of X G a__law_drawn_row l__law_drawn_row e__law_drawn_row k__law_drawn_row fun _ _ _ _ _ _ us hl => match us, hl with | [_, _], _ => rfl
  have z_abs : mg "abs" = none := PySem.W.mg_none_of X G y_abs
  have z_int : mg "int" = none := PySem.W.mg_none_of X G y_int
  have z_len : mg "len" = none := PySem.W.mg_none_of X G y_len
  have z_max : mg "max" = none := PySem.W.mg_none_of X G y_max
  have z_min : mg "min" = none := PySem.W.mg_none_of X G y_min
  have z_range : mg "range" = none := PySem.W.mg_none_of X G y_range
  have z_repr : mg "repr" = none := PySem.W.mg_none_of X G y_repr
  have z_sorted : mg "sorted" = none := PySem.W.mg_none_of X G y_sorted
  have z_sum : mg "sum" = none := PySem.W.mg_none_of X G y_sum
  have z_tuple : mg "tuple" = none := PySem.W.mg_none_of X G y_tuple
  have z_zip : mg "zip" = none := PySem.W.mg_none_of X G y_zip
  refine ⟨PySem.W.fnOf "law" "law" (defArgs st_law) (defBody st_law) (defScope st_law) .none kV_law dc_law pm_law an_law cd_law ct_law, fun s v => .of_eq rfl, fun base _ _ => ?_⟩
  have c_common := ok_common (P := l.prog) (base := base) df_common z_abs
  have c_common_of := ok_common_of (P := l.prog) (base := base) df_common_of c_common
  have c_value := ok_value (P := l.prog) (base := base) df_value z_sum z_zip
  have c_never := ok_never (P := l.prog) (base := base) df_never
  have c_least_lines := ok_least_lines (P := l.prog) (base := base) df_least_lines c_common_of c_never z_tuple z_min z_sorted
  have c_least_rest := ok_least_rest (P := l.prog) (base := base) df_least_rest c_common_of z_tuple
  have c_made_system := ok_made_system (P := l.prog) (base := base) df_made_system c_least_rest c_never c_least_lines z_tuple z_sorted
  have c_is_false := ok_is_false (P := l.prog) (base := base) df_is_false c_never
  have c_keeps := ok_keeps (P := l.prog) (base := base) df_keeps c_value z_len
  have c__law_bag := ok__law_bag (P := l.prog) (base := base) df__law_bag z_abs
  have c__law_take := ok__law_take (P := l.prog) (base := base) df__law_take z_int
  have c__law_some := ok__law_some (P := l.prog) (base := base) df__law_some c__law_take z_len
  have c__law_mixed := ok__law_mixed (P := l.prog) (base := base) df__law_mixed c__law_take z_len
  have c__law_alike := ok__law_alike (P := l.prog) (base := base) df__law_alike z_repr
  have c__law_gcd := ok__law_gcd (P := l.prog) (base := base) df__law_gcd z_abs
  have c__law_value := ok__law_value (P := l.prog) (base := base) df__law_value z_sum z_zip
  have c__law_keeps := ok__law_keeps (P := l.prog) (base := base) df__law_keeps c__law_value
  have c__law_least := ok__law_least (P := l.prog) (base := base) df__law_least c__law_gcd z_min z_tuple z_max z_sorted
  have c__law_drawn_row := ok__law_drawn_row (P := l.prog) (base := base) df__law_drawn_row c__law_some z_tuple z_range
  exact ok_law (fun_mk l_law e_law k_law) c__law_bag c__law_take c__law_drawn_row c__law_mixed c__law_some c__law_least c__law_alike c_made_system c_is_false c_keeps c_value c__law_keeps c__law_value z_range z_tuple
end K19
open PySem PySem.W PyProof.Rows
set_option maxRecDepth 100000 in
set_option maxHeartbeats 0 in
theorem PySem.Challenge.cw_mergewright_k19_systems_over_counts_holds : PySem.Challenge.rw_mergewright_k19_systems_over_counts.Holds := by
  w_on; o_law; k_head; (case hw => w_witness2)
  k_fill
  refine DL.walk_G (l := PySem.Challenge.rw_mergewright_k19_systems_over_counts) (n := 63) (k := 5) (x := "script") (den := K19.d_law) rfl (by decide) rfl ⟨rfl, by decide, by decide⟩ (fun w h Y => PySem.W.kIn_of Y) ?F K19.law_true
  case F =>
    intro w mg fa h KX G hmg
    refine' K19.all_mk KX G hmg ?a_common ?l_common ?e_common ?k_common ?a_common_of ?l_common_of ?e_common_of ?k_common_of ?a_value ?l_value ?e_value ?k_value ?a_never ?l_never ?e_never ?k_never ?a_least_lines ?l_least_lines ?e_least_lines ?k_least_lines ?a_least_rest ?l_least_rest ?e_least_rest ?k_least_rest ?a_made_system ?l_made_system ?e_made_system ?k_made_system ?a_is_false ?l_is_false ?e_is_false ?k_is_false ?a_keeps ?l_keeps ?e_keeps ?k_keeps ?a__law_bag ?l__law_bag ?e__law_bag ?k__law_bag ?a__law_take ?l__law_take ?e__law_take ?k__law_take ?a__law_some ?l__law_some ?e__law_some ?k__law_some ?a__law_mixed ?l__law_mixed ?e__law_mixed ?k__law_mixed ?a__law_alike ?l__law_alike ?e__law_alike ?k__law_alike ?a__law_gcd ?l__law_gcd ?e__law_gcd ?k__law_gcd ?a__law_value ?l__law_value ?e__law_value ?k__law_value ?a__law_keeps ?l__law_keeps ?e__law_keeps ?k__law_keeps ?a__law_least ?l__law_least ?e__law_least ?k__law_least ?a__law_drawn_row ?l__law_drawn_row ?e__law_drawn_row ?k__law_drawn_row ?a_law ?l_law ?e_law ?k_law ?y_abs ?y_int ?y_len ?y_max ?y_min ?y_range ?y_repr ?y_sorted ?y_sum ?y_tuple ?y_zip
    (case a_common => k_is)
    (case l_common => k_is)
    (case e_common => k_is)
    (case k_common => k_is)
    (case a_common_of => k_is)
    (case l_common_of => k_is)
    (case e_common_of => k_is)
    (case k_common_of => k_is)
    (case a_value => k_is)
    (case l_value => k_is)
    (case e_value => k_is)
    (case k_value => k_is)
    (case a_never => k_is)
    (case l_never => k_is)
    (case e_never => k_is)
    (case k_never => k_is)
    (case a_least_lines => k_is)
    (case l_least_lines => k_is)
    (case e_least_lines => k_is)
    (case k_least_lines => k_is)
    (case a_least_rest => k_is)
    (case l_least_rest => k_is)
    (case e_least_rest => k_is)
    (case k_least_rest => k_is)
    (case a_made_system => k_is)
    (case l_made_system => k_is)
    (case e_made_system => k_is)
    (case k_made_system => k_is)
    (case a_is_false => k_is)
    (case l_is_false => k_is)
    (case e_is_false => k_is)
    (case k_is_false => k_is)
    (case a_keeps => k_is)
    (case l_keeps => k_is)
    (case e_keeps => k_is)
    (case k_keeps => k_is)
    (case a__law_bag => k_is)
    (case l__law_bag => k_is)
    (case e__law_bag => k_is)
    (case k__law_bag => k_is)
    (case a__law_take => k_is)
    (case l__law_take => k_is)
    (case e__law_take => k_is)
    (case k__law_take => k_is)
    (case a__law_some => k_is)
    (case l__law_some => k_is)
    (case e__law_some => k_is)
    (case k__law_some => k_is)
    (case a__law_mixed => k_is)
    (case l__law_mixed => k_is)
    (case e__law_mixed => k_is)
    (case k__law_mixed => k_is)
    (case a__law_alike => k_is)
    (case l__law_alike => k_is)
    (case e__law_alike => k_is)
    (case k__law_alike => k_is)
    (case a__law_gcd => k_is)
    (case l__law_gcd => k_is)
    (case e__law_gcd => k_is)
    (case k__law_gcd => k_is)
    (case a__law_value => k_is)
    (case l__law_value => k_is)
    (case e__law_value => k_is)
    (case k__law_value => k_is)
    (case a__law_keeps => k_is)
    (case l__law_keeps => k_is)
    (case e__law_keeps => k_is)
    (case k__law_keeps => k_is)
    (case a__law_least => k_is)
    (case l__law_least => k_is)
    (case e__law_least => k_is)
    (case k__law_least => k_is)
    (case a__law_drawn_row => k_is)
    (case l__law_drawn_row => k_is)
    (case e__law_drawn_row => k_is)
    (case k__law_drawn_row => k_is)
    (case a_law => k_is)
    (case l_law => k_is)
    (case e_law => k_is)
    (case k_law => k_is)
    (case y_abs => k_is)
    (case y_int => k_is)
    (case y_len => k_is)
    (case y_max => k_is)
    (case y_min => k_is)
    (case y_range => k_is)
    (case y_repr => k_is)
    (case y_sorted => k_is)
    (case y_sum => k_is)
    (case y_tuple => k_is)
    (case y_zip => k_is)

