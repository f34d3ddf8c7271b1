import PyProof.Rows.All
import Wide.All
import OpenK.AllK
import Wide.FinOn
import HandS.ForMost
import KE.KeyNested
import KE.KDictKeyed
import HandS.ForExc
import HandS.Flow
import HandS.TryOnly
import HandS.ExcOwn
import HandS.WordsExc
import HandS.Small
import HandS.Zip
import HandS.Ends
import HandS.Deep
import HandS.IsInst
import HandS.TupAny
import HandS.TupMul
import HandS.Text
import PyProof.ReprRoads
import PyProof.CallFns
import HandS.RaiseMore
import HandS.WordsDict
import HandS.ExcIs
import HandS.Iter
import PyProof.SumWalkG
import PyProof.ListOps
import PyProof.WalkInts
import KE.SortData
import KE.KDictSum
import HandS.Conv
import HandS.More
import KE.KDictWalk
import KE.DataMinMax
import HandS.Style
import KE.GoesMore
import KE.GoesEnum
import KE.KDictZip
import KE.KItemsList
import HandS.ListItems
import HandS.Dict
import KE.KDictPairs
import PyProof.EnumMake
import HandS.DictComp
import KE.KTupSum
import KE.DataCmp
import PySem.Challenge.RW_mergewright_k09_orders_of_keys
set_option Elab.async false
set_option linter.all false
set_option maxRecDepth 100000
set_option maxHeartbeats 0
/-! A layer over HandS: an expression, a statement, a def by what it computes over plain data. -/
namespace DL
open PySem PySem.Spec L2

/-- the world, for the hashes of tuples -/
class HasW where
  w : World
variable [HasW]
/-- plain data -/
inductive D where
  | non | bl (b : Bool) | int (i : Int) | str (x : Str) | tup (xs : List D) | lst (xs : List D) | scr (xs : List D) | dic (ks : List Key) (xs : List D) | dct (ks xs : List D) | raw (v : V)

/-- a part of the abstract heap -/
def Sub (F H : Hp) : Prop := ∀ a o, F a = some o → H a = some o
theorem Sub.refl (F : Hp) : Sub F F := fun _ _ e => e
theorem Sub.trans {F G H : Hp} (a : Sub F G) (b : Sub G H) : Sub F H := fun c o e => b c o (a c o e)
theorem Sub.rd {F H : Hp} (s : Sub F H) {a : Addr} {u : HO} (r : Rd F a u) : Rd H a u := by
  rcases r with r | ⟨o, r⟩
  · exact .inl (s _ _ r)
  · exact .inr ⟨o, s _ _ r⟩
theorem Sub.sqL {K : PySem.W.Frag} {F H : Hp} (s : Sub F H) {a : Addr} {xs : List V} (r : SqL K F a xs) : SqL K H a xs := by
  rcases r with r | r
  · exact .inl (s.rd r)
  · exact .inr r
theorem Sub.sqT {K : PySem.W.Frag} {F H : Hp} (s : Sub F H) {a : Addr} {xs : List V} (r : SqT K F a xs) : SqT K H a xs := by
  rcases r with r | r
  · exact .inl (s.rd r)
  · exact .inr r
theorem Sub.free {F H : Hp} (s : Sub F H) {a : Addr} (h : H a = none) : F a = none := by
  cases q : F a with
  | none => rfl
  | some o => rw [s _ _ q] at h; cases h

/-! ### dicts with tuples as keys -/
mutual
def nk : D → Option NestedKey
  | .non => some .none
  | .int i => some (.num i)
  | .str x => some (.text x)
  | .tup xs => (nks xs).map .tup
  | _ => none
def nks : List D → Option (List NestedKey)
  | [] => some []
  | x :: xs => match nk x, nks xs with
    | some k, some ks => some (k :: ks)
    | _, _ => none
end
/-- a tuple as a key -/
def kOf : D → Option NestedKey
  | .tup xs => match nks xs with
    | some ks => if (NestedKey.tup ks).depth ≤ 8 then some (.tup ks) else none
    | none => none
  | _ => none
abbrev Ent := NestedKey × Addr × V
def entryH (k : NestedKey) (b : Addr) (u : Value) : DictEntry := ⟨k.hash HasW.w, .ref b, u⟩
def entsOf : List Ent → List Value → List DictEntry
  | e :: es, u :: us => entryH e.1 e.2.1 u :: entsOf es us
  | _, _ => []
def DxOk (a : Addr) (es : List Ent) (h : Heap) : Prop := es.length ≤ sizeLine ∧ (a == sysModules) = false ∧ (es.map (·.1)).Nodup ∧ ∃ us, Vals (es.map (·.2.2)) us ∧
  ∃ o des ep, h.get? a = some o ∧ o.ExactDict ∧ o.data = .dict des ep ∧ des.toList = entsOf es us
def dxO (a : Addr) (es : List Ent) : HO := .ext (DxOk a es)
mutual
/-- v stands for d, by what F tells -/
def Rep (K : PySem.W.Frag) (F : Hp) : D → V → Prop
  | .non, v => v = .non
  | .bl b, v => v = .bl b
  | .int i, v => v = .int i
  | .str x, v => v = .str x
  | .raw u, v => v = u
  | .tup xs, v => ∃ a vs, v = .ref a ∧ SqT K F a vs ∧ Reps K F xs vs
  | .lst xs, v => ∃ a vs, v = .ref a ∧ F a = some (.lst vs) ∧ Reps K F xs vs
  | .scr xs, v => ∃ a vs, v = .ref a ∧ SqL K F a vs ∧ Reps K F xs vs
  | .dic ks xs, v => ∃ a vs, v = .ref a ∧ Rd F a (.dK (ks.zip vs)) ∧ ks.length = xs.length ∧ ks.Nodup ∧ Reps K F xs vs
  | .dct ks xs, v => ∃ a es, v = .ref a ∧ Rd F a (dxO a es) ∧ ks.map kOf = es.map (fun e => some e.1) ∧ Reps K F ks (es.map fun e => .ref e.2.1) ∧ Reps K F xs (es.map (·.2.2))
def Reps (K : PySem.W.Frag) (F : Hp) : List D → List V → Prop
  | [], vs => vs = []
  | x :: xs, vs => ∃ v r, vs = v :: r ∧ Rep K F x v ∧ Reps K F xs r
end
theorem Reps.nil {K : PySem.W.Frag} {F : Hp} : Reps K F [] [] := rfl
theorem Reps.cons {K : PySem.W.Frag} {F : Hp} {x : D} {xs : List D} {v : V} {vs : List V} (a : Rep K F x v) (b : Reps K F xs vs) : Reps K F (x :: xs) (v :: vs) := ⟨v, vs, rfl, a, b⟩
section
variable {K : PySem.W.Frag} {F F' : Hp}
mutual
theorem Rep.mono (s : Sub F F') : ∀ (d : D) (v : V), Rep K F d v → Rep K F' d v
  | .non, _, h => h
  | .bl _, _, h => h
  | .int _, _, h => h
  | .str _, _, h => h
  | .raw _, _, h => h
  | .tup xs, v, h => by
    obtain ⟨a, vs, e, q, r⟩ := h
    exact ⟨a, vs, e, s.sqT q, Reps.mono s xs vs r⟩
  | .lst xs, v, h => by
    obtain ⟨a, vs, e, q, r⟩ := h
    exact ⟨a, vs, e, s _ _ q, Reps.mono s xs vs r⟩
  | .scr xs, v, h => by
    obtain ⟨a, vs, e, q, r⟩ := h
    exact ⟨a, vs, e, s.sqL q, Reps.mono s xs vs r⟩
  | .dic ks xs, v, h => by
    obtain ⟨a, vs, e, q, l, n, r⟩ := h
    exact ⟨a, vs, e, s.rd q, l, n, Reps.mono s xs vs r⟩
  | .dct ks xs, v, h => by
    obtain ⟨a, es, e, q, l, rk, r⟩ := h
    exact ⟨a, es, e, s.rd q, l, Reps.mono s ks _ rk, Reps.mono s xs _ r⟩
theorem Reps.mono (s : Sub F F') : ∀ (ds : List D) (vs : List V), Reps K F ds vs → Reps K F' ds vs
  | [], _, h => h
  | d :: ds, _, h => by
    obtain ⟨v, r, e, a, b⟩ := h
    exact ⟨v, r, e, Rep.mono s d v a, Reps.mono s ds r b⟩
end
theorem Reps.length : ∀ {ds : List D} {vs : List V}, Reps K F ds vs → vs.length = ds.length
  | [], _, h => by cases h; rfl
  | d :: ds, _, h => by
    obtain ⟨v, r, rfl, a, b⟩ := h
    simp [Reps.length b]
theorem Reps.get : ∀ {ds : List D} {vs : List V} {i : Nat} {d : D}, Reps K F ds vs → ds[i]? = some d → ∃ v, vs[i]? = some v ∧ Rep K F d v
  | [], _, i, d, h, e => by simp at e
  | x :: ds, _, 0, d, h, e => by
    obtain ⟨v, r, rfl, a, b⟩ := h
    simp at e
    subst e
    exact ⟨v, rfl, a⟩
  | x :: ds, _, i + 1, d, h, e => by
    obtain ⟨v, r, rfl, a, b⟩ := h
    simpa using Reps.get (i := i) b (by simpa using e)
theorem Reps.of_get : ∀ {ds : List D} {vs : List V} {i : Nat} {v : V}, Reps K F ds vs → vs[i]? = some v → ∃ d, ds[i]? = some d ∧ Rep K F d v
  | [], _, i, v, h, e => by cases h; simp at e
  | x :: ds, _, 0, v, h, e => by
    obtain ⟨v, r, rfl, a, b⟩ := h
    simp at e
    subst e
    exact ⟨x, rfl, a⟩
  | x :: ds, _, i + 1, v, h, e => by
    obtain ⟨v, r, rfl, a, b⟩ := h
    simpa using Reps.of_get (i := i) b (by simpa using e)
theorem Reps.append : ∀ {ds es : List D} {vs ws : List V}, Reps K F ds vs → Reps K F es ws → Reps K F (ds ++ es) (vs ++ ws)
  | [], _, _, _, h, k => by cases h; exact k
  | d :: ds, es, _, ws, h, k => by
    obtain ⟨v, r, rfl, a, b⟩ := h
    exact ⟨v, r ++ ws, rfl, a, Reps.append b k⟩
theorem Reps.snoc {ds : List D} {vs : List V} {d : D} {v : V} (h : Reps K F ds vs) (r : Rep K F d v) : Reps K F (ds ++ [d]) (vs ++ [v]) := h.append (.cons r .nil)
theorem Reps.take : ∀ (n : Nat) {ds : List D} {vs : List V}, Reps K F ds vs → Reps K F (ds.take n) (vs.take n)
  | 0, _, _, _ => by simp [Reps]
  | n + 1, [], _, h => by cases h; simp [Reps]
  | n + 1, d :: ds, _, h => by
    obtain ⟨v, r, rfl, a, b⟩ := h
    exact ⟨v, r.take n, rfl, a, Reps.take n b⟩
theorem Reps.drop : ∀ (n : Nat) {ds : List D} {vs : List V}, Reps K F ds vs → Reps K F (ds.drop n) (vs.drop n)
  | 0, _, _, h => by simpa using h
  | n + 1, [], _, h => by cases h; simp [Reps]
  | n + 1, d :: ds, _, h => by
    obtain ⟨v, r, rfl, a, b⟩ := h
    simpa using Reps.drop n b
theorem Reps.set : ∀ {ds : List D} {vs : List V} (i : Nat) {d : D} {v : V}, Reps K F ds vs → Rep K F d v → Reps K F (ds.set i d) (vs.set i v)
  | [], _, i, d, v, h, r => by cases h; simp [Reps]
  | x :: ds, _, 0, d, v, h, r => by
    obtain ⟨w, t, rfl, a, b⟩ := h
    exact ⟨v, t, rfl, r, b⟩
  | x :: ds, _, i + 1, d, v, h, r => by
    obtain ⟨w, t, rfl, a, b⟩ := h
    exact ⟨w, t.set i v, rfl, a, Reps.set i b r⟩
theorem Reps.rev : ∀ {ds : List D} {vs : List V}, Reps K F ds vs → Reps K F ds.reverse vs.reverse
  | [], _, h => by cases h; exact .nil
  | d :: ds, _, h => by
    obtain ⟨v, r, rfl, a, b⟩ := h
    rw [List.reverse_cons, List.reverse_cons]
    exact (Reps.rev b).snoc a
theorem Reps.ints : ∀ {ns : List Int} {vs : List V}, Reps K F (ns.map .int) vs → vs = ns.map V.int
  | [], _, h => h
  | n :: ns, _, h => by
    obtain ⟨v, r, rfl, a, b⟩ := h
    rw [Reps.ints b]
    exact congrArg (· :: _) a
theorem Reps.strs : ∀ {ns : List Str} {vs : List V}, Reps K F (ns.map .str) vs → vs = ns.map V.str
  | [], _, h => h
  | n :: ns, _, h => by
    obtain ⟨v, r, rfl, a, b⟩ := h
    rw [Reps.strs b]
    exact congrArg (· :: _) a
theorem Reps.bools : ∀ {ns : List Bool} {vs : List V}, Reps K F (ns.map .bl) vs → vs = ns.map V.bl
  | [], _, h => h
  | n :: ns, _, h => by
    obtain ⟨v, r, rfl, a, b⟩ := h
    rw [Reps.bools b]
    exact congrArg (· :: _) a
theorem Reps.mk_ints (ns : List Int) : Reps K F (ns.map .int) (ns.map V.int) := by
  induction ns with
  | nil => exact .nil
  | cons n r ih => exact .cons rfl ih
theorem Reps.mk_strs (ns : List Str) : Reps K F (ns.map .str) (ns.map V.str) := by
  induction ns with
  | nil => exact .nil
  | cons n r ih => exact .cons rfl ih
end

/-- what is owned at a: a list or a dict that may be changed -/
def Cell (K : PySem.W.Frag) (F H : Hp) (a : Addr) : D → Prop
  | .lst xs => ∃ vs, H a = some (.lst vs) ∧ Reps K F xs vs
  | .dic ks xs => ∃ vs, H a = some (.dK (ks.zip vs)) ∧ ks.length = xs.length ∧ ks.Nodup ∧ Reps K F xs vs
  | .dct ks xs => ∃ es, H a = some (dxO a es) ∧ ks.map kOf = es.map (fun e => some e.1) ∧ Reps K F ks (es.map fun e => .ref e.2.1) ∧ Reps K F xs (es.map (·.2.2))
  | _ => False
theorem Cell.there {K : PySem.W.Frag} {F H : Hp} {a : Addr} : ∀ {d : D}, Cell K F H a d → ∃ o, H a = Option.some o
  | .lst _, h => let ⟨_, e, _⟩ := h; ⟨_, e⟩
  | .dic _ _, h => let ⟨_, e, _⟩ := h; ⟨_, e⟩
  | .dct _ _, h => let ⟨_, e, _⟩ := h; ⟨_, e⟩
  | .non, h => h.elim
  | .bl _, h => h.elim
  | .int _, h => h.elim
  | .str _, h => h.elim
  | .tup _, h => h.elim
  | .scr _, h => h.elim
  | .raw _, h => h.elim
theorem Cell.mono {K : PySem.W.Frag} {F F' H H' : Hp} {a : Addr} (s : Sub F F') (e : ∀ o, H a = some o → H' a = some o) : ∀ {d : D}, Cell K F H a d → Cell K F' H' a d
  | .lst _, h => let ⟨vs, q, r⟩ := h; ⟨vs, e _ q, Reps.mono s _ _ r⟩
  | .dic _ _, h => let ⟨vs, q, l, n, r⟩ := h; ⟨vs, e _ q, l, n, Reps.mono s _ _ r⟩
  | .dct _ _, h => let ⟨es, q, l, rk, r⟩ := h; ⟨es, e _ q, l, Reps.mono s _ _ rk, Reps.mono s _ _ r⟩
  | .non, h => h.elim
  | .bl _, h => h.elim
  | .int _, h => h.elim
  | .str _, h => h.elim
  | .tup _, h => h.elim
  | .scr _, h => h.elim
  | .raw _, h => h.elim
/-- frozen: what is owned at a becomes plain data -/
theorem Cell.freeze {K : PySem.W.Frag} {F F' H : Hp} {a : Addr} (s : Sub F F') (e : ∀ o, H a = Option.some o → F' a = Option.some o) : ∀ {d : D}, Cell K F H a d → Rep K F' d (.ref a)
  | .lst _, h => let ⟨vs, q, r⟩ := h; ⟨a, vs, rfl, e _ q, Reps.mono s _ _ r⟩
  | .dic _ _, h => let ⟨vs, q, l, n, r⟩ := h; ⟨a, vs, rfl, .inl (e _ q), l, n, Reps.mono s _ _ r⟩
  | .dct _ _, h => let ⟨es, q, l, rk, r⟩ := h; ⟨a, es, rfl, .inl (e _ q), l, Reps.mono s _ _ rk, Reps.mono s _ _ r⟩
  | .non, h => h.elim
  | .bl _, h => h.elim
  | .int _, h => h.elim
  | .str _, h => h.elim
  | .tup _, h => h.elim
  | .scr _, h => h.elim
  | .raw _, h => h.elim

/-- what a name holds: nothing, plain data, something of its own that may be changed (bor: lent by the caller) -/
inductive Slot where
  | non | val (d : D) | own (d : D) | bor (d : D)
abbrev Env := List Slot

/-- what a name's value is, by F (data), H (what is owned), α (where what is lent stands) -/
def SlotOk (K : PySem.W.Frag) (F G H : Hp) (x : Option V) (α : Addr) : Slot → Prop
  | .non => True
  | .val d => ∃ v, x = some v ∧ Rep K F d v
  | .own d => ∃ a, x = some (.ref a) ∧ F a = none ∧ G a = none ∧ Cell K F H a d
  | .bor d => x = some (.ref α) ∧ F α = none ∧ G α = none ∧ Cell K F H α d
def Slot.owns : Slot → Bool
  | .own _ => true
  | .bor _ => true
  | _ => false

/-- the names' values σ and the heap H bear ρ: F the data, G the ground that stays as it is -/
structure Fits (K : PySem.W.Frag) (α : Nat → Addr) (ρ : Env) (σ : L2.St) (H F G : Hp) : Prop where
  fh : Sub F H
  gh : Sub G H
  len : σ.length = ρ.length
  slot : ∀ (i : Nat) (s : Slot), ρ[i]? = some s → ∃ x, σ[i]? = some x ∧ SlotOk K F G H x (α i) s
  sep : ∀ (i j : Nat) (s t : Slot) (a : Addr), ρ[i]? = some s → ρ[j]? = some t → s.owns = true → t.owns = true → σ[i]? = some (some (.ref a)) → σ[j]? = some (some (.ref a)) → i = j

/-- the data grow by what is new -/
structure Grow (G F F' : Hp) : Prop where
  sub : Sub F F'
  new : ∀ a o, F' a = some o → F a = some o ∨ (F a = none ∧ G a = none)
theorem Grow.refl (G F : Hp) : Grow G F F := ⟨Sub.refl F, fun _ _ e => .inl e⟩
theorem Grow.trans {G F F' F'' : Hp} (a : Grow G F F') (b : Grow G F' F'') : Grow G F F'' := ⟨a.sub.trans b.sub, fun c o e => by
  rcases b.new c o e with h | ⟨h1, h2⟩
  · exact a.new c o h
  · exact .inr ⟨a.sub.free h1, h2⟩⟩

/-- the heap grows by new objects, the data by some of them -/
structure Ext (H F H' F' : Hp) : Prop where
  hh : Sub H H'
  ff : Sub F F'
  fh : Sub F' H'
  new : ∀ a o, F' a = some o → F a = some o ∨ H a = none
theorem Ext.refl {H F : Hp} (h : Sub F H) : Ext H F H F := ⟨Sub.refl H, Sub.refl F, h, fun _ _ e => .inl e⟩
theorem Ext.trans {H F H1 F1 H2 F2 : Hp} (a : Ext H F H1 F1) (b : Ext H1 F1 H2 F2) : Ext H F H2 F2 :=
  ⟨a.hh.trans b.hh, a.ff.trans b.ff, b.fh, fun c o e => by
    rcases b.new c o e with h | h
    · exact a.new c o h
    · exact .inr (a.hh.free h)⟩
theorem Sub.upd_none {H : Hp} {p : Addr} {o : HO} (h : H p = none) : Sub H (upd H p o) := fun b u q => by rw [upd_ne (ne_of_none q h)]; exact q
theorem Sub.upd2 {F H : Hp} {p : Addr} {o : HO} (s : Sub F H) : Sub (upd F p o) (upd H p o) := fun b u q => by
  by_cases e : b = p
  · subst e; rw [upd_same] at q ⊢; exact q
  · rw [upd_ne e] at q ⊢; exact s _ _ q
/-- a new object, as data -/
theorem Ext.alloc {H F : Hp} {p : Addr} {o : HO} (s : Sub F H) (h : H p = none) : Ext H F (upd H p o) (upd F p o) :=
  ⟨Sub.upd_none h, Sub.upd_none (s.free h), s.upd2, fun b u q => by
    by_cases e : b = p
    · subst e; exact .inr h
    · rw [upd_ne e] at q; exact .inl q⟩
/-- a new object, not (yet) data -/
theorem Ext.allocO {H F : Hp} {p : Addr} {o : HO} (s : Sub F H) (h : H p = none) : Ext H F (upd H p o) F :=
  ⟨Sub.upd_none h, Sub.refl F, s.trans (Sub.upd_none h), fun b u q => .inl q⟩

section
variable {K : PySem.W.Frag} {α : Nat → Addr} {ρ : Env} {σ : L2.St} {H F G H' F' : Hp}
theorem SlotOk.ext {x : Option V} {a : Addr} (e : Ext H F H' F') (gh : Sub G H) : ∀ {s : Slot}, SlotOk K F G H x a s → SlotOk K F' G H' x a s
  | .non, h => trivial
  | .val d, h => let ⟨v, q, r⟩ := h; ⟨v, q, Rep.mono e.ff _ _ r⟩
  | .own d, h => by
    obtain ⟨b, q, f, g, c⟩ := h
    refine ⟨b, q, ?_, g, c.mono e.ff fun o z => e.hh _ _ z⟩
    obtain ⟨o, ho⟩ := c.there
    cases z : F' b with
    | none => rfl
    | some u =>
      rcases e.new _ _ z with w | w
      · rw [f] at w; cases w
      · rw [ho] at w; cases w
  | .bor d, h => by
    obtain ⟨q, f, g, c⟩ := h
    refine ⟨q, ?_, g, c.mono e.ff fun o z => e.hh _ _ z⟩
    obtain ⟨o, ho⟩ := c.there
    cases z : F' a with
    | none => rfl
    | some u =>
      rcases e.new _ _ z with w | w
      · rw [f] at w; cases w
      · rw [ho] at w; cases w
theorem Fits.ext (h : Fits K α ρ σ H F G) (e : Ext H F H' F') : Fits K α ρ σ H' F' G :=
  ⟨e.fh, h.gh.trans e.hh, h.len, fun i s q => let ⟨x, z, k⟩ := h.slot i s q; ⟨x, z, k.ext e h.gh⟩, h.sep⟩
theorem Fits.grow (h : Fits K α ρ σ H F G) (e : Ext H F H' F') : Grow G F F' := ⟨e.ff, fun a o q => by
  cases w : F a with
  | some u => left; rw [e.ff _ _ w] at q; cases q; rfl
  | none =>
    rcases e.new a o q with z | z
    · rw [w] at z; cases z
    · exact .inr ⟨rfl, h.gh.free z⟩⟩
end
end DL

namespace DL
open PySem PySem.Spec L2
variable [HasW]

/-- what an expression gives: data; the thing that a name owns; something new -/
inductive RV where | val (d : D) | loc (i : Nat) | new (d : D)
/-- a class of exceptions: one of the program's own, a built-in one -/
inductive ECls where | own (x : Str) | bi (T : String)
  deriving DecidableEq
/-- an exception: its class, what its own dict holds -/
structure Exn where
  cls : ECls
  fs : List (Str × D)
/-- the class object -/
def ClsIs (K : PySem.W.Frag) : ECls → Value → Prop
  | .own x, v => PySem.W.nsIn K mainGlobals x = some (some v)
  | .bi T, v => v = .type T
theorem ClsIs.eq {K : PySem.W.Frag} {c : ECls} {u v : Value} (a : ClsIs K c u) (b : ClsIs K c v) : u = v := by
  cases c with
  | own x => have a' : PySem.W.nsIn K mainGlobals x = some (some u) := a; have b' : PySem.W.nsIn K mainGlobals x = some (some v) := b; rw [a'] at b'; cases b'; rfl
  | bi T => exact Eq.trans (show u = _ from a) (Eq.symm (show v = _ from b))
inductive ER where | ok (r : RV) (ρ : Env) | ex (x : Exn) (ρ : Env) | no
abbrev Ev := Env → ER
def RV.settle : RV → RV
  | .new d => .val d
  | r => r
def ER.settle : ER → ER
  | .ok r ρ => .ok r.settle ρ
  | e => e
def ER.bind (e : ER) (k : RV → Env → ER) : ER := match e with
  | .ok r ρ => k r ρ
  | .ex x ρ => .ex x ρ
  | .no => .no
def ER.of (r : Option RV) (ρ : Env) : ER := match r with
  | some r => .ok r ρ
  | none => .no
/-- what is read -/
def peek (r : RV) (ρ : Env) : Option D := match r with
  | .val d => some d
  | .loc i => match ρ[i]? with
    | some (.val d) => some d
    | some (.own d) => some d
    | some (.bor d) => some d
    | _ => none
  | .new _ => none
/-- made plain data for good -/
def frz (r : RV) (ρ : Env) : Option (D × Env) := match r with
  | .val d => some (d, ρ)
  | .loc i => match ρ[i]? with
    | some (.val d) => some (d, ρ)
    | some (.own d) => some (d, ρ.set i (.val d))
    | _ => none
  | .new _ => none
def frzs : List RV → Env → Option (List D × Env)
  | [], ρ => some ([], ρ)
  | r :: rs, ρ => match frz r ρ with
    | some (d, ρ1) => match frzs rs ρ1 with
      | some (ds, ρ2) => some (d :: ds, ρ2)
      | none => none
    | none => none
def peeks : List RV → Env → Option (List D)
  | [], _ => some []
  | r :: rs, ρ => match peek r ρ, peeks rs ρ with
    | some d, some ds => some (d :: ds)
    | _, _ => none

/-- v is what r says -/
def RRep (K : PySem.W.Frag) (F G H : Hp) (σ : L2.St) (ρ : Env) : RV → V → Prop
  | .val d, v => Rep K F d v
  | .loc i, v => σ[i]? = some (some v)
  | .new d, v => ∃ a, v = .ref a ∧ F a = none ∧ G a = none ∧ Cell K F H a d ∧ ∀ (i : Nat) (s : Slot), ρ[i]? = some s → s.owns = true → σ[i]? ≠ some (some (V.ref a))
/-- .. of what is settled -/
def SRep (K : PySem.W.Frag) (F : Hp) (σ : L2.St) : RV → V → Prop
  | .val d, v => Rep K F d v
  | .loc i, v => σ[i]? = some (some v)
  | .new _, _ => False
def SReps (K : PySem.W.Frag) (F : Hp) (σ : L2.St) : List RV → List V → Prop
  | [], vs => vs = []
  | r :: rs, vs => ∃ v t, vs = v :: t ∧ SRep K F σ r v ∧ SReps K F σ rs t
def RepX (K : PySem.W.Frag) (F H : Hp) (x : Exn) (cls : Value) (d : Option Addr) : Prop :=
  ClsIs K x.cls cls ∧ (x.fs = [] ∨ ∃ dd vs, d = some dd ∧ H dd = some (.xd ((x.fs.map (·.1)).zip vs)) ∧ Reps K F (x.fs.map (·.2)) vs)

/-- what must follow -/
def EC (K : PySem.W.Frag) (W : WX) (α : Nat → Addr) (σ : L2.St) (F G : Hp) (Q : VK) : ER → Prop
  | .ok r ρ => ∀ v H' F', Grow G F F' → Fits K α ρ σ H' F' G → RRep K F' G H' σ ρ r v → Q v H'
  | .ex x ρ => ∀ cls d H' F', Grow G F F' → Fits K α ρ σ H' F' G → RepX K F' H' x cls d → W cls d σ H'
  | .no => False
/-- the reading of an expression that does g -/
def tE (K : PySem.W.Frag) (W : WX) (g : Ev) : TE := fun σ H Q => ∃ (α : Nat → Addr) (ρ : Env) (F G : Hp), Fits K α ρ σ H F G ∧ EC K W α σ F G Q (g ρ)

section
variable {K : PySem.W.Frag} {W : WX} {α : Nat → Addr} {ρ : Env} {σ : L2.St} {H F G H' F' : Hp} {Q : VK}
theorem EC.mono (g : Grow G F F') : ∀ {e : ER}, EC K W α σ F G Q e → EC K W α σ F' G Q e
  | .ok r ρ, h => fun v H1 F1 g1 f1 r1 => h v H1 F1 (g.trans g1) f1 r1
  | .ex x ρ, h => fun c d H1 F1 g1 f1 r1 => h c d H1 F1 (g.trans g1) f1 r1
  | .no, h => h
theorem EC.imp {Q' : VK} (w : ∀ v H, Q v H → Q' v H) : ∀ {e : ER}, EC K W α σ F G Q e → EC K W α σ F G Q' e
  | .ok r ρ, h => fun v H1 F1 g1 f1 r1 => w _ _ (h v H1 F1 g1 f1 r1)
  | .ex x ρ, h => h
  | .no, h => h
/-- one after another: k reads what the first gave -/
theorem EC.bind {g : Ev} {k : RV → Env → ER} {R : V → Hp → Prop} (hk : ∀ r ρ1, ∀ v H1 F1, Grow G F F1 → Fits K α ρ1 σ H1 F1 G → RRep K F1 G H1 σ ρ1 r v → EC K W α σ F1 G Q (k r ρ1) → R v H1) :
    ∀ {e : ER}, EC K W α σ F G Q (e.bind k) → EC K W α σ F G R e
  | .ok r ρ1, h => fun v H1 F1 g1 f1 r1 => hk r ρ1 v H1 F1 g1 f1 r1 (EC.mono g1 h)
  | .ex x ρ1, h => h
  | .no, h => h
/-- what is new is settled -/
theorem RRep.settle (f : Fits K α ρ σ H F G) : ∀ {r : RV} {v : V}, RRep K F G H σ ρ r v → ∃ F', Grow G F F' ∧ Fits K α ρ σ H F' G ∧ SRep K F' σ r.settle v
  | .val d, v, h => ⟨F, Grow.refl _ _, f, h⟩
  | .loc i, v, h => ⟨F, Grow.refl _ _, f, h⟩
  | .new d, v, h => by
    obtain ⟨a, rfl, fa, ga, c, sp⟩ := h
    obtain ⟨o, ho⟩ := c.there
    have s1 : Sub F (upd F a o) := Sub.upd_none fa
    refine ⟨upd F a o, ⟨s1, fun b u q => ?_⟩, ⟨fun b u q => ?_, f.gh, f.len, fun i s q => ?_, f.sep⟩, ?_⟩
    · by_cases e : b = a
      · subst e; exact .inr ⟨fa, ga⟩
      · rw [upd_ne e] at q; exact .inl q
    · by_cases e : b = a
      · subst e; rw [upd_same] at q; cases q; exact ho
      · rw [upd_ne e] at q; exact f.fh _ _ q
    · obtain ⟨x, hx, so⟩ := f.slot i s q
      refine ⟨x, hx, ?_⟩
      cases s with
      | non => trivial
      | val d' => obtain ⟨v, e, r⟩ := so; exact ⟨v, e, Rep.mono s1 _ _ r⟩
      | own d' =>
        obtain ⟨b, e, fb, gb, cb⟩ := so
        have ne : b ≠ a := fun z => sp i _ q rfl (by rw [hx, e, z])
        exact ⟨b, e, by rw [upd_ne ne]; exact fb, gb, cb.mono s1 fun _ z => z⟩
      | bor d' =>
        obtain ⟨e, fb, gb, cb⟩ := so
        have ne : α i ≠ a := fun z => sp i _ q rfl (by rw [hx, e, z])
        exact ⟨e, by rw [upd_ne ne]; exact fb, gb, cb.mono s1 fun _ z => z⟩
    · exact c.freeze s1 fun u hu => by rw [ho] at hu; cases hu; exact upd_same
theorem SRep.rrep : ∀ {r : RV} {v : V}, SRep K F σ r v → RRep K F G H σ ρ r v
  | .val _, _, h => h
  | .loc _, _, h => h
  | .new _, _, h => h.elim
theorem SRep.mono (s : Sub F F') : ∀ {r : RV} {v : V}, SRep K F σ r v → SRep K F' σ r v
  | .val _, _, h => Rep.mono s _ _ h
  | .loc _, _, h => h
  | .new _, _, h => h.elim
theorem SReps.mono (s : Sub F F') : ∀ {rs : List RV} {vs : List V}, SReps K F σ rs vs → SReps K F' σ rs vs
  | [], _, h => h
  | r :: rs, _, h => by
    obtain ⟨v, t, rfl, a, b⟩ := h
    exact ⟨v, t, rfl, a.mono s, SReps.mono s b⟩
theorem EC.settle : ∀ {e : ER}, EC K W α σ F G Q e.settle → EC K W α σ F G Q e
  | .ok r ρ1, h => fun v H1 F1 g1 f1 r1 => by
    obtain ⟨F2, g2, f2, s2⟩ := r1.settle f1
    exact h v H1 F2 (g1.trans g2) f2 s2.rrep
  | .ex x ρ1, h => h
  | .no, h => h
theorem settle_srep : ∀ {r : RV} {v : V}, RRep K F G H σ ρ r.settle v → SRep K F σ r.settle v
  | .val _, _, h => h
  | .loc _, _, h => h
  | .new _, _, h => h
/-- one operand after another -/
theorem EC.bindS {k : RV → Env → ER} {R : V → Hp → Prop} (hk : ∀ r ρ1, ∀ v H1 F1, Grow G F F1 → Fits K α ρ1 σ H1 F1 G → SRep K F1 σ r v → EC K W α σ F1 G Q (k r ρ1) → R v H1) :
    ∀ {e : ER}, EC K W α σ F G Q (e.settle.bind k) → EC K W α σ F G R e
  | .ok r ρ1, h => fun v H1 F1 g1 f1 r1 => by
    obtain ⟨F2, g2, f2, s2⟩ := r1.settle f1
    exact hk r.settle ρ1 v H1 F2 (g1.trans g2) f2 s2 (EC.mono (g1.trans g2) h)
  | .ex x ρ1, h => h
  | .no, h => h
end

theorem _root_.L2.PE.weak {X : Cx} {e : Expr} {t t' : TE} (h : PE X e t) (w : ∀ σ H Q, t' σ H Q → t σ H Q) : PE X e t' := ⟨fun pins s σ H Q I q => h.run pins s σ H Q I (w σ H Q q)⟩
theorem _root_.L2.PT.weak {X : Cx} {e : Expr} {t t' : TT} (h : PT X e t) (w : ∀ σ H Q, t' σ H Q → t σ H Q) : PT X e t' := ⟨fun pins s σ H Q I q => h.run pins s σ H Q I (w σ H Q q)⟩
theorem _root_.L2.PW.weak {X : Cx} {e : Expr} {t t' : TT} (h : PW X e t) (w : ∀ σ H Q, t' σ H Q → t σ H Q) : PW X e t' := ⟨fun wh pins s σ H Q I q => h.run wh pins s σ H Q I (w σ H Q q)⟩
theorem _root_.L2.PA.weak {X : Cx} {es : List Expr} {t t' : TA} (h : PA X es t) (w : ∀ σ H Q, t' σ H Q → t σ H Q) : PA X es t' := ⟨fun pos pins s σ H Q I q => h.run pos pins s σ H Q I (w σ H Q q)⟩
theorem _root_.L2.PS.weak {X : Cx} {st : Stmt} {t t' : TS} (h : PS X st t) (w : ∀ D σ H, t' D σ H → t D σ H) : PS X st t' := ⟨fun pins s σ H D I q => h.run pins s σ H D I (w D σ H q)⟩
theorem _root_.L2.PSs.weak {X : Cx} {st : List Stmt} {t t' : TS} (h : PSs X st t) (w : ∀ D σ H, t' D σ H → t D σ H) : PSs X st t' := ⟨fun pins s σ H D I q => h.run pins s σ H D I (w D σ H q)⟩

/-- one level seen: what an operator reads -/
def View (K : PySem.W.Frag) (F H : Hp) : D → V → Prop
  | .tup xs, v => ∃ a vs, v = .ref a ∧ SqT K F a vs ∧ Reps K F xs vs
  | .lst xs, v => ∃ a vs, v = .ref a ∧ H a = some (.lst vs) ∧ Reps K F xs vs
  | .scr xs, v => ∃ a vs, v = .ref a ∧ SqL K F a vs ∧ Reps K F xs vs
  | .dic ks xs, v => ∃ a vs, v = .ref a ∧ Rd H a (.dK (ks.zip vs)) ∧ ks.length = xs.length ∧ ks.Nodup ∧ Reps K F xs vs
  | .dct ks xs, v => ∃ a es, v = .ref a ∧ Rd H a (dxO a es) ∧ ks.map kOf = es.map (fun e => some e.1) ∧ Reps K F ks (es.map fun e => .ref e.2.1) ∧ Reps K F xs (es.map (·.2.2))
  | d, v => Rep K F d v
def Views (K : PySem.W.Frag) (F H : Hp) : List D → List V → Prop
  | [], vs => vs = []
  | d :: ds, vs => ∃ v t, vs = v :: t ∧ View K F H d v ∧ Views K F H ds t
section
variable {K : PySem.W.Frag} {W : WX} {α : Nat → Addr} {ρ ρ' : Env} {σ : L2.St} {H F G H' F' : Hp} {Q : VK}
theorem Rep.view (s : Sub F H) : ∀ {d : D} {v : V}, Rep K F d v → View K F H d v
  | .non, _, h => h
  | .bl _, _, h => h
  | .int _, _, h => h
  | .str _, _, h => h
  | .raw _, _, h => h
  | .tup _, _, h => h
  | .lst _, _, h => let ⟨a, vs, e, q, r⟩ := h; ⟨a, vs, e, s _ _ q, r⟩
  | .scr _, _, h => h
  | .dic _ _, _, h => let ⟨a, vs, e, q, l, n, r⟩ := h; ⟨a, vs, e, s.rd q, l, n, r⟩
  | .dct _ _, _, h => let ⟨a, es, e, q, l, rk, r⟩ := h; ⟨a, es, e, s.rd q, l, rk, r⟩
theorem Cell.view {a : Addr} : ∀ {d : D}, Cell K F H a d → View K F H d (.ref a)
  | .lst _, h => let ⟨vs, q, r⟩ := h; ⟨a, vs, rfl, q, r⟩
  | .dic _ _, h => let ⟨vs, q, l, n, r⟩ := h; ⟨a, vs, rfl, .inl q, l, n, r⟩
  | .dct _ _, h => let ⟨es, q, l, rk, r⟩ := h; ⟨a, es, rfl, .inl q, l, rk, r⟩
  | .non, h => h.elim
  | .bl _, h => h.elim
  | .int _, h => h.elim
  | .str _, h => h.elim
  | .tup _, h => h.elim
  | .scr _, h => h.elim
  | .raw _, h => h.elim
theorem Fits.peek (f : Fits K α ρ σ H F G) {r : RV} {v : V} {d : D} (s : SRep K F σ r v) (p : peek r ρ = some d) : View K F H d v := by
  cases r with
  | val d' => cases p; exact Rep.view f.fh s
  | new d' => cases p
  | loc i =>
    unfold DL.peek at p
    cases e : ρ[i]? with
    | none => simp [e] at p
    | some sl =>
      obtain ⟨x, hx, so⟩ := f.slot i sl e
      have hv : σ[i]? = some (some v) := s
      rw [hx] at hv
      cases hv
      cases sl with
      | non => simp [e] at p
      | val d' =>
        simp [e] at p
        subst p
        obtain ⟨w, q, r⟩ := so
        cases q
        exact Rep.view f.fh r
      | own d' =>
        simp [e] at p
        subst p
        obtain ⟨a, q, _, _, c⟩ := so
        cases q
        exact c.view
      | bor d' =>
        simp [e] at p
        subst p
        obtain ⟨q, _, _, c⟩ := so
        cases q
        exact c.view
theorem Fits.peeks (f : Fits K α ρ σ H F G) : ∀ {rs : List RV} {vs : List V} {ds : List D}, SReps K F σ rs vs → peeks rs ρ = some ds → Views K F H ds vs
  | [], _, ds, s, p => by cases p; exact s
  | r :: rs, _, ds, s, p => by
    obtain ⟨v, t, rfl, a, b⟩ := s
    unfold DL.peeks at p
    cases e1 : DL.peek r ρ with
    | none => simp [e1] at p
    | some d =>
      cases e2 : DL.peeks rs ρ with
      | none => simp [e1, e2] at p
      | some ds' =>
        simp [e1, e2] at p
        subst p
        exact ⟨v, t, rfl, f.peek a e1, f.peeks b e2⟩
/-- a name's own thing becomes data -/
theorem Fits.freeze (f : Fits K α ρ σ H F G) {i : Nat} {d : D} {v : V} (e : ρ[i]? = some (.own d)) (hv : σ[i]? = some (some v)) :
    ∃ F', Grow G F F' ∧ Fits K α (ρ.set i (.val d)) σ H F' G ∧ Rep K F' d v := by
  obtain ⟨x, hx, a, q, fa, ga, c⟩ := f.slot i _ e
  rw [hx] at hv
  cases hv
  cases q
  obtain ⟨o, ho⟩ := c.there
  have s1 : Sub F (upd F a o) := Sub.upd_none fa
  have hi : i < ρ.length := (List.getElem?_eq_some_iff.mp e).1
  have rp : Rep K (upd F a o) d (.ref a) := c.freeze s1 fun u hu => by rw [ho] at hu; cases hu; exact upd_same
  refine ⟨upd F a o, ⟨s1, fun b u q => ?_⟩, ⟨fun b u q => ?_, f.gh, by rw [List.length_set]; exact f.len, fun j s q => ?_, fun j k s t b q1 q2 o1 o2 => ?_⟩, rp⟩
  · by_cases z : b = a
    · subst z; exact .inr ⟨fa, ga⟩
    · rw [upd_ne z] at q; exact .inl q
  · by_cases z : b = a
    · subst z; rw [upd_same] at q; cases q; exact ho
    · rw [upd_ne z] at q; exact f.fh _ _ q
  · by_cases hj : i = j
    · subst hj
      rw [List.getElem?_set_self hi] at q
      cases q
      exact ⟨_, hx, .ref a, rfl, rp⟩
    · rw [List.getElem?_set_ne hj] at q
      obtain ⟨y, hy, so⟩ := f.slot j s q
      refine ⟨y, hy, ?_⟩
      cases s with
      | non => trivial
      | val d' => obtain ⟨w, z, r⟩ := so; exact ⟨w, z, Rep.mono s1 _ _ r⟩
      | own d' =>
        obtain ⟨b, z, fb, gb, cb⟩ := so
        have ne : b ≠ a := fun w => hj (f.sep i j _ _ a e q rfl rfl hx (by rw [hy, z, w]))
        exact ⟨b, z, by rw [upd_ne ne]; exact fb, gb, cb.mono s1 fun _ z => z⟩
      | bor d' =>
        obtain ⟨z, fb, gb, cb⟩ := so
        have ne : α j ≠ a := fun w => hj (f.sep i j _ _ a e q rfl rfl hx (by rw [hy, z, w]))
        exact ⟨z, by rw [upd_ne ne]; exact fb, gb, cb.mono s1 fun _ z => z⟩
  · have go : ∀ {k : Nat} {s : Slot}, (ρ.set i (.val d))[k]? = some s → s.owns = true → ρ[k]? = some s := fun {k s} q o => by
      by_cases hk : i = k
      · subst hk
        rw [List.getElem?_set_self hi] at q
        cases q
        cases o
      · rwa [List.getElem?_set_ne hk] at q
    exact f.sep j k s t b (go q1 o1) (go q2 o2) o1 o2
theorem Fits.frz (f : Fits K α ρ σ H F G) {r : RV} {v : V} {d : D} (s : SRep K F σ r v) (p : frz r ρ = some (d, ρ')) : ∃ F', Grow G F F' ∧ Fits K α ρ' σ H F' G ∧ Rep K F' d v := by
  cases r with
  | val d' => cases p; exact ⟨F, Grow.refl _ _, f, s⟩
  | new d' => cases p
  | loc i =>
    unfold DL.frz at p
    have hv : σ[i]? = some (some v) := s
    cases e : ρ[i]? with
    | none => simp [e] at p
    | some sl =>
      cases sl with
      | non => simp [e] at p
      | bor d' => simp [e] at p
      | val d' =>
        simp [e] at p
        obtain ⟨rfl, rfl⟩ := p
        obtain ⟨x, hx, w, q, r⟩ := f.slot i _ e
        rw [hx] at hv
        cases hv
        cases q
        exact ⟨F, Grow.refl _ _, f, r⟩
      | own d' =>
        simp [e] at p
        obtain ⟨rfl, rfl⟩ := p
        exact f.freeze e hv
theorem Fits.frzs : ∀ {rs : List RV} {vs : List V} {ds : List D} {ρ ρ' : Env} {F : Hp}, Fits K α ρ σ H F G → SReps K F σ rs vs → frzs rs ρ = some (ds, ρ') → ∃ F', Grow G F F' ∧ Fits K α ρ' σ H F' G ∧ Reps K F' ds vs
  | [], _, ds, ρ, ρ', F, f, s, p => by cases p; exact ⟨F, Grow.refl _ _, f, s⟩
  | r :: rs, _, ds, ρ, ρ', F, f, s, p => by
    obtain ⟨v, t, rfl, a, b⟩ := s
    unfold DL.frzs at p
    cases e1 : DL.frz r ρ with
    | none => simp [e1] at p
    | some w =>
      obtain ⟨d, ρ1⟩ := w
      cases e2 : DL.frzs rs ρ1 with
      | none => simp [e1, e2] at p
      | some w2 =>
        obtain ⟨ds', ρ2⟩ := w2
        simp [e1, e2] at p
        obtain ⟨rfl, rfl⟩ := p
        obtain ⟨F1, g1, f1, r1⟩ := f.frz a e1
        obtain ⟨F2, g2, f2, r2⟩ := Fits.frzs f1 (b.mono g1.sub) e2
        exact ⟨F2, g1.trans g2, f2, .cons (Rep.mono g2.sub _ _ r1) r2⟩
end

/-! ### what an operator gives -/
/-- w is what r says, behind the heap H -/
def ORep (K : PySem.W.Frag) (H F' H' : Hp) : RV → V → Prop
  | .val d, v => Rep K F' d v
  | .new d, v => ∃ a, v = .ref a ∧ H a = none ∧ F' a = none ∧ Cell K F' H' a d
  | .loc _, _ => False
/-- an operation of one, of two, of several values by what it computes -/
def Op1 (K : PySem.W.Frag) (r : V → Hp → VK → Prop) (f : D → Option RV) : Prop :=
  ∀ (F H : Hp) (d : D) (v : V) (z : RV) (Q : VK), Sub F H → View K F H d v → f d = some z → (∀ w H' F', Ext H F H' F' → ORep K H F' H' z w → Q w H') → r v H Q
def Op2 (K : PySem.W.Frag) (r : V → V → Hp → VK → Prop) (f : D → D → Option RV) : Prop :=
  ∀ (F H : Hp) (d e : D) (v u : V) (z : RV) (Q : VK), Sub F H → View K F H d v → View K F H e u → f d e = some z → (∀ w H' F', Ext H F H' F' → ORep K H F' H' z w → Q w H') → r v u H Q
def OpN (K : PySem.W.Frag) (r : List V → Hp → VK → Prop) (f : List D → Option RV) : Prop :=
  ∀ (F H : Hp) (ds : List D) (vs : List V) (z : RV) (Q : VK), Sub F H → Views K F H ds vs → f ds = some z → (∀ w H' F', Ext H F H' F' → ORep K H F' H' z w → Q w H') → r vs H Q
section
variable {K : PySem.W.Frag} {W : WX} {α : Nat → Addr} {ρ ρ' : Env} {σ : L2.St} {H F G H' F' : Hp} {Q : VK}
theorem ORep.rrep (f : Fits K α ρ σ H F G) (e : Ext H F H' F') : ∀ {z : RV} {w : V}, ORep K H F' H' z w → RRep K F' G H' σ ρ z w
  | .val _, _, h => h
  | .loc _, _, h => h.elim
  | .new d, w, h => by
    obtain ⟨a, rfl, ha, fa, c⟩ := h
    refine ⟨a, rfl, fa, f.gh.free ha, c, fun i s q o z => ?_⟩
    obtain ⟨x, hx, so⟩ := f.slot i s q
    rw [hx] at z
    cases z
    cases s with
    | non => cases o
    | val d' => cases o
    | own d' =>
      obtain ⟨b, e', _, _, cb⟩ := so
      cases e'
      obtain ⟨u, hu⟩ := cb.there
      rw [ha] at hu
      cases hu
    | bor d' =>
      obtain ⟨e', _, _, cb⟩ := so
      cases e'
      obtain ⟨u, hu⟩ := cb.there
      rw [ha] at hu
      cases hu
/-- an operator's end -/
theorem EC.op (f : Fits K α ρ σ H F G) {z : RV} (h : EC K W α σ F G Q (.ok z ρ)) : ∀ w H' F', Ext H F H' F' → ORep K H F' H' z w → Q w H' := fun w H' F' e o =>
  h w H' F' (f.grow e) (f.ext e) (o.rrep f e)
end

/-! ### expressions -/
section
variable {X : Cx} {W : WX} {e a b : Expr} {g ga gb : Ev} {pos : Pos}
/-- a name's value -/
def dVar (i : Nat) : Ev := fun ρ => match ρ[i]? with
  | some (.val d) => .ok (.val d) ρ
  | some (.own _) => .ok (.loc i) ρ
  | some (.bor _) => .ok (.loc i) ρ
  | _ => .no
theorem ed_var (i : Nat) {x : Str} (hN : X.N[i]? = some x := by rfl) (hv : Vis X.env.scope x := by first | exact Or.inl rfl | exact Or.inr (Or.inl rfl) | exact Or.inr (Or.inr rfl)) (hd : (x == ("__debug__" : Str)) = false := by decide)
    (hcd : (x == ("__classdict__" : Str)) = false := by decide) : PE X (.Name x pos) (tE X.K W (dVar i)) := by
  refine (pe_var hN hv hd hcd).weak fun σ H Q h => ?_
  obtain ⟨α, ρ, F, G, f, h⟩ := h
  unfold dVar at h
  cases q : ρ[i]? with
  | none => simp [q, EC] at h
  | some s =>
    obtain ⟨x, hx, so⟩ := f.slot i s q
    cases s with
    | non => simp [q, EC] at h
    | val d =>
      simp only [q] at h
      obtain ⟨v, rfl, r⟩ := so
      exact ⟨v, hx, h v H F (Grow.refl _ _) f r⟩
    | own d =>
      simp only [q] at h
      obtain ⟨c, rfl, _⟩ := so
      exact ⟨_, hx, h _ H F (Grow.refl _ _) f hx⟩
    | bor d =>
      simp only [q] at h
      obtain ⟨rfl, _⟩ := so
      exact ⟨_, hx, h _ H F (Grow.refl _ _) f hx⟩
/-- a constant -/
def dC (d : D) : Ev := fun ρ => .ok (.val d) ρ
theorem ed_const {v : V} {d : D} (h : PE X e (tC v)) (r : ∀ F, Rep X.K F d v) : PE X e (tE X.K W (dC d)) :=
  h.weak fun σ H Q ⟨α, ρ, F, G, f, q⟩ => q v H F (Grow.refl _ _) f (r F)
theorem ed_int {i : Int} {j} : PE X (.Constant (.int i) j pos) (tE X.K W (dC (.int i))) := ed_const pe_int fun _ => rfl
theorem ed_bl {i : Bool} {j} : PE X (.Constant (.bool i) j pos) (tE X.K W (dC (.bl i))) := ed_const pe_bl fun _ => rfl
theorem ed_non {j} : PE X (.Constant .none j pos) (tE X.K W (dC .non)) := ed_const pe_non fun _ => rfl
theorem ed_str {x : Str} {j} : PE X (.Constant (.str x) j pos) (tE X.K W (dC (.str x))) := ed_const pe_str fun _ => rfl
/-- a module's constant -/
theorem ed_glob {x : Str} {v : V} {u : Value} {d : D} (hg : Gl X x) (hm : X.mg x = some u) (r : RelV v u) (rd : ∀ F, Rep X.K F d v) (hd : (x == ("__debug__" : Str)) = false := by decide) : PE X (.Name x pos) (tE X.K W (dC d)) := ed_const (pe_glob hg hm r hd) rd
/-- a built-in's name as a value -/
theorem ed_bltn {x : Str} {v : V} {u : Value} (hg : Gl X x) (hm : X.mg x = none) (hv : bootBuiltins x = some u) (r : RelV v u) (hn : x ≠ "__name__" := by decide) (hd : (x == ("__debug__" : Str)) = false := by decide) : PE X (.Name x pos) (tE X.K W (dC (.raw v))) := ed_const (pe_bltn hg hm hv r hn hd) fun _ => rfl
/-- two operands, an operator -/
def dOp2 (f : D → D → Option RV) (ga gb : Ev) : Ev := fun ρ => (ga ρ).settle.bind fun r1 ρ1 => (gb ρ1).settle.bind fun r2 ρ2 => match peek r1 ρ2, peek r2 ρ2 with
  | some x, some y => ER.of (f x y) ρ2
  | _, _ => .no
theorem ec_op2 {K : PySem.W.Frag} {r : V → V → Hp → VK → Prop} {f : D → D → Option RV} (o : Op2 K r f) {σ : L2.St} {H : Hp} {Q : VK} (h : tE K W (dOp2 f ga gb) σ H Q) : tE K W ga σ H fun x H1 => tE K W gb σ H1 fun y H2 => r x y H2 Q := by
  obtain ⟨α, ρ, F, G, ft, h⟩ := h
  refine ⟨α, ρ, F, G, ft, EC.bindS (fun r1 ρ1 v H1 F1 g1 f1 s1 h1 => ?_) h⟩
  refine ⟨α, ρ1, F1, G, f1, EC.bindS (fun r2 ρ2 u H2 F2 g2 f2 s2 h2 => ?_) h1⟩
  cases e1 : peek r1 ρ2 with
  | none => simp [e1, EC] at h2
  | some x =>
    cases e2 : peek r2 ρ2 with
    | none => simp [e1, e2, EC] at h2
    | some y =>
      simp only [e1, e2] at h2
      cases e3 : f x y with
      | none => simp [e3, ER.of, EC] at h2
      | some z =>
        simp only [e3, ER.of] at h2
        exact o F2 H2 x y v u z Q f2.fh (f2.peek (s1.mono g2.sub) e1) (f2.peek s2 e2) e3 (EC.op f2 h2)
theorem ed_bin {op : Operator} {r : R2} {f : D → D → Option RV} (ho : OpR X (binaryOp op) r) (o : Op2 X.K r f) (ha : PE X a (tE X.K W ga)) (hb : PE X b (tE X.K W gb)) : PE X (.BinOp a op b pos) (tE X.K W (dOp2 f ga gb)) :=
  (pe_op ho ha hb).weak fun _ _ _ h => ec_op2 o h
theorem ed_cmp {op : CmpOp} {r : R2} {f : D → D → Option RV} (ho : OpR X (compareOp op) r) (o : Op2 X.K r f) (ha : PE X a (tE X.K W ga)) (hb : PE X b (tE X.K W gb)) (hm : behindInMarks op b = false := by first | exact nomark _ | rfl) : PE X (.Compare a [op] [b] pos) (tE X.K W (dOp2 f ga gb)) :=
  (pe_cmpR ho ha hb hm).weak fun _ _ _ h => ec_op2 o h
theorem ed_ix {r : R2} {f : D → D → Option RV} (ho : IxR X r) (o : Op2 X.K r f) (ha : PE X a (tE X.K W ga)) (hb : PE X b (tE X.K W gb)) (hs : PlainIx b := by exact fun _ _ => rfl) : PE X (.Subscript a b pos) (tE X.K W (dOp2 f ga gb)) :=
  (pe_ix ho ha hb hs).weak fun _ _ _ h => ec_op2 o h
def dOp1 (f : D → Option RV) (ga : Ev) : Ev := fun ρ => (ga ρ).settle.bind fun r1 ρ1 => match peek r1 ρ1 with
  | some x => ER.of (f x) ρ1
  | _ => .no
theorem ec_op1 {K : PySem.W.Frag} {r : V → Hp → VK → Prop} {f : D → Option RV} (o : Op1 K r f) {σ : L2.St} {H : Hp} {Q : VK} (h : tE K W (dOp1 f ga) σ H Q) : tE K W ga σ H fun x H1 => r x H1 Q := by
  obtain ⟨α, ρ, F, G, ft, h⟩ := h
  refine ⟨α, ρ, F, G, ft, EC.bindS (fun r1 ρ1 v H1 F1 g1 f1 s1 h1 => ?_) h⟩
  cases e1 : peek r1 ρ1 with
  | none => simp [e1, EC] at h1
  | some x =>
    simp only [e1] at h1
    cases e3 : f x with
    | none => simp [e3, ER.of, EC] at h1
    | some z =>
      simp only [e3, ER.of] at h1
      exact o F1 H1 x v z Q f1.fh (f1.peek s1 e1) e3 (EC.op f1 h1)
theorem ed_un {op : UnaryOp} {r : V → Hp → VK → Prop} {f : D → Option RV} (ho : UnR X (unaryOp op) r) (o : Op1 X.K r f) (ha : PE X a (tE X.K W ga)) : PE X (.UnaryOp op a pos) (tE X.K W (dOp1 f ga)) :=
  (pe_un ho ha).weak fun _ _ _ h => ec_op1 o h
end
end DL

namespace DL
open PySem PySem.Spec L2
variable [HasW]

/-! ### tests -/
def BC (K : PySem.W.Frag) (W : WX) (α : Nat → Addr) (σ : L2.St) (F G : Hp) (Q : Bool → Hp → Prop) : ER → Prop
  | .ok (.val (.bl b)) ρ => ∀ H' F', Grow G F F' → Fits K α ρ σ H' F' G → Q b H'
  | .ok _ _ => False
  | .ex x ρ => ∀ cls d H' F', Grow G F F' → Fits K α ρ σ H' F' G → RepX K F' H' x cls d → W cls d σ H'
  | .no => False
def tT (K : PySem.W.Frag) (W : WX) (g : Ev) : TT := fun σ H Q => ∃ (α : Nat → Addr) (ρ : Env) (F G : Hp), Fits K α ρ σ H F G ∧ BC K W α σ F G Q (g ρ)
def truth : D → Option Bool
  | .non => some false
  | .bl b => some b
  | .int i => some (i != 0)
  | .str x => if x.length ≤ sizeLine then some ((x.length : Int) != 0) else none
  | .tup xs => some (!xs.isEmpty)
  | .lst xs => some (!xs.isEmpty)
  | .scr xs => some (!xs.isEmpty)
  | .dic _ _ => none
  | .dct _ _ => none
  | .raw _ => none
def dTru (g : Ev) : Ev := fun ρ => (g ρ).settle.bind fun r ρ1 => match peek r ρ1 with
  | some d => match truth d with
    | some b => .ok (.val (.bl b)) ρ1
    | none => .no
  | none => .no
def dNot (g : Ev) : Ev := fun ρ => (g ρ).bind fun r ρ1 => match r with
  | .val (.bl b) => .ok (.val (.bl (!b))) ρ1
  | _ => .no
def dAndT (g g2 : Ev) : Ev := fun ρ => (g ρ).bind fun r ρ1 => match r with
  | .val (.bl true) => g2 ρ1
  | .val (.bl false) => .ok (.val (.bl false)) ρ1
  | _ => .no
def dOrT (g g2 : Ev) : Ev := fun ρ => (g ρ).bind fun r ρ1 => match r with
  | .val (.bl true) => .ok (.val (.bl true)) ρ1
  | .val (.bl false) => g2 ρ1
  | _ => .no
theorem Reps.isEmpty {K : PySem.W.Frag} {F : Hp} {ds : List D} {vs : List V} (r : Reps K F ds vs) : vs.isEmpty = ds.isEmpty := by
  cases ds with
  | nil => cases r; rfl
  | cons d ds => obtain ⟨v, t, rfl, _⟩ := r; rfl
theorem View.tru {K : PySem.W.Frag} {F H : Hp} (s : Sub F H) : ∀ {d : D} {v : V} {b : Bool}, View K F H d v → truth d = some b → TruV K v H b
  | .non, _, b, h, e => by cases h; cases e; rfl
  | .bl _, _, b, h, e => by cases h; cases e; rfl
  | .int _, _, b, h, e => by cases h; cases e; rfl
  | .raw _, _, b, h, e => by cases e
  | .dct _ _, _, b, h, e => by cases e
  | .str x, _, b, h, e => by
    cases h
    have e' : (if x.length ≤ sizeLine then some ((x.length : Int) != 0) else none) = some b := e
    by_cases hl : x.length ≤ sizeLine
    · rw [if_pos hl] at e'
      cases e'
      exact ⟨hl, rfl⟩
    · rw [if_neg hl] at e'
      cases e'
  | .tup xs, _, b, h, e => by
    obtain ⟨a, vs, rfl, q, r⟩ := h
    cases e
    exact .inr (.inl ⟨vs, s.sqT q, by rw [r.isEmpty]⟩)
  | .lst xs, _, b, h, e => by
    obtain ⟨a, vs, rfl, q, r⟩ := h
    cases e
    exact .inl ⟨vs, SqL.of q, by rw [r.isEmpty]⟩
  | .scr xs, _, b, h, e => by
    obtain ⟨a, vs, rfl, q, r⟩ := h
    cases e
    exact .inl ⟨vs, s.sqL q, by rw [r.isEmpty]⟩
  | .dic _ _, _, b, h, e => by cases e
section
variable {K : PySem.W.Frag} {W : WX} {α : Nat → Addr} {ρ : Env} {σ : L2.St} {H F G H' F' : Hp} {Q : Bool → Hp → Prop}
theorem BC.mono (g : Grow G F F') {e : ER} (h : BC K W α σ F G Q e) : BC K W α σ F' G Q e := by
  cases e with
  | no => exact h
  | ex x ρ => exact fun c d H1 F1 g1 f1 r1 => h c d H1 F1 (g.trans g1) f1 r1
  | ok r ρ =>
    cases r with
    | loc i => exact h
    | new d => exact h
    | val d =>
      cases d with
      | bl b => exact fun H1 F1 g1 f1 => h H1 F1 (g.trans g1) f1
      | _ => exact h
/-- an expression, then a test -/
theorem EC.bindB {k : RV → Env → ER} {R : V → Hp → Prop} (hk : ∀ r ρ1, ∀ v H1 F1, Grow G F F1 → Fits K α ρ1 σ H1 F1 G → SRep K F1 σ r v → BC K W α σ F1 G Q (k r ρ1) → R v H1) :
    ∀ {e : ER}, BC K W α σ F G Q (e.settle.bind k) → EC K W α σ F G R e
  | .ok r ρ1, h => fun v H1 F1 g1 f1 r1 => by
    obtain ⟨F2, g2, f2, s2⟩ := r1.settle f1
    exact hk r.settle ρ1 v H1 F2 (g1.trans g2) f2 s2 (BC.mono (g1.trans g2) h)
  | .ex x ρ1, h => h
  | .no, h => h
/-- a test, then a test -/
theorem BC.bindB {k : RV → Env → ER} {R : Bool → Hp → Prop} (hn : ∀ r ρ1, (∀ b, r ≠ .val (.bl b)) → k r ρ1 = .no) (hk : ∀ b ρ1, ∀ H1 F1, Grow G F F1 → Fits K α ρ1 σ H1 F1 G → BC K W α σ F1 G Q (k (.val (.bl b)) ρ1) → R b H1)
    {e : ER} (h : BC K W α σ F G Q (e.bind k)) : BC K W α σ F G R e := by
  cases e with
  | no => exact h
  | ex x ρ1 => exact h
  | ok r ρ1 =>
    have h' : BC K W α σ F G Q (k r ρ1) := h
    by_cases q : ∃ b, r = .val (.bl b)
    · obtain ⟨b, rfl⟩ := q
      exact fun H1 F1 g1 f1 => hk b ρ1 H1 F1 g1 f1 (BC.mono g1 h')
    · rw [hn r ρ1 fun b z => q ⟨b, z⟩] at h'
      exact h'.elim
/-- a test, then an expression -/
theorem BC.bindE {Q : VK} {k : RV → Env → ER} {R : Bool → Hp → Prop} (hn : ∀ r ρ1, (∀ b, r ≠ .val (.bl b)) → k r ρ1 = .no) (hk : ∀ b ρ1, ∀ H1 F1, Grow G F F1 → Fits K α ρ1 σ H1 F1 G → EC K W α σ F1 G Q (k (.val (.bl b)) ρ1) → R b H1)
    {e : ER} (h : EC K W α σ F G Q (e.bind k)) : BC K W α σ F G R e := by
  cases e with
  | no => exact h
  | ex x ρ1 => exact h
  | ok r ρ1 =>
    have h' : EC K W α σ F G Q (k r ρ1) := h
    by_cases q : ∃ b, r = .val (.bl b)
    · obtain ⟨b, rfl⟩ := q
      exact fun H1 F1 g1 f1 => hk b ρ1 H1 F1 g1 f1 (EC.mono g1 h')
    · rw [hn r ρ1 fun b z => q ⟨b, z⟩] at h'
      exact h'.elim
end
section
variable {X : Cx} {W : WX} {e a b : Expr} {g ga gb gc : Ev} {pos : Pos} {rest : List Expr}
theorem bc_tru {K : PySem.W.Frag} {σ : L2.St} {H : Hp} {Q : Bool → Hp → Prop} (h : tT K W (dTru g) σ H Q) : tE K W g σ H fun x H1 => ∃ k, TruV K x H1 k ∧ Q k H1 := by
  obtain ⟨α, ρ, F, G, f, h⟩ := h
  refine ⟨α, ρ, F, G, f, EC.bindB (fun r ρ1 v H1 F1 g1 f1 s1 h1 => ?_) h⟩
  cases e1 : peek r ρ1 with
  | none => simp [e1, BC] at h1
  | some d =>
    simp only [e1] at h1
    cases e2 : truth d with
    | none => simp [e2, BC] at h1
    | some b =>
      simp only [e2] at h1
      exact ⟨b, (f1.peek s1 e1).tru f1.fh e2, h1 H1 F1 (Grow.refl _ _) f1⟩
theorem td_truth (ha : PE X a (tE X.K W g)) (he : ∀ whole, isTrue a X.env whole = (do let v ← whole; standAt a.pos; holding [v] (truthy v)) := by intro _; rfl) : PT X a (tT X.K W (dTru g)) :=
  (pt_truth ha he).weak fun _ _ _ h => bc_tru h
theorem TruV.of_bool {K : PySem.W.Frag} {H : Hp} {k c : Bool} (h : TruV K (.bl c) H k) : c = k := by cases h; rfl
theorem td_cmp {op : CmpOp} {r : R2} {f : D → D → Option RV} (ho : OpR X (compareOp op) r) (o : Op2 X.K r f) (hf : ∀ x y z, f x y = some z → ∃ c, z = .val (.bl c)) (ha : PE X a (tE X.K W ga)) (hb : PE X b (tE X.K W gb)) (hm : behindInMarks op b = false := by first | exact nomark _ | rfl) :
    PT X (.Compare a [op] [b] pos) (tT X.K W (dOp2 f ga gb)) := by
  refine (pt_cmpR ho ha hb hm).weak fun σ H Q h => ?_
  obtain ⟨α, ρ, F, G, ft, h⟩ := h
  refine ec_op2 (Q := fun x H' => ∃ k, x = .bl k ∧ Q k H') o ⟨α, ρ, F, G, ft, ?_⟩
  -- the comparison's end is a bool
  have key : ∀ {e : ER}, (∀ r ρ', e = .ok r ρ' → ∃ c, r = .val (.bl c)) → BC X.K W α σ F G Q e → EC X.K W α σ F G (fun x H' => ∃ k, x = .bl k ∧ Q k H') e := by
    intro e he hb
    cases e with
    | no => exact hb
    | ex x ρ1 => exact hb
    | ok r ρ1 =>
      obtain ⟨c, rfl⟩ := he r ρ1 rfl
      exact fun v H1 F1 g1 f1 r1 => ⟨c, r1, hb H1 F1 g1 f1⟩
  refine key (fun r ρ' q => ?_) h
  unfold dOp2 at q
  cases e1 : (ga ρ).settle with
  | no => simp [e1, ER.bind] at q
  | ex x ρ1 => simp [e1, ER.bind] at q
  | ok r1 ρ1 =>
    simp only [e1, ER.bind] at q
    cases e2 : (gb ρ1).settle with
    | no => simp [e2] at q
    | ex x ρ1 => simp [e2] at q
    | ok r2 ρ2 =>
      simp only [e2] at q
      cases e3 : peek r1 ρ2 with
      | none => simp [e3] at q
      | some x =>
        cases e4 : peek r2 ρ2 with
        | none => simp [e3, e4] at q
        | some y =>
          simp only [e3, e4] at q
          cases e5 : f x y with
          | none => simp [e5, ER.of] at q
          | some z =>
            simp only [e5, ER.of] at q
            obtain ⟨c, hc⟩ := hf x y z e5
            cases q
            exact ⟨c, hc⟩
theorem td_not (ha : PT X a (tT X.K W g)) : PT X (.UnaryOp .Not a pos) (tT X.K W (dNot g)) := by
  refine (pt_not ha).weak fun σ H Q ⟨α, ρ, F, G, f, h⟩ => ⟨α, ρ, F, G, f, BC.bindB (fun r ρ1 hr => ?_) (fun b ρ1 H1 F1 g1 f1 h1 => ?_) h⟩
  · cases r with
    | val d =>
      cases d with
      | bl b => exact absurd rfl (hr b)
      | _ => rfl
    | _ => rfl
  · exact h1 H1 F1 (Grow.refl _ _) f1
theorem tw_and1 (ha : PT X a (tT X.K W g)) : PW X (.BoolOp .And [a] pos) (tT X.K W g) := pw_and1 ha
theorem tw_or1 (ha : PT X a (tT X.K W g)) : PW X (.BoolOp .Or [a] pos) (tT X.K W g) := pw_or1 ha
theorem tw_and (ha : PT X a (tT X.K W ga)) (hb : PW X (.BoolOp .And (b :: rest) pos) (tT X.K W gb)) : PW X (.BoolOp .And (a :: b :: rest) pos) (tT X.K W (dAndT ga gb)) := by
  refine (pw_and ha hb).weak fun σ H Q ⟨α, ρ, F, G, f, h⟩ => ⟨α, ρ, F, G, f, BC.bindB (fun r ρ1 hr => ?_) (fun b ρ1 H1 F1 g1 f1 h1 => ?_) h⟩
  · cases r with
    | val d =>
      cases d with
      | bl b => exact absurd rfl (hr b)
      | _ => rfl
    | _ => rfl
  · cases b with
    | true => exact iteT ⟨α, ρ1, F1, G, f1, h1⟩
    | false => exact iteF (h1 H1 F1 (Grow.refl _ _) f1)
theorem tw_or (ha : PT X a (tT X.K W ga)) (hb : PW X (.BoolOp .Or (b :: rest) pos) (tT X.K W gb)) : PW X (.BoolOp .Or (a :: b :: rest) pos) (tT X.K W (dOrT ga gb)) := by
  refine (pw_or ha hb).weak fun σ H Q ⟨α, ρ, F, G, f, h⟩ => ⟨α, ρ, F, G, f, BC.bindB (fun r ρ1 hr => ?_) (fun b ρ1 H1 F1 g1 f1 h1 => ?_) h⟩
  · cases r with
    | val d =>
      cases d with
      | bl b => exact absurd rfl (hr b)
      | _ => rfl
    | _ => rfl
  · cases b with
    | true => exact iteT (h1 H1 F1 (Grow.refl _ _) f1)
    | false => exact iteF ⟨α, ρ1, F1, G, f1, h1⟩
/-- not x, as a value -/
def dNotV (g : Ev) : Ev := fun ρ => (g ρ).settle.bind fun r ρ1 => match peek r ρ1 with
  | some d => match truth d with
    | some b => .ok (.val (.bl (!b))) ρ1
    | none => .no
  | none => .no
theorem ed_not (ha : PE X a (tE X.K W g)) : PE X (.UnaryOp .Not a pos) (tE X.K W (dNotV g)) := by
  refine (pe_notT ha).weak fun σ H Q ⟨α, ρ, F, G, f, h⟩ => ⟨α, ρ, F, G, f, EC.bindS (fun r ρ1 v H1 F1 g1 f1 s1 h1 => ?_) h⟩
  cases e1 : peek r ρ1 with
  | none => simp [e1, EC] at h1
  | some d =>
    simp only [e1] at h1
    cases e2 : truth d with
    | none => simp [e2, EC] at h1
    | some b =>
      simp only [e2] at h1
      exact ⟨b, (f1.peek s1 e1).tru f1.fh e2, h1 _ H1 F1 (Grow.refl _ _) f1 rfl⟩
/-- x and y, x or y, as values -/
def dAndV (ga gb : Ev) : Ev := fun ρ => (ga ρ).settle.bind fun r ρ1 => match peek r ρ1 with
  | some d => match truth d with
    | some true => gb ρ1
    | some false => .ok r ρ1
    | none => .no
  | none => .no
def dOrV (ga gb : Ev) : Ev := fun ρ => (ga ρ).settle.bind fun r ρ1 => match peek r ρ1 with
  | some d => match truth d with
    | some true => .ok r ρ1
    | some false => gb ρ1
    | none => .no
  | none => .no
theorem ed_one {op} (ha : PE X a (tE X.K W g)) : PE X (.BoolOp op [a] pos) (tE X.K W g) := pe_one ha
theorem ed_and (ha : PE X a (tE X.K W ga)) (hb : PE X (.BoolOp .And (b :: rest) pos) (tE X.K W gb)) : PE X (.BoolOp .And (a :: b :: rest) pos) (tE X.K W (dAndV ga gb)) := by
  refine (pe_andT ha hb).weak fun σ H Q ⟨α, ρ, F, G, f, h⟩ => ⟨α, ρ, F, G, f, EC.bindS (fun r ρ1 v H1 F1 g1 f1 s1 h1 => ?_) h⟩
  cases e1 : peek r ρ1 with
  | none => simp [e1, EC] at h1
  | some d =>
    simp only [e1] at h1
    cases e2 : truth d with
    | none => simp [e2, EC] at h1
    | some b =>
      simp only [e2] at h1
      refine ⟨b, (f1.peek s1 e1).tru f1.fh e2, ?_⟩
      cases b with
      | true => exact iteT ⟨α, ρ1, F1, G, f1, h1⟩
      | false => exact iteF (h1 v H1 F1 (Grow.refl _ _) f1 s1.rrep)
theorem ed_or (ha : PE X a (tE X.K W ga)) (hb : PE X (.BoolOp .Or (b :: rest) pos) (tE X.K W gb)) : PE X (.BoolOp .Or (a :: b :: rest) pos) (tE X.K W (dOrV ga gb)) := by
  refine (pe_orT ha hb).weak fun σ H Q ⟨α, ρ, F, G, f, h⟩ => ⟨α, ρ, F, G, f, EC.bindS (fun r ρ1 v H1 F1 g1 f1 s1 h1 => ?_) h⟩
  cases e1 : peek r ρ1 with
  | none => simp [e1, EC] at h1
  | some d =>
    simp only [e1] at h1
    cases e2 : truth d with
    | none => simp [e2, EC] at h1
    | some b =>
      simp only [e2] at h1
      refine ⟨b, (f1.peek s1 e1).tru f1.fh e2, ?_⟩
      cases b with
      | true => exact iteT (h1 v H1 F1 (Grow.refl _ _) f1 s1.rrep)
      | false => exact iteF ⟨α, ρ1, F1, G, f1, h1⟩
/-- a if t else b -/
def dIf (gc ga gb : Ev) : Ev := fun ρ => (gc ρ).bind fun r ρ1 => match r with
  | .val (.bl true) => ga ρ1
  | .val (.bl false) => gb ρ1
  | _ => .no
theorem dIf_no {ga gb : Ev} (r : RV) (ρ1 : Env) (hr : ∀ b, r ≠ .val (.bl b)) : (match r with
  | .val (.bl true) => ga ρ1
  | .val (.bl false) => gb ρ1
  | _ => ER.no) = .no := by
  cases r with
  | val d =>
    cases d with
    | bl b => exact absurd rfl (hr b)
    | _ => rfl
  | _ => rfl
theorem ed_if {c : Expr} (hc : PT X c (tT X.K W gc)) (ha : PE X a (tE X.K W ga)) (hb : PE X b (tE X.K W gb)) : PE X (.IfExp c a b pos) (tE X.K W (dIf gc ga gb)) := by
  refine (pe_ifExp hc ha hb).weak fun σ H Q ⟨α, ρ, F, G, f, h⟩ => ⟨α, ρ, F, G, f, BC.bindE dIf_no (fun b ρ1 H1 F1 g1 f1 h1 => ?_) h⟩
  cases b with
  | true => exact iteT ⟨α, ρ1, F1, G, f1, h1⟩
  | false => exact iteF ⟨α, ρ1, F1, G, f1, h1⟩
/-- a < b < c -/
def dChain (f f' : D → D → Option RV) (ga gb gc : Ev) : Ev := fun ρ => (ga ρ).settle.bind fun r1 ρ1 => (gb ρ1).settle.bind fun r2 ρ2 => match peek r1 ρ2, peek r2 ρ2 with
  | some x, some y => match f x y with
    | some (.val (.bl true)) => (gc ρ2).settle.bind fun r3 ρ3 => match peek r2 ρ3, peek r3 ρ3 with
      | some y', some z => ER.of (f' y' z) ρ3
      | _, _ => .no
    | some (.val (.bl false)) => .ok (.val (.bl false)) ρ2
    | _ => .no
  | _, _ => .no
theorem ec_chain {K : PySem.W.Frag} {r r' : R2} {f f' : D → D → Option RV} (o : Op2 K r f) (o' : Op2 K r' f') {σ : L2.St} {H : Hp} {Q : VK} (h : tE K W (dChain f f' ga gb gc) σ H Q) : tChain r r' (tE K W ga) (tE K W gb) (tE K W gc) σ H Q := by
  obtain ⟨α, ρ, F, G, ft, h⟩ := h
  refine ⟨α, ρ, F, G, ft, EC.bindS (fun r1 ρ1 v H1 F1 g1 f1 s1 h1 => ?_) h⟩
  refine ⟨α, ρ1, F1, G, f1, EC.bindS (fun r2 ρ2 u H2 F2 g2 f2 s2 h2 => ?_) h1⟩
  cases e1 : peek r1 ρ2 with
  | none => simp [e1, EC] at h2
  | some x =>
    cases e2 : peek r2 ρ2 with
    | none => simp [e1, e2, EC] at h2
    | some y =>
      simp only [e1, e2] at h2
      cases e3 : f x y with
      | none => simp [e3, EC] at h2
      | some z =>
        have big : ∀ {c : Bool}, z = .val (.bl c) → r v u H2 fun z H3 => ∃ k, z = .bl k ∧ (if k = true then tE K W gc σ H3 fun w' H4 => r' u w' H4 Q else Q (.bl false) H3) := fun {c} hz => by
          refine o F2 H2 x y v u z _ f2.fh (f2.peek (s1.mono g2.sub) e1) (f2.peek s2 e2) e3 fun w H3 F3 ex or => ?_
          subst hz
          refine ⟨c, or, ?_⟩
          have f3 := f2.ext ex
          have g3 := f2.grow ex
          cases c with
          | true =>
            simp only [e3] at h2
            refine iteT ⟨α, ρ2, F3, G, f3, EC.bindS (fun r3 ρ3 w4 H4 F4 g4 f4 s4 h4 => ?_) (EC.mono g3 h2)⟩
            cases e4 : peek r2 ρ3 with
            | none => simp [e4, EC] at h4
            | some y' =>
              cases e5 : peek r3 ρ3 with
              | none => simp [e4, e5, EC] at h4
              | some z' =>
                simp only [e4, e5] at h4
                cases e6 : f' y' z' with
                | none => simp [e6, ER.of, EC] at h4
                | some z3 =>
                  simp only [e6, ER.of] at h4
                  exact o' F4 H4 y' z' u w4 z3 Q f4.fh (f4.peek (s2.mono (g3.trans g4).sub) e4) (f4.peek s4 e5) e6 (EC.op f4 h4)
          | false =>
            simp only [e3] at h2
            exact iteF (h2 _ H3 F3 g3 f3 rfl)
        cases z with
        | loc i => simp [e3, EC] at h2
        | new d => simp [e3, EC] at h2
        | val d =>
          cases d with
          | bl c => exact big rfl
          | _ => simp [e3, EC] at h2
theorem ed_chain {op op' : CmpOp} {r r' : R2} {f f' : D → D → Option RV} {c : Expr} (ho : OpR X (compareOp op) r) (ho' : OpR X (compareOp op') r') (o : Op2 X.K r f) (o' : Op2 X.K r' f') (ha : PE X a (tE X.K W ga)) (hb : PE X b (tE X.K W gb)) (hc : PE X c (tE X.K W gc))
    (h2 : PE X (.Compare a [op, op'] [b, c] pos) (tChain r r' (tE X.K W ga) (tE X.K W gb) (tE X.K W gc))) : PE X (.Compare a [op, op'] [b, c] pos) (tE X.K W (dChain f f' ga gb gc)) :=
  h2.weak fun _ _ _ h => ec_chain o o' h
/-- its value is a bool -/
def dBool (g : Ev) : Ev := fun ρ => (g ρ).bind fun r ρ1 => match r with
  | .val (.bl b) => .ok (.val (.bl b)) ρ1
  | _ => .no
theorem bc_bool {K : PySem.W.Frag} {σ : L2.St} {H : Hp} {Q : Bool → Hp → Prop} (h : tT K W (dBool g) σ H Q) : tE K W g σ H fun x H1 => ∃ k, x = .bl k ∧ Q k H1 := by
  obtain ⟨α, ρ, F, G, f, h⟩ := h
  refine ⟨α, ρ, F, G, f, ?_⟩
  unfold dBool at h
  cases e : g ρ with
  | no => rw [e] at h; exact h
  | ex x ρ1 => rw [e] at h; exact h
  | ok r ρ1 =>
    rw [e] at h
    cases r with
    | loc i => exact h.elim
    | new d => exact h.elim
    | val d =>
      cases d with
      | bl b => exact fun v H1 F1 g1 f1 r1 => ⟨b, r1, h H1 F1 g1 f1⟩
      | _ => exact h.elim
theorem td_chain {op op' : CmpOp} {r r' : R2} {f f' : D → D → Option RV} {c : Expr} (o : Op2 X.K r f) (o' : Op2 X.K r' f')
    (h2 : PT X (.Compare a [op, op'] [b, c] pos) (tTest (tChain r r' (tE X.K W ga) (tE X.K W gb) (tE X.K W gc)))) : PT X (.Compare a [op, op'] [b, c] pos) (tT X.K W (dBool (dChain f f' ga gb gc))) :=
  h2.weak fun _ _ _ h => ec_chain o o' (bc_bool h)
end

/-! ### arguments -/
inductive AR where | ok (rs : List RV) (ρ : Env) | ex (x : Exn) (ρ : Env) | no
abbrev Av := Env → AR
def AC (K : PySem.W.Frag) (W : WX) (α : Nat → Addr) (σ : L2.St) (F G : Hp) (Q : List V → Hp → Prop) : AR → Prop
  | .ok rs ρ => ∀ vs H' F', Grow G F F' → Fits K α ρ σ H' F' G → SReps K F' σ rs vs → Q vs H'
  | .ex x ρ => ∀ cls d H' F', Grow G F F' → Fits K α ρ σ H' F' G → RepX K F' H' x cls d → W cls d σ H'
  | .no => False
def tA (K : PySem.W.Frag) (W : WX) (g : Av) : TA := fun σ H Q => ∃ (α : Nat → Addr) (ρ : Env) (F G : Hp), Fits K α ρ σ H F G ∧ AC K W α σ F G Q (g ρ)
def dNil : Av := fun ρ => .ok [] ρ
def dCons (g : Ev) (gs : Av) : Av := fun ρ => match (g ρ).settle with
  | .ok r ρ1 => match gs ρ1 with
    | .ok rs ρ2 => .ok (r :: rs) ρ2
    | .ex x ρ2 => .ex x ρ2
    | .no => .no
  | .ex x ρ1 => .ex x ρ1
  | .no => .no
section
variable {X : Cx} {W : WX} {e : Expr} {es : List Expr} {g : Ev} {gs : Av} {pos : Pos}
theorem ad_nil : PA X [] (tA X.K W dNil) := pa_nil.weak fun σ H Q ⟨α, ρ, F, G, f, h⟩ => h [] H F (Grow.refl _ _) f rfl
theorem ad_cons (ha : PE X e (tE X.K W g)) (hr : PA X es (tA X.K W gs)) (hs : starEach (e :: es) X.env = (false, eval e X.env) :: starEach es X.env := by rfl) : PA X (e :: es) (tA X.K W (dCons g gs)) := by
  refine (pa_cons ha hr hs).weak fun σ H Q ⟨α, ρ, F, G, f, h⟩ => ⟨α, ρ, F, G, f, EC.settle ?_⟩
  unfold dCons at h
  cases e1 : (g ρ).settle with
  | no => simp [e1, AC] at h
  | ex x ρ1 => simp only [e1] at h; exact h
  | ok r ρ1 =>
    simp only [e1] at h
    intro v H1 F1 g1 f1 r1
    have rs : r.settle = r := by
      cases q : g ρ with
      | no => rw [q] at e1; cases e1
      | ex x ρ => rw [q] at e1; cases e1
      | ok r0 ρ0 =>
        rw [q] at e1
        have e2 : r0.settle = r := by cases e1; rfl
        rw [← e2]
        cases r0 <;> rfl
    have s1 : SRep X.K F1 σ r v := by
      rw [← rs] at r1 ⊢
      exact settle_srep r1
    refine ⟨α, ρ1, F1, G, f1, ?_⟩
    cases e2 : gs ρ1 with
    | no => simp [e2, AC] at h
    | ex x ρ2 =>
      simp only [e2] at h
      exact fun c d H2 F2 g2 f2 x2 => h c d H2 F2 (g1.trans g2) f2 x2
    | ok rs' ρ2 =>
      simp only [e2] at h
      exact fun vs H2 F2 g2 f2 r2 => h (v :: vs) H2 F2 (g1.trans g2) f2 ⟨v, vs, rfl, s1.mono g2.sub, r2⟩
/-- what is made of the arguments -/
def dFz (gs : Av) (k : List D → Env → ER) : Ev := fun ρ => match gs ρ with
  | .ok rs ρ1 => match frzs rs ρ1 with
    | some (ds, ρ2) => k ds ρ2
    | none => .no
  | .ex x ρ1 => .ex x ρ1
  | .no => .no
theorem ac_fz {K : PySem.W.Frag} {k : List D → Env → ER} {σ : L2.St} {H : Hp} {Q : VK} {R : List V → Hp → Prop} (h : tE K W (dFz gs k) σ H Q)
    (hk : ∀ (α : Nat → Addr) (ρ2 : Env) (F G H1 : Hp) ds vs, Fits K α ρ2 σ H1 F G → Reps K F ds vs → EC K W α σ F G Q (k ds ρ2) → R vs H1) : tA K W gs σ H R := by
  obtain ⟨α, ρ, F, G, f, h⟩ := h
  refine ⟨α, ρ, F, G, f, ?_⟩
  unfold dFz at h
  cases e1 : gs ρ with
  | no => simp [e1, EC] at h
  | ex x ρ1 => simp only [e1] at h; exact h
  | ok rs ρ1 =>
    simp only [e1] at h
    intro vs H1 F1 g1 f1 s1
    cases e2 : frzs rs ρ1 with
    | none => simp [e2, EC] at h
    | some w =>
      obtain ⟨ds, ρ2⟩ := w
      simp only [e2] at h
      obtain ⟨F2, g2, f2, r2⟩ := Fits.frzs f1 s1 e2
      exact hk α ρ2 F2 G H1 ds vs f2 r2 (EC.mono (g1.trans g2) h)
def dTup (gs : Av) : Ev := dFz gs fun ds ρ => if ds.length ≤ 1000 then .ok (.val (.tup ds)) ρ else .no
def dLst (gs : Av) : Ev := dFz gs fun ds ρ => if ds.length ≤ 1000 then .ok (.new (.lst ds)) ρ else .no
theorem le_line {n : Nat} (h : n ≤ 1000) : n ≤ sizeLine := Nat.le_of_lt (small1000 h)
theorem ed_tup {x1} (h : PA X es (tA X.K W gs)) : PE X (.Tuple es x1 pos) (tE X.K W (dTup gs)) := by
  refine (pe_tup h).weak fun σ H Q q => ac_fz q fun α ρ2 F G H1 ds vs f r hh => ?_
  by_cases hl : ds.length ≤ 1000
  · rw [if_pos hl] at hh
    refine ⟨by rw [r.length]; exact le_line hl, fun p hp => ?_⟩
    have ex : Ext H1 F (upd H1 p (.tup vs)) (upd F p (.tup vs)) := Ext.alloc f.fh hp
    exact hh _ _ _ (f.grow ex) (f.ext ex) ⟨p, vs, rfl, SqT.of upd_same, Reps.mono ex.ff _ _ r⟩
  · rw [if_neg hl] at hh
    exact hh.elim
theorem ed_lst (h : PA X es (tA X.K W gs)) : PE X (.List es pos) (tE X.K W (dLst gs)) := by
  refine (pe_lst h).weak fun σ H Q q => ac_fz q fun α ρ2 F G H1 ds vs f r hh => ?_
  by_cases hl : ds.length ≤ 1000
  · rw [if_pos hl] at hh
    refine ⟨by rw [r.length]; exact le_line hl, fun p hp => ?_⟩
    have ex : Ext H1 F (upd H1 p (.lst vs)) F := Ext.allocO f.fh hp
    exact EC.op f hh _ _ _ ex ⟨p, rfl, hp, f.fh.free hp, vs, upd_same, r⟩
  · rw [if_neg hl] at hh
    exact hh.elim
/-- a built-in's call -/
def dB (f : List D → Option RV) (gs : Av) : Ev := fun ρ => match gs ρ with
  | .ok rs ρ1 => match peeks rs ρ1 with
    | some ds => ER.of (f ds) ρ1
    | none => .no
  | .ex x ρ1 => .ex x ρ1
  | .no => .no
theorem ec_b {K : PySem.W.Frag} {r : List V → Hp → VK → Prop} {f : List D → Option RV} (o : OpN K r f) {σ : L2.St} {H : Hp} {Q : VK} (h : tE K W (dB f gs) σ H Q) : tA K W gs σ H fun vs H1 => r vs H1 Q := by
  obtain ⟨α, ρ, F, G, ft, h⟩ := h
  refine ⟨α, ρ, F, G, ft, ?_⟩
  unfold dB at h
  cases e1 : gs ρ with
  | no => simp [e1, EC] at h
  | ex x ρ1 => simp only [e1] at h; exact h
  | ok rs ρ1 =>
    simp only [e1] at h
    intro vs H1 F1 g1 f1 s1
    cases e2 : peeks rs ρ1 with
    | none => simp [e2, EC] at h
    | some ds =>
      simp only [e2] at h
      cases e3 : f ds with
      | none => simp [e3, ER.of, EC] at h
      | some z =>
        simp only [e3, ER.of] at h
        exact o F1 H1 ds vs z Q f1.fh (f1.peeks s1 e2) e3 (EC.op f1 (EC.mono g1 h))
theorem ed_callB {x : Str} {p : Pos} {id : String} {r : List V → Hp → VK → Prop} {f : List D → Option RV} (hc : CallR X (.builtin id) r) (o : OpN X.K r f) (hg : Gl X x) (hm : X.mg x = none) (hv : bootBuiltins x = some (.builtin id)) (ha : PA X (e :: es) (tA X.K W gs)) (hn : x ≠ "__name__" := by decide) (hdb : (x == ("__debug__" : Str)) = false := by decide)
    (he : starEach (e :: es) X.env = (false, eval e X.env) :: starEach es X.env := by rfl) (hpl : (backTo pos (starEach es X.env)).any (·.1) = false := by rfl) : PE X (.Call (.Name x p) (e :: es) [] pos) (tE X.K W (dB f gs)) :=
  (pe_callB hc hg hm hv ha hn hdb he hpl).weak fun _ _ _ h => ec_b o h
theorem ed_callTy {x : Str} {p : Pos} {T : String} {r : List V → Hp → VK → Prop} {f : List D → Option RV} (hc : CallR X (.type T) r) (o : OpN X.K r f) (hg : Gl X x) (hm : X.mg x = none) (hv : bootBuiltins x = some (.type T)) (ha : PA X (e :: es) (tA X.K W gs)) (hn : x ≠ "__name__" := by decide) (hdb : (x == ("__debug__" : Str)) = false := by decide)
    (he : starEach (e :: es) X.env = (false, eval e X.env) :: starEach es X.env := by rfl) (hpl : (backTo pos (starEach es X.env)).any (·.1) = false := by rfl) : PE X (.Call (.Name x p) (e :: es) [] pos) (tE X.K W (dB f gs)) :=
  (pe_callTy hc hg hm hv ha hn hdb he hpl).weak fun _ _ _ h => ec_b o h
end
end DL

namespace DL
open PySem PySem.Spec L2
variable [HasW]

/-! ### a def by what it computes -/
inductive DR where | ok (r : RV) (outs : List D) | ex (x : Exn) (outs : List D) | no
/-- the parameters' slots: true: lent -/
def argEnv : List Bool → List D → Env
  | true :: ms, d :: ds => .bor d :: argEnv ms ds
  | false :: ms, d :: ds => .val d :: argEnv ms ds
  | _, _ => []
theorem argEnv_length : ∀ {ms : List Bool} {ds : List D}, ds.length = ms.length → (argEnv ms ds).length = ms.length
  | [], [], _ => rfl
  | true :: ms, d :: ds, h => by simp [argEnv, argEnv_length (ms := ms) (ds := ds) (by simpa using h)]
  | false :: ms, d :: ds, h => by simp [argEnv, argEnv_length (ms := ms) (ds := ds) (by simpa using h)]
  | [], _ :: _, h => by simp at h
  | _ :: _, [], h => by simp at h
def DC (K : PySem.W.Frag) (ms : List Bool) (α : Nat → Addr) (vs : List V) (F G : Hp) (Q : VK) (E : XK) : DR → Prop
  | .ok r outs => ∀ v H' F', Grow G F F' → outs.length = ms.length → Fits K α (argEnv ms outs) (vs.map some) H' F' G → RRep K F' G H' (vs.map some) (argEnv ms outs) r v → Q v H'
  | .ex x outs => ∀ cls d H' F', Grow G F F' → outs.length = ms.length → Fits K α (argEnv ms outs) (vs.map some) H' F' G → RepX K F' H' x cls d → E cls d H'
  | .no => False
/-- the promise of a def that computes f -/
def spD (K : PySem.W.Frag) (ms : List Bool) (f : List D → DR) : Sp := fun vs H Q E => ∃ (α : Nat → Addr) (F G : Hp) (ds : List D), ds.length = ms.length ∧ Fits K α (argEnv ms ds) (vs.map some) H F G ∧ DC K ms α vs F G Q E (f ds)
theorem spD_len {K : PySem.W.Frag} {ms : List Bool} {f : List D → DR} (vs : List V) (H : Hp) (Q : VK) (E : XK) (h : spD K ms f vs H Q E) : vs.length = ms.length := by
  obtain ⟨α, F, G, ds, hl, ft, _⟩ := h
  have := ft.len
  rw [List.length_map, argEnv_length hl] at this
  exact this

/-- the arguments of a call: lent ones stand in a name's slot -/
def passes : List Bool → List RV → Env → Option (List D × Env)
  | [], [], ρ => some ([], ρ)
  | false :: ms, r :: rs, ρ => match frz r ρ with
    | some (d, ρ1) => match passes ms rs ρ1 with
      | some (ds, ρ2) => some (d :: ds, ρ2)
      | none => none
    | none => none
  | true :: ms, .loc i :: rs, ρ => match passes ms rs ρ with
    | some (ds, ρ2) => match ρ2[i]? with
      | some (.own d) => some (d :: ds, ρ2)
      | some (.bor d) => some (d :: ds, ρ2)
      | _ => none
    | none => none
  | _, _, _ => none
def lents : List Bool → List RV → List Nat
  | true :: ms, .loc i :: rs => i :: lents ms rs
  | _ :: ms, _ :: rs => lents ms rs
  | _, _ => []
def setO (ρ : Env) (i : Nat) (d : D) : Env := match ρ[i]? with
  | some (.own _) => ρ.set i (.own d)
  | some (.bor _) => ρ.set i (.bor d)
  | _ => ρ
def backs : List Bool → List RV → List D → Env → Env
  | true :: ms, .loc i :: rs, d :: ds, ρ => setO (backs ms rs ds ρ) i d
  | _ :: ms, _ :: rs, _ :: ds, ρ => backs ms rs ds ρ
  | _, _, _, ρ => ρ
def dCall (ms : List Bool) (f : List D → DR) (gs : Av) : Ev := fun ρ => match gs ρ with
  | .ok rs ρ1 => match passes ms rs ρ1 with
    | some (ds, ρ2) => if (lents ms rs).Nodup then match f ds with
        | .ok r outs => .ok r (backs ms rs outs ρ2)
        | .ex x outs => .ex x (backs ms rs outs ρ2)
        | .no => .no
      else .no
    | none => .no
  | .ex x ρ1 => .ex x ρ1
  | .no => .no

/-- what is passed, as it stands -/
inductive PassOk (K : PySem.W.Frag) (F : Hp) (ρ : Env) (σ : L2.St) : List Bool → List RV → List D → List V → Prop
  | nil : PassOk K F ρ σ [] [] [] []
  | val {ms rs ds vs} {r : RV} {d : D} {v : V} : Rep K F d v → PassOk K F ρ σ ms rs ds vs → PassOk K F ρ σ (false :: ms) (r :: rs) (d :: ds) (v :: vs)
  | lent {ms rs ds vs} {i : Nat} {d : D} {a : Addr} : σ[i]? = some (some (.ref a)) → (ρ[i]? = some (.own d) ∨ ρ[i]? = some (.bor d)) → PassOk K F ρ σ ms rs ds vs → PassOk K F ρ σ (true :: ms) (.loc i :: rs) (d :: ds) (.ref a :: vs)
section
variable {K : PySem.W.Frag} {W : WX} {α : Nat → Addr} {ρ ρ' : Env} {σ : L2.St} {H F G H' F' : Hp}
theorem PassOk.mono (s : Sub F F') : ∀ {ms rs ds vs}, PassOk K F ρ σ ms rs ds vs → PassOk K F' ρ σ ms rs ds vs := by
  intro ms rs ds vs h
  induction h with
  | nil => exact .nil
  | val r _ ih => exact .val (Rep.mono s _ _ r) ih
  | lent a b _ ih => exact .lent a b ih
theorem PassOk.lens : ∀ {ms rs ds vs}, PassOk K F ρ σ ms rs ds vs → ds.length = ms.length ∧ vs.length = ms.length := by
  intro ms rs ds vs h
  induction h with
  | nil => exact ⟨rfl, rfl⟩
  | val r _ ih => simp [ih.1, ih.2]
  | lent a b _ ih => simp [ih.1, ih.2]
theorem Fits.passes : ∀ {ms : List Bool} {rs : List RV} {vs : List V} {ds : List D} {ρ ρ' : Env} {F : Hp}, Fits K α ρ σ H F G → SReps K F σ rs vs → passes ms rs ρ = some (ds, ρ') → ∃ F', Grow G F F' ∧ Fits K α ρ' σ H F' G ∧ PassOk K F' ρ' σ ms rs ds vs
  | [], [], _, ds, ρ, ρ', F, f, s, p => by
    cases p
    cases s
    exact ⟨F, Grow.refl _ _, f, .nil⟩
  | false :: ms, r :: rs, _, ds, ρ, ρ', F, f, s, p => by
    obtain ⟨v, t, rfl, a, b⟩ := s
    unfold DL.passes at p
    cases e1 : DL.frz r ρ with
    | none => simp [e1] at p
    | some w =>
      obtain ⟨d, ρ1⟩ := w
      cases e2 : DL.passes ms rs ρ1 with
      | none => simp [e1, e2] at p
      | some w2 =>
        obtain ⟨ds', ρ2⟩ := w2
        simp [e1, e2] at p
        obtain ⟨rfl, rfl⟩ := p
        obtain ⟨F1, g1, f1, r1⟩ := f.frz a e1
        obtain ⟨F2, g2, f2, r2⟩ := Fits.passes f1 (b.mono g1.sub) e2
        exact ⟨F2, g1.trans g2, f2, .val (Rep.mono g2.sub _ _ r1) r2⟩
  | true :: ms, .loc i :: rs, _, ds, ρ, ρ', F, f, s, p => by
    obtain ⟨v, t, rfl, a, b⟩ := s
    unfold DL.passes at p
    cases e2 : DL.passes ms rs ρ with
    | none => simp [e2] at p
    | some w2 =>
      obtain ⟨ds', ρ2⟩ := w2
      obtain ⟨F2, g2, f2, r2⟩ := Fits.passes f b e2
      have hv : σ[i]? = some (some v) := a
      cases e3 : ρ2[i]? with
      | none => simp [e2, e3] at p
      | some sl =>
        obtain ⟨x, hx, so⟩ := f2.slot i sl e3
        rw [hx] at hv
        cases hv
        cases sl with
        | non => simp [e2, e3] at p
        | val d => simp [e2, e3] at p
        | own d =>
          simp [e2, e3] at p
          obtain ⟨rfl, rfl⟩ := p
          obtain ⟨c, q, _⟩ := so
          cases q
          exact ⟨F2, g2, f2, .lent hx (.inl e3) r2⟩
        | bor d =>
          simp [e2, e3] at p
          obtain ⟨rfl, rfl⟩ := p
          obtain ⟨q, _⟩ := so
          cases q
          exact ⟨F2, g2, f2, .lent hx (.inr e3) r2⟩
  | true :: ms, .val _ :: rs, _, ds, ρ, ρ', F, f, s, p => by cases p
  | true :: ms, .new _ :: rs, _, ds, ρ, ρ', F, f, s, p => by cases p
  | [], _ :: _, _, ds, ρ, ρ', F, f, s, p => by cases p
  | _ :: _, [], _, ds, ρ, ρ', F, f, s, p => by
    unfold DL.passes at p
    split at p <;> first | contradiction | cases p

/-- the ground of a callee: all but what is lent -/
def lentAt (ms : List Bool) (vs : List V) (a : Addr) : Prop := ∃ j : Nat, ms[j]? = some true ∧ vs[j]? = some (.ref a)
open Classical in
noncomputable def ground (ms : List Bool) (vs : List V) (H : Hp) : Hp := fun a => if lentAt ms vs a then none else H a
theorem ground_sub {ms : List Bool} {vs : List V} : Sub (ground ms vs H) H := fun a o e => by
  unfold ground at e
  split at e
  · cases e
  · exact e
theorem ground_at {ms : List Bool} {vs : List V} {a : Addr} (h : lentAt ms vs a) : ground ms vs H a = none := by unfold ground; rw [if_pos h]
theorem ground_of {ms : List Bool} {vs : List V} {a : Addr} (h : ¬ lentAt ms vs a) : ground ms vs H a = H a := by unfold ground; rw [if_neg h]
def refAt (vs : List V) (j : Nat) : Addr := match vs[j]? with
  | some (.ref a) => a
  | _ => 0
/-- what stands at a lent place -/
theorem PassOk.lentAt {ms : List Bool} {rs : List RV} {ds : List D} {vs : List V} (p : PassOk K F ρ σ ms rs ds vs) {a : Addr} (h : DL.lentAt ms vs a) :
    ∃ (i : Nat) (d : D), i ∈ lents ms rs ∧ σ[i]? = some (some (.ref a)) ∧ (ρ[i]? = some (.own d) ∨ ρ[i]? = some (.bor d)) := by
  obtain ⟨j, h1, h2⟩ := h
  induction p generalizing j with
  | nil => simp at h1
  | val r _ ih =>
    cases j with
    | zero => simp at h1
    | succ j => exact ih j (by simpa using h1) (by simpa using h2)
  | @lent ms rs ds vs i d b hs hr _ ih =>
    cases j with
    | zero =>
      simp at h2
      subst h2
      exact ⟨i, d, List.mem_cons_self, hs, hr⟩
    | succ j =>
      obtain ⟨i', d', m, q⟩ := ih j (by simpa using h1) (by simpa using h2)
      exact ⟨i', d', List.mem_cons_of_mem _ m, q⟩
theorem PassOk.argGet {ms : List Bool} {rs : List RV} {ds : List D} {vs : List V} (p : PassOk K F ρ σ ms rs ds vs) : ∀ {j : Nat} {s : Slot}, (argEnv ms ds)[j]? = some s →
    (∃ d v, s = .val d ∧ vs[j]? = some v ∧ Rep K F d v) ∨ ∃ d a i, s = .bor d ∧ vs[j]? = some (.ref a) ∧ ms[j]? = some true ∧ rs[j]? = some (.loc i) ∧ σ[i]? = some (some (.ref a)) ∧ (ρ[i]? = some (.own d) ∨ ρ[i]? = some (.bor d)) := by
  induction p with
  | nil => intro j s h; simp [argEnv] at h
  | @val ms rs ds vs r d v hr _ ih =>
    intro j s h
    cases j with
    | zero => simp [argEnv] at h; subst h; exact .inl ⟨d, v, rfl, rfl, hr⟩
    | succ j => simpa using ih (j := j) (s := s) (by simpa [argEnv] using h)
  | @lent ms rs ds vs i d a hs hr _ ih =>
    intro j s h
    cases j with
    | zero => simp [argEnv] at h; subst h; exact .inr ⟨d, a, i, rfl, rfl, rfl, rfl, hs, hr⟩
    | succ j => simpa using ih (j := j) (s := s) (by simpa [argEnv] using h)
theorem lents_mem : ∀ {ms : List Bool} {rs : List RV} {j i : Nat}, ms[j]? = some true → rs[j]? = some (.loc i) → i ∈ lents ms rs
  | [], _, j, i, h, _ => by simp at h
  | _ :: _, [], j, i, _, h => by simp at h
  | true :: ms, .loc k :: rs, 0, i, h1, h2 => by simp at h2; subst h2; exact List.mem_cons_self
  | true :: ms, .loc k :: rs, j + 1, i, h1, h2 => List.mem_cons_of_mem _ (lents_mem (ms := ms) (rs := rs) (j := j) (by simpa using h1) (by simpa using h2))
  | false :: ms, r :: rs, 0, i, h1, h2 => by simp at h1
  | false :: ms, r :: rs, j + 1, i, h1, h2 => by
    have := lents_mem (ms := ms) (rs := rs) (j := j) (i := i) (by simpa using h1) (by simpa using h2)
    cases r <;> exact this
  | true :: ms, .val _ :: rs, 0, i, h1, h2 => by simp at h2
  | true :: ms, .new _ :: rs, 0, i, h1, h2 => by simp at h2
  | true :: ms, .val _ :: rs, j + 1, i, h1, h2 => lents_mem (ms := ms) (rs := rs) (j := j) (by simpa using h1) (by simpa using h2)
  | true :: ms, .new _ :: rs, j + 1, i, h1, h2 => lents_mem (ms := ms) (rs := rs) (j := j) (by simpa using h1) (by simpa using h2)
/-- two lent places of one name are one place -/
theorem lents_inj : ∀ {ms : List Bool} {rs : List RV} {j k i : Nat}, (lents ms rs).Nodup → ms[j]? = some true → rs[j]? = some (.loc i) → ms[k]? = some true → rs[k]? = some (.loc i) → j = k
  | [], _, j, k, i, _, h, _, _, _ => by simp at h
  | _ :: _, [], j, k, i, _, _, h, _, _ => by simp at h
  | true :: ms, .loc x :: rs, 0, 0, i, _, _, _, _, _ => rfl
  | true :: ms, .loc x :: rs, 0, k + 1, i, n, _, h2, h3, h4 => by
    simp at h2
    subst h2
    exact absurd (lents_mem (ms := ms) (rs := rs) (j := k) (by simpa using h3) (by simpa using h4)) (List.nodup_cons.mp n).1
  | true :: ms, .loc x :: rs, j + 1, 0, i, n, h1, h2, _, h4 => by
    simp at h4
    subst h4
    exact absurd (lents_mem (ms := ms) (rs := rs) (j := j) (by simpa using h1) (by simpa using h2)) (List.nodup_cons.mp n).1
  | true :: ms, .loc x :: rs, j + 1, k + 1, i, n, h1, h2, h3, h4 => by
    rw [lents_inj (ms := ms) (rs := rs) (j := j) (k := k) (List.nodup_cons.mp n).2 (by simpa using h1) (by simpa using h2) (by simpa using h3) (by simpa using h4)]
  | false :: ms, r :: rs, j, k, i, n, h1, h2, h3, h4 => by
    cases j with
    | zero => simp at h1
    | succ j =>
      cases k with
      | zero => simp at h3
      | succ k =>
        have n' : (lents ms rs).Nodup := by cases r <;> exact n
        rw [lents_inj (ms := ms) (rs := rs) (j := j) (k := k) n' (by simpa using h1) (by simpa using h2) (by simpa using h3) (by simpa using h4)]
  | true :: ms, .val _ :: rs, j, k, i, n, h1, h2, h3, h4 => by
    cases j with
    | zero => simp at h2
    | succ j =>
      cases k with
      | zero => simp at h4
      | succ k => rw [lents_inj (ms := ms) (rs := rs) (j := j) (k := k) n (by simpa using h1) (by simpa using h2) (by simpa using h3) (by simpa using h4)]
  | true :: ms, .new _ :: rs, j, k, i, n, h1, h2, h3, h4 => by
    cases j with
    | zero => simp at h2
    | succ j =>
      cases k with
      | zero => simp at h4
      | succ k => rw [lents_inj (ms := ms) (rs := rs) (j := j) (k := k) n (by simpa using h1) (by simpa using h2) (by simpa using h3) (by simpa using h4)]
/-- an owner's slot -/
theorem Fits.owner (f : Fits K α ρ σ H F G) {i : Nat} {d : D} {a : Addr} (h : ρ[i]? = some (.own d) ∨ ρ[i]? = some (.bor d)) (hs : σ[i]? = some (some (.ref a))) : F a = none ∧ G a = none ∧ Cell K F H a d := by
  rcases h with h | h
  · obtain ⟨x, hx, b, e, fb, gb, c⟩ := f.slot i _ h
    rw [hx] at hs
    cases hs
    cases e
    exact ⟨fb, gb, c⟩
  · obtain ⟨x, hx, e, fb, gb, c⟩ := f.slot i _ h
    rw [hx] at hs
    cases hs
    cases e
    exact ⟨fb, gb, c⟩
theorem owns_of {i : Nat} {d : D} (h : ρ[i]? = some (.own d) ∨ ρ[i]? = some (.bor d)) : ∃ s, ρ[i]? = some s ∧ s.owns = true := by
  rcases h with h | h
  · exact ⟨_, h, rfl⟩
  · exact ⟨_, h, rfl⟩
/-- the state that a callee meets -/
theorem Fits.callee (f : Fits K α ρ σ H F G) {ms : List Bool} {rs : List RV} {ds : List D} {vs : List V} (p : PassOk K F ρ σ ms rs ds vs) (nd : (lents ms rs).Nodup) :
    Fits K (refAt vs) (argEnv ms ds) (vs.map some) H F (ground ms vs H) := by
  obtain ⟨l1, l2⟩ := p.lens
  refine ⟨f.fh, ground_sub, by rw [List.length_map, argEnv_length l1, l2], fun j s q => ?_, fun j k s t a q1 q2 o1 o2 h1 h2 => ?_⟩
  · rcases p.argGet q with ⟨d, v, rfl, hv, r⟩ | ⟨d, a, i, rfl, hv, hm, hr, hs, ho⟩
    · exact ⟨some v, by rw [List.getElem?_map, hv]; rfl, v, rfl, r⟩
    · obtain ⟨fa, ga, c⟩ := f.owner ho hs
      have e : refAt vs j = a := by unfold refAt; rw [hv]
      refine ⟨some (.ref a), by rw [List.getElem?_map, hv]; rfl, ?_⟩
      rw [e]
      exact ⟨rfl, fa, ground_at ⟨j, hm, hv⟩, c⟩
  · rcases p.argGet q1 with ⟨d, v, rfl, hv, r⟩ | ⟨d, b, i, rfl, hv, hm, hr, hs, ho⟩
    · cases o1
    · rcases p.argGet q2 with ⟨d', v', rfl, hv', r'⟩ | ⟨d', b', i', rfl, hv', hm', hr', hs', ho'⟩
      · cases o2
      · rw [List.getElem?_map, hv] at h1
        rw [List.getElem?_map, hv'] at h2
        cases h1
        cases h2
        obtain ⟨s1, e1, w1⟩ := owns_of ho
        obtain ⟨s2, e2, w2⟩ := owns_of ho'
        have ei : i = i' := f.sep i i' s1 s2 a e1 e2 w1 w2 hs hs'
        subst ei
        exact lents_inj nd hm hr hm' hr'
theorem setO_length (ρ : Env) (i : Nat) (d : D) : (setO ρ i d).length = ρ.length := by
  unfold setO
  split <;> simp
theorem backs_r0 (ms : List Bool) (ds : List D) (ρ : Env) : backs ms [] ds ρ = ρ := by
  cases ms with
  | nil => rfl
  | cons m ms => cases m <;> rfl
theorem backs_d0 (ms : List Bool) (rs : List RV) (ρ : Env) : backs ms rs [] ρ = ρ := by
  cases ms with
  | nil => rfl
  | cons m ms =>
    cases rs with
    | nil => exact backs_r0 _ _ _
    | cons r rs => cases m <;> cases r <;> rfl
theorem backs_length : ∀ (ms : List Bool) (rs : List RV) (ds : List D) (ρ : Env), (backs ms rs ds ρ).length = ρ.length
  | [], rs, ds, ρ => by unfold backs; rfl
  | m :: ms, [], ds, ρ => by rw [backs_r0]
  | m :: ms, r :: rs, [], ρ => by rw [backs_d0]
  | m :: ms, r :: rs, d :: ds, ρ => by
    have ih := backs_length ms rs ds ρ
    cases m <;> cases r <;> simp only [backs, setO_length, ih]
/-- a slot behind a call -/
theorem setO_get {ρ : Env} {i k : Nat} {d : D} {s : Slot} (h : (setO ρ i d)[k]? = some s) : (k ≠ i ∧ ρ[k]? = some s) ∨ (k = i ∧ ((∃ d', ρ[i]? = some (.own d') ∧ s = .own d) ∨ (∃ d', ρ[i]? = some (.bor d') ∧ s = .bor d) ∨ (ρ[i]? = some s ∧ s.owns = false))) := by
  unfold setO at h
  by_cases hk : k = i
  · subst hk
    right
    refine ⟨rfl, ?_⟩
    cases e : ρ[k]? with
    | none => simp [e] at h
    | some t =>
      have hl : k < ρ.length := (List.getElem?_eq_some_iff.mp e).1
      cases t with
      | own d' =>
        simp only [e] at h
        rw [List.getElem?_set_self hl] at h
        cases h
        exact .inl ⟨d', rfl, rfl⟩
      | bor d' =>
        simp only [e] at h
        rw [List.getElem?_set_self hl] at h
        cases h
        exact .inr (.inl ⟨d', rfl, rfl⟩)
      | non => simp [e] at h; subst h; exact .inr (.inr ⟨rfl, rfl⟩)
      | val d' => simp [e] at h; subst h; exact .inr (.inr ⟨rfl, rfl⟩)
  · left
    refine ⟨hk, ?_⟩
    split at h
    · rwa [List.getElem?_set_ne (Ne.symm hk)] at h
    · rwa [List.getElem?_set_ne (Ne.symm hk)] at h
    · exact h
theorem backs_get : ∀ {ms : List Bool} {rs : List RV} {ds : List D} {ρ : Env} {k : Nat} {s : Slot}, (lents ms rs).Nodup → (backs ms rs ds ρ)[k]? = some s →
    ρ[k]? = some s ∧ (∀ j : Nat, ms[j]? = some true → rs[j]? = some (.loc k) → s.owns = true → ds[j]? = none) ∨ ∃ (j : Nat) (d : D), ms[j]? = some true ∧ rs[j]? = some (.loc k) ∧ ds[j]? = some d ∧ ((∃ d', ρ[k]? = some (.own d') ∧ s = .own d) ∨ (∃ d', ρ[k]? = some (.bor d') ∧ s = .bor d))
  | [], rs, ds, ρ, k, s, nd, h => by
    unfold backs at h
    exact .inl ⟨h, fun j z => by simp at z⟩
  | m :: ms, [], ds, ρ, k, s, nd, h => by
    rw [backs_r0] at h
    exact .inl ⟨h, fun j _ z => by simp at z⟩
  | m :: ms, r :: rs, [], ρ, k, s, nd, h => by
    rw [backs_d0] at h
    exact .inl ⟨h, fun j _ _ _ => by simp⟩
  | m :: ms, r :: rs, d :: ds, ρ, k, s, nd, h => by
    by_cases hm : m = true ∧ ∃ i, r = .loc i
    · obtain ⟨rfl, i, rfl⟩ := hm
      obtain ⟨hni, nd'⟩ := List.nodup_cons.mp (show (i :: lents ms rs).Nodup from nd)
      have h' : (setO (backs ms rs ds ρ) i d)[k]? = some s := h
      rcases setO_get h' with ⟨hk, h1⟩ | ⟨rfl, h1⟩
      · rcases backs_get nd' h1 with ⟨a, b⟩ | ⟨j, d', a, b, c, e⟩
        · refine .inl ⟨a, fun j z1 z2 o => ?_⟩
          cases j with
          | zero => simp at z2; exact absurd z2.symm hk
          | succ j => simpa using b j (by simpa using z1) (by simpa using z2) o
        · exact .inr ⟨j + 1, d', by simpa using a, by simpa using b, by simpa using c, e⟩
      · have base : ∀ {t : Slot}, (backs ms rs ds ρ)[k]? = some t → ρ[k]? = some t := fun {t} z => by
          rcases backs_get nd' z with ⟨a, _⟩ | ⟨j, d', a, b, _, _⟩
          · exact a
          · exact absurd (lents_mem a b) hni
        rcases h1 with ⟨d', e, rfl⟩ | ⟨d', e, rfl⟩ | ⟨e, o⟩
        · exact .inr ⟨0, d, rfl, rfl, rfl, .inl ⟨d', base e, rfl⟩⟩
        · exact .inr ⟨0, d, rfl, rfl, rfl, .inr ⟨d', base e, rfl⟩⟩
        · exact .inl ⟨base e, fun j z1 z2 o' => by rw [o] at o'; cases o'⟩
    · have e1 : backs (m :: ms) (r :: rs) (d :: ds) ρ = backs ms rs ds ρ := by
        cases m with
        | false => cases r <;> rfl
        | true =>
          cases r with
          | loc i => exact absurd ⟨rfl, i, rfl⟩ hm
          | _ => rfl
      have e2 : lents (m :: ms) (r :: rs) = lents ms rs := by
        cases m with
        | false => cases r <;> rfl
        | true =>
          cases r with
          | loc i => exact absurd ⟨rfl, i, rfl⟩ hm
          | _ => rfl
      rw [e1] at h
      rw [e2] at nd
      rcases backs_get nd h with ⟨a, b⟩ | ⟨j, d', a, b, c, e⟩
      · refine .inl ⟨a, fun j z1 z2 o => ?_⟩
        cases j with
        | zero => simp at z1 z2; exact absurd ⟨z1, k, z2⟩ hm
        | succ j => simpa using b j (by simpa using z1) (by simpa using z2) o
      · exact .inr ⟨j + 1, d', by simpa using a, by simpa using b, by simpa using c, e⟩
theorem argEnv_at : ∀ {ms : List Bool} {ds : List D} {j : Nat}, ds.length = ms.length → ms[j]? = some true → ∃ d, ds[j]? = some d ∧ (argEnv ms ds)[j]? = some (.bor d)
  | [], _, j, _, h => by simp at h
  | _ :: _, [], j, h, _ => by simp at h
  | true :: ms, d :: ds, 0, _, _ => ⟨d, rfl, rfl⟩
  | false :: ms, d :: ds, 0, _, h => by simp at h
  | true :: ms, d :: ds, j + 1, hl, h => by simpa [argEnv] using argEnv_at (ms := ms) (ds := ds) (j := j) (by simpa using hl) (by simpa using h)
  | false :: ms, d :: ds, j + 1, hl, h => by simpa [argEnv] using argEnv_at (ms := ms) (ds := ds) (j := j) (by simpa using hl) (by simpa using h)
/-- back in the caller -/
theorem Fits.back (f : Fits K α ρ σ H F G) {ms : List Bool} {rs : List RV} {ds outs : List D} {vs : List V} (p : PassOk K F ρ σ ms rs ds vs) (nd : (lents ms rs).Nodup) (hl : outs.length = ms.length)
    (g : Grow (ground ms vs H) F F') (f' : Fits K (refAt vs) (argEnv ms outs) (vs.map some) H' F' (ground ms vs H)) : Fits K α (backs ms rs outs ρ) σ H' F' G ∧ Grow G F F' := by
  have stays : ∀ a o, H a = some o → ¬ lentAt ms vs a → H' a = some o := fun a o e n => f'.gh a o (by rw [ground_of n]; exact e)
  have gl : ∀ a o, G a = some o → ¬ lentAt ms vs a := fun a o e n => by
    obtain ⟨i, d, _, hs, ho⟩ := p.lentAt n
    obtain ⟨_, ga, _⟩ := f.owner ho hs
    rw [e] at ga
    cases ga
  have gr : Grow G F F' := ⟨g.sub, fun a o e => by
    rcases g.new a o e with z | ⟨z1, z2⟩
    · exact .inl z
    · refine .inr ⟨z1, ?_⟩
      cases q : G a with
      | none => rfl
      | some u =>
        have n := gl a u q
        rw [ground_of n, f.gh _ _ q] at z2
        cases z2⟩
  have fn : ∀ a o, H a = some o → F a = none → ¬ lentAt ms vs a → F' a = none := fun a o e z n => by
    cases q : F' a with
    | none => rfl
    | some u =>
      rcases g.new a u q with w | ⟨_, w⟩
      · rw [z] at w; cases w
      · rw [ground_of n, e] at w; cases w
  -- a slot that is not lent
  have keep : ∀ (k : Nat) (s : Slot), ρ[k]? = some s → (s.owns = true → k ∉ lents ms rs) → ∃ x, σ[k]? = some x ∧ SlotOk K F' G H' x (α k) s := fun k s q hn => by
    obtain ⟨x, hx, so⟩ := f.slot k s q
    refine ⟨x, hx, ?_⟩
    cases s with
    | non => trivial
    | val d => obtain ⟨v, e, r⟩ := so; exact ⟨v, e, Rep.mono g.sub _ _ r⟩
    | own d =>
      obtain ⟨a, e, fa, ga, c⟩ := so
      have n : ¬ lentAt ms vs a := fun z => by
        obtain ⟨i, d', mi, hs, ho⟩ := p.lentAt z
        obtain ⟨s2, e2, w2⟩ := owns_of ho
        have := f.sep k i _ s2 a q e2 rfl w2 (by rw [hx, e]) hs
        exact hn rfl (this ▸ mi)
      obtain ⟨o, ho⟩ := c.there
      exact ⟨a, e, fn a o ho fa n, ga, c.mono g.sub fun u hu => stays a u hu n⟩
    | bor d =>
      obtain ⟨e, fa, ga, c⟩ := so
      have n : ¬ lentAt ms vs (α k) := fun z => by
        obtain ⟨i, d', mi, hs, ho⟩ := p.lentAt z
        obtain ⟨s2, e2, w2⟩ := owns_of ho
        have := f.sep k i _ s2 (α k) q e2 rfl w2 (by rw [hx, e]) hs
        exact hn rfl (this ▸ mi)
      obtain ⟨o, ho⟩ := c.there
      exact ⟨e, fn _ o ho fa n, ga, c.mono g.sub fun u hu => stays _ u hu n⟩
  -- a lent slot
  have lent : ∀ (k j : Nat) (d : D), ms[j]? = some true → rs[j]? = some (.loc k) → outs[j]? = some d → ∃ a, σ[k]? = some (some (.ref a)) ∧ F' a = none ∧ G a = none ∧ Cell K F' H' a d := fun k j d hm hr hd => by
    obtain ⟨d', e1, e2⟩ := argEnv_at hl hm
    rw [hd] at e1
    cases e1
    obtain ⟨x, hx, so⟩ := f'.slot j _ e2
    obtain ⟨d0, e3, e4⟩ := argEnv_at (p.lens).1 hm
    rcases p.argGet e4 with ⟨_, _, z, _⟩ | ⟨_, a, i, z, hv, _, hr', hs, ho⟩
    · cases z
    · rw [hr] at hr'
      cases hr'
      have ea : refAt vs j = a := by unfold refAt; rw [hv]
      rw [ea] at so
      obtain ⟨_, fa, _, c⟩ := so
      exact ⟨a, hs, fa, (f.owner ho hs).2.1, c⟩
  refine ⟨⟨f'.fh, fun a o e => stays a o (f.gh _ _ e) (gl a o e), by rw [backs_length]; exact f.len, fun k s q => ?_, fun j k s t a q1 q2 o1 o2 h1 h2 => ?_⟩, gr⟩
  · rcases backs_get nd q with ⟨a, b⟩ | ⟨j, d, hm, hr, hd, hh⟩
    · refine keep k s a fun o m => ?_
      -- lent, and without an end: there is none
      have : ∀ {ms : List Bool} {rs : List RV}, k ∈ lents ms rs → ∃ j : Nat, ms[j]? = some true ∧ rs[j]? = some (.loc k) := by
        intro ms
        induction ms with
        | nil => intro rs z; simp [lents] at z
        | cons m ms ih =>
          intro rs z
          cases rs with
          | nil => cases m <;> simp [lents] at z
          | cons r rs =>
            by_cases hm : m = true ∧ ∃ i, r = .loc i
            · obtain ⟨rfl, i, rfl⟩ := hm
              have z' : k ∈ i :: lents ms rs := z
              rcases List.mem_cons.mp z' with rfl | z'
              · exact ⟨0, rfl, rfl⟩
              · obtain ⟨j, a, b⟩ := ih z'
                exact ⟨j + 1, by simpa using a, by simpa using b⟩
            · have z' : k ∈ lents ms rs := by
                cases m with
                | false => cases r <;> exact z
                | true =>
                  cases r with
                  | loc i => exact absurd ⟨rfl, i, rfl⟩ hm
                  | _ => exact z
              obtain ⟨j, a, b⟩ := ih z'
              exact ⟨j + 1, by simpa using a, by simpa using b⟩
      obtain ⟨j, j1, j2⟩ := this m
      have := b j j1 j2 o
      obtain ⟨d, e, _⟩ := argEnv_at hl j1
      rw [this] at e
      cases e
    · obtain ⟨a, hs, fa, ga, c⟩ := lent k j d hm hr hd
      refine ⟨_, hs, ?_⟩
      rcases hh with ⟨d', e, rfl⟩ | ⟨d', e, rfl⟩
      · exact ⟨a, rfl, fa, ga, c⟩
      · obtain ⟨x, hx, e', _⟩ := f.slot k _ e
        rw [hx] at hs
        cases hs
        cases e'
        exact ⟨rfl, fa, ga, c⟩
  · have old : ∀ {k : Nat} {s : Slot}, (backs ms rs outs ρ)[k]? = some s → s.owns = true → ∃ s', ρ[k]? = some s' ∧ s'.owns = true := fun {k s} q o => by
      rcases backs_get nd q with ⟨a, _⟩ | ⟨j, d, _, _, _, ⟨d', e, _⟩ | ⟨d', e, _⟩⟩
      · exact ⟨s, a, o⟩
      · exact ⟨_, e, rfl⟩
      · exact ⟨_, e, rfl⟩
    obtain ⟨s1, e1, w1⟩ := old q1 o1
    obtain ⟨s2, e2, w2⟩ := old q2 o2
    exact f.sep j k s1 s2 a e1 e2 w1 w2 h1 h2
theorem RRep.back (f : Fits K α ρ σ H F G) {ms : List Bool} {rs : List RV} {ds outs : List D} {vs : List V} (p : PassOk K F ρ σ ms rs ds vs) (hl : outs.length = ms.length) {v : V} (ρ2 : Env) (ho2 : ∀ (k : Nat) (s : Slot), ρ2[k]? = some s → s.owns = true → ∃ s', ρ[k]? = some s' ∧ s'.owns = true)
    (f' : Fits K (refAt vs) (argEnv ms outs) (vs.map some) H' F' (ground ms vs H)) :
    ∀ {r : RV}, (∀ i, r ≠ .loc i) → RRep K F' (ground ms vs H) H' (vs.map some) (argEnv ms outs) r v → RRep K F' G H' σ ρ2 r v
  | .val _, _, h => h
  | .loc i, n, _ => absurd rfl (n i)
  | .new d, _, h => by
    obtain ⟨a, rfl, fa, ga, c, sp⟩ := h
    have na : ¬ lentAt ms vs a := fun ⟨j, h1, h2⟩ => by
      obtain ⟨d', _, e2⟩ := argEnv_at hl h1
      exact sp j _ e2 rfl (by rw [List.getElem?_map, h2]; rfl)
    have ha : H a = none := by rw [← ground_of (H := H) na]; exact ga
    refine ⟨a, rfl, fa, f.gh.free ha, c, fun k s q o z => ?_⟩
    obtain ⟨s', e, w⟩ := ho2 k s q o
    have : ∃ d', ρ[k]? = some (.own d') ∨ ρ[k]? = some (.bor d') := by
      cases s' with
      | non => cases w
      | val d => cases w
      | own d => exact ⟨d, .inl e⟩
      | bor d => exact ⟨d, .inr e⟩
    obtain ⟨d', q'⟩ := this
    obtain ⟨u, hu⟩ := (f.owner q' z).2.2.there
    rw [ha] at hu
    cases hu
end
section
variable {X : Cx} {W : WX} {e : Expr} {es : List Expr} {gs : Av} {pos p : Pos} {k : Nat} {f : Addr} {fd : FuncData} {ps : List Str} {ms : List Bool} {den : List D → DR} {x : Str}
theorem ec_call {K : PySem.W.Frag} (hd : ∀ ds r outs, den ds = .ok r outs → ∀ i, r ≠ .loc i) {σ : L2.St} {H : Hp} {Q : VK} (h : tE K W (dCall ms den gs) σ H Q) : tA K W gs σ H fun vs H1 => spD K ms den vs H1 Q (WE W σ) := by
  obtain ⟨α, ρ, F, G, ft, h⟩ := h
  refine ⟨α, ρ, F, G, ft, ?_⟩
  unfold dCall at h
  cases e1 : gs ρ with
  | no => simp [e1, EC] at h
  | ex x ρ1 => simp only [e1] at h; exact h
  | ok rs ρ1 =>
    simp only [e1] at h
    intro vs H1 F1 g1 f1 s1
    cases e2 : passes ms rs ρ1 with
    | none => simp [e2, EC] at h
    | some w =>
      obtain ⟨ds, ρ2⟩ := w
      simp only [e2] at h
      by_cases nd : (lents ms rs).Nodup
      · rw [if_pos nd] at h
        obtain ⟨F2, g2, f2, pk⟩ := Fits.passes f1 s1 e2
        refine ⟨refAt vs, F2, ground ms vs H1, ds, pk.lens.1, f2.callee pk nd, ?_⟩
        have old : ∀ (outs : List D) (k : Nat) (s : Slot), (backs ms rs outs ρ2)[k]? = some s → s.owns = true → ∃ s', ρ2[k]? = some s' ∧ s'.owns = true := fun outs k s q o => by
          rcases backs_get nd q with ⟨a, _⟩ | ⟨j, d, _, _, _, ⟨d', e, _⟩ | ⟨d', e, _⟩⟩
          · exact ⟨s, a, o⟩
          · exact ⟨_, e, rfl⟩
          · exact ⟨_, e, rfl⟩
        cases e3 : den ds with
        | no => simp [e3, EC] at h
        | ok r outs =>
          simp only [e3] at h
          intro v H3 F3 g3 hl f3 r3
          obtain ⟨f4, g4⟩ := f2.back pk nd hl g3 f3
          exact h v H3 F3 ((g1.trans g2).trans g4) f4 (RRep.back f2 pk hl _ (old outs) f3 (hd _ _ _ e3) r3)
        | ex x outs =>
          simp only [e3] at h
          intro c d H3 F3 g3 hl f3 r3
          obtain ⟨f4, g4⟩ := f2.back pk nd hl g3 f3
          exact h c d H3 F3 ((g1.trans g2).trans g4) f4 r3
      · rw [if_neg nd] at h
        exact h.elim
theorem ed_call (hd : ∀ ds r outs, den ds = .ok r outs → ∀ i, r ≠ .loc i) (F : FnOk X.prog X.w X.K X.mg X.base (L2.CX X.prog X.w) k f fd ps (spD X.K ms den)) (hr : Room k X.A) (hg : Gl X x) (hm : X.mg x = some (.ref f)) (hk : PySem.W.keepIn X.K (.ref f) = true) (hb : Binds X.K fd ps []) (tk : Takes X W)
    (ha : PA X (e :: es) (tA X.K W gs)) (hdb : (x == ("__debug__" : Str)) = false := by decide) (he : starEach (e :: es) X.env = (false, eval e X.env) :: starEach es X.env := by rfl) (hpl : (backTo pos (starEach es X.env)).any (·.1) = false := by rfl) :
    PE X (.Call (.Name x p) (e :: es) [] pos) (tE X.K W (dCall ms den gs)) :=
  (pe_callS F hr hg hm hk hb (fun σ => passAt tk σ) ha hdb he hpl).weak fun _ _ _ h => ec_call hd h
end
end DL

namespace DL
open PySem PySem.Spec L2
variable [HasW]

/-! ### statements -/
inductive SR where | nx (ρ : Env) | rt (r : RV) (ρ : Env) | bk (ρ : Env) | ct (ρ : Env) | ex (x : Exn) (ρ : Env) | no
abbrev Sv := Env → SR
def SC (K : PySem.W.Frag) (W : WX) (α : Nat → Addr) (F G : Hp) (D : Ends) : SR → Prop
  | .nx ρ => ∀ σ' H' F', Grow G F F' → Fits K α ρ σ' H' F' G → D.nx σ' H'
  | .rt r ρ => ∀ v σ' H' F', Grow G F F' → Fits K α ρ σ' H' F' G → RRep K F' G H' σ' ρ r v → D.rt v H'
  | .bk ρ => ∀ σ' H' F', Grow G F F' → Fits K α ρ σ' H' F' G → D.bk σ' H'
  | .ct ρ => ∀ σ' H' F', Grow G F F' → Fits K α ρ σ' H' F' G → D.ct σ' H'
  | .ex x ρ => ∀ cls d σ' H' F', Grow G F F' → Fits K α ρ σ' H' F' G → RepX K F' H' x cls d → W cls d σ' H'
  | .no => False
def tS (K : PySem.W.Frag) (W : WX) (g : Sv) : TS := fun D σ H => ∃ (α : Nat → Addr) (ρ : Env) (F G : Hp), Fits K α ρ σ H F G ∧ SC K W α F G D (g ρ)
def SR.bind (s : SR) (k : Env → SR) : SR := match s with
  | .nx ρ => k ρ
  | .rt r ρ => .rt r ρ
  | .bk ρ => .bk ρ
  | .ct ρ => .ct ρ
  | .ex x ρ => .ex x ρ
  | .no => .no
def ER.st (e : ER) (k : RV → Env → SR) : SR := match e with
  | .ok r ρ => k r ρ
  | .ex x ρ => .ex x ρ
  | .no => .no
section
variable {K : PySem.W.Frag} {W : WX} {α : Nat → Addr} {ρ : Env} {σ : L2.St} {H F G H' F' : Hp} {D : Ends}
theorem SC.mono (g : Grow G F F') : ∀ {s : SR}, SC K W α F G D s → SC K W α F' G D s
  | .nx ρ, h => fun s H1 F1 g1 f1 => h s H1 F1 (g.trans g1) f1
  | .rt r ρ, h => fun v s H1 F1 g1 f1 r1 => h v s H1 F1 (g.trans g1) f1 r1
  | .bk ρ, h => fun s H1 F1 g1 f1 => h s H1 F1 (g.trans g1) f1
  | .ct ρ, h => fun s H1 F1 g1 f1 => h s H1 F1 (g.trans g1) f1
  | .ex x ρ, h => fun c d s H1 F1 g1 f1 r1 => h c d s H1 F1 (g.trans g1) f1 r1
  | .no, h => h
/-- an expression within a statement -/
theorem EC.st {k : RV → Env → SR} {R : V → Hp → Prop} (hk : ∀ r ρ1, ∀ v H1 F1, Grow G F F1 → Fits K α ρ1 σ H1 F1 G → RRep K F1 G H1 σ ρ1 r v → SC K W α F1 G D (k r ρ1) → R v H1) :
    ∀ {e : ER}, SC K W α F G D (e.st k) → EC K W α σ F G R e
  | .ok r ρ1, h => fun v H1 F1 g1 f1 r1 => hk r ρ1 v H1 F1 g1 f1 r1 (SC.mono g1 h)
  | .ex x ρ1, h => fun c d H1 F1 g1 f1 x1 => h c d σ H1 F1 g1 f1 x1
  | .no, h => h
theorem EC.stS {k : RV → Env → SR} {R : V → Hp → Prop} (hk : ∀ r ρ1, ∀ v H1 F1, Grow G F F1 → Fits K α ρ1 σ H1 F1 G → SRep K F1 σ r v → SC K W α F1 G D (k r ρ1) → R v H1) :
    ∀ {e : ER}, SC K W α F G D (e.settle.st k) → EC K W α σ F G R e
  | .ok r ρ1, h => fun v H1 F1 g1 f1 r1 => by
    obtain ⟨F2, g2, f2, s2⟩ := r1.settle f1
    exact hk r.settle ρ1 v H1 F2 (g1.trans g2) f2 s2 (SC.mono (g1.trans g2) h)
  | .ex x ρ1, h => fun c d H1 F1 g1 f1 x1 => h c d σ H1 F1 g1 f1 x1
  | .no, h => h
/-- a test within a statement -/
theorem BC.st {k : RV → Env → SR} {R : Bool → Hp → Prop} (hn : ∀ r ρ1, (∀ b, r ≠ .val (.bl b)) → k r ρ1 = .no) (hk : ∀ b ρ1, ∀ H1 F1, Grow G F F1 → Fits K α ρ1 σ H1 F1 G → SC K W α F1 G D (k (.val (.bl b)) ρ1) → R b H1)
    {e : ER} (h : SC K W α F G D (e.st k)) : BC K W α σ F G R e := by
  cases e with
  | no => exact h
  | ex x ρ1 => exact fun c d H1 F1 g1 f1 x1 => h c d σ H1 F1 g1 f1 x1
  | ok r ρ1 =>
    have h' : SC K W α F G D (k r ρ1) := h
    by_cases q : ∃ b, r = .val (.bl b)
    · obtain ⟨b, rfl⟩ := q
      exact fun H1 F1 g1 f1 => hk b ρ1 H1 F1 g1 f1 (SC.mono g1 h')
    · rw [hn r ρ1 fun b z => q ⟨b, z⟩] at h'
      exact h'.elim
/-- a name is bound -/
theorem Fits.setSlot (f : Fits K α ρ σ H F G) {i : Nat} {s t : Slot} {v : V} (e : ρ[i]? = some t) (ok : SlotOk K F G H (some v) (α i) s) (own : s.owns = true → ∀ (j : Nat) (u : Slot) a, v = .ref a → j ≠ i → ρ[j]? = some u → u.owns = true → σ[j]? ≠ some (some (.ref a))) :
    Fits K α (ρ.set i s) (σ.set i (some v)) H F G := by
  have hi : i < ρ.length := (List.getElem?_eq_some_iff.mp e).1
  have hσ : i < σ.length := by rw [f.len]; exact hi
  refine ⟨f.fh, f.gh, by rw [List.length_set, List.length_set]; exact f.len, fun j u q => ?_, fun j k u w a q1 q2 o1 o2 h1 h2 => ?_⟩
  · by_cases hj : i = j
    · subst hj
      rw [List.getElem?_set_self hi] at q
      cases q
      exact ⟨some v, List.getElem?_set_self hσ, ok⟩
    · rw [List.getElem?_set_ne hj] at q ⊢
      exact f.slot j u q
  · by_cases hj : i = j
    · subst hj
      by_cases hk : i = k
      · exact hk
      · rw [List.getElem?_set_self hi] at q1
        rw [List.getElem?_set_ne hk] at q2
        rw [List.getElem?_set_self hσ] at h1
        rw [List.getElem?_set_ne hk] at h2
        cases q1
        have e1 : v = .ref a := by cases h1; rfl
        exact absurd h2 (own o1 k w a e1 (Ne.symm hk) q2 o2)
    · rw [List.getElem?_set_ne hj] at q1 h1
      by_cases hk : i = k
      · subst hk
        rw [List.getElem?_set_self hi] at q2
        rw [List.getElem?_set_self hσ] at h2
        cases q2
        have e1 : v = .ref a := by cases h2; rfl
        exact absurd h1 (own o2 j u a e1 (Ne.symm hj) q1 o1)
      · rw [List.getElem?_set_ne hk] at q2 h2
        exact f.sep j k u w a q1 q2 o1 o2 h1 h2
end
def setV (ρ : Env) (i : Nat) (s : Slot) : Option Env := match ρ[i]? with
  | some (.bor _) => none
  | some _ => some (ρ.set i s)
  | none => none
theorem setV_some {ρ ρ' : Env} {i : Nat} {s : Slot} (h : setV ρ i s = some ρ') : (∃ t, ρ[i]? = some t ∧ t.owns = false ∨ ∃ d, ρ[i]? = some (.own d)) ∧ ρ' = ρ.set i s := by
  unfold setV at h
  cases e : ρ[i]? with
  | none => simp [e] at h
  | some t =>
    cases t with
    | bor d => simp [e] at h
    | own d => simp [e] at h; exact ⟨⟨.non, .inr ⟨d, rfl⟩⟩, h.symm⟩
    | non => simp [e] at h; exact ⟨⟨.non, .inl ⟨rfl, rfl⟩⟩, h.symm⟩
    | val d => simp [e] at h; exact ⟨⟨.val d, .inl ⟨rfl, rfl⟩⟩, h.symm⟩
theorem setV_there {ρ ρ' : Env} {i : Nat} {s : Slot} (h : setV ρ i s = some ρ') : ∃ t, ρ[i]? = some t ∧ ρ' = ρ.set i s := by
  obtain ⟨⟨t, ⟨e, _⟩ | ⟨d, e⟩⟩, q⟩ := setV_some h
  · exact ⟨t, e, q⟩
  · exact ⟨_, e, q⟩
/-- what a name is given -/
def asgn (i : Nat) (r : RV) (ρ : Env) : Option Env := match r with
  | .val d => setV ρ i (.val d)
  | .new d => setV ρ i (.own d)
  | .loc j => match frz (.loc j) ρ with
    | some (d, ρ1) => setV ρ1 i (.val d)
    | none => none
def SR.of (o : Option Env) : SR := match o with
  | some ρ => .nx ρ
  | none => .no
def dSet (i : Nat) (g : Ev) : Sv := fun ρ => (g ρ).st fun r ρ1 => SR.of (asgn i r ρ1)
section
variable {K : PySem.W.Frag} {W : WX} {α : Nat → Addr} {ρ ρ' : Env} {σ : L2.St} {H F G H' F' : Hp} {D : Ends}
theorem Fits.asgn (f : Fits K α ρ σ H F G) {i : Nat} {r : RV} {v : V} (rr : RRep K F G H σ ρ r v) (h : asgn i r ρ = some ρ') : ∃ F', Grow G F F' ∧ Fits K α ρ' (σ.set i (some v)) H F' G := by
  cases r with
  | val d =>
    obtain ⟨t, e, rfl⟩ := setV_there h
    exact ⟨F, Grow.refl _ _, f.setSlot e ⟨v, rfl, rr⟩ fun o => by cases o⟩
  | new d =>
    obtain ⟨t, e, rfl⟩ := setV_there h
    obtain ⟨a, rfl, fa, ga, c, sp⟩ := rr
    exact ⟨F, Grow.refl _ _, f.setSlot e ⟨a, rfl, fa, ga, c⟩ fun _ j u b q _ q1 q2 => by cases q; exact sp j u q1 q2⟩
  | loc j =>
    unfold DL.asgn at h
    cases e1 : DL.frz (.loc j) ρ with
    | none => simp [e1] at h
    | some w =>
      obtain ⟨d, ρ1⟩ := w
      simp only [e1] at h
      obtain ⟨F1, g1, f1, r1⟩ := f.frz (r := .loc j) (v := v) rr e1
      obtain ⟨t, e, rfl⟩ := setV_there h
      exact ⟨F1, g1, f1.setSlot e ⟨v, rfl, r1⟩ fun o => by cases o⟩
theorem sc_of {o : Option Env} (h : SC K W α F G D (SR.of o)) : ∃ ρ, o = some ρ ∧ ∀ σ' H' F', Grow G F F' → Fits K α ρ σ' H' F' G → D.nx σ' H' := by
  cases o with
  | none => exact h.elim
  | some ρ => exact ⟨ρ, rfl, h⟩
end
section
variable {X : Cx} {W : WX} {e : Expr} {g gc : Ev} {g1 g2 : Sv} {pos : Pos} {st : Stmt} {rest : List Stmt}
theorem sd_nil : PSs X [] (tS X.K W fun ρ => .nx ρ) := pss_nil.weak fun D σ H ⟨α, ρ, F, G, f, h⟩ => h σ H F (Grow.refl _ _) f
def dSeq (g1 g2 : Sv) : Sv := fun ρ => (g1 ρ).bind g2
theorem sd_cons (h1 : PS X st (tS X.K W g1)) (h2 : PSs X rest (tS X.K W g2)) : PSs X (st :: rest) (tS X.K W (dSeq g1 g2)) := by
  refine (pss_cons h1 h2).weak fun D σ H ⟨α, ρ, F, G, f, h⟩ => ⟨α, ρ, F, G, f, ?_⟩
  unfold dSeq at h
  cases e1 : g1 ρ with
  | nx ρ1 =>
    rw [e1] at h
    exact fun σ' H1 F1 gr f1 => ⟨α, ρ1, F1, G, f1, SC.mono gr h⟩
  | rt r ρ1 => rw [e1] at h; exact h
  | bk ρ1 => rw [e1] at h; exact h
  | ct ρ1 => rw [e1] at h; exact h
  | ex x ρ1 => rw [e1] at h; exact h
  | no => rw [e1] at h; exact h
theorem sd_one (h1 : PS X st (tS X.K W g1)) : PSs X [st] (tS X.K W g1) := pss_one h1
theorem sd_pass : PS X (.Pass pos) (tS X.K W fun ρ => .nx ρ) := ps_pass.weak fun D σ H ⟨α, ρ, F, G, f, h⟩ => h σ H F (Grow.refl _ _) f
theorem sd_break : PS X (.Break pos) (tS X.K W fun ρ => .bk ρ) := ps_break.weak fun D σ H ⟨α, ρ, F, G, f, h⟩ => h σ H F (Grow.refl _ _) f
theorem sd_continue : PS X (.Continue pos) (tS X.K W fun ρ => .ct ρ) := ps_continue.weak fun D σ H ⟨α, ρ, F, G, f, h⟩ => h σ H F (Grow.refl _ _) f
theorem sd_set {i : Nat} {x : Str} {pos' : Pos} (hN : X.N.Nodup) (he : PE X e (tE X.K W g)) (hi : X.N[i]? = some x := by rfl) (hx : Loc X.env.scope x := by first | exact .inl rfl | exact .inr rfl) (hs : swapsWith e (some (.Name x pos')) pos.line X.env = pure false := by rfl)
    (hf : X.fn x = true ∨ X.env.scope.names.lookup x = some .local := by first | exact .inl rfl | exact .inr rfl | assumption) : PS X (.Assign [.Name x pos'] e pos) (tS X.K W (dSet i g)) := by
  refine (ps_set hN hi hx he hs hf).weak fun D σ H ⟨α, ρ, F, G, f, h⟩ => ⟨α, ρ, F, G, f, EC.st (fun r ρ1 v H1 F1 g1 f1 r1 h1 => ?_) h⟩
  obtain ⟨ρ2, e2, h2⟩ := sc_of h1
  obtain ⟨F2, g2, f2⟩ := f1.asgn r1 e2
  exact h2 _ H1 F2 g2 f2
/-- return -/
def dRet (g : Ev) : Sv := fun ρ => (g ρ).st fun r ρ1 => match r with
  | .loc i => match ρ1[i]? with
    | some (.own d) => .rt (.new d) (ρ1.set i .non)
    | some (.val d) => .rt (.val d) ρ1
    | _ => .no
  | r => .rt r ρ1
theorem sd_ret (he : PE X e (tE X.K W g)) : PS X (.Return (some e) pos) (tS X.K W (dRet g)) := by
  refine (ps_ret he).weak fun D σ H ⟨α, ρ, F, G, f, h⟩ => ⟨α, ρ, F, G, f, EC.st (fun r ρ1 v H1 F1 g1 f1 r1 h1 => ?_) h⟩
  cases r with
  | val d => exact h1 v σ H1 F1 (Grow.refl _ _) f1 r1
  | new d => exact h1 v σ H1 F1 (Grow.refl _ _) f1 r1
  | loc i =>
    have hv : σ[i]? = some (some v) := r1
    cases q : ρ1[i]? with
    | none => simp [q, SC] at h1
    | some s =>
      obtain ⟨x, hx, so⟩ := f1.slot i s q
      rw [hx] at hv
      cases hv
      cases s with
      | non => simp [q, SC] at h1
      | bor d => simp [q, SC] at h1
      | val d =>
        simp only [q] at h1
        obtain ⟨w, e', rw'⟩ := so
        cases e'
        exact h1 v σ H1 F1 (Grow.refl _ _) f1 rw'
      | own d =>
        simp only [q] at h1
        obtain ⟨a, e', fa, ga, c⟩ := so
        cases e'
        have hi : i < ρ1.length := (List.getElem?_eq_some_iff.mp q).1
        have go : ∀ {k : Nat} {s : Slot}, (ρ1.set i .non)[k]? = some s → s.owns = true → ρ1[k]? = some s ∧ k ≠ i := fun {k s} q' o => by
          by_cases hk : i = k
          · subst hk
            rw [List.getElem?_set_self hi] at q'
            cases q'
            cases o
          · rw [List.getElem?_set_ne hk] at q'
            exact ⟨q', Ne.symm hk⟩
        refine h1 _ σ H1 F1 (Grow.refl _ _) ⟨f1.fh, f1.gh, by rw [List.length_set]; exact f1.len, fun j s q' => ?_, fun j k s t b q1 q2 o1 o2 => f1.sep j k s t b (go q1 o1).1 (go q2 o2).1 o1 o2⟩ ⟨a, rfl, fa, ga, c, fun k s q' o z => ?_⟩
        · by_cases hj : i = j
          · subst hj
            rw [List.getElem?_set_self hi] at q'
            cases q'
            exact ⟨_, hx, trivial⟩
          · rw [List.getElem?_set_ne hj] at q'
            exact f1.slot j s q'
        · obtain ⟨q2, n⟩ := go q' o
          exact n (f1.sep k i s _ a q2 q o rfl z hx)
theorem sd_retN : PS X (.Return none pos) (tS X.K W fun ρ => .rt (.val .non) ρ) := ps_retN.weak fun D σ H ⟨α, ρ, F, G, f, h⟩ => h .non σ H F (Grow.refl _ _) f rfl
/-- an expression as a statement -/
def dExpr (g : Ev) : Sv := fun ρ => (g ρ).settle.st fun _ ρ1 => .nx ρ1
theorem sd_expr (he : PE X e (tE X.K W g)) (hs : swapsWith e none pos.line X.env = pure false := by rfl) : PS X (.Expr e pos) (tS X.K W (dExpr g)) :=
  (ps_expr he hs).weak fun D σ H ⟨α, ρ, F, G, f, h⟩ => ⟨α, ρ, F, G, f, EC.stS (fun r ρ1 v H1 F1 g1 f1 r1 h1 => (show SC X.K W α F1 G D (.nx ρ1) from h1) σ H1 F1 (Grow.refl _ _) f1) h⟩
def dIfS (gc : Ev) (g1 g2 : Sv) : Sv := fun ρ => (gc ρ).st fun r ρ1 => match r with
  | .val (.bl true) => g1 ρ1
  | .val (.bl false) => g2 ρ1
  | _ => .no
theorem sd_if {c : Expr} {a b : List Stmt} (hc : PT X c (tT X.K W gc)) (ha : PSs X a (tS X.K W g1)) (hb : PSs X b (tS X.K W g2)) : PS X (.If c a b pos) (tS X.K W (dIfS gc g1 g2)) := by
  refine (ps_if hc ha hb).weak fun D σ H ⟨α, ρ, F, G, f, h⟩ => ⟨α, ρ, F, G, f, BC.st (fun r ρ1 hr => ?_) (fun b ρ1 H1 F1 gr f1 h1 => ?_) h⟩
  · cases r with
    | val d =>
      cases d with
      | bl b => exact absurd rfl (hr b)
      | _ => rfl
    | _ => rfl
  · cases b with
    | true => exact iteT ⟨α, ρ1, F1, G, f1, h1⟩
    | false => exact iteF ⟨α, ρ1, F1, G, f1, h1⟩
end

/-! ### targets -/
def tG (K : PySem.W.Frag) (tch : List Nat) (ft : D → Env → Option Env) : TG := fun v σ H Q => ∃ (α : Nat → Addr) (ρ : Env) (F G : Hp) (d : D), Fits K α ρ σ H F G ∧ Rep K F d v ∧ ∃ ρ', ft d ρ = some ρ' ∧
  ∀ σ' H' F', Grow G F F' → Fits K α ρ' σ' H' F' G → Sub H H' → σ'.length = σ.length → (∀ j, j ∉ tch → σ'[j]? = σ[j]?) → Q σ' H'
def tGs (K : PySem.W.Frag) (tch : List Nat) (ft : List D → Env → Option Env) : TGs := fun vs σ H Q => ∃ (α : Nat → Addr) (ρ : Env) (F G : Hp) (ds : List D), Fits K α ρ σ H F G ∧ Reps K F ds vs ∧ ∃ ρ', ft ds ρ = some ρ' ∧
  ∀ σ' H' F', Grow G F F' → Fits K α ρ' σ' H' F' G → Sub H H' → σ'.length = σ.length → (∀ j, j ∉ tch → σ'[j]? = σ[j]?) → Q σ' H'
theorem _root_.L2.PG.weak {X : Cx} {e : Expr} {t t' : TG} (h : PG X e t) (w : ∀ v σ H Q, t' v σ H Q → t v σ H Q) : PG X e t' := ⟨fun pins s σ H v u Q I r q => h.run pins s σ H v u Q I r (w v σ H Q q)⟩
theorem _root_.L2.PGs.weak {X : Cx} {e : List Expr} {t t' : TGs} (h : PGs X e t) (w : ∀ v σ H Q, t' v σ H Q → t v σ H Q) : PGs X e t' := ⟨fun pins s σ H v u Q I r q => h.run pins s σ H v u Q I r (w v σ H Q q)⟩
def gtName (i : Nat) : D → Env → Option Env := fun d ρ => setV ρ i (.val d)
def gtNil : List D → Env → Option Env := fun ds ρ => if ds.isEmpty then some ρ else none
def gtCons (f : D → Env → Option Env) (fs : List D → Env → Option Env) : List D → Env → Option Env
  | d :: ds, ρ => match f d ρ with
    | some ρ1 => fs ds ρ1
    | none => none
  | [], _ => none
def gtTup (n : Nat) (fs : List D → Env → Option Env) : D → Env → Option Env
  | .tup ds, ρ => if ds.length = n then fs ds ρ else none
  | _, _ => none
section
variable {X : Cx} {pos : Pos}
theorem gd_name {i : Nat} {x : Str} (hN : X.N.Nodup) (hi : X.N[i]? = some x := by rfl) (hx : Loc X.env.scope x := by first | exact .inl rfl | exact .inr rfl) (hf : X.fn x = true ∨ X.env.scope.names.lookup x = some .local := by first | exact .inl rfl | exact .inr rfl | assumption) :
    PG X (.Name x pos) (tG X.K [i] (gtName i)) := by
  refine (pg_name hN hi hx hf).weak fun v σ H Q ⟨α, ρ, F, G, d, f, r, ρ', e, h⟩ => ?_
  obtain ⟨t, e1, rfl⟩ := setV_there e
  refine h _ H F (Grow.refl _ _) (f.setSlot e1 ⟨v, rfl, r⟩ fun o => by cases o) (Sub.refl _) (by rw [List.length_set]) fun j hj => ?_
  rw [List.getElem?_set_ne]
  exact fun z => hj (by simp [z])
theorem gd_nil : PGs X [] (tGs X.K [] gtNil) := by
  refine pgs_nil.weak fun vs σ H Q ⟨α, ρ, F, G, ds, f, r, ρ', e, h⟩ => ?_
  unfold gtNil at e
  cases ds with
  | cons d ds => simp at e
  | nil =>
    simp at e
    subst e
    cases r
    exact ⟨rfl, h σ H F (Grow.refl _ _) f (Sub.refl _) rfl fun _ _ => rfl⟩
theorem gd_cons {e : Expr} {es : List Expr} {t1 t2 : List Nat} {f1 : D → Env → Option Env} {f2 : List D → Env → Option Env} (h1 : PG X e (tG X.K t1 f1)) (h2 : PGs X es (tGs X.K t2 f2))
    (hs : (assignEach (e :: es) X.env).map (·.2) = assign e X.env :: (assignEach es X.env).map (·.2) := by rfl) : PGs X (e :: es) (tGs X.K (t1 ++ t2) (gtCons f1 f2)) := by
  refine (pgs_cons h1 h2 hs).weak fun vs σ H Q ⟨α, ρ, F, G, ds, f, r, ρ', e, h⟩ => ?_
  cases ds with
  | nil => cases e
  | cons d ds =>
    obtain ⟨v, t, rfl, rv, rt⟩ := r
    unfold gtCons at e
    cases e1 : f1 d ρ with
    | none => simp [e1] at e
    | some ρ1 =>
      simp only [e1] at e
      refine ⟨v, t, rfl, α, ρ, F, G, d, f, rv, ρ1, e1, fun σ1 H1 F1 g1 ft1 sb1 l1 k1 => ?_⟩
      refine ⟨α, ρ1, F1, G, ds, ft1, Reps.mono g1.sub _ _ rt, ρ', e, fun σ2 H2 F2 g2 ft2 sb2 l2 k2 => ?_⟩
      exact h σ2 H2 F2 (g1.trans g2) ft2 (sb1.trans sb2) (l2.trans l1) fun j hj => (k2 j fun z => hj (List.mem_append_right _ z)).trans (k1 j fun z => hj (List.mem_append_left _ z))
theorem gd_tup {es : List Expr} {k : Nat} {t : List Nat} {fs : List D → Env → Option Env} {n : Nat} (hc : X.calm = true) (h : PGs X es (tGs X.K t fs))
    (hn : (assignEach es X.env).length = n := by rfl) (hst : (assignEach es X.env).findIdx? (·.1) = none := by rfl) : PG X (.Tuple es k pos) (tG X.K t (gtTup n fs)) := by
  refine (pg_tup hc h hn hst).weak fun v σ H Q ⟨α, ρ, F, G, d, f, r, ρ', e, q⟩ => ?_
  cases d with
  | tup ds =>
    obtain ⟨a, vs, rfl, hq, rs⟩ := r
    replace e : (if ds.length = n then fs ds ρ else none) = some ρ' := e
    by_cases hl : ds.length = n
    · rw [if_pos hl] at e
      exact ⟨a, vs, rfl, f.fh.sqT hq, by rw [rs.length]; exact hl, α, ρ, F, G, ds, f, rs, ρ', e, q⟩
    · rw [if_neg hl] at e
      cases e
  | _ => cases e
end
/-- target = value -/
def dAsg (ft : D → Env → Option Env) (g : Ev) : Sv := fun ρ => (g ρ).settle.st fun r ρ1 => match frz r ρ1 with
  | some (d, ρ2) => SR.of (ft d ρ2)
  | none => .no
section
variable {X : Cx} {W : WX} {e tg : Expr} {g : Ev} {pos : Pos}
theorem sd_asg {tch : List Nat} {ft : D → Env → Option Env} (he : PE X e (tE X.K W g)) (hg : PG X tg (tG X.K tch ft)) (hs : swapsWithSole [tg] e pos.line X.env = pure false := by rfl) (hw : swappedStores [tg] e X.env = pure none := by rfl)
    (h1 : (assignEach [tg] X.env).map (·.2) = [assign tg X.env] := by rfl) : PS X (.Assign [tg] e pos) (tS X.K W (dAsg ft g)) := by
  refine (ps_asg he hg hs hw h1).weak fun D σ H ⟨α, ρ, F, G, f, h⟩ => ⟨α, ρ, F, G, f, EC.stS (fun r ρ1 v H1 F1 g1 f1 r1 h1 => ?_) h⟩
  cases e1 : frz r ρ1 with
  | none => simp [e1, SC] at h1
  | some w =>
    obtain ⟨d, ρ2⟩ := w
    simp only [e1] at h1
    obtain ⟨F2, g2, f2, r2⟩ := f1.frz r1 e1
    obtain ⟨ρ3, e3, h3⟩ := sc_of h1
    exact ⟨α, ρ2, F2, G, d, f2, r2, ρ3, e3, fun σ' H' F' gr ft' _ _ _ => h3 σ' H' F' (g2.trans gr) ft'⟩
/-- a, b = x, y with plain local names -/
def dPar (i j : Nat) (ga gb : Ev) : Sv := fun ρ => (ga ρ).settle.st fun r1 ρ1 => (gb ρ1).settle.st fun r2 ρ2 => match frz r1 ρ2 with
  | some (d, ρ3) => match frz r2 ρ3 with
    | some (e, ρ4) => match setV ρ4 i (.val d) with
      | some ρ5 => SR.of (setV ρ5 j (.val e))
      | none => .no
    | none => .no
  | none => .no
theorem sd_par {i j : Nat} {x y : Str} {a b : Expr} {px py pt : Pos} {kt k2 pt2} {ga gb : Ev} (hc : X.calm = true) (hN : X.N.Nodup) (ha : PE X a (tE X.K W ga)) (hb : PE X b (tE X.K W gb)) (hij : i ≠ j)
    (hi : X.N[i]? = some x := by rfl) (hj : X.N[j]? = some y := by rfl)
    (hx : X.env.scope.names.lookup x = some .local := by rfl) (hy : X.env.scope.names.lookup y = some .local := by rfl) (h1 : starEach [a, b] X.env = (false, eval a X.env) :: starEach [b] X.env := by rfl) (h2 : starEach [b] X.env = (false, eval b X.env) :: starEach [] X.env := by rfl)
    (hw : swappedStores [.Tuple [.Name x px, .Name y py] kt pt] (.Tuple [a, b] k2 pt2) X.env = pure (some [x, y]) := by rfl)
    (hs : swapsWithSole [.Tuple [.Name x px, .Name y py] kt pt] (.Tuple [a, b] k2 pt2) pos.line X.env = pure false := by rfl) :
    PS X (.Assign [.Tuple [.Name x px, .Name y py] kt pt] (.Tuple [a, b] k2 pt2) pos) (tS X.K W (dPar i j ga gb)) := by
  refine (ps_par hc hN hi hj hij hx hy (pa_cons ha (pa_cons hb pa_nil h2) h1) hw hs).weak fun D σ H ⟨α, ρ, F, G, f, h⟩ => ⟨α, ρ, F, G, f, EC.stS (fun r1 ρ1 v H1 F1 g1 f1 s1 h1 => ?_) h⟩
  refine ⟨α, ρ1, F1, G, f1, EC.stS (fun r2 ρ2 u H2 F2 g2 f2 s2 h2 => ?_) h1⟩
  cases e1 : frz r1 ρ2 with
  | none => simp [e1, SC] at h2
  | some w =>
    obtain ⟨d, ρ3⟩ := w
    simp only [e1] at h2
    obtain ⟨F3, g3, f3, r3⟩ := f2.frz (s1.mono g2.sub) e1
    cases e2 : frz r2 ρ3 with
    | none => simp [e2, SC] at h2
    | some w =>
      obtain ⟨d', ρ4⟩ := w
      simp only [e2] at h2
      obtain ⟨F4, g4, f4, r4⟩ := f3.frz (s2.mono g3.sub) e2
      cases e3 : setV ρ4 i (.val d) with
      | none => simp [e3, SC] at h2
      | some ρ5 =>
        simp only [e3] at h2
        obtain ⟨ρ6, e4, h4⟩ := sc_of h2
        obtain ⟨t, e5, rfl⟩ := setV_there e3
        have f5 := f4.setSlot (s := .val d) (v := v) e5 ⟨v, rfl, Rep.mono g4.sub _ _ r3⟩ fun o => by cases o
        obtain ⟨t', e6, rfl⟩ := setV_there e4
        have f6 := f5.setSlot (s := .val d') (v := u) e6 ⟨u, rfl, r4⟩ fun o => by cases o
        exact ⟨v, u, rfl, h4 _ H2 F4 (g3.trans g4) f6⟩
end

/-! ### what a loop walks -/
inductive IR where | ok (ds : List D) (ρ : Env) | ex (x : Exn) (ρ : Env) | no
abbrev Iv := Env → IR
/-- the iterator J gives the items ds as long as the data F and what H has stand -/
def JD (K : PySem.W.Frag) (F : Hp) (J : It) (ds : List D) : Prop := ∀ (H1 F1 : Hp), Sub F F1 → Sub F1 H1 →
  (∀ (i : Nat) (d : D), ds[i]? = some d → J.go i H1 ∧ ∀ x H2, J.yld i H1 x H2 → ∃ F2, Ext H1 F1 H2 F2 ∧ Rep K F2 d x) ∧ J.stop ds.length H1
def IC (K : PySem.W.Frag) (W : WX) (α : Nat → Addr) (σ : L2.St) (F G : Hp) (R : It → Hp → Prop) : IR → Prop
  | .ok ds ρ => ∀ J H' F', Grow G F F' → Fits K α ρ σ H' F' G → JD K F' J ds → R J H'
  | .ex x ρ => ∀ cls d H' F', Grow G F F' → Fits K α ρ σ H' F' G → RepX K F' H' x cls d → W cls d σ H'
  | .no => False
def tI (K : PySem.W.Frag) (W : WX) (g : Iv) : TI := fun σ H R => ∃ (α : Nat → Addr) (ρ : Env) (F G : Hp), Fits K α ρ σ H F G ∧ IC K W α σ F G R (g ρ)
theorem _root_.L2.PI.weak {X : Cx} {tg e : Expr} {t t' : TI} (h : PI X tg e t) (w : ∀ σ H R, t' σ H R → t σ H R) : PI X tg e t' := ⟨fun pins s σ H R I q => h.run pins s σ H R I (w σ H R q)⟩
/-- for -/
def forGo (ft : D → Env → Option Env) (gb : Sv) : List D → Env → SR
  | [], ρ => .nx ρ
  | d :: ds, ρ => match ft d ρ with
    | some ρ1 => match gb ρ1 with
      | .nx ρ2 => forGo ft gb ds ρ2
      | .ct ρ2 => forGo ft gb ds ρ2
      | .bk ρ2 => .nx ρ2
      | .rt r ρ2 => .rt r ρ2
      | .ex x ρ2 => .ex x ρ2
      | .no => .no
    | none => .no
def dFor (gi : Iv) (ft : D → Env → Option Env) (gb : Sv) : Sv := fun ρ => match gi ρ with
  | .ok ds ρ1 => forGo ft gb ds ρ1
  | .ex x ρ1 => .ex x ρ1
  | .no => .no
theorem drop_cons {α : Type} {l : List α} {i : Nat} (h : i < l.length) : ∃ x, l[i]? = some x ∧ l.drop i = x :: l.drop (i + 1) := ⟨l[i], List.getElem?_eq_getElem h, List.drop_eq_getElem_cons h⟩
section
variable {X : Cx} {W : WX} {tg iter : Expr} {body : List Stmt} {gi : Iv} {ft : D → Env → Option Env} {gb : Sv} {tch : List Nat} {pos : Pos}
theorem sd_for (hp : PassesOwn (model X.prog X.w) X.A X.env X.xe) (hc : X.calm = true) (hi : PI X tg iter (tI X.K W gi)) (hg : PG X tg (tG X.K tch ft)) (hb : PSs X body (tS X.K W gb))
    (hs : ∀ x, foldedSetIterable iter X.env x = pure x := by intro _; rfl) : PS X (.For tg iter body [] pos) (tS X.K W (dFor gi ft gb)) := by
  refine (ps_for hp hc hi hg hb hs).weak fun D σ H ⟨α, ρ, F, G, f, h⟩ => ⟨α, ρ, F, G, f, ?_⟩
  unfold dFor at h
  cases e1 : gi ρ with
  | no => simp [e1, SC] at h
  | ex x ρ1 => simp only [e1] at h; exact fun c d H1 F1 g1 f1 x1 => h c d σ H1 F1 g1 f1 x1
  | ok ds ρ1 =>
    simp only [e1] at h
    intro J H1 F1 g1 f1 jd
    refine ⟨fun i m σ H => m = ds.length - i ∧ i ≤ ds.length ∧ ∃ ρ F', Grow G F1 F' ∧ Fits X.K α ρ σ H F' G ∧ SC X.K W α F' G D (forGo ft gb (ds.drop i) ρ), ⟨ds.length, rfl, Nat.zero_le _, ρ1, F1, Grow.refl _ _, f1, by simpa using SC.mono g1 h⟩, ?_⟩
    rintro i m σ H ⟨rfl, hi, ρ, F2, g2, f2, h2⟩
    obtain ⟨j1, j2⟩ := jd H F2 g2.sub f2.fh
    by_cases hlt : i < ds.length
    · obtain ⟨d, hd, hdr⟩ := drop_cons hlt
      obtain ⟨go, yl⟩ := j1 i d hd
      rw [hdr] at h2
      refine .inr ⟨go, fun σ' H' => i + 1 ≤ ds.length ∧ ∃ ρ F', Grow G F1 F' ∧ Fits X.K α ρ σ' H' F' G ∧ SC X.K W α F' G D (forGo ft gb (ds.drop (i + 1)) ρ), fun σ' H' n => ⟨ds.length - (i + 1), by omega, rfl, n⟩, fun x H' y => ?_⟩
      obtain ⟨F3, ex, r3⟩ := yl x H' y
      have f3 := f2.ext ex
      have g3 := f2.grow ex
      unfold forGo at h2
      cases e2 : ft d ρ with
      | none => simp [e2, SC] at h2
      | some ρ2 =>
        simp only [e2] at h2
        refine ⟨α, ρ, F3, G, d, f3, r3, ρ2, e2, fun σ4 H4 F4 g4 f4 _ _ _ => ⟨α, ρ2, F4, G, f4, ?_⟩⟩
        have h4 := SC.mono (g3.trans g4) h2
        cases e3 : gb ρ2 with
        | no => simp [e3, SC] at h4
        | nx ρ5 =>
          simp only [e3] at h4
          exact fun σ5 H5 F5 g5 f5 => ⟨hlt, ρ5, F5, ((g2.trans g3).trans g4).trans g5, f5, SC.mono g5 h4⟩
        | ct ρ5 =>
          simp only [e3] at h4
          exact fun σ5 H5 F5 g5 f5 => ⟨hlt, ρ5, F5, ((g2.trans g3).trans g4).trans g5, f5, SC.mono g5 h4⟩
        | bk ρ5 =>
          simp only [e3] at h4
          exact fun σ5 H5 F5 g5 f5 => h4 σ5 H5 F5 g5 f5
        | rt r ρ5 =>
          simp only [e3] at h4
          exact h4
        | ex x ρ5 =>
          simp only [e3] at h4
          exact h4
    · have e : i = ds.length := by omega
      subst e
      rw [List.drop_length] at h2
      exact .inl ⟨j2, h2 σ H F2 (Grow.refl _ _) f2⟩
/-- while, n turns at the most -/
def whileGo (gc : Ev) (gb : Sv) : Nat → Env → SR
  | 0, _ => .no
  | n + 1, ρ => (gc ρ).st fun r ρ1 => match r with
    | .val (.bl true) => match gb ρ1 with
      | .nx ρ2 => whileGo gc gb n ρ2
      | .ct ρ2 => whileGo gc gb n ρ2
      | .bk ρ2 => .nx ρ2
      | .rt r ρ2 => .rt r ρ2
      | .ex x ρ2 => .ex x ρ2
      | .no => .no
    | .val (.bl false) => .nx ρ1
    | _ => .no
theorem sd_while {c : Expr} {gc : Ev} (n : Nat) (hp : PassesOwn (model X.prog X.w) X.A X.env X.xe) (hc : PT X c (tT X.K W gc)) (hb : PSs X body (tS X.K W gb)) : PS X (.While c body [] pos) (tS X.K W (whileGo gc gb n)) := by
  refine (ps_while hp hc hb).weak fun D σ H ⟨α, ρ, F, G, f, h⟩ => ?_
  refine ⟨fun m σ H => ∃ ρ F', Fits X.K α ρ σ H F' G ∧ SC X.K W α F' G D (whileGo gc gb m ρ), ⟨n, ρ, F, f, h⟩, fun m σ1 H1 ⟨ρ1, F1, f1, h1⟩ => ?_⟩
  cases m with
  | zero => exact h1.elim
  | succ m =>
    refine ⟨α, ρ1, F1, G, f1, BC.st (fun r ρ2 hr => ?_) (fun b ρ2 H2 F2 g2 f2 h2 => ?_) h1⟩
    · cases r with
      | val d =>
        cases d with
        | bl b => exact absurd rfl (hr b)
        | _ => rfl
      | _ => rfl
    · cases b with
      | false => exact iteF (h2 σ1 H2 F2 (Grow.refl _ _) f2)
      | true =>
        refine iteT ⟨fun σ' H' => ∃ ρ F', Fits X.K α ρ σ' H' F' G ∧ SC X.K W α F' G D (whileGo gc gb m ρ), fun σ' H' q => ⟨m, Nat.lt_succ_self _, q⟩, α, ρ2, F2, G, f2, ?_⟩
        cases e3 : gb ρ2 with
        | no => simp [e3, SC] at h2
        | nx ρ5 => simp only [e3] at h2; exact fun σ5 H5 F5 g5 f5 => ⟨ρ5, F5, f5, SC.mono g5 h2⟩
        | ct ρ5 => simp only [e3] at h2; exact fun σ5 H5 F5 g5 f5 => ⟨ρ5, F5, f5, SC.mono g5 h2⟩
        | bk ρ5 => simp only [e3] at h2; exact fun σ5 H5 F5 g5 f5 => h2 σ5 H5 F5 g5 f5
        | rt r ρ5 => simp only [e3] at h2; exact h2
        | ex x ρ5 => simp only [e3] at h2; exact h2
end

/-! ### a def -/
def outsOf : List Bool → List D → Env → Option (List D)
  | [], [], _ => some []
  | true :: ms, _ :: ds, .bor d :: ρ => match outsOf ms ds ρ with
    | some os => some (d :: os)
    | none => none
  | false :: ms, d :: ds, _ :: ρ => match outsOf ms ds ρ with
    | some os => some (d :: os)
    | none => none
  | _, _, _ => none
def dDef (n : Nat) (ms : List Bool) (g : Sv) : List D → DR := fun ds => if ds.length = ms.length then match g (argEnv ms ds ++ List.replicate (n - ms.length) .non) with
    | .nx ρ => match outsOf ms ds ρ with
      | some os => .ok (.val .non) os
      | none => .no
    | .rt r ρ => match r with
      | .loc _ => .no
      | r => match outsOf ms ds ρ with
        | some os => .ok r os
        | none => .no
    | .ex x ρ => match outsOf ms ds ρ with
      | some os => .ex x os
      | none => .no
    | _ => .no
  else .no
theorem dDef_loc (n : Nat) (ms : List Bool) (g : Sv) (ds : List D) (r : RV) (outs : List D) (h : dDef n ms g ds = .ok r outs) : ∀ i, r ≠ .loc i := by
  intro i e
  subst e
  unfold dDef at h
  split at h
  · split at h
    · split at h
      · cases h
      · cases h
    · split at h
      · cases h
      · split at h
        · rename_i hn _ _ _
          cases h
          exact hn i rfl
        · cases h
    · split at h <;> cases h
    · cases h
  · cases h
theorem outsOf_env : ∀ {ms : List Bool} {ds os : List D} {ρ : Env}, outsOf ms ds ρ = some os → os.length = ms.length ∧ ds.length = ms.length ∧
    ∀ {j : Nat} {s : Slot}, (argEnv ms os)[j]? = some s → (∃ d, s = .bor d ∧ ms[j]? = some true ∧ ρ[j]? = some (.bor d)) ∨ ∃ d, s = .val d ∧ (argEnv ms ds)[j]? = some (.val d)
  | [], [], os, ρ, h => by
    cases h
    exact ⟨rfl, rfl, fun {j s} q => by simp [argEnv] at q⟩
  | true :: ms, d :: ds, os, .bor d' :: ρ, h => by
    unfold outsOf at h
    cases e : outsOf ms ds ρ with
    | none => simp [e] at h
    | some os' =>
      simp [e] at h
      subst h
      obtain ⟨a, b, c⟩ := outsOf_env e
      refine ⟨by simp [a], by simp [b], fun {j s} q => ?_⟩
      cases j with
      | zero => simp [argEnv] at q; subst q; exact .inl ⟨d', rfl, rfl, rfl⟩
      | succ j => simpa [argEnv] using c (j := j) (s := s) (by simpa [argEnv] using q)
  | false :: ms, d :: ds, os, t :: ρ, h => by
    unfold outsOf at h
    cases e : outsOf ms ds ρ with
    | none => simp [e] at h
    | some os' =>
      simp [e] at h
      subst h
      obtain ⟨a, b, c⟩ := outsOf_env e
      refine ⟨by simp [a], by simp [b], fun {j s} q => ?_⟩
      cases j with
      | zero => simp [argEnv] at q; subst q; exact .inr ⟨d, rfl, rfl⟩
      | succ j => simpa [argEnv] using c (j := j) (s := s) (by simpa [argEnv] using q)
  | [], _ :: _, os, ρ, h => by simp [outsOf] at h
  | true :: ms, [], os, ρ, h => by simp [outsOf] at h
  | false :: ms, [], os, ρ, h => by simp [outsOf] at h
  | true :: ms, d :: ds, os, [], h => by simp [outsOf] at h
  | false :: ms, d :: ds, os, [], h => by simp [outsOf] at h
  | true :: ms, d :: ds, os, .non :: ρ, h => by simp [outsOf] at h
  | true :: ms, d :: ds, os, .val _ :: ρ, h => by simp [outsOf] at h
  | true :: ms, d :: ds, os, .own _ :: ρ, h => by simp [outsOf] at h
/-- the entry's state, with the def's other names -/
theorem Fits.start {K : PySem.W.Frag} {α : Nat → Addr} {ms : List Bool} {ds : List D} {vs : List V} {H F G : Hp} {N : List Str} (f : Fits K α (argEnv ms ds) (vs.map some) H F G) (hl : ds.length = ms.length) (hn : vs.length = ms.length) :
    Fits K α (argEnv ms ds ++ List.replicate (N.length - ms.length) .non) (L2.start N vs) H F G := by
  have l1 : (argEnv ms ds).length = ms.length := argEnv_length hl
  have hs : ∀ {j : Nat} {s : Slot}, (argEnv ms ds ++ List.replicate (N.length - ms.length) Slot.non)[j]? = some s → ((argEnv ms ds)[j]? = some s ∧ j < ms.length) ∨ (s = .non ∧ ms.length ≤ j ∧ j < ms.length + (N.length - ms.length)) := fun {j s} q => by
    by_cases hj : j < ms.length
    · rw [List.getElem?_append_left (by rw [l1]; exact hj)] at q
      exact .inl ⟨q, hj⟩
    · rw [List.getElem?_append_right (by rw [l1]; omega), List.getElem?_replicate] at q
      split at q
      · cases q
        rename_i hlt
        rw [l1] at hlt
        exact .inr ⟨rfl, by omega, by omega⟩
      · cases q
  refine ⟨f.fh, f.gh, ?_, fun j s q => ?_, fun j k s t a q1 q2 o1 o2 h1 h2 => ?_⟩
  · unfold L2.start
    rw [List.length_append, List.length_append, List.length_map, List.length_replicate, List.length_replicate, l1, hn]
  · unfold L2.start
    rcases hs q with ⟨q', hj⟩ | ⟨rfl, h1, h2⟩
    · obtain ⟨x, hx, so⟩ := f.slot j s q'
      exact ⟨x, by rw [List.getElem?_append_left (by rw [List.length_map, hn]; exact hj)]; exact hx, so⟩
    · refine ⟨none, ?_, trivial⟩
      rw [List.getElem?_append_right (by rw [List.length_map, hn]; exact h1), List.getElem?_replicate, if_pos (by rw [List.length_map]; omega)]
  · unfold L2.start at h1 h2
    rcases hs q1 with ⟨q1', hj⟩ | ⟨rfl, _, _⟩
    · rcases hs q2 with ⟨q2', hk⟩ | ⟨rfl, _, _⟩
      · rw [List.getElem?_append_left (by rw [List.length_map, hn]; exact hj)] at h1
        rw [List.getElem?_append_left (by rw [List.length_map, hn]; exact hk)] at h2
        exact f.sep j k s t a q1' q2' o1 o2 h1 h2
      · cases o2
    · cases o1
/-- the exit's state, of the parameters alone -/
theorem Fits.exit {K : PySem.W.Frag} {α : Nat → Addr} {ms : List Bool} {ds os : List D} {vs : List V} {H F G H' F' : Hp} {ρ : Env} {σ : L2.St} (f : Fits K α (argEnv ms ds) (vs.map some) H F G) (e : outsOf ms ds ρ = some os) (hn : vs.length = ms.length) (g : Grow G F F') (f' : Fits K α ρ σ H' F' G) :
    os.length = ms.length ∧ Fits K α (argEnv ms os) (vs.map some) H' F' G := by
  obtain ⟨a, b, c⟩ := outsOf_env e
  have lent : ∀ {j : Nat}, ms[j]? = some true → (vs.map some)[j]? = some (some (.ref (α j))) := fun {j} hm => by
    obtain ⟨d, _, q⟩ := argEnv_at b hm
    obtain ⟨x, hx, so⟩ := f.slot j _ q
    rw [hx, so.1]
  refine ⟨a, f'.fh, f'.gh, by rw [List.length_map, argEnv_length a, hn], fun j s q => ?_, fun j k s t z q1 q2 o1 o2 h1 h2 => ?_⟩
  · rcases c q with ⟨d, rfl, hm, hr⟩ | ⟨d, rfl, hr⟩
    · obtain ⟨x, hx, so⟩ := f'.slot j _ hr
      obtain ⟨_, fa, ga, cc⟩ := so
      exact ⟨_, lent hm, rfl, fa, ga, cc⟩
    · obtain ⟨x, hx, v, rfl, r⟩ := f.slot j _ hr
      exact ⟨_, hx, v, rfl, Rep.mono g.sub _ _ r⟩
  · rcases c q1 with ⟨d, rfl, hm, hr⟩ | ⟨d, rfl, hr⟩
    · rcases c q2 with ⟨d', rfl, hm', hr'⟩ | ⟨d', rfl, hr'⟩
      · obtain ⟨_, _, w1⟩ := argEnv_at b hm
        obtain ⟨_, _, w2⟩ := argEnv_at b hm'
        exact f.sep j k _ _ z w1 w2 rfl rfl h1 h2
      · cases o2
    · cases o1
section
variable {P : Program} {w : World} {K : PySem.W.Frag} {mg : Str → Option Value} {base : Heap}
/-- THE RULE of a def -/
theorem def_ok {x qual : Str} {st : Stmt} {f : Addr} {fd : FuncData} {N ps : List Str} {k : Nat} {ms : List Bool} {g : Sv} (F : Fun K x qual st f fd) (S : FnScope N ps (defScope st)) (hm : ms.length = ps.length)
    (hb : ∀ (cdv : Value) (A : Around) (outer : List PySem.Env) (s : Shared) (H : Hp) (E : XK), Room k (A.deeper (PyProof.Rows.envOfC qual (defScope st) s.heap.objs.size f cdv)) →
      PSs (cxOf (L2.CX P w) P w K mg base N qual (defScope st) f cdv A outer s H E) (defBody st) (tS K (fun cls d _ H' => E cls d H') g)) :
    FnOk P w K mg base (L2.CX P w) (k + 1) f fd ps (spD K ms (dDef N.length ms g)) := by
  refine F.okX S (fun vs H Q E h => (spD_len vs H Q E h).trans hm) (fun cdv A outer s H vs Q E hr h => ⟨_, hb cdv A outer s H E hr, ?_⟩)
  have hn := spD_len vs H Q E h
  obtain ⟨α, F0, G, ds, hl, ft, h⟩ := h
  refine ⟨α, _, F0, G, ft.start hl hn, ?_⟩
  unfold dDef at h
  rw [if_pos hl] at h
  cases e1 : g (argEnv ms ds ++ List.replicate (N.length - ms.length) .non) with
  | no => simp [e1, DC] at h
  | bk ρ => simp [e1, DC] at h
  | ct ρ => simp [e1, DC] at h
  | nx ρ =>
    simp only [e1] at h
    cases e2 : outsOf ms ds ρ with
    | none => simp [e2, DC] at h
    | some os =>
      simp only [e2] at h
      exact fun σ' H' F' g1 f1 => h .non H' F' g1 (ft.exit e2 hn g1 f1).1 (ft.exit e2 hn g1 f1).2 rfl
  | ex x ρ =>
    simp only [e1] at h
    cases e2 : outsOf ms ds ρ with
    | none => simp [e2, DC] at h
    | some os =>
      simp only [e2] at h
      exact fun c d σ' H' F' g1 f1 x1 => h c d H' F' g1 (ft.exit e2 hn g1 f1).1 (ft.exit e2 hn g1 f1).2 x1
  | rt r ρ =>
    simp only [e1] at h
    cases r with
    | loc i => simp [DC] at h
    | val d =>
      simp only at h
      cases e2 : outsOf ms ds ρ with
      | none => simp [e2, DC] at h
      | some os =>
        simp only [e2] at h
        exact fun v σ' H' F' g1 f1 r1 => h v H' F' g1 (ft.exit e2 hn g1 f1).1 (ft.exit e2 hn g1 f1).2 r1
    | new d =>
      simp only at h
      cases e2 : outsOf ms ds ρ with
      | none => simp [e2, DC] at h
      | some os =>
        simp only [e2] at h
        refine fun v σ' H' F' g1 f1 r1 => h v H' F' g1 (ft.exit e2 hn g1 f1).1 (ft.exit e2 hn g1 f1).2 ?_
        obtain ⟨a, rfl, fa, ga, c, sp⟩ := r1
        refine ⟨a, rfl, fa, ga, c, fun j s q o z => ?_⟩
        obtain ⟨l1, l2, k⟩ := outsOf_env e2
        rcases k q with ⟨d', rfl, hmm, hr'⟩ | ⟨d', rfl, _⟩
        · obtain ⟨_, _, q0⟩ := argEnv_at l2 hmm
          obtain ⟨x0, hx0, so0⟩ := ft.slot j _ q0
          obtain ⟨x1, hx1, so1⟩ := f1.slot j _ hr'
          have e3 : x0 = some (V.ref (α j)) := so0.1
          have e4 : x1 = some (V.ref (α j)) := so1.1
          rw [hx0, e3] at z
          cases z
          exact sp j _ hr' rfl (by rw [hx1, e4])
        · cases o
end
end DL

namespace DL
open PySem PySem.Spec L2
variable [HasW]

/-! ### a list comprehension -/
def wipeE (ρ : Env) : List Nat → Env
  | [] => ρ
  | v :: vs => (wipeE ρ vs).set v .non
def restE (ρ2 ρ1 : Env) : List Nat → Env
  | [] => ρ2
  | v :: vs => match ρ1[v]? with
    | some s => (restE ρ2 ρ1 vs).set v s
    | none => restE ρ2 ρ1 vs
/-- none of these slots owns -/
def idle (ρ : Env) : List Nat → Bool
  | [] => true
  | v :: vs => (match ρ[v]? with
    | some s => !s.owns
    | none => true) && idle ρ vs
def compGo (vs : List Nat) (ft : D → Env → Option Env) (gt ge : Ev) : List D → Env → Option (List D × Env)
  | [], ρ => some ([], ρ)
  | d :: ds, ρ => match ft d ρ with
    | some ρ1 => match gt ρ1 with
      | .ok (.val (.bl true)) ρ2 => match (ge ρ2).settle with
        | .ok r ρ3 => match frz r ρ3 with
          | some (y, ρ4) => match compGo vs ft gt ge ds (wipeE ρ4 vs) with
            | some (ys, ρ5) => some (y :: ys, ρ5)
            | none => none
          | none => none
        | _ => none
      | .ok (.val (.bl false)) ρ2 => compGo vs ft gt ge ds (wipeE ρ2 vs)
      | _ => none
    | none => none
def dLc (gi : Iv) (vs : List Nat) (ft : D → Env → Option Env) (gt ge : Ev) : Ev := fun ρ => match gi ρ with
  | .ok ds ρ1 => if idle ρ1 vs = true ∧ ds.length ≤ 1000000 then match compGo vs ft gt ge ds (wipeE ρ1 vs) with
      | some (ys, ρ2) => .ok (.new (.lst ys)) (restE ρ2 ρ1 vs)
      | none => .no
    else .no
  | .ex x ρ1 => .ex x ρ1
  | .no => .no
theorem wipeE_length (ρ : Env) : ∀ vs : List Nat, (wipeE ρ vs).length = ρ.length
  | [] => rfl
  | v :: vs => by unfold wipeE; rw [List.length_set, wipeE_length ρ vs]
theorem wipeE_get {ρ : Env} : ∀ {vs : List Nat} {j : Nat} {s : Slot}, (wipeE ρ vs)[j]? = some s → (j ∉ vs ∧ ρ[j]? = some s) ∨ (j ∈ vs ∧ s = .non)
  | [], j, s, h => .inl ⟨by simp, h⟩
  | v :: vs, j, s, h => by
    unfold wipeE at h
    by_cases e : v = j
    · subst e
      have hl : v < (wipeE ρ vs).length := by
        have := (List.getElem?_eq_some_iff.mp h).1
        rwa [List.length_set] at this
      rw [List.getElem?_set_self hl] at h
      cases h
      exact .inr ⟨List.mem_cons_self, rfl⟩
    · rw [List.getElem?_set_ne e] at h
      rcases wipeE_get h with ⟨a, b⟩ | ⟨a, b⟩
      · exact .inl ⟨by simp only [List.mem_cons, not_or]; exact ⟨fun z => e z.symm, a⟩, b⟩
      · exact .inr ⟨List.mem_cons_of_mem _ a, b⟩
theorem wipe_get {σ : L2.St} : ∀ {vs : List Nat} {j : Nat}, (j ∉ vs → (wipe σ vs)[j]? = σ[j]?) ∧ (j < σ.length → ∃ x, (wipe σ vs)[j]? = some x)
  | [], j => ⟨fun _ => rfl, fun h => ⟨_, List.getElem?_eq_getElem h⟩⟩
  | v :: vs, j => by
    obtain ⟨a, b⟩ := wipe_get (σ := σ) (vs := vs) (j := j)
    unfold wipe
    refine ⟨fun n => ?_, fun h => ?_⟩
    · simp only [List.mem_cons, not_or] at n
      rw [List.getElem?_set_ne (Ne.symm n.1)]
      exact a n.2
    · have : j < ((wipe σ vs).set v none).length := by rw [List.length_set, wipe_length]; exact h
      exact ⟨_, List.getElem?_eq_getElem this⟩
theorem restE_length (ρ2 ρ1 : Env) : ∀ vs : List Nat, (restE ρ2 ρ1 vs).length = ρ2.length
  | [] => rfl
  | v :: vs => by
    unfold restE
    split
    · rw [List.length_set, restE_length ρ2 ρ1 vs]
    · exact restE_length ρ2 ρ1 vs
theorem restE_get {ρ2 ρ1 : Env} : ∀ {vs : List Nat} {j : Nat} {s : Slot}, ρ1.length = ρ2.length → (restE ρ2 ρ1 vs)[j]? = some s → (j ∉ vs ∧ ρ2[j]? = some s) ∨ (j ∈ vs ∧ ρ1[j]? = some s)
  | [], j, s, _, h => .inl ⟨by simp, h⟩
  | v :: vs, j, s, hl, h => by
    unfold restE at h
    by_cases e : v = j
    · subst e
      cases q : ρ1[v]? with
      | some t =>
        simp only [q] at h
        have hv : v < (restE ρ2 ρ1 vs).length := by rw [restE_length, ← hl]; exact (List.getElem?_eq_some_iff.mp q).1
        rw [List.getElem?_set_self hv] at h
        cases h
        exact .inr ⟨List.mem_cons_self, rfl⟩
      | none =>
        simp only [q] at h
        have h1 := (List.getElem?_eq_some_iff.mp h).1
        rw [restE_length, ← hl] at h1
        have h2 := List.getElem?_eq_none_iff.mp q
        omega
    · have h' : (restE ρ2 ρ1 vs)[j]? = some s := by
        cases q : ρ1[v]? with
        | some t =>
          simp only [q] at h
          rwa [List.getElem?_set_ne e] at h
        | none =>
          simp only [q] at h
          exact h
      rcases restE_get hl h' with ⟨a, b⟩ | ⟨a, b⟩
      · exact .inl ⟨by simp only [List.mem_cons, not_or]; exact ⟨fun z => e z.symm, a⟩, b⟩
      · exact .inr ⟨List.mem_cons_of_mem _ a, b⟩
theorem idle_get {ρ : Env} : ∀ {vs : List Nat} {j : Nat} {s : Slot}, idle ρ vs = true → j ∈ vs → ρ[j]? = some s → s.owns = false
  | [], j, s, _, h, _ => by simp at h
  | v :: vs, j, s, h, hj, e => by
    unfold idle at h
    rw [Bool.and_eq_true] at h
    rcases List.mem_cons.mp hj with rfl | hj
    · rw [e] at h
      simpa using h.1
    · exact idle_get h.2 hj e
section
variable {K : PySem.W.Frag} {W : WX} {α : Nat → Addr} {ρ ρ' ρ1 ρ2 : Env} {σ : L2.St} {H F G H' F' H1 F1 : Hp}
theorem Fits.wiped (f : Fits K α ρ σ H F G) (vs : List Nat) : Fits K α (wipeE ρ vs) (wipe σ vs) H F G := by
  refine ⟨f.fh, f.gh, by rw [wipe_length, wipeE_length]; exact f.len, fun j s q => ?_, fun j k s t a q1 q2 o1 o2 h1 h2 => ?_⟩
  · rcases wipeE_get q with ⟨n, e⟩ | ⟨m, rfl⟩
    · obtain ⟨x, hx, so⟩ := f.slot j s e
      exact ⟨x, by rw [(wipe_get (σ := σ)).1 n]; exact hx, so⟩
    · have hj : j < σ.length := by
        have := (List.getElem?_eq_some_iff.mp q).1
        rw [wipeE_length] at this
        rw [f.len]; exact this
      obtain ⟨x, hx⟩ := (wipe_get (σ := σ) (vs := vs)).2 hj
      exact ⟨x, hx, trivial⟩
  · rcases wipeE_get q1 with ⟨n1, e1⟩ | ⟨_, rfl⟩
    · rcases wipeE_get q2 with ⟨n2, e2⟩ | ⟨_, rfl⟩
      · rw [(wipe_get (σ := σ)).1 n1] at h1
        rw [(wipe_get (σ := σ)).1 n2] at h2
        exact f.sep j k s t a e1 e2 o1 o2 h1 h2
      · cases o2
    · cases o1
theorem Fits.restored {vs : List Nat} (f1 : Fits K α ρ1 σ H1 F1 G) (hid : idle ρ1 vs = true) (f2 : Fits K α ρ2 (wipe σ vs) H' F' G) (s : Sub F1 F') : Fits K α (restE ρ2 ρ1 vs) σ H' F' G := by
  have hl : ρ1.length = ρ2.length := by
    have a := f1.len
    have b := f2.len
    rw [wipe_length] at b
    omega
  refine ⟨f2.fh, f2.gh, by rw [restE_length, ← hl]; exact f1.len, fun j t q => ?_, fun j k t u a q1 q2 o1 o2 h1 h2 => ?_⟩
  · rcases restE_get hl q with ⟨n, e⟩ | ⟨m, e⟩
    · obtain ⟨x, hx, so⟩ := f2.slot j t e
      rw [(wipe_get (σ := σ)).1 n] at hx
      exact ⟨x, hx, so⟩
    · obtain ⟨x, hx, so⟩ := f1.slot j t e
      have no := idle_get hid m e
      refine ⟨x, hx, ?_⟩
      cases t with
      | non => trivial
      | val d => obtain ⟨v, z, r⟩ := so; exact ⟨v, z, Rep.mono s _ _ r⟩
      | own d => cases no
      | bor d => cases no
  · have go : ∀ {j : Nat} {t : Slot}, (restE ρ2 ρ1 vs)[j]? = some t → t.owns = true → j ∉ vs ∧ ρ2[j]? = some t := fun {j t} q o => by
      rcases restE_get hl q with z | ⟨m, e⟩
      · exact z
      · rw [idle_get hid m e] at o; cases o
    obtain ⟨n1, e1⟩ := go q1 o1
    obtain ⟨n2, e2⟩ := go q2 o2
    exact f2.sep j k t u a e1 e2 o1 o2 (by rw [(wipe_get (σ := σ)).1 n1]; exact h1) (by rw [(wipe_get (σ := σ)).1 n2]; exact h2)
/-- an object apart is held still -/
theorem Fits.hold (f : Fits K α ρ σ H F G) {P : Addr} {o : HO} (hp : H P = some o) (ha : ∀ (j : Nat) (s : Slot), ρ[j]? = some s → s.owns = true → σ[j]? ≠ some (some (.ref P))) : Fits K α ρ σ H F (upd G P o) := by
  refine ⟨f.fh, fun b u q => ?_, f.len, fun j s q => ?_, f.sep⟩
  · by_cases e : b = P
    · subst e; rw [upd_same] at q; cases q; exact hp
    · rw [upd_ne e] at q; exact f.gh _ _ q
  · obtain ⟨x, hx, so⟩ := f.slot j s q
    refine ⟨x, hx, ?_⟩
    cases s with
    | non => trivial
    | val d => exact so
    | own d =>
      obtain ⟨a, e, fa, ga, c⟩ := so
      have n : a ≠ P := fun z => ha j _ q rfl (by rw [hx, e, z])
      exact ⟨a, e, fa, by rw [upd_ne n]; exact ga, c⟩
    | bor d =>
      obtain ⟨e, fa, ga, c⟩ := so
      have n : α j ≠ P := fun z => ha j _ q rfl (by rw [hx, e, z])
      exact ⟨e, fa, by rw [upd_ne n]; exact ga, c⟩
/-- .. is changed -/
theorem Fits.turn (f : Fits K α ρ σ H F (upd G P o)) {P : Addr} {o o' : HO} (hF : F P = none) (hG : G P = none) (f : Fits K α ρ σ H F (upd G P o)) : Fits K α ρ σ (upd H P o') F (upd G P o') := by
  have gh' : Sub G H := fun b u q => f.gh b u (by rw [upd_ne (ne_of_none q hG)]; exact q)
  refine ⟨fun b u q => by rw [upd_ne (ne_of_none q hF)]; exact f.fh _ _ q, fun b u q => ?_, f.len, fun j s q => ?_, f.sep⟩
  · by_cases e : b = P
    · subst e; rw [upd_same] at q ⊢; exact q
    · rw [upd_ne e] at q ⊢; exact gh' _ _ q
  · obtain ⟨x, hx, so⟩ := f.slot j s q
    refine ⟨x, hx, ?_⟩
    cases s with
    | non => trivial
    | val d => exact so
    | own d =>
      obtain ⟨a, e, fa, ga, c⟩ := so
      have n : a ≠ P := fun z => by rw [z, upd_same] at ga; cases ga
      rw [upd_ne n] at ga
      exact ⟨a, e, fa, by rw [upd_ne n]; exact ga, c.mono (Sub.refl _) fun u hu => by rw [upd_ne n]; exact hu⟩
    | bor d =>
      obtain ⟨e, fa, ga, c⟩ := so
      have n : α j ≠ P := fun z => by rw [z, upd_same] at ga; cases ga
      rw [upd_ne n] at ga
      exact ⟨e, fa, by rw [upd_ne n]; exact ga, c.mono (Sub.refl _) fun u hu => by rw [upd_ne n]; exact hu⟩
/-- .. is let go -/
theorem Fits.loose {P : Addr} {o : HO} (hG : G P = none) (f : Fits K α ρ σ H F (upd G P o)) : Fits K α ρ σ H F G ∧ ∀ (j : Nat) (s : Slot), ρ[j]? = some s → s.owns = true → σ[j]? ≠ some (some (.ref P)) := by
  have sl : ∀ (j : Nat) (s : Slot), ρ[j]? = some s → ∃ x, σ[j]? = some x ∧ SlotOk K F G H x (α j) s ∧ (s.owns = true → x ≠ some (.ref P)) := fun j s q => by
    obtain ⟨x, hx, so⟩ := f.slot j s q
    refine ⟨x, hx, ?_⟩
    cases s with
    | non => exact ⟨trivial, fun o => by cases o⟩
    | val d => exact ⟨so, fun o => by cases o⟩
    | own d =>
      obtain ⟨a, e, fa, ga, c⟩ := so
      have n : a ≠ P := fun z => by rw [z, upd_same] at ga; cases ga
      rw [upd_ne n] at ga
      exact ⟨⟨a, e, fa, ga, c⟩, fun _ z => n (by rw [e] at z; cases z; rfl)⟩
    | bor d =>
      obtain ⟨e, fa, ga, c⟩ := so
      have n : α j ≠ P := fun z => by rw [z, upd_same] at ga; cases ga
      rw [upd_ne n] at ga
      exact ⟨⟨e, fa, ga, c⟩, fun _ z => n (by rw [e] at z; cases z; rfl)⟩
  exact ⟨⟨f.fh, fun b u q => f.gh b u (by rw [upd_ne (ne_of_none q hG)]; exact q), f.len, fun j s q => let ⟨x, hx, so, _⟩ := sl j s q; ⟨x, hx, so⟩, f.sep⟩, fun j s q o z => by
    obtain ⟨x, hx, _, n⟩ := sl j s q
    rw [hx] at z
    cases z
    exact n o rfl⟩
theorem Grow.loose {P : Addr} {o : HO} (g : Grow (upd G P o) F F') : Grow G F F' := ⟨g.sub, fun a u q => by
  rcases g.new a u q with z | ⟨z, w⟩
  · exact .inl z
  · refine .inr ⟨z, ?_⟩
    by_cases e : a = P
    · subst e; rw [upd_same] at w; cases w
    · rwa [upd_ne e] at w⟩
theorem Grow.apart {P : Addr} {o : HO} (g : Grow (upd G P o) F F') (h : F P = none) : F' P = none := by
  cases q : F' P with
  | none => rfl
  | some u =>
    rcases g.new P u q with z | ⟨_, w⟩
    · rw [h] at z; cases z
    · rw [upd_same] at w; cases w
end
abbrev W0 : WX := fun _ _ _ _ => False
section
variable {X : Cx} {W : WX} {elt tg iter : Expr} {ifs : List Expr} {scope : Scope} {own : List (Str × Nat)} {gi : Iv} {ft : D → Env → Option Env} {gt ge : Ev} {tch : List Nat} {pos : Pos}
theorem wipe_same {σ σ2 : L2.St} {vs tch : List Nat} (hl : σ2.length = (wipe σ vs).length) (h : ∀ j, j ∉ tch → σ2[j]? = (wipe σ vs)[j]?) (ht : ∀ j ∈ tch, j ∈ vs) : wipe σ2 vs = wipe σ vs := by
  have wn : ∀ {σ : L2.St} {vs : List Nat} {j : Nat}, j ∈ vs → j < σ.length → (wipe σ vs)[j]? = some none := by
    intro σ vs
    induction vs with
    | nil => intro j hj; simp at hj
    | cons v vs ih =>
      intro j hj hlt
      unfold wipe
      by_cases e : v = j
      · subst e
        rw [List.getElem?_set_self (by rw [wipe_length]; exact hlt)]
      · rw [List.getElem?_set_ne e]
        rcases List.mem_cons.mp hj with z | z
        · exact absurd z.symm e
        · exact ih z hlt
  have hl2 : σ2.length = σ.length := by rw [hl, wipe_length]
  apply List.ext_getElem?
  intro j
  by_cases hj : j ∈ vs
  · by_cases hlt : j < σ.length
    · rw [wn hj (by rw [hl2]; exact hlt), wn hj hlt]
    · rw [List.getElem?_eq_none (by rw [wipe_length, hl2]; omega), List.getElem?_eq_none (by rw [wipe_length]; omega)]
  · rw [(wipe_get (σ := σ2)).1 hj, h j fun z => hj (ht j z)]
theorem ec_lc_at {K : PySem.W.Frag} {vs : List Nat} {ti : TI} (ht : ∀ j ∈ tch, j ∈ vs) {α : Nat → Addr} {ρ : Env} {F G : Hp} {σ : L2.St} {H : Hp} {Q : VK} (f : Fits K α ρ σ H F G) (hti : ∀ R, IC K W α σ F G R (gi ρ) → ti σ H R) (h : EC K W α σ F G Q (dLc gi vs ft gt ge ρ)) :
    tLc ti (tG K tch ft) (tT K W0 gt) (tE K W0 ge) vs σ H Q := by
  refine hti _ ?_
  unfold dLc at h
  cases e1 : gi ρ with
  | no => simp [e1, EC] at h
  | ex x ρ1 => simp only [e1] at h; exact h
  | ok ds ρ1 =>
    simp only [e1] at h
    by_cases hc : idle ρ1 vs = true ∧ ds.length ≤ 1000000
    · rw [if_pos hc] at h
      obtain ⟨hid, hsz⟩ := hc
      cases e2 : compGo vs ft gt ge ds (wipeE ρ1 vs) with
      | none => simp [e2, EC] at h
      | some w =>
        obtain ⟨ys, ρe⟩ := w
        simp only [e2] at h
        intro J H1 F1 g1 f1 jd P hP
        have fP : F1 P = none := f1.fh.free hP
        have gP : G P = none := f1.gh.free hP
        have ap : ∀ (j : Nat) (s : Slot), ρ1[j]? = some s → s.owns = true → σ[j]? ≠ some (some (.ref P)) := fun j s q o z => by
          have so : ∃ d, ρ1[j]? = some (.own d) ∨ ρ1[j]? = some (.bor d) := by
            cases s with
            | non => cases o
            | val d => cases o
            | own d => exact ⟨d, .inl q⟩
            | bor d => exact ⟨d, .inr q⟩
          obtain ⟨d, so⟩ := so
          obtain ⟨u, hu⟩ := (f1.owner so z).2.2.there
          rw [hP] at hu
          cases hu
        have fx := f1.ext (Ext.allocO (o := .lst []) f1.fh hP)
        have fh := (fx.hold upd_same ap).wiped vs
        refine ⟨fun i m H => m = ds.length - i ∧ i ≤ ds.length ∧ ∃ ρ F acc accv rest, Fits K α ρ (wipe σ vs) H F (upd G P (.lst accv)) ∧ F P = none ∧ Grow G F1 F ∧ Reps K F acc accv ∧ acc.length ≤ i ∧ compGo vs ft gt ge (ds.drop i) ρ = some (rest, ρe) ∧ acc ++ rest = ys,
          ⟨ds.length, rfl, Nat.zero_le _, wipeE ρ1 vs, F1, [], [], ys, fh, fP, Grow.refl _ _, rfl, Nat.le_refl _, by simpa using e2, rfl⟩, ?_⟩
        rintro i m H2 ⟨rfl, hi, ρ, F2, acc, accv, rest, f2, n2, g2, ra, la, eg, ey⟩
        have gsub : Sub G H2 := fun b u q => f2.gh b u (by rw [upd_ne (ne_of_none q gP)]; exact q)
        obtain ⟨j1, j2⟩ := jd H2 F2 g2.sub f2.fh
        by_cases hlt : i < ds.length
        · obtain ⟨d, hd, hdr⟩ := drop_cons hlt
          obtain ⟨go, yl⟩ := j1 i d hd
          rw [hdr] at eg
          refine .inr ⟨go, fun H' => i + 1 ≤ ds.length ∧ ∃ ρ F acc accv rest, Fits K α ρ (wipe σ vs) H' F (upd G P (.lst accv)) ∧ F P = none ∧ Grow G F1 F ∧ Reps K F acc accv ∧ acc.length ≤ i + 1 ∧ compGo vs ft gt ge (ds.drop (i + 1)) ρ = some (rest, ρe) ∧ acc ++ rest = ys,
            fun H' ⟨a, b⟩ => ⟨ds.length - (i + 1), by omega, rfl, a, b⟩, fun x H' y => ?_⟩
          obtain ⟨F3, ex, r3⟩ := yl x H' y
          have f3 := f2.ext ex
          have g3 := f2.grow ex
          unfold compGo at eg
          cases e3 : ft d ρ with
          | none => simp [e3] at eg
          | some ρ2 =>
            simp only [e3] at eg
            refine ⟨α, ρ, F3, _, d, f3, r3, ρ2, e3, fun σ4 H4 F4 g4 f4 sb4 l4 k4 => ?_⟩
            have ws : wipe σ4 vs = wipe σ vs := wipe_same l4 k4 ht
            refine ⟨ws, α, ρ2, F4, _, f4, ?_⟩
            have bad : ∀ {q : ER}, gt ρ2 = q → (∀ b ρ', q ≠ .ok (.val (.bl b)) ρ') → False := fun {q} e n => by
              subst e
              cases e4 : gt ρ2 with
              | no => simp [e4] at eg
              | ex x ρ' => simp [e4] at eg
              | ok r ρ' =>
                cases r with
                | loc i => simp [e4] at eg
                | new d => simp [e4] at eg
                | val d =>
                  cases d with
                  | bl b => exact n b ρ' e4
                  | _ => simp [e4] at eg
            cases e4 : gt ρ2 with
            | no => exact (bad e4 fun b ρ' z => by cases z).elim
            | ex x ρ' => exact (bad e4 fun b ρ' z => by cases z).elim
            | ok r ρ3 =>
              cases r with
              | loc i => exact (bad e4 fun b ρ' z => by cases z).elim
              | new d => exact (bad e4 fun b ρ' z => by cases z).elim
              | val dd =>
                by_cases hb : ∃ b, dd = .bl b
                · obtain ⟨b, rfl⟩ := hb
                  intro H5 F5 g5 f5
                  cases b with
                  | false =>
                    simp only [e4] at eg
                    refine iteF ⟨hlt, wipeE ρ3 vs, F5, acc, accv, rest, by rw [← ws]; exact f5.wiped vs, g5.apart (g4.apart (g3.apart n2)), ((g2.trans g3.loose).trans g4.loose).trans g5.loose, Reps.mono ((g3.sub.trans g4.sub).trans g5.sub) _ _ ra, by omega, eg, ey⟩
                  | true =>
                    simp only [e4] at eg
                    refine iteT ⟨α, ρ3, F5, _, f5, EC.settle ?_⟩
                    cases e5 : (ge ρ3).settle with
                    | no => simp [e5] at eg
                    | ex x ρ' => simp [e5] at eg
                    | ok r4 ρ4 =>
                      simp only [e5] at eg
                      intro v H6 F6 g6 f6 r6
                      have rs : r4.settle = r4 := by
                        cases q : ge ρ3 with
                        | no => rw [q] at e5; cases e5
                        | ex x ρ => rw [q] at e5; cases e5
                        | ok r0 ρ0 =>
                          rw [q] at e5
                          have e6 : r0.settle = r4 := by cases e5; rfl
                          rw [← e6]
                          cases r0 <;> rfl
                      have s6 : SRep K F6 σ4 r4 v := by
                        rw [← rs] at r6 ⊢
                        exact settle_srep r6
                      cases e6 : frz r4 ρ4 with
                      | none => simp [e6] at eg
                      | some w =>
                        obtain ⟨yd, ρ5⟩ := w
                        simp only [e6] at eg
                        obtain ⟨F7, g7, f7, r7⟩ := f6.frz s6 e6
                        cases e7 : compGo vs ft gt ge (ds.drop (i + 1)) (wipeE ρ5 vs) with
                        | none => simp [e7] at eg
                        | some w =>
                          obtain ⟨zs, ρ6⟩ := w
                          simp [e7] at eg
                          obtain ⟨rfl, rfl⟩ := eg
                          have ac : F7 P = none := g7.apart (g6.apart (g5.apart (g4.apart (g3.apart n2))))
                          have hPv : H6 P = some (.lst accv) := f7.gh P _ upd_same
                          have ra7 := Reps.mono ((((g3.sub.trans g4.sub).trans g5.sub).trans g6.sub).trans g7.sub) _ _ ra
                          have lv := ra.length
                          refine ⟨accv, hPv, ?_, hlt, wipeE ρ5 vs, F7, acc ++ [yd], accv ++ [v], zs, ?_, ac, ((((g2.trans g3.loose).trans g4.loose).trans g5.loose).trans g6.loose).trans g7.loose, ra7.snoc r7, by simp; omega, e7, by simpa using ey⟩
                          · have : sizeLine = 16777216 := sizeLine_eq
                            omega
                          · rw [← ws]
                            exact ((f7.turn ac gP f7).wiped vs)
                · exact (bad e4 fun b ρ' z => hb ⟨b, by cases z; rfl⟩).elim
        · have e : i = ds.length := by omega
          subst e
          rw [List.drop_length] at eg
          unfold compGo at eg
          cases eg
          refine .inl ⟨j2, ?_⟩
          obtain ⟨f5, ap5⟩ := f2.loose gP
          have f6 := f1.restored hid f5 g2.sub
          refine h _ H2 F2 (g1.trans g2) f6 ⟨P, rfl, n2, gP, ?_, fun j s q o z => ?_⟩
          · have e6 : acc = ys := by simpa using ey
            rw [← e6]
            exact ⟨accv, f2.gh P _ upd_same, ra⟩
          · have hl : ρ1.length = ρe.length := by
              have a := f1.len
              have b := f5.len
              rw [wipe_length] at b
              omega
            rcases restE_get hl q with ⟨n, e⟩ | ⟨m, e⟩
            · exact ap5 j s e o (by rw [(wipe_get (σ := σ)).1 n]; exact z)
            · rw [idle_get hid m e] at o
              cases o
    · rw [if_neg hc] at h
      exact h.elim
theorem ec_lc {K : PySem.W.Frag} {vs : List Nat} (ht : ∀ j ∈ tch, j ∈ vs) {σ : L2.St} {H : Hp} {Q : VK} (h : tE K W (dLc gi vs ft gt ge) σ H Q) :
    tLc (tI K W gi) (tG K tch ft) (tT K W0 gt) (tE K W0 ge) vs σ H Q := by
  obtain ⟨α, ρ, F, G, f, h⟩ := h
  exact ec_lc_at ht f (fun R q => ⟨α, ρ, F, G, f, q⟩) h
theorem ed_lc (hc : X.calm = true) (hN : X.N.Nodup) (ok : BlkOk X.N X.env.scope scope own) (ht : ∀ j ∈ tch, j ∈ own.map (·.2)) (hi : PI X tg iter (tI X.K W gi))
    (hg : ∀ (s : Shared) (H : Hp) (C : Addr) (cl : List (Str × Addr)) (fp : List Addr), PG (X.blk s H scope (compEnvC scope cl C X.env) fp) tg (tG X.K tch ft)) (hif : ∀ (s : Shared) (H : Hp) (C : Addr) (cl : List (Str × Addr)) (fp : List Addr), PTs (X.blk s H scope (compEnvC scope cl C X.env) fp) ifs (tT X.K W0 gt))
    (he : ∀ (s : Shared) (H : Hp) (C : Addr) (cl : List (Str × Addr)) (fp : List Addr), PE (X.blk s H scope (compEnvC scope cl C X.env) fp) elt (tE X.K W0 ge)) (hs : ∀ x, foldedSetIterable iter X.env x = pure x := by intro _; rfl) :
    PE X (.ListComp elt [⟨tg, iter, ifs, 0⟩] scope pos) (tE X.K W (dLc gi (own.map (·.2)) ft gt ge)) :=
  (pe_lc hc hN hi ok hg hif he hs).weak fun σ H Q h => ec_lc ht h
/-- no test -/
def dYes : Ev := fun ρ => .ok (.val (.bl true)) ρ
theorem id_yes : PTs X [] (tT X.K W dYes) := ⟨fun pins s σ H Q I h => pts_nil.run pins s σ H Q I (let ⟨α, ρ, F, G, f, h⟩ := h; h H F (Grow.refl _ _) f)⟩
theorem id_test {c : Expr} (h : PT X c (tT X.K W gt)) : PTs X [c] (tT X.K W gt) := pts_one h
/-- name = [..] -/
def dSetLc (i : Nat) (g : Ev) : Sv := dSet i g
theorem sd_setLc {i : Nat} {y : Str} {py spos : Pos} (hc : X.calm = true) (hN : X.N.Nodup) (ok : BlkOk X.N X.env.scope scope own) (ht : ∀ j ∈ tch, j ∈ own.map (·.2)) (hi : PI X tg iter (tI X.K W gi))
    (hg : ∀ (s : Shared) (H : Hp) (C : Addr) (cl : List (Str × Addr)) (fp : List Addr), PG (X.blk s H scope (compEnvC scope cl C X.env) fp) tg (tG X.K tch ft)) (hif : ∀ (s : Shared) (H : Hp) (C : Addr) (cl : List (Str × Addr)) (fp : List Addr), PTs (X.blk s H scope (compEnvC scope cl C X.env) fp) ifs (tT X.K W0 gt))
    (he : ∀ (s : Shared) (H : Hp) (C : Addr) (cl : List (Str × Addr)) (fp : List Addr), PE (X.blk s H scope (compEnvC scope cl C X.env) fp) elt (tE X.K W0 ge))
    (hy : X.N[i]? = some y := by rfl) (hyl : X.env.scope.names.lookup y = some .local := by rfl) (hsw : swapsWith (.ListComp elt [⟨tg, iter, ifs, 0⟩] scope pos) (some (.Name y py)) spos.line X.env = pure true := by exact sw_true rfl rfl rfl (by decide +kernel)) (hs : ∀ x, foldedSetIterable iter X.env x = pure x := by intro _; rfl) :
    PS X (.Assign [.Name y py] (.ListComp elt [⟨tg, iter, ifs, 0⟩] scope pos) spos) (tS X.K W (dSet i (dLc gi (own.map (·.2)) ft gt ge))) := by
  refine (ps_setLc hc hN hy hyl hsw hi ok hg hif he hs).weak fun D σ H ⟨α, ρ, F, G, f, h⟩ => ?_
  refine ec_lc (Q := fun x H1 => gName i x σ H1 D.nx) ht ⟨α, ρ, F, G, f, EC.st (fun r ρ1 v H1 F1 g1 f1 r1 h1 => ?_) h⟩
  obtain ⟨ρ2, e2, h2⟩ := sc_of h1
  obtain ⟨F2, g2, f2⟩ := f1.asgn r1 e2
  exact h2 _ H1 F2 g2 f2
end

/-! ### what is walked -/
section
variable {X : Cx} {W : WX} {l tg : Expr} {g : Ev} {gs : Av} {pos p : Pos}
def seqOf : D → Option (List D)
  | .lst xs => some xs
  | .tup xs => some xs
  | .scr xs => some xs
  | .str z => some (z.cps.toList.map fun c => .str ⟨#[c]⟩)
  | _ => none
def iSeq (g : Ev) : Iv := fun ρ => match (g ρ).settle with
  | .ok r ρ1 => match frz r ρ1 with
    | some (d, ρ2) => match seqOf d with
      | some xs => .ok xs ρ2
      | none => .no
    | none => .no
  | .ex x ρ1 => .ex x ρ1
  | .no => .no
theorem jd_list {K : PySem.W.Frag} {F : Hp} {a : Addr} {xs : List D} {vs : List V} (q : SqL K F a vs) (r : Reps K F xs vs) : JD K F (Itl K a) xs := fun H1 F1 s1 s2 => by
  have q1 : SqL K H1 a vs := s2.sqL (s1.sqL q)
  have r1 := Reps.mono s1 _ _ r
  refine ⟨fun i d hd => ?_, ⟨vs, q1, by rw [r.length]; exact Nat.le_refl _⟩⟩
  obtain ⟨v, hv, rv⟩ := r1.get hd
  refine ⟨⟨vs, v, q1, hv⟩, fun x H2 y => ?_⟩
  obtain ⟨rfl, y⟩ := y
  have e := y vs q1
  rw [hv] at e
  cases e
  exact ⟨F1, Ext.refl s2, rv⟩
theorem jd_tup {K : PySem.W.Frag} {F : Hp} {a : Addr} {xs : List D} {vs : List V} (q : SqT K F a vs) (r : Reps K F xs vs) : JD K F (Itt K a) xs := fun H1 F1 s1 s2 => by
  have q1 : SqT K H1 a vs := s2.sqT (s1.sqT q)
  have r1 := Reps.mono s1 _ _ r
  refine ⟨fun i d hd => ?_, ⟨vs, q1, by rw [r.length]; exact Nat.le_refl _⟩⟩
  obtain ⟨v, hv, rv⟩ := r1.get hd
  refine ⟨⟨vs, v, q1, hv⟩, fun x H2 y => ?_⟩
  obtain ⟨rfl, y⟩ := y
  have e := y vs q1
  rw [hv] at e
  cases e
  exact ⟨F1, Ext.refl s2, rv⟩
theorem jd_str {K : PySem.W.Frag} {F : Hp} (z : Str) : JD K F (Its z) (z.cps.toList.map fun c => .str ⟨#[c]⟩) := fun H1 F1 s1 s2 => by
  refine ⟨fun i d hd => ?_, by rw [List.length_map, Array.length_toList]; exact Nat.le_refl _⟩
  rw [List.getElem?_map] at hd
  cases e : z.cps.toList[i]? with
  | none => rw [e] at hd; cases hd
  | some c =>
    rw [e] at hd
    cases hd
    have e' : z.cps[i]? = some c := by rw [← Array.getElem?_toList]; exact e
    refine ⟨?_, fun x H2 y => ?_⟩
    · have := (Array.getElem?_eq_some_iff.mp e').1
      exact this
    · obtain ⟨rfl, c', e2, rfl⟩ := y
      rw [e'] at e2
      cases e2
      exact ⟨F1, Ext.refl s2, rfl⟩
theorem id_seq (he : PE X l (tE X.K W g)) : PI X tg l (tI X.K W (iSeq g)) := by
  refine ⟨fun pins s σ H R I h => ?_⟩
  obtain ⟨α, ρ, F, G, f, h⟩ := h
  unfold iSeq at h
  cases e1 : (g ρ).settle with
  | no => simp [e1, IC] at h
  | ex x ρ1 =>
    refine (pi_list he).run pins s σ H R I ⟨α, ρ, F, G, f, EC.settle ?_⟩
    rw [e1]
    simp only [e1] at h
    exact h
  | ok r ρ1 =>
    simp only [e1] at h
    cases e2 : frz r ρ1 with
    | none => simp [e2, IC] at h
    | some w =>
      obtain ⟨d, ρ2⟩ := w
      simp only [e2] at h
      cases e3 : seqOf d with
      | none => simp [e3, IC] at h
      | some xs =>
        simp only [e3] at h
        have rs : r.settle = r := by
          cases q : g ρ with
          | no => rw [q] at e1; cases e1
          | ex x ρ => rw [q] at e1; cases e1
          | ok r0 ρ0 =>
            rw [q] at e1
            have e6 : r0.settle = r := by cases e1; rfl
            rw [← e6]
            cases r0 <;> rfl
        have key : ∀ v H1 F1, Grow G F F1 → Fits X.K α ρ1 σ H1 F1 G → RRep X.K F1 G H1 σ ρ1 r v → ∃ F2, Grow G F F2 ∧ Fits X.K α ρ2 σ H1 F2 G ∧ Rep X.K F2 d v := fun v H1 F1 g1 f1 r1 => by
          have s1 : SRep X.K F1 σ r v := by
            rw [← rs] at r1 ⊢
            exact settle_srep r1
          obtain ⟨F2, g2, f2, r2⟩ := f1.frz s1 e2
          exact ⟨F2, g1.trans g2, f2, r2⟩
        have lst : ∀ {a : Addr} {vs : List V} {F2 H1 : Hp}, Grow G F F2 → Fits X.K α ρ2 σ H1 F2 G → SqL X.K F2 a vs → Reps X.K F2 xs vs → ∃ b, V.ref a = .ref b ∧ (∃ xs, SqL X.K H1 b xs) ∧ R (Itl X.K b) H1 := fun {a vs F2 H1} g2 f2 q r =>
          ⟨a, rfl, ⟨vs, f2.fh.sqL q⟩, h _ H1 F2 g2 f2 (jd_list q r)⟩
        cases d with
        | lst ys =>
          cases e3
          refine (pi_list he).run pins s σ H R I ⟨α, ρ, F, G, f, EC.settle ?_⟩
          rw [e1]
          intro v H1 F1 g1 f1 r1
          obtain ⟨F2, g2, f2, a, vs, rfl, q, rr⟩ := key v H1 F1 g1 f1 r1
          exact lst g2 f2 (SqL.of q) rr
        | scr ys =>
          cases e3
          refine (pi_list he).run pins s σ H R I ⟨α, ρ, F, G, f, EC.settle ?_⟩
          rw [e1]
          intro v H1 F1 g1 f1 r1
          obtain ⟨F2, g2, f2, a, vs, rfl, q, rr⟩ := key v H1 F1 g1 f1 r1
          exact lst g2 f2 q rr
        | tup ys =>
          cases e3
          refine (pi_tup he).run pins s σ H R I ⟨α, ρ, F, G, f, EC.settle ?_⟩
          rw [e1]
          intro v H1 F1 g1 f1 r1
          obtain ⟨F2, g2, f2, a, vs, rfl, q, rr⟩ := key v H1 F1 g1 f1 r1
          exact ⟨a, rfl, ⟨vs, f2.fh.sqT q⟩, h _ H1 F2 g2 f2 (jd_tup q rr)⟩
        | str z =>
          cases e3
          refine (pi_str he).run pins s σ H R I ⟨α, ρ, F, G, f, EC.settle ?_⟩
          rw [e1]
          intro v H1 F1 g1 f1 r1
          obtain ⟨F2, g2, f2, r2⟩ := key v H1 F1 g1 f1 r1
          exact ⟨z, r2, h _ H1 F2 g2 f2 (jd_str z)⟩
        | _ => cases e3
/-- the values of arguments, walked -/
def iArgs (k : List D → Option (List D)) (gs : Av) : Iv := fun ρ => match gs ρ with
  | .ok rs ρ1 => match frzs rs ρ1 with
    | some (ds, ρ2) => match k ds with
      | some xs => .ok xs ρ2
      | none => .no
    | none => .no
  | .ex x ρ1 => .ex x ρ1
  | .no => .no
theorem ac_args {K : PySem.W.Frag} {k : List D → Option (List D)} {σ : L2.St} {H : Hp} {R : It → Hp → Prop} {T : List V → Hp → Prop} (h : tI K W (iArgs k gs) σ H R)
    (hk : ∀ (F H1 : Hp) ds vs xs, Sub F H1 → Reps K F ds vs → k ds = some xs → (∀ J, JD K F J xs → R J H1) → T vs H1) : tA K W gs σ H T := by
  obtain ⟨α, ρ, F, G, f, h⟩ := h
  refine ⟨α, ρ, F, G, f, ?_⟩
  unfold iArgs at h
  cases e1 : gs ρ with
  | no => simp [e1, IC] at h
  | ex x ρ1 => simp only [e1] at h; exact h
  | ok rs ρ1 =>
    simp only [e1] at h
    intro vs H1 F1 g1 f1 s1
    cases e2 : frzs rs ρ1 with
    | none => simp [e2, IC] at h
    | some w =>
      obtain ⟨ds, ρ2⟩ := w
      simp only [e2] at h
      obtain ⟨F2, g2, f2, r2⟩ := Fits.frzs f1 s1 e2
      cases e3 : k ds with
      | none => simp [e3, IC] at h
      | some xs =>
        simp only [e3] at h
        exact hk F2 H1 ds vs xs f2.fh r2 e3 fun J jd => h J H1 F2 (g1.trans g2) f2 jd
def kRange1 : List D → Option (List D)
  | [.int j] => if j ≤ 1000000 ∧ -1000000 ≤ j then some ((List.range j.toNat).map fun (k : Nat) => .int (k : Int)) else none
  | _ => none
def kRange2 : List D → Option (List D)
  | [.int i, .int j] => if (j ≤ 1000000 ∧ -1000000 ≤ j) ∧ (i ≤ 1000000 ∧ -1000000 ≤ i) then some ((List.range (j - i).toNat).map fun (k : Nat) => .int (i + (k : Int))) else none
  | _ => none
theorem kRange1_some {ds xs : List D} (h : kRange1 ds = some xs) : ∃ j : Int, ds = [.int j] ∧ (j ≤ 1000000 ∧ -1000000 ≤ j) ∧ xs = (List.range j.toNat).map fun (k : Nat) => .int (k : Int) := by
  unfold kRange1 at h
  split at h
  · split at h
    · cases h
      exact ⟨_, rfl, by assumption, rfl⟩
    · cases h
  · cases h
theorem kRange2_some {ds xs : List D} (h : kRange2 ds = some xs) : ∃ i j : Int, ds = [.int i, .int j] ∧ ((j ≤ 1000000 ∧ -1000000 ≤ j) ∧ (i ≤ 1000000 ∧ -1000000 ≤ i)) ∧ xs = (List.range (j - i).toNat).map fun (k : Nat) => .int (i + (k : Int)) := by
  unfold kRange2 at h
  split at h
  · split at h
    · cases h
      exact ⟨_, _, rfl, by assumption, rfl⟩
    · cases h
  · cases h
theorem jd_range {K : PySem.W.Frag} {F : Hp} (lo : Int) (n : Nat) : JD K F (Itr lo n) ((List.range n).map fun (k : Nat) => .int (lo + (k : Int))) := fun H1 F1 s1 s2 => by
  refine ⟨fun i d hd => ?_, by rw [List.length_map, List.length_range]; exact Nat.le_refl _⟩
  rw [List.getElem?_map] at hd
  cases e : (List.range n)[i]? with
  | none => rw [e] at hd; cases hd
  | some j =>
    rw [e] at hd
    obtain ⟨h1, h2⟩ := List.getElem?_eq_some_iff.mp e
    rw [List.length_range] at h1
    rw [List.getElem_range] at h2
    subst h2
    cases hd
    refine ⟨h1, fun x H2 y => ?_⟩
    obtain ⟨rfl, rfl⟩ := y
    exact ⟨F1, Ext.refl s2, rfl⟩
theorem id_range1 {a : Expr} (hm : X.mg "range" = none) (ha : PA X [a] (tA X.K W gs)) (hg : Gl X "range" := by rfl) (hs : starEach [a] X.env = [(false, eval a X.env)] := by rfl) : PI X tg (.Call (.Name "range" p) [a] [] pos) (tI X.K W (iArgs kRange1 gs)) := by
  refine (pi_range1 hg hm ha hs).weak fun σ H R h => ac_args h fun F H1 ds vs xs s r e k => ?_
  obtain ⟨j, rfl, hj, rfl⟩ := kRange1_some e
  obtain ⟨v, t, rfl, rfl, rfl⟩ := r
  refine ⟨j, rfl, by omega, by omega, k _ ?_⟩
  have := jd_range (K := X.K) (F := F) 0 j.toNat
  simpa using this
theorem id_range2 {a b : Expr} (hm : X.mg "range" = none) (ha : PA X [a, b] (tA X.K W gs)) (hg : Gl X "range" := by rfl) (hs : starEach [a, b] X.env = [(false, eval a X.env), (false, eval b X.env)] := by rfl) (hs2 : starEach [b] X.env = [(false, eval b X.env)] := by rfl) :
    PI X tg (.Call (.Name "range" p) [a, b] [] pos) (tI X.K W (iArgs kRange2 gs)) := by
  refine (pi_range2 hg hm ha hs hs2).weak fun σ H R h => ac_args h fun F H1 ds vs xs s r e k => ?_
  obtain ⟨i, j, rfl, hj, rfl⟩ := kRange2_some e
  obtain ⟨v, t, rfl, rfl, v2, t2, rfl, rfl, rfl⟩ := r
  exact ⟨i, j, rfl, ⟨by omega, by omega, by omega, by omega⟩, k _ (jd_range i _)⟩
/-- zip of two lists, of two tuples -/
def kZip : List D → Option (List D)
  | [.lst xs, .lst ys] => some (List.zipWith (fun x y => .tup [x, y]) xs ys)
  | [.tup xs, .tup ys] => some (List.zipWith (fun x y => .tup [x, y]) xs ys)
  | _ => none
theorem zip_get {xs ys : List D} {i : Nat} {d : D} (h : (List.zipWith (fun x y => D.tup [x, y]) xs ys)[i]? = some d) : ∃ x y, xs[i]? = some x ∧ ys[i]? = some y ∧ d = .tup [x, y] := by
  rw [List.getElem?_zipWith] at h
  cases e1 : xs[i]? with
  | none => simp [e1] at h
  | some x =>
    cases e2 : ys[i]? with
    | none => simp [e1, e2] at h
    | some y =>
      simp [e1, e2] at h
      exact ⟨x, y, rfl, rfl, h.symm⟩
theorem rep_pair {K : PySem.W.Frag} {F1 : Hp} {T : Addr} {x y : V} {d e : D} (hT : F1 T = none) (r1 : Rep K F1 d x) (r2 : Rep K F1 e y) : Rep K (upd F1 T (.tup [x, y])) (.tup [d, e]) (.ref T) :=
  ⟨T, [x, y], rfl, SqT.of upd_same, .cons (Rep.mono (Sub.upd_none hT) _ _ r1) (.cons (Rep.mono (Sub.upd_none hT) _ _ r2) .nil)⟩
theorem jd_zipL {K : PySem.W.Frag} {F : Hp} {a b : Addr} {xs ys : List D} {vs ws : List V} (q1 : SqL K F a vs) (r1 : Reps K F xs vs) (q2 : SqL K F b ws) (r2 : Reps K F ys ws) : JD K F (Itz K a b) (List.zipWith (fun x y => .tup [x, y]) xs ys) := fun H1 F1 s1 s2 => by
  have p1 : SqL K H1 a vs := s2.sqL (s1.sqL q1)
  have p2 : SqL K H1 b ws := s2.sqL (s1.sqL q2)
  have t1 := Reps.mono s1 _ _ r1
  have t2 := Reps.mono s1 _ _ r2
  refine ⟨fun i d hd => ?_, ⟨vs, ws, p1, p2, ?_⟩⟩
  · obtain ⟨x, y, hx, hy, rfl⟩ := zip_get hd
    obtain ⟨v, hv, rv⟩ := t1.get hx
    obtain ⟨w, hw, rw'⟩ := t2.get hy
    refine ⟨⟨vs, ws, v, w, p1, p2, hv, hw⟩, fun z H2 yy => ?_⟩
    obtain ⟨T, x', y', rfl, hT, rfl, e1, e2⟩ := yy
    have e1 := e1 vs p1
    have e2 := e2 ws p2
    rw [hv] at e1
    rw [hw] at e2
    cases e1
    cases e2
    exact ⟨_, Ext.alloc s2 hT, rep_pair (s2.free hT) rv rw'⟩
  · have l1 := t1.length
    have l2 := t2.length
    rw [List.length_zipWith, l1, l2]
    omega
theorem jd_zipT {K : PySem.W.Frag} {F : Hp} {a b : Addr} {xs ys : List D} {vs ws : List V} (q1 : SqT K F a vs) (r1 : Reps K F xs vs) (q2 : SqT K F b ws) (r2 : Reps K F ys ws) : JD K F (RZ.ItzT K a b) (List.zipWith (fun x y => .tup [x, y]) xs ys) := fun H1 F1 s1 s2 => by
  have p1 : SqT K H1 a vs := s2.sqT (s1.sqT q1)
  have p2 : SqT K H1 b ws := s2.sqT (s1.sqT q2)
  have t1 := Reps.mono s1 _ _ r1
  have t2 := Reps.mono s1 _ _ r2
  refine ⟨fun i d hd => ?_, ⟨vs, ws, p1, p2, ?_⟩⟩
  · obtain ⟨x, y, hx, hy, rfl⟩ := zip_get hd
    obtain ⟨v, hv, rv⟩ := t1.get hx
    obtain ⟨w, hw, rw'⟩ := t2.get hy
    refine ⟨⟨vs, ws, v, w, p1, p2, hv, hw⟩, fun z H2 yy => ?_⟩
    obtain ⟨T, x', y', rfl, hT, rfl, e1, e2⟩ := yy
    have e1 := e1 vs p1
    have e2 := e2 ws p2
    rw [hv] at e1
    rw [hw] at e2
    cases e1
    cases e2
    exact ⟨_, Ext.alloc s2 hT, rep_pair (s2.free hT) rv rw'⟩
  · have l1 := t1.length
    have l2 := t2.length
    rw [List.length_zipWith, l1, l2]
    omega
theorem id_zip {a b : Expr} {tpos : Pos} {elts : List Expr} {kk : Nat} (hm : X.mg "zip" = none) (ha : PA X [a, b] (tA X.K W gs)) (hg : Gl X "zip" := by rfl) (hs : starEach [a, b] X.env = (false, eval a X.env) :: starEach [b] X.env := by rfl) (hpl : (backTo pos (starEach [b] X.env)).any (·.1) = false := by rfl) :
    PI X (.Tuple elts kk tpos) (.Call (.Name "zip" p) [a, b] [] pos) (tI X.K W (iArgs kZip gs)) := by
  refine (RZ.pi_zipA hg hm ha hs hpl).weak fun σ H R h => ac_args h fun F H1 ds vs xs s r e k => ?_
  unfold kZip at e
  split at e
  · cases e
    obtain ⟨v, t, rfl, ⟨a, vs, rfl, q1, r1⟩, w, t2, rfl, ⟨b, ws, rfl, q2, r2⟩, rfl⟩ := r
    exact ⟨a, b, vs, ws, rfl, .inl ⟨s.sqL (SqL.of q1), s.sqL (SqL.of q2), k _ (jd_zipL (SqL.of q1) r1 (SqL.of q2) r2)⟩⟩
  · cases e
    obtain ⟨v, t, rfl, ⟨a, vs, rfl, q1, r1⟩, w, t2, rfl, ⟨b, ws, rfl, q2, r2⟩, rfl⟩ := r
    exact ⟨a, b, vs, ws, rfl, .inr ⟨s.sqT q1, s.sqT q2, k _ (jd_zipT q1 r1 q2 r2)⟩⟩
  · cases e
/-- enumerate of a list -/
def enumD : Nat → List D → List D
  | _, [] => []
  | i, d :: ds => .tup [.int (i : Int), d] :: enumD (i + 1) ds
theorem enumD_length : ∀ (i : Nat) (ds : List D), (enumD i ds).length = ds.length
  | _, [] => rfl
  | i, d :: ds => by simp [enumD, enumD_length (i + 1) ds]
theorem enumD_get : ∀ (i : Nat) (ds : List D) (j : Nat) (e : D), (enumD i ds)[j]? = some e → ∃ d, ds[j]? = some d ∧ e = .tup [.int ((i + j : Nat) : Int), d]
  | i, [], j, e, h => by simp [enumD] at h
  | i, d :: ds, 0, e, h => by simp [enumD] at h; exact ⟨d, rfl, h.symm⟩
  | i, d :: ds, j + 1, e, h => by
    obtain ⟨d', a, b⟩ := enumD_get (i + 1) ds j e (by simpa [enumD] using h)
    exact ⟨d', by simpa using a, by rw [b]; congr 4; omega⟩
def kEnum : List D → Option (List D)
  | [.lst xs] => some (enumD 0 xs)
  | _ => none
theorem jd_enum {K : PySem.W.Frag} {F : Hp} {a : Addr} {xs : List D} {vs : List V} (q1 : SqL K F a vs) (r1 : Reps K F xs vs) : JD K F (Ite K a) (enumD 0 xs) := fun H1 F1 s1 s2 => by
  have p1 : SqL K H1 a vs := s2.sqL (s1.sqL q1)
  have t1 := Reps.mono s1 _ _ r1
  refine ⟨fun i d hd => ?_, ⟨vs, p1, by rw [t1.length, enumD_length]; exact Nat.le_refl _⟩⟩
  obtain ⟨x, hx, rfl⟩ := enumD_get 0 xs i d hd
  obtain ⟨v, hv, rv⟩ := t1.get hx
  refine ⟨⟨vs, v, p1, hv⟩, fun z H2 yy => ?_⟩
  obtain ⟨T, x', rfl, hT, rfl, e1⟩ := yy
  have e1 := e1 vs p1
  rw [hv] at e1
  cases e1
  refine ⟨_, Ext.alloc s2 hT, ?_⟩
  have := rep_pair (K := K) (d := .int ((0 + i : Nat) : Int)) (x := .int ((i : Nat) : Int)) (s2.free hT) (by show V.int _ = V.int _; simp) rv
  exact this
theorem id_enum {a : Expr} {tpos : Pos} {elts : List Expr} {kk : Nat} (hm : X.mg "enumerate" = none) (ha : PA X [a] (tA X.K W gs)) (hg : Gl X "enumerate" := by rfl)
    (h2 : PI X (.Tuple elts kk tpos) (.Call (.Name "enumerate" p) [a] [] pos) (iEnum X.K (tA X.K W gs)) := by exact pi_enum (by assumption) (by assumption) (by assumption)) :
    PI X (.Tuple elts kk tpos) (.Call (.Name "enumerate" p) [a] [] pos) (tI X.K W (iArgs kEnum gs)) := by
  refine h2.weak fun σ H R h => ac_args h fun F H1 ds vs xs s r e k => ?_
  unfold kEnum at e
  split at e
  · cases e
    obtain ⟨v, t, rfl, ⟨a, vs, rfl, q1, r1⟩, rfl⟩ := r
    exact ⟨a, vs, rfl, s.sqL (SqL.of q1), k _ (jd_enum (SqL.of q1) r1)⟩
  · cases e
end
end DL

/-! Defs whose bodies may ask that nothing is being shown around them (repr wants that). -/
namespace DL
open PySem PySem.Spec L2 PyProof.Rows
variable [HasW]

/-- room for k calls, and no list or dict is being shown around -/
structure RoomG (k : Nat) (A : Around) : Prop where
  room : Room k A
  quiet : A.guards = some []
theorem RoomG.mono {j k : Nat} {A : Around} (r : RoomG k A) (h : j ≤ k) : RoomG j A := ⟨r.room.mono h, r.quiet⟩
theorem RoomG.deeper {k : Nat} {A : Around} (r : RoomG (k + 1) A) (env : PySem.Env) : RoomG k (A.deeper env) := ⟨r.room.deeper env, r.quiet⟩
theorem roomG_caller {k : Nat} (h : Room k callerA) : RoomG k callerA := ⟨h, rfl⟩

structure FnG (P : Program) (w : World) (K : PySem.W.Frag) (mg : Str → Option Value) (base : Heap) (k : Nat) (f : Addr) (fd : FuncData) (ps : List Str) (sp : Sp) : Prop where
  len : ∀ vs H Q E, sp vs H Q E → vs.length = ps.length
  run : ∀ (A : Around) (up : List PySem.Env) (s : Shared) (H : Hp) (args : Args) (us : List Value) (vs : List V) (Q : VK) (E : XK), RoomG k A → Env0 P w K mg base A up s H → BindsTo s fd args (ps.zip us) → Vals vs us → sp vs H Q E →
    codeAny (model P w) A (.call (.ref f) args) (CR (L2.CX P w) up P w H s Q E) s
section
variable {P : Program} {w : World} {K : PySem.W.Frag} {mg : Str → Option Value} {base : Heap}
theorem FnG.mono {j k : Nat} {f : Addr} {fd : FuncData} {ps : List Str} {sp : Sp} (F : FnG P w K mg base j f fd ps sp) (h : j ≤ k) : FnG P w K mg base k f fd ps sp :=
  ⟨F.len, fun A up s H args us vs Q E r => F.run A up s H args us vs Q E (r.mono h)⟩
theorem FnG.weak {k : Nat} {f : Addr} {fd : FuncData} {ps : List Str} {sp sp' : Sp} (F : FnG P w K mg base k f fd ps sp) (h : ∀ vs H Q E, sp' vs H Q E → sp vs H Q E) : FnG P w K mg base k f fd ps sp' :=
  ⟨fun vs H Q E q => F.len vs H Q E (h vs H Q E q), fun A up s H args us vs Q E r e b v q => F.run A up s H args us vs Q E r e b v (h vs H Q E q)⟩
/-- a def by its body -/
theorem fnG_of {x qual : Str} {st : Stmt} {f : Addr} {fd : FuncData} {N ps : List Str} {k : Nat} {sp : Sp} (F : Fun K x qual st f fd) (S : FnScope N ps (defScope st)) (len : ∀ vs H Q E, sp vs H Q E → vs.length = ps.length)
    (body : ∀ (cdv : Value) (A : Around) (up : List PySem.Env) (s : Shared) (H : Hp) (vs : List V) (Q : VK) (E : XK), RoomG k (A.deeper (envOfC qual (defScope st) s.heap.objs.size f cdv)) → sp vs H Q E →
      ∃ t, PSs (cxOf (L2.CX P w) P w K mg base N qual (defScope st) f cdv A up s H E) (defBody st) t ∧ t { nx := fun _ H' => Q .non H', rt := Q } (start N vs) H) :
    FnG P w K mg base (k + 1) f fd ps sp := by
  obtain ⟨oc, od, kV, doc, pm, an, cdv, ct, osl, rfl, look, code⟩ := F.ex
  constructor
  · exact len
  intro A up s H args us vs Q E room e0 bind rv want
  have n := len vs H Q E want
  have same : ∀ b o, base.get? b = some o → s.heap.get? b = some o := fun b o z => (e0.bs b o z).1
  have inK : K.In s.heap := e0.mod.kin.keeps same
  have noLim : s.heap.NoLimit := e0.mod.nolimit.keeps same
  have kinds : ∀ y ∈ ps.zip us, (defScope st).names.lookup y.1 = some .local ∨ ((defScope st).names.lookup y.1 = some .cell ∧ ((cellsFrom (s.heap.objs.size + 1) (defScope st).names []).lookup y.1).isSome = true) := by
    rintro ⟨nm, v⟩ hy
    rcases S.par nm (List.of_mem_zip hy).1 with q | q
    · left; exact q
    · right; exact ⟨q, PySem.W.cellsFrom_some _ _ _ (.inl q)⟩
  refine codeAny_call_function room.room.depth (inK _ _ look) rfl S.co S.gen rfl (PySem.W.codeRec_of inK code) (bind _ _ _ _ ?_)
  refine wpAny_newFunctionEnv_cells S.kind kinds ?_
  rintro env rfl s1 x
  constructor
  · exact noLim.keeps x.toInCall.keep
  refine codeAny_func ?_
  obtain ⟨t, ht, q0⟩ := body cdv A up s H vs Q E (room.deeper _) want
  have I := inv_start (CX := L2.CX P w) (E := E) S room.room.hd e0 n rv x
  refine wpAny_mono (ht.run [] s1 _ H _ I q0) ?_ (fun e s' z => z)
  intro fl s' z
  cases fl with
  | brk => obtain ⟨_, _, _, z⟩ := z; exact z.elim
  | cont => obtain ⟨_, _, _, z⟩ := z; exact z.elim
  | next => obtain ⟨σ', H', J, z⟩ := z; exact ⟨.non, H', J.os, J.bare, J.base, J.hok, rfl, z⟩
  | ret u => obtain ⟨v, σ', H', J, r, z⟩ := z; exact ⟨v, H', J.os, J.bare, J.base, J.hok, r, z⟩
end
section
variable {X : Cx} {W : WX} {e : Expr} {es : List Expr} {gs : Av} {pos p : Pos} {k : Nat} {f : Addr} {fd : FuncData} {ps : List Str} {ms : List Bool} {den : List D → DR} {x : Str}
theorem FnG.call {sp : Sp} {E : XK} {pins : List (Addr × Obj)} {σ : L2.St} {H : Hp} {s : Shared} {Q : VK} {us : List Value} {vs : List V} (F : FnG X.prog X.w X.K X.mg X.base k f fd ps sp) (hr : RoomG k X.A) (hb : Binds X.K fd ps []) (hx : PassesAt (L2.CX X.prog X.w) X σ E)
    (I : Inv X pins σ H s) (r : Vals vs us) (h : sp vs H Q E) : wpAny (model X.prog X.w) X.A (PySem.call (.ref f) us) (EP X pins σ Q) X.xe s := by
  have n : us.length = ps.length := r.length.symm.trans (F.len vs H Q E h)
  have b := hb s us I.kIn ((List.append_nil us).symm ▸ n)
  rw [List.append_nil us] at b
  refine wpAny_call (codeAny_mono (F.run X.A X.stack s H ⟨us, []⟩ us vs Q E hr I.env0 b r h) ?_)
  intro res s' z
  match res, z with
  | .error e, z => exact hx pins H s e s' I z
  | .ok (.ret u), z => exact I.after z
  | .ok .next, z => exact False.elim z
  | .ok .brk, z => exact False.elim z
  | .ok .cont, z => exact False.elim z
/-- f(..) -/
theorem ed_callG (hd : ∀ ds r outs, den ds = .ok r outs → ∀ i, r ≠ .loc i) (F : FnG X.prog X.w X.K X.mg X.base k f fd ps (spD X.K ms den)) (hr : RoomG k X.A) (hm : X.mg x = some (.ref f)) (hk : PySem.W.keepIn X.K (.ref f) = true) (hb : Binds X.K fd ps []) (tk : Takes X W)
    (ha : PA X (e :: es) (tA X.K W gs)) (hg : Gl X x := by rfl) (hdb : (x == ("__debug__" : Str)) = false := by decide) (he : starEach (e :: es) X.env = (false, eval e X.env) :: starEach es X.env := by rfl) (hpl : (backTo pos (starEach es X.env)).any (·.1) = false := by rfl) :
    PE X (.Call (.Name x p) (e :: es) [] pos) (tE X.K W (dCall ms den gs)) := by
  constructor
  intro pins s σ H Q I h
  refine wpAny_Call_Name_kw (ld_glob I hg hm ?_ hdb)
  refine PySem.W.callWith_K (h₀ := X.base) I.ok.mod.kin hk ?_ he hpl
  refine thn (ha.run pos pins s σ H _ I (ec_call hd h)) ?_
  rintro us s1 ⟨vs, H1, I1, r, q⟩
  exact ⟨I1.kIn, F.call hr hb (passAt tk σ) I1 r q⟩
end
section
variable {P : Program} {w : World} {K : PySem.W.Frag} {mg : Str → Option Value} {base : Heap}
theorem def_okG {x qual : Str} {st : Stmt} {f : Addr} {fd : FuncData} {N ps : List Str} {k : Nat} {ms : List Bool} {g : Sv} (F : Fun K x qual st f fd) (S : FnScope N ps (defScope st)) (hm : ms.length = ps.length)
    (hb : ∀ (cdv : Value) (A : Around) (outer : List PySem.Env) (s : Shared) (H : Hp) (E : XK), RoomG k (A.deeper (envOfC qual (defScope st) s.heap.objs.size f cdv)) →
      PSs (cxOf (L2.CX P w) P w K mg base N qual (defScope st) f cdv A outer s H E) (defBody st) (tS K (fun cls d _ H' => E cls d H') g)) :
    FnG P w K mg base (k + 1) f fd ps (spD K ms (dDef N.length ms g)) := by
  refine fnG_of F S (fun vs H Q E h => (spD_len vs H Q E h).trans hm) (fun cdv A outer s H vs Q E hr h => ⟨_, hb cdv A outer s H E hr, ?_⟩)
  have hn := spD_len vs H Q E h
  obtain ⟨α, F0, G, ds, hl, ft, h⟩ := h
  refine ⟨α, _, F0, G, ft.start hl hn, ?_⟩
  unfold dDef at h
  rw [if_pos hl] at h
  cases e1 : g (argEnv ms ds ++ List.replicate (N.length - ms.length) .non) with
  | no => simp [e1, DC] at h
  | bk ρ => simp [e1, DC] at h
  | ct ρ => simp [e1, DC] at h
  | nx ρ =>
    simp only [e1] at h
    cases e2 : outsOf ms ds ρ with
    | none => simp [e2, DC] at h
    | some os =>
      simp only [e2] at h
      exact fun σ' H' F' g1 f1 => h .non H' F' g1 (ft.exit e2 hn g1 f1).1 (ft.exit e2 hn g1 f1).2 rfl
  | ex x ρ =>
    simp only [e1] at h
    cases e2 : outsOf ms ds ρ with
    | none => simp [e2, DC] at h
    | some os =>
      simp only [e2] at h
      exact fun c d σ' H' F' g1 f1 x1 => h c d H' F' g1 (ft.exit e2 hn g1 f1).1 (ft.exit e2 hn g1 f1).2 x1
  | rt r ρ =>
    simp only [e1] at h
    cases r with
    | loc i => simp [DC] at h
    | val d =>
      simp only at h
      cases e2 : outsOf ms ds ρ with
      | none => simp [e2, DC] at h
      | some os =>
        simp only [e2] at h
        exact fun v σ' H' F' g1 f1 r1 => h v H' F' g1 (ft.exit e2 hn g1 f1).1 (ft.exit e2 hn g1 f1).2 r1
    | new d =>
      simp only at h
      cases e2 : outsOf ms ds ρ with
      | none => simp [e2, DC] at h
      | some os =>
        simp only [e2] at h
        refine fun v σ' H' F' g1 f1 r1 => h v H' F' g1 (ft.exit e2 hn g1 f1).1 (ft.exit e2 hn g1 f1).2 ?_
        obtain ⟨a, rfl, fa, ga, c, sp⟩ := r1
        refine ⟨a, rfl, fa, ga, c, fun j s q o z => ?_⟩
        obtain ⟨l1, l2, k⟩ := outsOf_env e2
        rcases k q with ⟨d', rfl, hmm, hr'⟩ | ⟨d', rfl, _⟩
        · obtain ⟨_, _, q0⟩ := argEnv_at l2 hmm
          obtain ⟨x0, hx0, so0⟩ := ft.slot j _ q0
          obtain ⟨x1, hx1, so1⟩ := f1.slot j _ hr'
          have e3 : x0 = some (V.ref (α j)) := so0.1
          have e4 : x1 = some (V.ref (α j)) := so1.1
          rw [hx0, e3] at z
          cases z
          exact sp j _ hr' rfl (by rw [hx1, e4])
        · cases o
/-- no exception comes out where none is wanted -/
theorem cx_none {outer : List PySem.Env} {H : Hp} {s : Shared} {e : Value} {s' : Shared} (h : L2.CX P w outer H s (fun _ _ _ => False) e s') : False := by
  obtain ⟨_, _, _, _, _, _, _, _, _, _, _, _, z⟩ := h
  exact z
/-- THE HEAD of a law, at the heap behind the program's top, H telling of the script alone -/
theorem head_at {mb : Str → Option Value} {k : Nat} {fa a : Addr} {fd : FuncData} {x : Str} {sp : Sp} {s : Shared} {vs : List Value} {H : Hp}
    (inK : K.In s.heap) (nsM : s.heap.Ns mainGlobals mg) (nsB : s.heap.Ns builtinsNs mb) (boot : ∀ x : Str, x ≠ "__name__" → mb x = bootBuiltins x) (lim : s.heap.NoLimit) (gens : s.gens = #[])
    (scr : s.heap.get? a = some { cls := .type "list", data := .seq vs.toArray }) (r : Room k callerA)
    (F : ∀ base : Heap, K.In base → base.Ns mainGlobals mg → FnG P w K mg base k fa fd [x] sp) (bind : ∀ (s : Shared) (u : Value), BindsTo s fd ⟨[u], []⟩ [(x, u)])
    (law : sp [.ref a] H (fun v _ => v = .bl true) fun _ _ _ => False) (only : Only H) (ok : HOk P w H s.heap) (one : ∀ b, H b ≠ none → b = a) (own : H a ≠ none → K.lookup a = none) :
    codeAny (model P w) callerA (.call (.ref fa) ⟨[.ref a], []⟩) (fun res s' => res = .ok (.ret (.bool true)) ∧ OldK s.heap s'.heap ∧ s'.os = s.os ∧ AllBare s'.gens) s := by
  have free : ∀ {b : Addr} {o : Obj}, s.heap.get? b = some o → (b = a → H a = none) → H b = none := fun {b o} _ n => by
    by_cases q : H b = none
    · exact q
    · have := one b q
      subst this
      exact n rfl
  have dic : ∀ {b : Addr} {m : Str → Option Value}, s.heap.Ns b m → (hidT s.heap H).Ns b m := fun {b m} ⟨o, es, ep, e, d, t⟩ => by
    refine ⟨o, es, ep, hidT_get e ?_, d, t⟩
    by_cases q : H b = none
    · exact q
    · have := one b q
      subst this
      rw [scr] at e
      cases e
      cases d
  have inB : K.In (hidT s.heap H) := fun b o e => hidT_get (inK b o e) <| by
    by_cases q : H b = none
    · exact q
    · have := one b q
      subst this
      have := own q
      rw [this] at e
      cases e
  have md : Mod K mg (hidT s.heap H) := by
    obtain ⟨mc, l1, l2⟩ := lim
    exact ⟨inB, dic nsM, ⟨mb, dic nsB, boot⟩, ⟨mc, dic l1, l2⟩⟩
  have bare0 : AllBare s.gens := .of_eq gens
  have e0 : Env0 P w K mg (hidT s.heap H) callerA [] s H := by
    refine ⟨rfl, md, fun b o e => of_hidT e, Nat.le_of_eq (hidT_size _ _), trivial, ?_, ok, bare0⟩
    intro b z
    have z' : b ∈ ([] : List Addr) := z
    cases z'
  have rel : Vals [V.ref a] [Value.ref a] := .cons rfl .nil
  refine codeAny_mono ((F _ inB (dic nsM)).run callerA [] s H ⟨[.ref a], []⟩ [.ref a] [.ref a] _ _ (roomG_caller r) e0 (bind s (.ref a)) rel law) ?_
  intro res s' z
  match res, z with
  | .error e, z => exact (cx_none z).elim
  | .ok .next, z => exact False.elim z
  | .ok .brk, z => exact False.elim z
  | .ok .cont, z => exact False.elim z
  | .ok (.ret u), ⟨v, H', os, bare, un, ok', rv, q⟩ =>
    obtain rfl : v = V.bl true := q
    obtain rfl : u = Value.bool true := rv
    refine ⟨rfl, OldK.of_keep ?_, os, bare⟩
    intro b o e
    rcases only b with z | ⟨ob, xs, z⟩
    · refine un.keep b o e z ?_ ?_
      · intro m
        have m' : b ∈ ([] : List Addr) := m
        cases m'
      · simp
    · have was := (ok b _ z).1
      have is := (ok' b _ (un.frzs b ob _ z)).1
      rw [e] at was
      cases was
      exact is
theorem head_G {mb : Str → Option Value} {k : Nat} {fa a : Addr} {fd : FuncData} {x : Str} {sp : Sp} {s : Shared} {vs : List Value} {ns : List Int}
    (inK : K.In s.heap) (nsM : s.heap.Ns mainGlobals mg) (nsB : s.heap.Ns builtinsNs mb) (boot : ∀ x : Str, x ≠ "__name__" → mb x = bootBuiltins x) (lim : s.heap.NoLimit) (gens : s.gens = #[])
    (scr : s.heap.get? a = some { cls := .type "list", data := .seq vs.toArray }) (hints : IntsAre vs ns) (len : ns.length ≤ sizeLine) (r : Room k callerA)
    (F : ∀ base : Heap, K.In base → base.Ns mainGlobals mg → FnG P w K mg base k fa fd [x] sp) (bind : ∀ (s : Shared) (u : Value), BindsTo s fd ⟨[u], []⟩ [(x, u)])
    (law : ∀ H : Hp, Only H → SqL K H a (ns.map V.int) → sp [.ref a] H (fun v _ => v = .bl true) fun _ _ _ => False) :
    codeAny (model P w) callerA (.call (.ref fa) ⟨[.ref a], []⟩) (fun res s' => res = .ok (.ret (.bool true)) ∧ OldK s.heap s'.heap ∧ s'.os = s.os ∧ AllBare s'.gens) s := by
  have rv := vals_ints hints
  have n : vs.length = ns.length := hints.length
  by_cases hk : K.lookup a = none
  · -- a frozen list, told to the heap
    let o : Obj := { cls := .type "list", data := .seq vs.toArray }
    let H : Hp := fun b => if b = a then some (.frz o (.lst (ns.map V.int))) else none
    have ata : H a = some (.frz o (.lst (ns.map V.int))) := if_pos rfl
    have off : ∀ b, b ≠ a → H b = none := fun b q => if_neg q
    have on : Only H := fun b => by
      by_cases q : b = a
      · subst q; exact .inr ⟨o, _, ata⟩
      · exact .inl (off b q)
    refine head_at inK nsM nsB boot lim gens scr r F bind (law H on (.inl (.inr ⟨o, ata⟩))) on ?_ ?_ ?_
    · intro b u z
      by_cases q : b = a
      · subst q
        rw [ata] at z
        cases z
        refine ⟨scr, ?_, vs, _, rv, scr⟩
        rw [List.length_map]
        exact len
      · rw [off b q] at z
        cases z
    · intro b z
      by_cases q : b = a
      · exact q
      · exact absurd (off b q) z
    · intro _
      exact hk
  · -- the script is one of the module's own objects
    obtain ⟨o, ho⟩ := Option.ne_none_iff_exists'.mp hk
    have e := inK a o ho
    rw [scr] at e
    cases e
    let H : Hp := fun _ => none
    have no : ∀ b, ¬ (H b ≠ none) := fun b z => z rfl
    have on : Only H := fun _ => .inl rfl
    refine head_at inK nsM nsB boot lim gens scr r F bind (law H on (.inr ⟨_, vs.toArray, _, ho, rfl, rfl, rfl, ?_, ?_⟩)) on ?_ ?_ ?_
    · rw [List.size_toArray, n]
      exact len
    · simpa using rv
    · intro b u z
      have z' : (none : Option HO) = some u := z
      cases z'
    · exact fun b z => (no b z).elim
    · exact fun z => (no a z).elim
/-- what is asked of a law's def: at every script it computes True -/
theorem sp_of_den {den : List D → DR} {H : Hp} {a : Addr} {ns : List Int} (only : Only H) (S : SqL K H a (ns.map V.int)) (h : ∃ outs, den [.scr (ns.map .int)] = .ok (.val (.bl true)) outs) :
    spD K [false] den [.ref a] H (fun v _ => v = .bl true) fun _ _ _ => False := by
  obtain ⟨outs, h⟩ := h
  refine ⟨fun _ => a, H, fun _ => none, [.scr (ns.map .int)], rfl, ⟨Sub.refl _, fun _ _ e => (nomatch e), rfl, ?_, ?_⟩, ?_⟩
  · intro i s q
    match i with
    | 0 =>
      have q' : Slot.val (.scr (ns.map .int)) = s := by simpa [argEnv] using q
      subst q'
      exact ⟨some (.ref a), rfl, .ref a, rfl, a, _, rfl, S, Reps.mk_ints ns⟩
    | i + 1 => simp [argEnv] at q
  · intro i j s t b q1 q2 o1
    match i with
    | 0 =>
      have q' : Slot.val (.scr (ns.map .int)) = s := by simpa [argEnv] using q1
      subst q'
      cases o1
    | i + 1 => simp [argEnv] at q1
  · rw [h]
    intro v H' F' g hl f r
    exact r
end
section
open PySem.W
omit [HasW] in
/-- THE END: the goal that the kit's head leaves, from what the law's def computes -/
theorem walk_G {l : PySem.W.OpenLaw} {n k : Nat} {q : Program} {loose : List Str} {XP : (Str → Option Value) → Heap → Prop} {YP : World → Heap → Prop} {d : DefRec} {K : Params → PySem.W.Frag} {den : List D → DR} {x : Str}
    (hn : l.most = some n) (hn2 : n ≤ sizeLine) (hdf : d.params.defaults = []) (hr : Room k callerA) (hY : ∀ (w : World) (h : Heap), YP w h → (K w.params).In h)
    (F : ∀ (w : World) (mg : Str → Option Value) (fa : Addr) (h : Heap), (K w.params).In h → h.Ns mainGlobals mg → mg d.name = some (.ref fa) →
      ∃ fd : FuncData, (∀ (s : Shared) (u : Value), BindsTo s fd ⟨[u], []⟩ [(x, u)]) ∧ ∀ base : Heap, (K w.params).In base → base.Ns mainGlobals mg → FnG l.prog w (K w.params) mg base k fa fd [x] (@spD ⟨w⟩ (K w.params) [false] den))
    (law : ∀ ns : List Int, ns.length ≤ n → ∃ outs, den [.scr (ns.map .int)] = .ok (.val (.bl true)) outs) :
    PySem.W.WalkO q loose XP YP l.row.toRowW d [] (fun f vs => PySem.call f vs) := by
  refine Att.attach_call hn hdf ?_
  intro w s₀ s₁ mg mb fa o pm cd doc a vs ns G Y ho hd hcd hmg hobj hints hlen hg
  letI : HasW := ⟨w⟩
  have inK := hY w _ Y
  obtain ⟨fd, hb, hF⟩ := F w mg fa _ inK G.T.g hmg
  exact head_G inK G.T.g G.T.b G.T.builtins G.T.nolimit hg hobj hints (Nat.le_trans hlen hn2) hr hF hb fun H on S => sp_of_den on S (law ns hlen)
end
end DL

/-! Operators, built-in calls, slices, subscripts by what they compute over plain data. -/
namespace DL
open PySem PySem.Spec L2
variable [HasW]

/-! ### data as the kit's data -/
mutual
def py : D → Option PyData
  | .non => some .none
  | .bl b => some (.bool b)
  | .int i => some (.int i)
  | .str x => some (.str x)
  | .tup xs => (pys xs).map .tuple
  | .lst xs => (pys xs).map .list
  | .scr xs => (pys xs).map .list
  | .dic _ _ => none
  | .dct _ _ => none
  | .raw _ => none
def pys : List D → Option (List PyData)
  | [] => some []
  | x :: xs => match py x, pys xs with
    | some p, some ps => some (p :: ps)
    | _, _ => none
end
section
variable {K : PySem.W.Frag} {F H : Hp}
mutual
theorem Rep.dp : ∀ (d : D) (v : V) (p : PyData), Rep K F d v → py d = some p → Dp K F v p
  | .non, _, _, h, e => by cases h; cases e; exact .non
  | .bl b, _, _, h, e => by cases h; cases e; exact .bl b
  | .int i, _, _, h, e => by cases h; cases e; exact .int i
  | .str x, _, _, h, e => by cases h; cases e; exact .str x
  | .dic _ _, _, _, h, e => by cases e
  | .dct _ _, _, _, h, e => by cases e
  | .raw _, _, _, h, e => by cases e
  | .tup xs, v, p, h, e => by
    obtain ⟨a, vs, rfl, q, r⟩ := h
    obtain ⟨ps, e1, rfl⟩ := Option.map_eq_some_iff.mp (show (pys xs).map PyData.tuple = some p from e)
    exact .tup q (Reps.dp xs vs ps r e1)
  | .lst xs, v, p, h, e => by
    obtain ⟨a, vs, rfl, q, r⟩ := h
    obtain ⟨ps, e1, rfl⟩ := Option.map_eq_some_iff.mp (show (pys xs).map PyData.list = some p from e)
    exact .lst (SqL.of q) (Reps.dp xs vs ps r e1)
  | .scr xs, v, p, h, e => by
    obtain ⟨a, vs, rfl, q, r⟩ := h
    obtain ⟨ps, e1, rfl⟩ := Option.map_eq_some_iff.mp (show (pys xs).map PyData.list = some p from e)
    exact .lst q (Reps.dp xs vs ps r e1)
theorem Reps.dp : ∀ (ds : List D) (vs : List V) (ps : List PyData), Reps K F ds vs → pys ds = some ps → DpAll K F vs ps
  | [], _, _, h, e => by cases h; cases e; exact .nil
  | d :: ds, _, ps, h, e => by
    obtain ⟨v, r, rfl, a, b⟩ := h
    have e' : (match py d, pys ds with | some p, some ps => some (p :: ps) | _, _ => none) = some ps := e
    cases e1 : py d with
    | none => rw [e1] at e'; cases e'
    | some p =>
      cases e2 : pys ds with
      | none => rw [e1, e2] at e'; cases e'
      | some qs =>
        rw [e1, e2] at e'
        cases e'
        exact .cons (Rep.dp d v p a e1) (Reps.dp ds r qs b e2)
end
theorem View.dp (s : Sub F H) : ∀ {d : D} {v : V} {p : PyData}, View K F H d v → py d = some p → Dp K H v p
  | .non, _, _, h, e => by cases h; cases e; exact .non
  | .bl b, _, _, h, e => by cases h; cases e; exact .bl b
  | .int i, _, _, h, e => by cases h; cases e; exact .int i
  | .str x, _, _, h, e => by cases h; cases e; exact .str x
  | .dic _ _, _, _, h, e => by cases e
  | .dct _ _, _, _, h, e => by cases e
  | .raw _, _, _, h, e => by cases e
  | .tup xs, v, p, h, e => by
    obtain ⟨a, vs, rfl, q, r⟩ := h
    obtain ⟨ps, e1, rfl⟩ := Option.map_eq_some_iff.mp (show (pys xs).map PyData.tuple = some p from e)
    exact .tup (s.sqT q) (Reps.dp xs vs ps (Reps.mono s _ _ r) e1)
  | .lst xs, v, p, h, e => by
    obtain ⟨a, vs, rfl, q, r⟩ := h
    obtain ⟨ps, e1, rfl⟩ := Option.map_eq_some_iff.mp (show (pys xs).map PyData.list = some p from e)
    exact .lst (SqL.of q) (Reps.dp xs vs ps (Reps.mono s _ _ r) e1)
  | .scr xs, v, p, h, e => by
    obtain ⟨a, vs, rfl, q, r⟩ := h
    obtain ⟨ps, e1, rfl⟩ := Option.map_eq_some_iff.mp (show (pys xs).map PyData.list = some p from e)
    exact .lst (s.sqL q) (Reps.dp xs vs ps (Reps.mono s _ _ r) e1)
end

/-! ### comparisons -/
section
variable {X : Cx} {W : WX} {a b : Expr} {op : CmpOp} {g ga gb : Ev} {pos : Pos}
theorem _root_.L2.PC.weak {X : Cx} {op : CmpOp} {a b : Expr} {t t' : TE} (h : PC X op a b t) (w : ∀ σ H Q, t' σ H Q → t σ H Q) : PC X op a b t' := ⟨fun pins s σ H Q I q => h.run pins s σ H Q I (w σ H Q q)⟩
theorem pc_opR {r : R2} {ta tb : TE} (ho : OpR X (compareOp op) r) (ha : PE X a ta) (hb : PE X b tb) : PC X op a b (tOp r ta tb) :=
  ⟨fun pins s σ H Q I h => binT ha hb I h fun v u s2 x y H2 I2 rx ry q => ho pins s2 σ H2 x y v u Q I2 rx ry q⟩
theorem cd_op {r : R2} {f : D → D → Option RV} (ho : OpR X (compareOp op) r) (o : Op2 X.K r f) (ha : PE X a (tE X.K W ga)) (hb : PE X b (tE X.K W gb)) : PC X op a b (tE X.K W (dOp2 f ga gb)) :=
  (pc_opR ho ha hb).weak fun _ _ _ h => ec_op2 o h
/-- of two rules the one that fits -/
theorem cd_or {f f1 f2 : D → D → Option RV} (h1 : PC X op a b (tE X.K W (dOp2 f1 ga gb))) (h2 : PC X op a b (tE X.K W (dOp2 f2 ga gb))) (hf : ∀ x y, f x y = f1 x y ∨ f x y = f2 x y) : PC X op a b (tE X.K W (dOp2 f ga gb)) := by
  refine ⟨fun pins s σ H Q I ⟨α, ρ, F, G, ft, h⟩ => ?_⟩
  have key : dOp2 f ga gb ρ = dOp2 f1 ga gb ρ ∨ dOp2 f ga gb ρ = dOp2 f2 ga gb ρ := by
    unfold dOp2
    cases (ga ρ).settle with
    | no => exact .inl rfl
    | ex x ρ1 => exact .inl rfl
    | ok r1 ρ1 =>
      show (gb ρ1).settle.bind _ = (gb ρ1).settle.bind _ ∨ (gb ρ1).settle.bind _ = (gb ρ1).settle.bind _
      cases (gb ρ1).settle with
      | no => exact .inl rfl
      | ex x ρ1 => exact .inl rfl
      | ok r2 ρ2 =>
        show (match peek r1 ρ2, peek r2 ρ2 with | some x, some y => ER.of (f x y) ρ2 | _, _ => ER.no) = (match peek r1 ρ2, peek r2 ρ2 with | some x, some y => ER.of (f1 x y) ρ2 | _, _ => ER.no) ∨ (match peek r1 ρ2, peek r2 ρ2 with | some x, some y => ER.of (f x y) ρ2 | _, _ => ER.no) = (match peek r1 ρ2, peek r2 ρ2 with | some x, some y => ER.of (f2 x y) ρ2 | _, _ => ER.no)
        cases peek r1 ρ2 with
        | none => exact .inl rfl
        | some x =>
          cases peek r2 ρ2 with
          | none => exact .inl rfl
          | some y =>
            rcases hf x y with e | e
            · left; simp only [e]
            · right; simp only [e]
  rcases key with e | e
  · exact h1.run pins s σ H Q I ⟨α, ρ, F, G, ft, e ▸ h⟩
  · exact h2.run pins s σ H Q I ⟨α, ρ, F, G, ft, e ▸ h⟩
/-- its value is a bool -/
def BoolF (f : D → D → Option RV) : Prop := ∀ x y z, f x y = some z → ∃ c, z = .val (.bl c)
def nmk (op : CmpOp) (b : Expr) : Prop := behindInMarks op b = false
theorem ed_ofC {g : Ev} (h : PC X op a b (tE X.K W g)) (hm : behindInMarks op b = false := by first | exact nomark _ | rfl) : PE X (.Compare a [op] [b] pos) (tE X.K W g) := pe_cmp h hm
theorem td_ofC {f : D → D → Option RV} (h : PC X op a b (tE X.K W (dOp2 f ga gb))) (hf : BoolF f) (hm : behindInMarks op b = false := by first | exact nomark _ | rfl) : PT X (.Compare a [op] [b] pos) (tT X.K W (dOp2 f ga gb)) := by
  refine (pt_cmp h hm).weak fun σ H Q ⟨α, ρ, F, G, ft, h⟩ => ⟨α, ρ, F, G, ft, ?_⟩
  have key : ∀ {e : ER}, (∀ r ρ', e = .ok r ρ' → ∃ c, r = .val (.bl c)) → BC X.K W α σ F G Q e → EC X.K W α σ F G (fun x H' => ∃ c, x = .bl c ∧ Q c H') e := by
    intro e he hb
    cases e with
    | no => exact hb
    | ex x ρ1 => exact hb
    | ok r ρ1 =>
      obtain ⟨c, rfl⟩ := he r ρ1 rfl
      exact fun v H1 F1 g1 f1 r1 => ⟨c, r1, hb H1 F1 g1 f1⟩
  refine key (fun r ρ' q => ?_) h
  unfold dOp2 at q
  cases e1 : (ga ρ).settle with
  | no => simp [e1, ER.bind] at q
  | ex x ρ1 => simp [e1, ER.bind] at q
  | ok r1 ρ1 =>
    simp only [e1, ER.bind] at q
    cases e2 : (gb ρ1).settle with
    | no => simp [e2] at q
    | ex x ρ1 => simp [e2] at q
    | ok r2 ρ2 =>
      simp only [e2] at q
      cases e3 : peek r1 ρ2 with
      | none => simp [e3] at q
      | some x =>
        cases e4 : peek r2 ρ2 with
        | none => simp [e3, e4] at q
        | some y =>
          simp only [e3, e4] at q
          cases e5 : f x y with
          | none => simp [e5, ER.of] at q
          | some z =>
            simp only [e5, ER.of] at q
            obtain ⟨c, hc⟩ := hf x y z e5
            cases q
            exact ⟨c, hc⟩
end

/-! ### int operators -/
def onInts (f : Int → Int → Option RV) : D → D → Option RV
  | .int i, .int j => f i j
  | _, _ => none
theorem onInts_some {f : Int → Int → Option RV} {d e : D} {z : RV} (h : onInts f d e = some z) : ∃ i j, d = .int i ∧ e = .int j ∧ f i j = some z := by
  unfold onInts at h
  split at h
  · exact ⟨_, _, rfl, rfl, h⟩
  · cases h
theorem o2_ints {K : PySem.W.Frag} {g : Int → Int → D} {v : Int → Int → V} (hv : ∀ F i j, Rep K F (g i j) (v i j)) : Op2 K (rI0 v) (onInts fun i j => some (.val (g i j))) := by
  intro F H d e x y z Q s a b h q
  obtain ⟨i, j, rfl, rfl, h⟩ := onInts_some h
  cases h
  cases a
  cases b
  exact ⟨i, j, rfl, rfl, q _ H F (Ext.refl s) (hv F i j)⟩
theorem o2_intsC {K : PySem.W.Frag} {C : Int → Int → Prop} [∀ i j, Decidable (C i j)] {g : Int → Int → D} {v : Int → Int → V} (hv : ∀ F i j, Rep K F (g i j) (v i j)) :
    Op2 K (rI C v) (onInts fun i j => if C i j then some (.val (g i j)) else none) := by
  intro F H d e x y z Q s a b h q
  obtain ⟨i, j, rfl, rfl, h'⟩ := onInts_some h
  have h2 : (if C i j then some (RV.val (g i j)) else none) = some z := h'
  clear h h'
  cases a
  cases b
  by_cases c : C i j
  · rw [if_pos c] at h2
    cases h2
    exact ⟨i, j, rfl, rfl, c, q _ H F (Ext.refl s) (hv F i j)⟩
  · rw [if_neg c] at h2
    cases h2
instance (i j : Int) : Decidable (CMul i j) := inferInstanceAs (Decidable ((-(2 ^ 64) < i ∧ i < 2 ^ 64) ∨ (-(2 ^ 64) < j ∧ j < 2 ^ 64)))
instance (i j : Int) : Decidable (CDiv i j) := inferInstanceAs (Decidable (0 < j ∧ j < 1073741824))
instance (i j : Int) : Decidable (CPow i j) := inferInstanceAs (Decidable (0 ≤ j ∧ j ≤ 1000000 ∧ i.natAbs < 2 ^ 64))
theorem Op2.or {K : PySem.W.Frag} {r r' : R2} {f f1 f2 : D → D → Option RV} (h1 : Op2 K r f1) (h2 : Op2 K r' f2) (hf : ∀ x y, f x y = f1 x y ∨ f x y = f2 x y) : Op2 K (fun x y H Q => r x y H Q ∨ r' x y H Q) f := by
  intro F H d e x y z Q s a b h q
  rcases hf d e with w | w
  · exact .inl (h1 F H d e x y z Q s a b (w ▸ h) q)
  · exact .inr (h2 F H d e x y z Q s a b (w ▸ h) q)
def opSub : D → D → Option RV := onInts fun i j => some (.val (.int (i - j)))
def opFdiv : D → D → Option RV := onInts fun i j => if CDiv i j then some (.val (.int (i / j))) else none
def opMod : D → D → Option RV := onInts fun i j => if 0 < j then some (.val (.int (i % j))) else none
def opPow : D → D → Option RV := onInts fun i j => if CPow i j then some (.val (.int (i ^ j.toNat))) else none
def opMulI : D → D → Option RV := onInts fun i j => if CMul i j then some (.val (.int (i * j))) else none
def opAddI : D → D → Option RV := onInts fun i j => some (.val (.int (i + j)))
def opLt : D → D → Option RV := onInts fun i j => some (.val (.bl (decide (i < j))))
def opLe : D → D → Option RV := onInts fun i j => some (.val (.bl (decide (i ≤ j))))
def opGt : D → D → Option RV := onInts fun i j => some (.val (.bl (decide (j < i))))
def opGe : D → D → Option RV := onInts fun i j => some (.val (.bl (decide (j ≤ i))))
section
variable {K : PySem.W.Frag}
theorem o_sub : Op2 K (rI0 fun i j => .int (i - j)) opSub := o2_ints fun _ _ _ => rfl
theorem o_addI : Op2 K (rI0 fun i j => .int (i + j)) opAddI := o2_ints fun _ _ _ => rfl
theorem o_mulI : Op2 K (rI CMul fun i j => .int (i * j)) opMulI := o2_intsC (C := CMul) fun _ _ _ => rfl
theorem o_fdiv : Op2 K (rI CDiv fun i j => .int (i / j)) opFdiv := o2_intsC (C := CDiv) fun _ _ _ => rfl
theorem o_mod : Op2 K (rI (fun _ j => 0 < j) fun i j => .int (i % j)) opMod := o2_intsC (C := fun _ j => 0 < j) fun _ _ _ => rfl
theorem o_pow : Op2 K (rI CPow fun i j => .int (i ^ j.toNat)) opPow := o2_intsC (C := CPow) fun _ _ _ => rfl
theorem o_lt : Op2 K (rI0 fun i j => .bl (decide (i < j))) opLt := o2_ints fun _ _ _ => rfl
theorem o_le : Op2 K (rI0 fun i j => .bl (decide (i ≤ j))) opLe := o2_ints fun _ _ _ => rfl
theorem o_gt : Op2 K (rI0 fun i j => .bl (decide (j < i))) opGt := o2_ints fun _ _ _ => rfl
theorem o_ge : Op2 K (rI0 fun i j => .bl (decide (j ≤ i))) opGe := o2_ints fun _ _ _ => rfl
theorem bf_ints {g : Int → Int → Bool} : BoolF (onInts fun i j => some (.val (.bl (g i j)))) := fun x y z h => by
  obtain ⟨i, j, rfl, rfl, h⟩ := onInts_some h
  cases h
  exact ⟨_, rfl⟩
end
/-! ### + -/
def opAddS : D → D → Option RV
  | .str a, .str b => if a.length + b.length ≤ sizeLine then some (.val (.str (a ++ b))) else none
  | _, _ => none
def opAddT : D → D → Option RV
  | .tup xs, .tup ys => if xs.length + ys.length ≤ sizeLine then some (.val (.tup (xs ++ ys))) else none
  | _, _ => none
def opAddL : D → D → Option RV
  | .lst xs, .lst ys => if xs.length + ys.length ≤ sizeLine then some (.new (.lst (xs ++ ys))) else none
  | _, _ => none
def opAdd : D → D → Option RV
  | .int i, .int j => some (.val (.int (i + j)))
  | .str a, .str b => if a.length + b.length ≤ sizeLine then some (.val (.str (a ++ b))) else none
  | .tup xs, .tup ys => if xs.length + ys.length ≤ sizeLine then some (.val (.tup (xs ++ ys))) else none
  | .lst xs, .lst ys => if xs.length + ys.length ≤ sizeLine then some (.new (.lst (xs ++ ys))) else none
  | _, _ => none
section
variable {K : PySem.W.Frag}
theorem o_addS : Op2 K (fun x y H Q => ∃ i j, x = .str i ∧ y = .str j ∧ i.length + j.length ≤ sizeLine ∧ Q (.str (i ++ j)) H) opAddS := by
  intro F H d e x y z Q s a b h q
  unfold opAddS at h
  split at h
  · split at h
    · cases h
      cases a
      cases b
      exact ⟨_, _, rfl, rfl, by assumption, q _ H F (Ext.refl s) rfl⟩
    · cases h
  · cases h
theorem o_addT : Op2 K (rCatA K) opAddT := by
  intro F H d e x y z Q s a b h q
  unfold opAddT at h
  split at h
  · rename_i xs ys
    split at h
    · rename_i hl
      cases h
      obtain ⟨p, vs, rfl, q1, r1⟩ := a
      obtain ⟨p2, ws, rfl, q2, r2⟩ := b
      refine ⟨p, p2, vs, ws, rfl, rfl, s.sqT q1, s.sqT q2, by rw [r1.length, r2.length]; exact hl, fun e1 => ?_, fun _ e2 => ?_, fun _ _ pp hp => ?_⟩
      · -- nothing ahead
        have : xs = [] := by
          have := r1.length
          rw [e1] at this
          exact List.length_eq_zero_iff.mp this.symm
        subst this
        exact q _ H F (Ext.refl s) ⟨p2, ws, rfl, q2, r2⟩
      · have : ys = [] := by
          have := r2.length
          rw [e2] at this
          exact List.length_eq_zero_iff.mp this.symm
        subst this
        exact q _ H F (Ext.refl s) ⟨p, vs, rfl, q1, by rw [List.append_nil]; exact r1⟩
      · refine q _ _ _ (Ext.alloc s hp) ⟨pp, _, rfl, SqT.of upd_same, ?_⟩
        exact Reps.mono (Sub.upd_none (s.free hp)) _ _ (r1.append r2)
    · cases h
  · cases h
theorem o_addL : Op2 K rCat opAddL := by
  intro F H d e x y z Q s a b h q
  unfold opAddL at h
  split at h
  · rename_i xs ys
    split at h
    · rename_i hl
      cases h
      obtain ⟨p, vs, rfl, q1, r1⟩ := a
      obtain ⟨p2, ws, rfl, q2, r2⟩ := b
      refine ⟨p, p2, vs, ws, rfl, rfl, q1, q2, by rw [r1.length, r2.length]; exact hl, fun pp hp => ?_⟩
      exact q _ _ _ (Ext.allocO s hp) ⟨pp, rfl, hp, s.free hp, _, upd_same, r1.append r2⟩
    · cases h
  · cases h
/-- the reading of + -/
abbrev rAdd (K : PySem.W.Frag) : R2 := fun x y H Q => rI0 (fun i j => .int (i + j)) x y H Q ∨ (∃ i j, x = .str i ∧ y = .str j ∧ i.length + j.length ≤ sizeLine ∧ Q (.str (i ++ j)) H) ∨ rCatA K x y H Q ∨ rCat x y H Q
theorem opAdd_or (x y : D) : opAdd x y = opAddI x y ∨ opAdd x y = opAddS x y ∨ opAdd x y = opAddT x y ∨ opAdd x y = opAddL x y := by
  unfold opAdd
  split
  · exact .inl rfl
  · exact .inr (.inl rfl)
  · exact .inr (.inr (.inl rfl))
  · exact .inr (.inr (.inr rfl))
  · left
    unfold opAddI onInts
    split
    · rename_i h _ _ _ _ _
      rename_i i j hi
      first
        | exact absurd rfl (hi _ _ rfl)
        | simp_all
    · rfl
theorem o_add : Op2 K (rAdd K) opAdd := by
  intro F H d e x y z Q s a b h q
  rcases opAdd_or d e with w | w | w | w
  · exact .inl (o_addI F H d e x y z Q s a b (w ▸ h) q)
  · exact .inr (.inl (o_addS F H d e x y z Q s a b (w ▸ h) q))
  · exact .inr (.inr (.inl (o_addT F H d e x y z Q s a b (w ▸ h) q)))
  · exact .inr (.inr (.inr (o_addL F H d e x y z Q s a b (w ▸ h) q)))
end
section
variable {X : Cx} {W : WX} {a b : Expr} {g ga gb gc : Ev} {gs : Av} {pos p : Pos}
theorem op_addA : OpR X (binaryOp .Add) (rAdd X.K) := op_add.or (op_add_str.or (op_catA.or op_cat))
theorem ed_add (ha : PE X a (tE X.K W ga)) (hb : PE X b (tE X.K W gb)) : PE X (.BinOp a .Add b pos) (tE X.K W (dOp2 opAdd ga gb)) := ed_bin op_addA o_add ha hb
theorem ed_sub (ha : PE X a (tE X.K W ga)) (hb : PE X b (tE X.K W gb)) : PE X (.BinOp a .Sub b pos) (tE X.K W (dOp2 opSub ga gb)) := ed_bin op_sub o_sub ha hb
theorem ed_fdiv (ha : PE X a (tE X.K W ga)) (hb : PE X b (tE X.K W gb)) : PE X (.BinOp a .FloorDiv b pos) (tE X.K W (dOp2 opFdiv ga gb)) := ed_bin op_fdiv o_fdiv ha hb
theorem ed_mod (ha : PE X a (tE X.K W ga)) (hb : PE X b (tE X.K W gb)) : PE X (.BinOp a .Mod b pos) (tE X.K W (dOp2 opMod ga gb)) := ed_bin op_mod o_mod ha hb
theorem ed_pow (ha : PE X a (tE X.K W ga)) (hb : PE X b (tE X.K W gb)) : PE X (.BinOp a .Pow b pos) (tE X.K W (dOp2 opPow ga gb)) := ed_bin op_pow o_pow ha hb
/-! ### * -/
def opRepL : D → D → Option RV
  | .lst xs, .int k => if -(2 ^ 63) ≤ k ∧ k < 2 ^ 63 ∧ xs.length * k.toNat ≤ sizeLine then some (.new (.lst (List.replicate k.toNat xs).flatten)) else none
  | _, _ => none
def opRepT : D → D → Option RV
  | .tup xs, .int k => if xs ≠ [] ∧ 2 ≤ k ∧ k ≤ 1000 ∧ xs.length ≤ 1000 then some (.val (.tup (List.replicate k.toNat xs).flatten)) else none
  | _, _ => none
def opMul : D → D → Option RV
  | .int i, .int j => if CMul i j then some (.val (.int (i * j))) else none
  | .lst xs, .int k => if -(2 ^ 63) ≤ k ∧ k < 2 ^ 63 ∧ xs.length * k.toNat ≤ sizeLine then some (.new (.lst (List.replicate k.toNat xs).flatten)) else none
  | .tup xs, .int k => if xs ≠ [] ∧ 2 ≤ k ∧ k ≤ 1000 ∧ xs.length ≤ 1000 then some (.val (.tup (List.replicate k.toNat xs).flatten)) else none
  | _, _ => none
theorem Reps.rep {K : PySem.W.Frag} {F : Hp} {ds : List D} {vs : List V} (r : Reps K F ds vs) : ∀ n : Nat, Reps K F (List.replicate n ds).flatten (List.replicate n vs).flatten
  | 0 => .nil
  | n + 1 => by
    rw [List.replicate_succ, List.replicate_succ, List.flatten_cons, List.flatten_cons]
    exact r.append (Reps.rep r n)
end
end DL

/-! dicts whose keys are tuples, at the hand layer's level. -/
namespace DL
open PySem PySem.Spec L2
variable [HasW]
mutual
theorem nested_of_reads {h : Heap} : ∀ (k : NestedKey) (v : Value) (as : List Addr), Reads h v k.data as → NestedIs h k v
  | .none, _, _, r => by simp only [NestedKey.data] at r; cases r; exact .none
  | .num i, _, _, r => by simp only [NestedKey.data] at r; cases r; exact .int _ _
  | .text x, _, _, r => by simp only [NestedKey.data] at r; cases r; exact .text _ _
  | .tup ks, _, _, r => by
    simp only [NestedKey.data] at r
    cases r with
    | tuple h1 h2 h3 h4 => exact .tup h1 h2 h3 (nested_of_readsAll ks _ _ h4)
theorem nested_of_readsAll {h : Heap} : ∀ (ks : List NestedKey) (vs : List Value) (as : List Addr), ReadsAll h vs (NestedKey.datas ks) as → NestedAll h ks vs
  | [], _, _, r => by simp only [NestedKey.datas] at r; cases r; exact .nil
  | k :: ks, _, _, r => by
    simp only [NestedKey.datas] at r
    cases r with
    | cons a b => exact .cons (nested_of_reads k _ _ a) (nested_of_readsAll ks _ _ b)
end
mutual
theorem py_nk : ∀ (d : D) (k : NestedKey), nk d = some k → py d = some k.data
  | .non, k, h => by cases h; rfl
  | .int i, k, h => by cases h; rfl
  | .str x, k, h => by cases h; rfl
  | .tup xs, k, h => by
    obtain ⟨ks, e, rfl⟩ := Option.map_eq_some_iff.mp (show (nks xs).map NestedKey.tup = some k from h)
    have := pys_nks xs ks e
    show (pys xs).map PyData.tuple = _
    rw [this]
    rfl
  | .bl _, k, h => by cases h
  | .lst _, k, h => by cases h
  | .scr _, k, h => by cases h
  | .dic _ _, k, h => by cases h
  | .dct _ _, k, h => by cases h
  | .raw _, k, h => by cases h
theorem pys_nks : ∀ (ds : List D) (ks : List NestedKey), nks ds = some ks → pys ds = some (NestedKey.datas ks)
  | [], ks, h => by cases h; rfl
  | d :: ds, ks, h => by
    have h' : (match nk d, nks ds with | some k, some ks => some (k :: ks) | _, _ => none) = some ks := h
    cases e1 : nk d with
    | none => rw [e1] at h'; cases h'
    | some k =>
      cases e2 : nks ds with
      | none => rw [e1, e2] at h'; cases h'
      | some ks' =>
        rw [e1, e2] at h'
        cases h'
        unfold pys
        rw [py_nk d k e1, pys_nks ds ks' e2]
        rfl
end
mutual
theorem nk_inj : ∀ (d e : D) (k : NestedKey), nk d = some k → nk e = some k → d = e
  | .non, e, k, h, g => by
    cases h
    cases e with
    | non => rfl
    | tup xs => obtain ⟨ks, _, q⟩ := Option.map_eq_some_iff.mp (show (nks xs).map NestedKey.tup = some _ from g); cases q
    | _ => cases g
  | .int i, e, k, h, g => by
    cases h
    cases e with
    | int j => cases g; rfl
    | tup xs => obtain ⟨ks, _, q⟩ := Option.map_eq_some_iff.mp (show (nks xs).map NestedKey.tup = some _ from g); cases q
    | _ => cases g
  | .str i, e, k, h, g => by
    cases h
    cases e with
    | str j => cases g; rfl
    | tup xs => obtain ⟨ks, _, q⟩ := Option.map_eq_some_iff.mp (show (nks xs).map NestedKey.tup = some _ from g); cases q
    | _ => cases g
  | .tup xs, e, k, h, g => by
    obtain ⟨ks, e1, rfl⟩ := Option.map_eq_some_iff.mp (show (nks xs).map NestedKey.tup = some k from h)
    cases e with
    | tup ys =>
      obtain ⟨ls, e2, q⟩ := Option.map_eq_some_iff.mp (show (nks ys).map NestedKey.tup = some _ from g)
      injection q with q
      subst q
      rw [nks_inj xs ys ls e1 e2]
    | _ => cases g
  | .bl _, _, _, h, _ => by cases h
  | .lst _, _, _, h, _ => by cases h
  | .scr _, _, _, h, _ => by cases h
  | .dic _ _, _, _, h, _ => by cases h
  | .dct _ _, _, _, h, _ => by cases h
  | .raw _, _, _, h, _ => by cases h
theorem nks_inj : ∀ (ds es : List D) (ks : List NestedKey), nks ds = some ks → nks es = some ks → ds = es
  | [], es, ks, h, g => by
    cases h
    cases es with
    | nil => rfl
    | cons e es =>
      have g' : (match nk e, nks es with | some k, some ks => some (k :: ks) | _, _ => none) = some [] := g
      cases e1 : nk e <;> cases e2 : nks es <;> rw [e1, e2] at g' <;> cases g'
  | d :: ds, es, ks, h, g => by
    have h' : (match nk d, nks ds with | some k, some ks => some (k :: ks) | _, _ => none) = some ks := h
    cases e1 : nk d with
    | none => rw [e1] at h'; cases h'
    | some k =>
      cases e2 : nks ds with
      | none => rw [e1, e2] at h'; cases h'
      | some ks' =>
        rw [e1, e2] at h'
        cases h'
        cases es with
        | nil => cases g
        | cons e es =>
          have g' : (match nk e, nks es with | some k, some ks => some (k :: ks) | _, _ => none) = some (k :: ks') := g
          cases f1 : nk e with
          | none => rw [f1] at g'; cases g'
          | some j =>
            cases f2 : nks es with
            | none => rw [f1, f2] at g'; cases g'
            | some js =>
              rw [f1, f2] at g'
              cases g'
              rw [nk_inj d e _ e1 f1, nks_inj ds es _ e2 f2]
end
theorem kOf_some {d : D} {k : NestedKey} (h : kOf d = some k) : nk d = some k ∧ (∃ xs, d = .tup xs) ∧ (∃ ks, k = .tup ks) ∧ k.depth ≤ 8 := by
  cases d with
  | tup xs =>
    have h' : (match nks xs with | some ks => if (NestedKey.tup ks).depth ≤ 8 then some (NestedKey.tup ks) else none | none => none) = some k := h
    cases e : nks xs with
    | none => rw [e] at h'; cases h'
    | some ks =>
      rw [e] at h'
      dsimp only at h'
      split at h'
      · rename_i hd
        cases h'
        exact ⟨by show (nks xs).map NestedKey.tup = _; rw [e]; rfl, ⟨xs, rfl⟩, ⟨ks, rfl⟩, hd⟩
      · cases h'
  | _ => cases h
theorem kOf_inj {d e : D} {k : NestedKey} (h : kOf d = some k) (g : kOf e = some k) : d = e := nk_inj d e k (kOf_some h).1 (kOf_some g).1

/-! ### keys in a heap -/
def KeyAt (K : PySem.W.Frag) (H : Hp) (y : V) (k : NestedKey) : Prop := Dp K H y k.data ∧ (∃ ks, k = .tup ks) ∧ k.depth ≤ 8
def KeysAt (K : PySem.W.Frag) (H : Hp) (es : List Ent) : Prop := ∀ e ∈ es, KeyAt K H (.ref e.2.1) e.1
theorem View.keyAt {K : PySem.W.Frag} {F H : Hp} (s : Sub F H) {d : D} {v : V} {k : NestedKey} (h : View K F H d v) (e : kOf d = some k) : KeyAt K H v k :=
  have q := kOf_some e
  ⟨View.dp s h (py_nk d k q.1), q.2.2⟩
theorem keysAt_of {K : PySem.W.Frag} {F H : Hp} (s : Sub F H) : ∀ {ks : List D} {es : List Ent}, ks.map kOf = es.map (fun e => some e.1) → Reps K F ks (es.map fun e => .ref e.2.1) → KeysAt K H es
  | [], [], _, _ => fun e h => nomatch h
  | [], _ :: _, h, _ => by cases h
  | _ :: _, [], h, _ => by cases h
  | k :: ks, e :: es, h, r => by
    obtain ⟨v, t, q, a, b⟩ := r
    injection q with q1 q2
    subst q1 q2
    rw [List.map_cons, List.map_cons] at h
    injection h with h1 h2
    intro x hx
    rcases List.mem_cons.mp hx with rfl | hx
    · exact View.keyAt s (Rep.view s a) h1
    · exact keysAt_of s h2 b x hx
section
variable {X : Cx} {pins : List (Addr × Obj)} {σ : St} {H : Hp} {s : Shared} {a : Addr} {y v : V} {u r : Value} {k : NestedKey} {es : List Ent} {A : Around} {E : Value → Shared → Prop}
theorem KeyAt.is (I : Inv X pins σ H s) (h : KeyAt X.K H y k) (ry : RelV y u) : ∃ b, y = .ref b ∧ u = .ref b ∧ (nestedKind X.prog X.w).is s.heap k b := by
  obtain ⟨hd, ⟨ks, rfl⟩, h8⟩ := h
  obtain ⟨as, rd⟩ := Dp.reads I _ _ _ hd ry
  have n := nested_of_reads _ _ _ rd
  simp only [NestedKey.data] at hd
  cases hd with
  | tup q _ =>
    cases ry
    exact ⟨_, rfl, rfl, n, h8⟩
/-- the entries with the values that stand there -/
def zip3 : List Ent → List Value → List (NestedKey × Addr × Value)
  | e :: es, u :: us => (e.1, e.2.1, u) :: zip3 es us
  | _, _ => []
theorem zip3_entries {prog : Program} : ∀ (es : List Ent) (us : List Value), entsOf es us = (zip3 es us).map (entryOfKey (nestedKind prog HasW.w))
  | [], _ => by cases ‹List Value› <;> rfl
  | _ :: _, [] => rfl
  | e :: es, u :: us => by
    show _ :: entsOf es us = _ :: (zip3 es us).map _
    rw [zip3_entries es us]
    rfl
theorem zip3_keys : ∀ (es : List Ent) (us : List Value), es.length = us.length → (zip3 es us).map (·.1) = es.map (·.1)
  | [], [], _ => rfl
  | [], _ :: _, h => by simp at h
  | _ :: _, [], h => by simp at h
  | e :: es, u :: us, h => by
    show e.1 :: (zip3 es us).map _ = e.1 :: _
    rw [zip3_keys es us (by simpa using h)]
theorem zip3_length : ∀ (es : List Ent) (us : List Value), es.length = us.length → (zip3 es us).length = es.length
  | [], [], _ => rfl
  | [], _ :: _, h => by simp at h
  | _ :: _, [], h => by simp at h
  | e :: es, u :: us, h => by
    show (zip3 es us).length + 1 = es.length + 1
    rw [zip3_length es us (by simpa using h)]
theorem zip3_mem : ∀ (es : List Ent) (us : List Value) (x : NestedKey × Addr × Value), x ∈ zip3 es us → ∃ e ∈ es, e.1 = x.1 ∧ e.2.1 = x.2.1
  | [], _, _, h => by cases ‹List Value› <;> cases h
  | _ :: _, [], _, h => nomatch h
  | e :: es, u :: us, x, h => by
    rcases List.mem_cons.mp h with rfl | h
    · exact ⟨e, List.mem_cons_self, rfl, rfl⟩
    · obtain ⟨f, hf, q⟩ := zip3_mem es us x h
      exact ⟨f, List.mem_cons_of_mem _ hf, q⟩
/-- a dict with these entries: the empty one may be of either kind -/
def XAt (H : Hp) (a : Addr) (es : List Ent) : Prop := Rd H a (dxO a es) ∨ (es = [] ∧ Rd H a (.dK []))
theorem XAt.facts (hw : X.w = HasW.w) (I : Inv X pins σ H s) (x : XAt H a es) (ka : KeysAt X.K H es) : es.length ≤ sizeLine ∧ (a == sysModules) = false ∧
    ∃ us, Vals (es.map (·.2.2)) us ∧ s.heap.DictOfH (nestedKind X.prog X.w) a (zip3 es us) := by
  rcases x with x | ⟨rfl, x⟩
  · have ok : ObjOk X.prog X.w H s.heap a (dxO a es) := x.ok I.hok
    obtain ⟨⟨z, hd, nd, us, rv, o, des, ep, ho, hx, hdt, he⟩, _⟩ := ok
    refine ⟨z, hd, us, rv, o, des, ep, ho, hx, hdt, ?_, fun e hme => ?_, ?_⟩
    · rw [he, hw]
      exact zip3_entries es us
    · obtain ⟨f, hf, q1, q2⟩ := zip3_mem es us e hme
      obtain ⟨b, e1, e2, hi⟩ := (ka f hf).is I (u := .ref f.2.1) rfl
      injection e1 with e1
      subst e1
      rw [← q1, ← q2]
      exact hi
    · rw [zip3_keys es us (by have := rv.length; rwa [List.length_map] at this)]
      exact nd
  · obtain ⟨z, hd, vs, rel, dd⟩ := dk_rd I.hok x
    cases rel
    obtain ⟨o, es', ep, ho, hx, hdt, _, he, _⟩ := dd
    have e0 : es'.toList = [] := by cases q : es'.toList with
      | nil => rfl
      | cons x xs => rw [q] at he; cases he
    refine ⟨Nat.zero_le _, hd, [], .nil, o, es', ep, ho, hx, hdt, ?_, (fun e hme => nomatch hme), List.nodup_nil⟩
    rw [e0]
    rfl
def xGet (es : List Ent) (k : NestedKey) : Option V := (es.find? fun e => decide (e.1 = k)).map (·.2.2)
theorem xGet_rel : ∀ (es : List Ent) (us : List Value), Vals (es.map (·.2.2)) us → RelO (xGet es k) ((atKey (zip3 es us) k).map (·.2))
  | [], us, r => by cases r; exact True.intro
  | e :: es, _, r => by
    cases r with
    | cons a b =>
      have ih := xGet_rel es _ b
      by_cases q : e.1 = k
      · have e1 : xGet (e :: es) k = some e.2.2 := by simp [xGet, q]
        rw [e1]
        simp only [zip3, atKey, List.find?_cons, q, decide_true, Option.map_some]
        exact a
      · have e1 : xGet (e :: es) k = xGet es k := by simp [xGet, q]
        rw [e1]
        have e2 : ∀ x us', atKey ((e.1, e.2.1, x) :: zip3 es us') k = atKey (zip3 es us') k := by intro x us'; simp [atKey, q]
        show RelO _ ((atKey ((e.1, e.2.1, _) :: zip3 es _) k).map (·.2))
        rw [e2]
        exact ih
theorem room8 {A : Around} (hu : A.units + 65 < cLine) : (nestedKind X.prog X.w).room A.in1 := by
  show A.units + 1 + 8 < cLine
  omega
/-- x in d -/
def rXIn (K : PySem.W.Frag) (neg : Bool) : R2 := fun y x H Q => ∃ a es k, x = .ref a ∧ XAt H a es ∧ KeysAt K H es ∧ KeyAt K H y k ∧ Q (.bl (if neg then !(xGet es k).isSome else (xGet es k).isSome)) H
theorem op_xIn (hw : X.w = HasW.w) (hu : X.A.units + 65 < cLine) : OpR X (compareOp .In) (rXIn X.K false) := by
  rintro pins s σ H y x v u Q I ry rx ⟨a, es, k, rfl, xa, ka, kat, q⟩
  cases rx
  obtain ⟨z, hd, us, rv, dd⟩ := xa.facts hw I ka
  obtain ⟨b, rfl, rfl, hk⟩ := kat.is I ry
  refine wpAny_in_heap (room8 hu) hk hd dd ?_
  have e := (xGet_rel (k := k) es us rv).isSome_eq
  rw [Option.isSome_map] at e
  rw [← e]
  exact ⟨.bl _, H, I.tok _, rfl, q⟩
theorem op_xNotIn (hw : X.w = HasW.w) (hu : X.A.units + 65 < cLine) : OpR X (compareOp .NotIn) (rXIn X.K true) := by
  rintro pins s σ H y x v u Q I ry rx ⟨a, es, k, rfl, xa, ka, kat, q⟩
  cases rx
  obtain ⟨z, hd, us, rv, dd⟩ := xa.facts hw I ka
  obtain ⟨b, rfl, rfl, hk⟩ := kat.is I ry
  show wpAny _ _ (do return Value.bool (!(← contains (.ref a) (.ref b)))) _ _ s
  refine wpAny_bind (wpAny_contains_heap (room8 hu) hk hd dd (wpAny_pure ?_))
  have e := (xGet_rel (k := k) es us rv).isSome_eq
  rw [Option.isSome_map] at e
  rw [← e]
  exact ⟨.bl _, H, I.tok _, rfl, q⟩
/-- d[x] -/
def rXIx (K : PySem.W.Frag) : R2 := fun x y H Q => ∃ a es k v, x = .ref a ∧ Rd H a (dxO a es) ∧ KeysAt K H es ∧ KeyAt K H y k ∧ xGet es k = some v ∧ Q v H
theorem x_getItem {Q : VK} (hw : X.w = HasW.w) (hu : A.units + 65 < cLine) (I : Inv X pins σ H s) {x : V} {ov : Value} (rx : RelV x ov) (ry : RelV y u) (h : rXIx X.K x y H Q) :
    s.TypeIs ov "dict" ∧ wpAny (model X.prog X.w) A (getItem ov u) (EP X pins σ Q) E s := by
  obtain ⟨a, es, k, v, rfl, xa, ka, kat, hv, q⟩ := h
  cases rx
  obtain ⟨z, hd, us, rv, dd⟩ := XAt.facts hw I (.inl xa) ka
  obtain ⟨b, rfl, rfl, hk⟩ := kat.is I ry
  have e := xGet_rel (k := k) es us rv
  rw [hv] at e
  obtain ⟨w', hw', rw'⟩ := RelO.some_of (v := v) e
  obtain ⟨p, hp, hp2⟩ := Option.map_eq_some_iff.mp hw'
  refine ⟨dd.typeIs, wpAny_getItem_heap (room8 hu) hk dd hp ?_⟩
  rw [hp2]
  exact ⟨_, H, I.tok _, rw', q⟩
def tXIx (K : PySem.W.Frag) (td ty : TE) : TE := fun σ H Q => td σ H fun x H1 => ty σ H1 fun y H2 => rXIx K x y H2 Q
theorem pe_xget {o i : Expr} {pos : Pos} {td ty : TE} (hw : X.w = HasW.w) (hu : X.A.units + 65 < cLine) (ho : PE X o td) (hi : PE X i ty) (hs : NoSl i) : PE X (.Subscript o i pos) (tXIx X.K td ty) := by
  refine ⟨fun pins s σ H Q I h => ?_⟩
  exact subD_of PySem.F.slot_dict_getitem.lookup hs (thn (ho.run pins s σ H _ I h) fun u s1 ⟨x, H1, I1, rx, q1⟩ => thn (hi.run pins s1 σ H1 _ I1 q1) fun iv s2 ⟨y, H2, I2, ry, q2⟩ => x_getItem hw hu I2 rx ry q2)
/-! d[x] = v -/
def xPut (es : List Ent) (k : NestedKey) (b : Addr) (v : V) : List Ent := if (xGet es k).isSome then es.map (fun e => if e.1 = k then (e.1, e.2.1, v) else e) else es ++ [(k, b, v)]
def XMut (H : Hp) (a : Addr) (es : List Ent) : Prop := H a = some (dxO a es) ∨ (es = [] ∧ H a = some (.dK []))
theorem XMut.at {H : Hp} {a : Addr} {es : List Ent} (x : XMut H a es) : XAt H a es := by
  rcases x with x | ⟨e, x⟩
  · exact .inl (.inl x)
  · exact .inr ⟨e, .inl x⟩
theorem zip3_map {k : NestedKey} {v : V} {u : Value} (r : RelV v u) : ∀ (es : List Ent) (us : List Value), Vals (es.map (·.2.2)) us →
    ∃ ws, Vals ((es.map fun e => if e.1 = k then (e.1, e.2.1, v) else e).map (·.2.2)) ws ∧ (zip3 es us).map (putAt k u) = zip3 (es.map fun e => if e.1 = k then (e.1, e.2.1, v) else e) ws
  | [], us, h => by cases h; exact ⟨[], .nil, rfl⟩
  | e :: es, _, h => by
    cases h with
    | @cons _ w0 _ _ a b =>
      obtain ⟨ws, h1, h2⟩ := zip3_map r es _ b
      by_cases q : e.1 = k
      · refine ⟨u :: ws, ?_, ?_⟩
        · rw [List.map_cons, List.map_cons, if_pos q]
          exact .cons r h1
        · rw [List.map_cons, if_pos q]
          show putAt k u (e.1, e.2.1, _) :: (zip3 es _).map _ = (e.1, e.2.1, u) :: zip3 _ ws
          rw [h2]
          unfold putAt
          rw [if_pos q]
      · refine ⟨w0 :: ws, ?_, ?_⟩
        · rw [List.map_cons, List.map_cons, if_neg q]
          exact .cons a h1
        · rw [List.map_cons, if_neg q]
          show putAt k u (e.1, e.2.1, _) :: (zip3 es _).map _ = (e.1, e.2.1, _) :: zip3 _ ws
          rw [h2]
          unfold putAt
          rw [if_neg q]
theorem zip3_snoc {k : NestedKey} {b : Addr} {v : V} {u : Value} (r : RelV v u) : ∀ (es : List Ent) (us : List Value), Vals (es.map (·.2.2)) us →
    Vals ((es ++ [(k, b, v)]).map (·.2.2)) (us ++ [u]) ∧ zip3 es us ++ [(k, b, u)] = zip3 (es ++ [(k, b, v)]) (us ++ [u])
  | [], us, h => by cases h; exact ⟨.cons r .nil, rfl⟩
  | e :: es, _, h => by
    cases h with
    | cons a c =>
      obtain ⟨h1, h2⟩ := zip3_snoc r es _ c
      exact ⟨.cons a h1, congrArg _ h2⟩
theorem xPut_zip {k : NestedKey} {b : Addr} {v : V} {u : Value} (r : RelV v u) (es : List Ent) (us : List Value) (h : Vals (es.map (·.2.2)) us) : ∃ ws, Vals ((xPut es k b v).map (·.2.2)) ws ∧ storedH (zip3 es us) k b u = zip3 (xPut es k b v) ws := by
  have e := (xGet_rel (k := k) es us h).isSome_eq
  rw [Option.isSome_map] at e
  unfold xPut
  unfold storedH
  rw [← e]
  cases hs : (xGet es k).isSome with
  | true =>
    rw [if_pos rfl, if_pos rfl]
    exact zip3_map r es us h
  | false =>
    rw [if_neg Bool.false_ne_true, if_neg Bool.false_ne_true]
    obtain ⟨h1, h2⟩ := zip3_snoc (k := k) (b := b) r es us h
    exact ⟨_, h1, h2⟩
theorem xPut_length (es : List Ent) (k : NestedKey) (b : Addr) (v : V) : (xPut es k b v).length ≤ es.length + 1 := by
  unfold xPut
  split
  · rw [List.length_map]; omega
  · rw [List.length_append]; exact Nat.le_refl _
def rSetX (K : PySem.W.Frag) : TSet := fun o i v H Q => ∃ a es k b, o = .ref a ∧ i = .ref b ∧ XMut H a es ∧ KeysAt K H es ∧ KeyAt K H i k ∧ es.length < sizeLine ∧ Q (upd H a (dxO a (xPut es k b v)))
theorem set_x (hw : X.w = HasW.w) (hu : X.A.units + 65 < cLine) : PSet X (rSetX X.K) := by
  rintro pins s σ H o i v ov iv u Q I ro ri rv ⟨a, es, k, b, rfl, rfl, xm, ka, kat, hl, q⟩
  cases ro
  cases ri
  obtain ⟨z, hd, us, rvs, dd⟩ := xm.at.facts hw I ka
  obtain ⟨b', e1, e2, hk⟩ := kat.is I (u := .ref b) rfl
  injection e1 with e1
  subst e1
  have lz : (zip3 es us).length = es.length := zip3_length es us (by have := rvs.length; rwa [List.length_map] at this)
  refine wpAny_setItem_heap (hsz := by omega) (room8 hu) hk dd fun h' dd' hs => ⟨_, ?_, q⟩
  obtain ⟨ws, r1, r2⟩ := xPut_zip (k := k) (b := b) rv es us rvs
  rw [r2] at dd'
  obtain ⟨o, des, ep, ho, hx, hdt, he, _, hn⟩ := dd'
  have lw : (xPut es k b v).length = ws.length := by have := r1.length; rwa [List.length_map] at this
  have mu : Mut (H a) := by
    rcases xm with x | ⟨_, x⟩ <;> rw [x] <;> exact True.intro
  refine d_write I mu hs ⟨o, ho⟩ ⟨?_, ⟨o, ho⟩, ?_⟩
  · refine ⟨by have := xPut_length es k b v; omega, hd, by rw [← zip3_keys _ ws lw]; exact hn, ws, r1, o, des, ep, ho, hx, hdt, ?_⟩
    rw [he, hw, zip3_entries]
  · rintro h1 h2 ⟨c1, c2, c3, us', c4, o', des', ep', c5, c6⟩ hk'
    exact ⟨c1, c2, c3, us', c4, o', des', ep', hk' _ c5, c6⟩
end
/-! ### over data -/
def dctHas (ks : List D) (k : NestedKey) : Bool := ks.any fun k' => decide (kOf k' = some k)
def dctGet : List D → List D → NestedKey → Option D
  | k' :: ks, x :: xs, k => if kOf k' = some k then some x else dctGet ks xs k
  | _, _, _ => none
def dctPutXs : List D → List D → NestedKey → D → List D
  | k' :: ks, x :: xs, k, d => if kOf k' = some k then d :: dctPutXs ks xs k d else x :: dctPutXs ks xs k d
  | _, xs, _, _ => xs
/-- a dict with the key kd (it is k) told d -/
def dctPut (ks xs : List D) (kd : D) (k : NestedKey) (d : D) : D := if dctHas ks k then .dct ks (dctPutXs ks xs k d) else .dct (ks ++ [kd]) (xs ++ [d])
section
variable {K : PySem.W.Frag} {F : Hp} {k : NestedKey}
theorem dctGet_rep : ∀ {ks xs : List D} {es : List Ent}, ks.map kOf = es.map (fun e => some e.1) → Reps K F xs (es.map (·.2.2)) → (∀ d, dctGet ks xs k = some d → ∃ v, xGet es k = some v ∧ Rep K F d v) ∧ (dctGet ks xs k = none → xGet es k = none) ∧ (xGet es k).isSome = dctHas ks k
  | [], [], [], _, r => ⟨(fun d h => nomatch h), fun _ => rfl, rfl⟩
  | [], _ :: _, [], _, r => by obtain ⟨_, _, q, _⟩ := r; cases q
  | [], _, _ :: _, h, _ => by cases h
  | _ :: _, _, [], h, _ => by cases h
  | k' :: ks, xs, e :: es, h, r => by
    rw [List.map_cons, List.map_cons] at h
    injection h with h1 h2
    cases xs with
    | nil => cases r
    | cons x xs =>
      obtain ⟨v, t, q, a, b⟩ := r
      injection q with q1 q2
      subst q1 q2
      obtain ⟨i1, i0, i2⟩ := dctGet_rep h2 b
      by_cases q : e.1 = k
      · have e1 : xGet (e :: es) k = some e.2.2 := by simp [xGet, q]
        have e2 : kOf k' = some k := by rw [h1, q]
        refine ⟨fun d hd => ?_, fun hd => ?_, ?_⟩
        · unfold dctGet at hd
          rw [if_pos e2] at hd
          cases hd
          exact ⟨_, e1, a⟩
        · unfold dctGet at hd
          rw [if_pos e2] at hd
          cases hd
        · rw [e1]
          simp [dctHas, e2]
      · have e1 : xGet (e :: es) k = xGet es k := by simp [xGet, q]
        have e2 : ¬ kOf k' = some k := fun z => q (by rw [h1] at z; exact Option.some.inj z)
        refine ⟨fun d hd => ?_, fun hd => ?_, ?_⟩
        · unfold dctGet at hd
          rw [if_neg e2] at hd
          rw [e1]
          exact i1 d hd
        · unfold dctGet at hd
          rw [if_neg e2] at hd
          rw [e1]
          exact i0 hd
        · rw [e1, i2]
          simp [dctHas, e2]
theorem dctPut_rep {d : D} {v : V} (rv : Rep K F d v) : ∀ {ks xs : List D} {es : List Ent}, ks.map kOf = es.map (fun e => some e.1) → Reps K F xs (es.map (·.2.2)) →
    Reps K F (dctPutXs ks xs k d) ((es.map fun e => if e.1 = k then (e.1, e.2.1, v) else e).map (·.2.2))
  | [], [], [], _, r => .nil
  | [], _ :: _, [], _, r => by obtain ⟨_, _, q, _⟩ := r; cases q
  | [], _, _ :: _, h, _ => by cases h
  | _ :: _, _, [], h, _ => by cases h
  | k' :: ks, xs, e :: es, h, r => by
    rw [List.map_cons, List.map_cons] at h
    injection h with h1 h2
    cases xs with
    | nil => cases r
    | cons x xs =>
      obtain ⟨w, t, q, a, b⟩ := r
      injection q with q1 q2
      subst q1 q2
      have ih := dctPut_rep rv h2 b
      unfold dctPutXs
      by_cases q : e.1 = k
      · rw [if_pos (by rw [h1, q]), List.map_cons, List.map_cons, if_pos q]
        exact .cons rv ih
      · rw [if_neg (fun z => q (by rw [h1] at z; exact Option.some.inj z)), List.map_cons, List.map_cons, if_neg q]
        exact .cons a ih
theorem map_keep {β : Type} (g : Ent → β) {v : V} (hg : ∀ e : Ent, g (e.1, e.2.1, v) = g e) (es : List Ent) : (es.map fun e => if e.1 = k then (e.1, e.2.1, v) else e).map g = es.map g := by
  rw [List.map_map]
  refine List.map_congr_left fun e _ => ?_
  show g (if e.1 = k then (e.1, e.2.1, v) else e) = g e
  split
  · exact hg e
  · rfl
/-- the dict behind a store -/
theorem cell_dct {ks xs : List D} {es : List Ent} {kd d : D} {b a : Addr} {v : V} {H : Hp} (h : ks.map kOf = es.map (fun e => some e.1)) (rk : Reps K F ks (es.map fun e => .ref e.2.1)) (r : Reps K F xs (es.map (·.2.2))) (hk : kOf kd = some k) (rb : Rep K F kd (.ref b)) (rv : Rep K F d v) :
    Cell K F (upd H a (dxO a (xPut es k b v))) a (dctPut ks xs kd k d) := by
  have e := (dctGet_rep (k := k) h r).2.2
  unfold dctPut xPut
  rw [e]
  cases hs : dctHas ks k with
  | true =>
    rw [if_pos rfl, if_pos rfl]
    refine ⟨_, upd_same, ?_, ?_, dctPut_rep rv h r⟩
    · rw [map_keep (fun e => some e.1) (fun _ => rfl)]; exact h
    · rw [map_keep (fun e => V.ref e.2.1) (fun _ => rfl)]; exact rk
  | false =>
    rw [if_neg Bool.false_ne_true, if_neg Bool.false_ne_true]
    refine ⟨_, upd_same, ?_, ?_, ?_⟩
    · rw [List.map_append, List.map_append, h, List.map_cons, List.map_nil, hk]; rfl
    · rw [List.map_append]; exact rk.snoc rb
    · rw [List.map_append]; exact r.snoc rv
end
end DL

/-! * , ==, in, subscripts, slices, built-in calls. -/
namespace DL
open PySem PySem.Spec L2
variable [HasW]
section
variable {K : PySem.W.Frag}
theorem o_repL : Op2 K rRep opRepL := by
  intro F H d e x y z Q s a b h q
  unfold opRepL at h
  split at h
  · rename_i xs k
    split at h
    · rename_i hl
      cases h
      obtain ⟨p, vs, rfl, q1, r1⟩ := a
      cases b
      refine ⟨p, k, vs, rfl, rfl, q1, hl.1, hl.2.1, by rw [r1.length]; exact hl.2.2, fun pp hp => ?_⟩
      exact q _ _ _ (Ext.allocO s hp) ⟨pp, rfl, hp, s.free hp, _, upd_same, r1.rep _⟩
    · cases h
  · cases h
theorem o_repT : Op2 K (rRepT K) opRepT := by
  intro F H d e x y z Q s a b h q
  unfold opRepT at h
  split at h
  · rename_i xs k
    split at h
    · rename_i hl
      cases h
      obtain ⟨p, vs, rfl, q1, r1⟩ := a
      cases b
      have ne : vs ≠ [] := fun e => by
        have := r1.length
        rw [e] at this
        exact hl.1 (List.length_eq_zero_iff.mp this.symm)
      refine ⟨p, k, vs, rfl, rfl, s.sqT q1, ne, hl.2.1, hl.2.2.1, by rw [r1.length]; exact hl.2.2.2, fun pp hp => ?_⟩
      refine q _ _ _ (Ext.alloc s hp) ⟨pp, _, rfl, SqT.of upd_same, ?_⟩
      exact Reps.mono (Sub.upd_none (s.free hp)) _ _ (r1.rep _)
    · cases h
  · cases h
abbrev rMul (K : PySem.W.Frag) : R2 := fun x y H Q => rI CMul (fun i j => .int (i * j)) x y H Q ∨ rRep x y H Q ∨ rRepT K x y H Q
theorem opMul_or (x y : D) : opMul x y = opMulI x y ∨ opMul x y = opRepL x y ∨ opMul x y = opRepT x y := by
  unfold opMul
  split
  · exact .inl rfl
  · exact .inr (.inl rfl)
  · exact .inr (.inr rfl)
  · left
    unfold opMulI onInts
    split
    · rename_i i j hi _ _
      exact absurd rfl (hi _ _ rfl)
    · rfl
theorem o_mul : Op2 K (rMul K) opMul := by
  intro F H d e x y z Q s a b h q
  rcases opMul_or d e with w | w | w
  · exact .inl (o_mulI F H d e x y z Q s a b (w ▸ h) q)
  · exact .inr (.inl (o_repL F H d e x y z Q s a b (w ▸ h) q))
  · exact .inr (.inr (o_repT F H d e x y z Q s a b (w ▸ h) q))
/-! ### == != -/
/-- by the kit's data -/
def eqDeep (d e : D) : Option Bool := match py d, py e with
  | some p, some q => if SeqAt.shaped p = true ∧ SeqAt.shaped q = true then some (PyData.eqv p q) else none
  | _, _ => none
def eqD (d e : D) : Option Bool := match d, e with
  | .int i, .int j => some (decide (i = j))
  | .str a, .str b => some (decide (a = b))
  | .bl a, .bl b => some (decide (a = b))
  | d, e => eqDeep d e
def opEq (d e : D) : Option RV := (eqD d e).map fun b => .val (.bl b)
def opNe (d e : D) : Option RV := (eqD d e).map fun b => .val (.bl (!b))
theorem eqDeep_some {d e : D} {b : Bool} (h : eqDeep d e = some b) : ∃ p q, py d = some p ∧ py e = some q ∧ SeqAt.shaped p = true ∧ SeqAt.shaped q = true ∧ b = PyData.eqv p q := by
  unfold eqDeep at h
  split at h
  · split at h
    · rename_i hs
      cases h
      exact ⟨_, _, by assumption, by assumption, hs.1, hs.2, rfl⟩
    · cases h
  · cases h
abbrev rEqA (K : PySem.W.Frag) : R2 := fun x y H Q => rEq x y H Q ∨ rEqD K x y H Q
abbrev rNeA (K : PySem.W.Frag) : R2 := fun x y H Q => rNe x y H Q ∨ rNeD K x y H Q
theorem eqD_sound {F H : Hp} {d e : D} {x y : V} {b : Bool} {Q : VK} (s : Sub F H) (a : View K F H d x) (c : View K F H e y) (h : eqD d e = some b) : (Q (.bl b) H → rEqA K x y H Q) ∧ (Q (.bl (!b)) H → rNeA K x y H Q) := by
  have deep : eqDeep d e = some b → (Q (.bl b) H → rEqA K x y H Q) ∧ (Q (.bl (!b)) H → rNeA K x y H Q) := fun h => by
    obtain ⟨p, q, e1, e2, h1, h2, rfl⟩ := eqDeep_some h
    exact ⟨fun z => .inr ⟨p, q, a.dp s e1, c.dp s e2, h1, h2, z⟩, fun z => .inr ⟨p, q, a.dp s e1, c.dp s e2, h1, h2, z⟩⟩
  unfold eqD at h
  split at h
  · cases h
    cases a
    cases c
    exact ⟨fun q => .inl ⟨rfl, by simpa using q⟩, fun q => .inl ⟨rfl, by simpa using q⟩⟩
  · cases h
    cases a
    cases c
    exact ⟨fun q => .inl ⟨rfl, by simpa using q⟩, fun q => .inl ⟨rfl, by simpa using q⟩⟩
  · cases h
    cases a
    cases c
    exact ⟨fun q => .inl ⟨rfl, by simpa using q⟩, fun q => .inl ⟨rfl, by simpa using q⟩⟩
  · exact deep h
theorem o_eq : Op2 K (rEqA K) opEq := by
  intro F H d e x y z Q s a b h q
  obtain ⟨c, hc, rfl⟩ := Option.map_eq_some_iff.mp (show (eqD d e).map (fun b => RV.val (.bl b)) = some z from h)
  exact (eqD_sound s a b hc).1 (q _ H F (Ext.refl s) rfl)
theorem o_ne : Op2 K (rNeA K) opNe := by
  intro F H d e x y z Q s a b h q
  obtain ⟨c, hc, rfl⟩ := Option.map_eq_some_iff.mp (show (eqD d e).map (fun b => RV.val (.bl (!b))) = some z from h)
  exact (eqD_sound s a b hc).2 (q _ H F (Ext.refl s) rfl)
theorem bf_eq : BoolF opEq := fun x y z h => by
  obtain ⟨c, hc, rfl⟩ := Option.map_eq_some_iff.mp (show (eqD x y).map (fun b => RV.val (.bl b)) = some z from h)
  exact ⟨_, rfl⟩
theorem bf_ne : BoolF opNe := fun x y z h => by
  obtain ⟨c, hc, rfl⟩ := Option.map_eq_some_iff.mp (show (eqD x y).map (fun b => RV.val (.bl (!b))) = some z from h)
  exact ⟨_, rfl⟩
theorem bf_lt : BoolF opLt := bf_ints
theorem bf_le : BoolF opLe := bf_ints
theorem bf_gt : BoolF opGt := bf_ints
theorem bf_ge : BoolF opGe := bf_ints
end
section
variable {X : Cx} {W : WX} {a b : Expr} {op : CmpOp} {g ga gb gc : Ev} {gs : Av} {pos p : Pos}
theorem op_mulA : OpR X (binaryOp .Mult) (rMul X.K) := op_mul.or (op_rep.or op_repT)
theorem ed_mul (ha : PE X a (tE X.K W ga)) (hb : PE X b (tE X.K W gb)) : PE X (.BinOp a .Mult b pos) (tE X.K W (dOp2 opMul ga gb)) := ed_bin op_mulA o_mul ha hb
theorem cd_lt (ha : PE X a (tE X.K W ga)) (hb : PE X b (tE X.K W gb)) : PC X .Lt a b (tE X.K W (dOp2 opLt ga gb)) := cd_op op_lt o_lt ha hb
theorem cd_le (ha : PE X a (tE X.K W ga)) (hb : PE X b (tE X.K W gb)) : PC X .LtE a b (tE X.K W (dOp2 opLe ga gb)) := cd_op op_le o_le ha hb
theorem cd_gt (ha : PE X a (tE X.K W ga)) (hb : PE X b (tE X.K W gb)) : PC X .Gt a b (tE X.K W (dOp2 opGt ga gb)) := cd_op op_gt o_gt ha hb
theorem cd_ge (ha : PE X a (tE X.K W ga)) (hb : PE X b (tE X.K W gb)) : PC X .GtE a b (tE X.K W (dOp2 opGe ga gb)) := cd_op op_ge o_ge ha hb
theorem u64 {k : Nat} (hr : RoomG k X.A) : X.A.units + 64 < cLine := hr.room.units
theorem u65 {k : Nat} (hr : RoomG k X.A) : X.A.units + 65 < cLine := by have := hr.room.un; omega
theorem u1 {k : Nat} (hr : RoomG k X.A) : X.A.units + 1 < cLine := by have := hr.room.un; omega
theorem cd_eq {k : Nat} (hr : RoomG k X.A) (ha : PE X a (tE X.K W ga)) (hb : PE X b (tE X.K W gb)) : PC X .Eq a b (tE X.K W (dOp2 opEq ga gb)) := cd_op (op_eq.or (op_eqD (u64 hr))) o_eq ha hb
theorem cd_ne {k : Nat} (hr : RoomG k X.A) (ha : PE X a (tE X.K W ga)) (hb : PE X b (tE X.K W gb)) : PC X .NotEq a b (tE X.K W (dOp2 opNe ga gb)) := cd_op (op_ne.or (op_neD (u64 hr))) o_ne ha hb
end

/-! ### in -/
def rInDT (K : PySem.W.Frag) : R2 := fun x y H Q => ∃ d ds, Dp K H x d ∧ Dp K H y (.tuple ds) ∧ SeqAt.shaped d = true ∧ SeqAt.shaped (.tuple ds) = true ∧ Q (.bl (ds.any fun z => PyData.eqv z d)) H
def rNotInDT (K : PySem.W.Frag) : R2 := fun x y H Q => ∃ d ds, Dp K H x d ∧ Dp K H y (.tuple ds) ∧ SeqAt.shaped d = true ∧ SeqAt.shaped (.tuple ds) = true ∧ Q (.bl (!ds.any fun z => PyData.eqv z d)) H
theorem room_inT {A : Around} {d : PyData} {n : Nat} (h : SeqAt.shaped d = true) (hu : A.units + 65 < cLine) : A.units + 1 + min n d.depth < cLine := by
  have h1 := SeqAt.depth_of_shaped h
  have h2 : min n d.depth ≤ d.depth := Nat.min_le_right _ _
  omega
section
variable {X : Cx}
theorem op_inDT (hu : X.A.units + 65 < cLine) : OpR X (compareOp .In) (rInDT X.K) := by
  rintro pins s σ H x y v u Q I rx ry ⟨d, ds, hd, he, sd, se, q⟩
  obtain ⟨as, r1⟩ := Dp.reads I d x v hd rx
  obtain ⟨bs, r2⟩ := Dp.reads I (.tuple ds) y u he ry
  exact SeqAt.in_tuple_reads r2 r1 (SeqAt.canLay_of_shaped se) (SeqAt.canLay_of_shaped sd) (room_inT sd hu) ⟨.bl _, H, I, rfl, q⟩
theorem op_notInDT (hu : X.A.units + 65 < cLine) : OpR X (compareOp .NotIn) (rNotInDT X.K) := by
  rintro pins s σ H x y v u Q I rx ry ⟨d, ds, hd, he, sd, se, q⟩
  obtain ⟨as, r1⟩ := Dp.reads I d x v hd rx
  obtain ⟨bs, r2⟩ := Dp.reads I (.tuple ds) y u he ry
  exact SeqAt.notIn_tuple_reads r2 r1 (SeqAt.canLay_of_shaped se) (SeqAt.canLay_of_shaped sd) (room_inT sd hu) ⟨.bl _, H, I, rfl, q⟩
end
/-- a text in a text: of one sign by its place in the list -/
def inStr (x z : Str) : Bool := match x.cps.toList with
  | [c] => decide (c ∈ z.cps.toList)
  | _ => !(Builtin.Str.occurrences z x 0 z.length 1).isEmpty
def keyOf : D → Option Key
  | .int i => some (.inl i)
  | .str x => some (.inr x)
  | _ => none
/-- is d among the items -/
def among (d : D) (xs : List D) (mk : List PyData → PyData) : Option Bool := match py d, pys xs with
  | some p, some ps => if SeqAt.shaped p = true ∧ SeqAt.shaped (mk ps) = true then some (ps.any fun z => PyData.eqv z p) else none
  | _, _ => none
def hasKey (ks : List Key) (k : Key) : Bool := ks.any fun k' => decide (k' = k)
def memD (x y : D) : Option Bool := match y with
  | .str z => match x with
    | .str w => some (inStr w z)
    | _ => none
  | .lst ys => among x ys .list
  | .scr ys => among x ys .list
  | .tup ys => among x ys .tuple
  | .dic ks _ => match keyOf x with
    | some k => some (hasKey ks k)
    | none => none
  | _ => none
def isDic : D → Bool
  | .dic _ _ => true
  | _ => false
/-- among a dict's keys that are tuples -/
def memX (x y : D) : Option Bool := match y with
  | .dct ks _ => (kOf x).map fun k => dctHas ks k
  | .dic ks _ => if ks.isEmpty then (kOf x).map fun _ => false else none
  | _ => none
def opIn (x y : D) : Option RV := (memX x y <|> memD x y).map fun b => .val (.bl b)
def opNotIn (x y : D) : Option RV := (memX x y <|> memD x y).map fun b => .val (.bl (!b))
def opInO (x y : D) : Option RV := (memD x y).map fun b => .val (.bl b)
def opNotInO (x y : D) : Option RV := (memD x y).map fun b => .val (.bl (!b))
def opInX (x y : D) : Option RV := (memX x y).map fun b => .val (.bl b)
def opNotInX (x y : D) : Option RV := (memX x y).map fun b => .val (.bl (!b))
def opInK (x y : D) : Option RV := if isDic y then (memD x y).map fun b => .val (.bl b) else none
def opNotInK (x y : D) : Option RV := if isDic y then (memD x y).map fun b => .val (.bl (!b)) else none
def opInS (x y : D) : Option RV := if isDic y then none else (memD x y).map fun b => .val (.bl b)
def opNotInS (x y : D) : Option RV := if isDic y then none else (memD x y).map fun b => .val (.bl (!b))

def dGet : List Key → List D → Key → Option D
  | k' :: ks, x :: xs, k => if k' = k then some x else dGet ks xs k
  | _, _, _ => none
theorem dGet_rep {K : PySem.W.Frag} {F : Hp} {k : Key} : ∀ {ks : List Key} {xs : List D} {vs : List V}, Reps K F xs vs → ks.length = xs.length →
    (∀ d, dGet ks xs k = some d → ∃ v, valV (ks.zip vs) k = some v ∧ Rep K F d v) ∧ (dGet ks xs k = none → valV (ks.zip vs) k = none) ∧ (valV (ks.zip vs) k).isSome = hasKey ks k
  | [], [], vs, r, l => by cases r; exact ⟨fun d e => by simp [dGet] at e, fun _ => rfl, by simp [valV_nil, hasKey]⟩
  | [], _ :: _, _, _, l => by simp at l
  | _ :: _, [], _, _, l => by simp at l
  | k' :: ks, x :: xs, _, r, l => by
    obtain ⟨v, t, rfl, a, b⟩ := r
    obtain ⟨i1, i2, i3⟩ := dGet_rep (k := k) b (by simpa using l)
    by_cases e : k' = k
    · subst e
      refine ⟨fun d h => ?_, fun h => ?_, ?_⟩
      · simp [dGet] at h
        subst h
        exact ⟨v, valV_pos rfl, a⟩
      · simp [dGet] at h
      · rw [List.zip_cons_cons, valV_pos rfl]
        simp [hasKey]
    · refine ⟨fun d h => ?_, fun h => ?_, ?_⟩
      · rw [List.zip_cons_cons, valV_neg e]
        exact i1 d (by simpa [dGet, e] using h)
      · rw [List.zip_cons_cons, valV_neg e]
        exact i2 (by simpa [dGet, e] using h)
      · rw [List.zip_cons_cons, valV_neg e, i3]
        simp [hasKey, e]
theorem key_rep {K : PySem.W.Frag} {F : Hp} {d : D} {v : V} {k : Key} (r : Rep K F d v) (e : keyOf d = some k) : v = kV k := by
  cases d with
  | int i => cases e; exact r
  | str x => cases e; exact r
  | _ => cases e
theorem view_flat {K : PySem.W.Frag} {F H : Hp} {d : D} {v : V} {k : Key} (r : View K F H d v) (e : keyOf d = some k) : v = kV k := by
  cases d with
  | int i => cases e; exact r
  | str x => cases e; exact r
  | _ => cases e
def rDIn (neg : Bool) : R2 := fun y x H Q => ∃ a o, x = .ref a ∧ DGet H a y o ∧ Q (.bl (if neg then !o.isSome else o.isSome)) H
section
variable {K : PySem.W.Frag}
theorem memDic {F H : Hp} {d e : D} {x y : V} {b : Bool} (s : Sub F H) (a : View K F H d x) (c : View K F H e y) (hd : isDic e = true) (h : memD d e = some b) : ∃ p o, y = .ref p ∧ DGet H p x o ∧ o.isSome = b := by
  cases e with
  | dic ks xs =>
    have h' : (match keyOf d with | some k => some (hasKey ks k) | none => none) = some b := h
    cases ek : keyOf d with
    | none => rw [ek] at h'; cases h'
    | some k =>
      rw [ek] at h'
      cases h'
      obtain ⟨p, vs, rfl, q, l, nd, r⟩ := c
      have ex := view_flat a ek
      subst ex
      exact ⟨p, _, rfl, .inl ⟨_, k, q, rfl, rfl⟩, (dGet_rep r l).2.2⟩
  | _ => cases hd
theorem o_inK : Op2 K (rDIn false) opInK := by
  intro F H d e x y z Q s a b h q
  unfold opInK at h
  split at h
  · rename_i hd
    obtain ⟨c, hm, rfl⟩ := Option.map_eq_some_iff.mp h
    obtain ⟨p, o, rfl, g, rfl⟩ := memDic s a b hd hm
    exact ⟨p, o, rfl, g, q _ H F (Ext.refl s) rfl⟩
  · cases h
theorem o_notInK : Op2 K (rDIn true) opNotInK := by
  intro F H d e x y z Q s a b h q
  unfold opNotInK at h
  split at h
  · rename_i hd
    obtain ⟨c, hm, rfl⟩ := Option.map_eq_some_iff.mp h
    obtain ⟨p, o, rfl, g, rfl⟩ := memDic s a b hd hm
    exact ⟨p, o, rfl, g, q _ H F (Ext.refl s) rfl⟩
  · cases h
abbrev rInA (K : PySem.W.Frag) : R2 := fun x y H Q => (∃ (c : Nat) (z : Str), x = .str ⟨#[c]⟩ ∧ y = .str z ∧ Q (.bl (decide (c ∈ z.cps.toList))) H) ∨ (∃ i j, x = .str i ∧ y = .str j ∧ Q (.bl (!(Builtin.Str.occurrences j i 0 j.length 1).isEmpty)) H) ∨ rInD K x y H Q ∨ rInDT K x y H Q
abbrev rNotInA (K : PySem.W.Frag) : R2 := fun x y H Q => (∃ (c : Nat) (z : Str), x = .str ⟨#[c]⟩ ∧ y = .str z ∧ Q (.bl (!decide (c ∈ z.cps.toList))) H) ∨ (∃ i j, x = .str i ∧ y = .str j ∧ Q (.bl (!(!(Builtin.Str.occurrences j i 0 j.length 1).isEmpty))) H) ∨ rNotInD K x y H Q ∨ rNotInDT K x y H Q
theorem one_sign {x : Str} {c : Nat} (h : x.cps.toList = [c]) : x = ⟨#[c]⟩ := by
  obtain ⟨cps⟩ := x
  have : cps = #[c] := Array.toList_inj.mp h
  rw [this]
theorem among_some {d : D} {xs : List D} {mk : List PyData → PyData} {b : Bool} (h : among d xs mk = some b) : ∃ p ps, py d = some p ∧ pys xs = some ps ∧ SeqAt.shaped p = true ∧ SeqAt.shaped (mk ps) = true ∧ b = ps.any fun z => PyData.eqv z p := by
  unfold among at h
  split at h
  · split at h
    · rename_i hs
      cases h
      exact ⟨_, _, by assumption, by assumption, hs.1, hs.2, rfl⟩
    · cases h
  · cases h
theorem memSeq {F H : Hp} {d e : D} {x y : V} {b : Bool} {Q : VK} (s : Sub F H) (a : View K F H d x) (c : View K F H e y) (hd : isDic e = false) (h : memD d e = some b) : (Q (.bl b) H → rInA K x y H Q) ∧ (Q (.bl (!b)) H → rNotInA K x y H Q) := by
  cases e with
  | str z =>
    cases c
    cases d with
    | str w =>
      cases a
      have h' : some (inStr w z) = some b := h
      cases h'
      unfold inStr
      split
      · rename_i c hc
        have := one_sign hc
        subst this
        exact ⟨fun q => .inl ⟨c, z, rfl, rfl, q⟩, fun q => .inl ⟨c, z, rfl, rfl, q⟩⟩
      · exact ⟨fun q => .inr (.inl ⟨w, z, rfl, rfl, q⟩), fun q => .inr (.inl ⟨w, z, rfl, rfl, q⟩)⟩
    | _ => cases h
  | lst ys =>
    obtain ⟨p, ps, e1, e2, h1, h2, rfl⟩ := among_some (show among d ys .list = some b from h)
    have hy : Dp K H y (.list ps) := c.dp s (show (pys ys).map PyData.list = _ by rw [e2]; rfl)
    exact ⟨fun q => .inr (.inr (.inl ⟨p, ps, a.dp s e1, hy, h1, h2, q⟩)), fun q => .inr (.inr (.inl ⟨p, ps, a.dp s e1, hy, h1, h2, q⟩))⟩
  | scr ys =>
    obtain ⟨p, ps, e1, e2, h1, h2, rfl⟩ := among_some (show among d ys .list = some b from h)
    have hy : Dp K H y (.list ps) := c.dp s (show (pys ys).map PyData.list = _ by rw [e2]; rfl)
    exact ⟨fun q => .inr (.inr (.inl ⟨p, ps, a.dp s e1, hy, h1, h2, q⟩)), fun q => .inr (.inr (.inl ⟨p, ps, a.dp s e1, hy, h1, h2, q⟩))⟩
  | tup ys =>
    obtain ⟨p, ps, e1, e2, h1, h2, rfl⟩ := among_some (show among d ys .tuple = some b from h)
    have hy : Dp K H y (.tuple ps) := c.dp s (show (pys ys).map PyData.tuple = _ by rw [e2]; rfl)
    exact ⟨fun q => .inr (.inr (.inr ⟨p, ps, a.dp s e1, hy, h1, h2, q⟩)), fun q => .inr (.inr (.inr ⟨p, ps, a.dp s e1, hy, h1, h2, q⟩))⟩
  | dic ks xs => cases hd
  | _ => cases h
theorem o_inS : Op2 K (rInA K) opInS := by
  intro F H d e x y z Q s a b h q
  unfold opInS at h
  split at h
  · cases h
  · rename_i hd
    obtain ⟨c, hm, rfl⟩ := Option.map_eq_some_iff.mp h
    exact (memSeq s a b (by simpa using hd) hm).1 (q _ H F (Ext.refl s) rfl)
theorem o_notInS : Op2 K (rNotInA K) opNotInS := by
  intro F H d e x y z Q s a b h q
  unfold opNotInS at h
  split at h
  · cases h
  · rename_i hd
    obtain ⟨c, hm, rfl⟩ := Option.map_eq_some_iff.mp h
    exact (memSeq s a b (by simpa using hd) hm).2 (q _ H F (Ext.refl s) rfl)
theorem memX_some {F H : Hp} {d e : D} {x y : V} {b : Bool} (s : Sub F H) (a : View K F H d x) (c : View K F H e y) (h : memX d e = some b) : ∃ p es k, y = .ref p ∧ XAt H p es ∧ KeysAt K H es ∧ KeyAt K H x k ∧ (xGet es k).isSome = b := by
  cases e with
  | dct ks xs =>
    obtain ⟨k, hk, rfl⟩ := Option.map_eq_some_iff.mp (show (kOf d).map (fun k => dctHas ks k) = some b from h)
    obtain ⟨p, es, rfl, q, hm, rk, r⟩ := c
    exact ⟨p, es, k, rfl, .inl q, keysAt_of s hm rk, View.keyAt s a hk, (dctGet_rep hm r).2.2⟩
  | dic ks xs =>
    have h' : (if ks.isEmpty then (kOf d).map fun _ => false else none) = some b := h
    split at h'
    · rename_i he
      obtain ⟨k, hk, rfl⟩ := Option.map_eq_some_iff.mp h'
      have : ks = [] := List.isEmpty_iff.mp he
      subst this
      obtain ⟨p, vs, rfl, q, l, nd, r⟩ := c
      exact ⟨p, [], k, rfl, .inr ⟨rfl, q⟩, (fun e h => nomatch h), View.keyAt s a hk, rfl⟩
    · cases h'
  | _ => cases h
theorem o_inX : Op2 K (rXIn K false) opInX := by
  intro F H d e x y z Q s a b h q
  obtain ⟨c, hm, rfl⟩ := Option.map_eq_some_iff.mp h
  obtain ⟨p, es, k, rfl, h1, h2, h3, rfl⟩ := memX_some s a b hm
  exact ⟨p, es, k, rfl, h1, h2, h3, q _ H F (Ext.refl s) rfl⟩
theorem o_notInX : Op2 K (rXIn K true) opNotInX := by
  intro F H d e x y z Q s a b h q
  obtain ⟨c, hm, rfl⟩ := Option.map_eq_some_iff.mp h
  obtain ⟨p, es, k, rfl, h1, h2, h3, rfl⟩ := memX_some s a b hm
  exact ⟨p, es, k, rfl, h1, h2, h3, q _ H F (Ext.refl s) rfl⟩
theorem bf_map {g : D → D → Option Bool} {n : Bool → Bool} : BoolF fun x y => (g x y).map fun b => .val (.bl (n b)) := fun x y z h => by
  obtain ⟨c, _, rfl⟩ := Option.map_eq_some_iff.mp h
  exact ⟨_, rfl⟩
theorem bf_in : BoolF opIn := bf_map (n := id)
theorem bf_notIn : BoolF opNotIn := bf_map (n := not)
end
section
variable {X : Cx} {W : WX} {a b : Expr} {g ga gb gc : Ev} {gs : Av} {pos p : Pos} {k : Nat}
theorem op_inAll (hr : RoomG k X.A) : OpR X (compareOp .In) (rInA X.K) := op_in_sign.or (op_in_str.or ((op_inD (u65 hr)).or (op_inDT (u65 hr))))
theorem op_notInAll (hr : RoomG k X.A) : OpR X (compareOp .NotIn) (rNotInA X.K) := op_notIn_sign.or (op_notIn_str.or ((op_notInD (u65 hr)).or (op_notInDT (u65 hr))))
theorem cd_inO (hr : RoomG k X.A) (ha : PE X a (tE X.K W ga)) (hb : PE X b (tE X.K W gb)) : PC X .In a b (tE X.K W (dOp2 opInO ga gb)) := by
  refine cd_or (f1 := opInS) (f2 := opInK) (cd_op (op_inAll hr) o_inS ha hb) ?_ fun x y => ?_
  · exact (pc_din (u1 hr) ha hb).weak fun σ H Q h => by
      have := ec_op2 o_inK h
      exact this
  · unfold opInO opInS opInK
    cases isDic y
    · exact .inl rfl
    · exact .inr rfl
theorem cd_notInO (hr : RoomG k X.A) (ha : PE X a (tE X.K W ga)) (hb : PE X b (tE X.K W gb)) : PC X .NotIn a b (tE X.K W (dOp2 opNotInO ga gb)) := by
  refine cd_or (f1 := opNotInS) (f2 := opNotInK) (cd_op (op_notInAll hr) o_notInS ha hb) ?_ fun x y => ?_
  · exact (pc_dnotin (u1 hr) ha hb).weak fun σ H Q h => by
      have := ec_op2 o_notInK h
      exact this
  · unfold opNotInO opNotInS opNotInK
    cases isDic y
    · exact .inl rfl
    · exact .inr rfl
theorem cd_in (hr : RoomG k X.A) (ha : PE X a (tE X.K W ga)) (hb : PE X b (tE X.K W gb)) (hw : X.w = HasW.w := by rfl) : PC X .In a b (tE X.K W (dOp2 opIn ga gb)) := by
  refine cd_or (f1 := opInX) (f2 := opInO) (cd_op (op_xIn hw (u65 hr)) o_inX ha hb) (cd_inO hr ha hb) fun x y => ?_
  unfold opIn opInX opInO
  cases memX x y
  · exact .inr rfl
  · exact .inl rfl
theorem cd_notIn (hr : RoomG k X.A) (ha : PE X a (tE X.K W ga)) (hb : PE X b (tE X.K W gb)) (hw : X.w = HasW.w := by rfl) : PC X .NotIn a b (tE X.K W (dOp2 opNotIn ga gb)) := by
  refine cd_or (f1 := opNotInX) (f2 := opNotInO) (cd_op (op_xNotIn hw (u65 hr)) o_notInX ha hb) (cd_notInO hr ha hb) fun x y => ?_
  unfold opNotIn opNotInX opNotInO
  cases memX x y
  · exact .inr rfl
  · exact .inl rfl
end
end DL

/-! subscripts, slices, built-in calls. -/
namespace DL
open PySem PySem.Spec L2
variable [HasW]
theorem dOp2_or {f f1 f2 : D → D → Option RV} {ga gb : Ev} (hf : ∀ x y, f x y = f1 x y ∨ f x y = f2 x y) (ρ : Env) : dOp2 f ga gb ρ = dOp2 f1 ga gb ρ ∨ dOp2 f ga gb ρ = dOp2 f2 ga gb ρ := by
  unfold dOp2
  cases (ga ρ).settle with
  | no => exact .inl rfl
  | ex x ρ1 => exact .inl rfl
  | ok r1 ρ1 =>
    show (gb ρ1).settle.bind _ = (gb ρ1).settle.bind _ ∨ (gb ρ1).settle.bind _ = (gb ρ1).settle.bind _
    cases (gb ρ1).settle with
    | no => exact .inl rfl
    | ex x ρ1 => exact .inl rfl
    | ok r2 ρ2 =>
      show (match peek r1 ρ2, peek r2 ρ2 with | some x, some y => ER.of (f x y) ρ2 | _, _ => ER.no) = (match peek r1 ρ2, peek r2 ρ2 with | some x, some y => ER.of (f1 x y) ρ2 | _, _ => ER.no) ∨ (match peek r1 ρ2, peek r2 ρ2 with | some x, some y => ER.of (f x y) ρ2 | _, _ => ER.no) = (match peek r1 ρ2, peek r2 ρ2 with | some x, some y => ER.of (f2 x y) ρ2 | _, _ => ER.no)
      cases peek r1 ρ2 with
      | none => exact .inl rfl
      | some x =>
        cases peek r2 ρ2 with
        | none => exact .inl rfl
        | some y =>
          rcases hf x y with e | e
          · left; simp only [e]
          · right; simp only [e]
theorem ed_or2 {X : Cx} {W : WX} {e : Expr} {f f1 f2 : D → D → Option RV} {ga gb : Ev} (h1 : PE X e (tE X.K W (dOp2 f1 ga gb))) (h2 : PE X e (tE X.K W (dOp2 f2 ga gb))) (hf : ∀ x y, f x y = f1 x y ∨ f x y = f2 x y) : PE X e (tE X.K W (dOp2 f ga gb)) := by
  refine ⟨fun pins s σ H Q I ⟨α, ρ, F, G, ft, h⟩ => ?_⟩
  rcases dOp2_or hf ρ with e | e
  · exact h1.run pins s σ H Q I ⟨α, ρ, F, G, ft, e ▸ h⟩
  · exact h2.run pins s σ H Q I ⟨α, ρ, F, G, ft, e ▸ h⟩
/-! ### x[i] -/
def ixD (x y : D) : Option D := match x with
  | .lst xs => match y with
    | .int i => atI xs i
    | _ => none
  | .scr xs => match y with
    | .int i => atI xs i
    | _ => none
  | .tup xs => match y with
    | .int i => atI xs i
    | _ => none
  | .str z => match y with
    | .int i => if z.length ≤ sizeLine then (atI z.cps.toList i).map fun c => .str ⟨#[c]⟩ else none
    | _ => none
  | .dic ks xs => match keyOf y with
    | some k => dGet ks xs k
    | none => none
  | _ => none
/-- by a tuple, of a dict -/
def ixX (x y : D) : Option D := match x with
  | .dct ks xs => match kOf y with
    | some k => dctGet ks xs k
    | none => none
  | _ => none
def opIx (x y : D) : Option RV := (ixX x y <|> ixD x y).map .val
def opIxO (x y : D) : Option RV := (ixD x y).map .val
def opIxX (x y : D) : Option RV := (ixX x y).map .val
def opIxK (x y : D) : Option RV := if isDic x then (ixD x y).map .val else none
def opIxS (x y : D) : Option RV := if isDic x then none else (ixD x y).map .val
def rIxK : R2 := fun x y H Q => ∃ a v, x = .ref a ∧ DGet H a y (some v) ∧ Q v H
section
variable {K : PySem.W.Frag}
theorem Reps.atI {F : Hp} {ds : List D} {vs : List V} {i : Int} {d : D} (r : Reps K F ds vs) (e : L2.atI ds i = some d) : ∃ v, L2.atI vs i = some v ∧ Rep K F d v := by
  unfold L2.atI at e ⊢
  rw [r.length]
  cases h : ixN ds.length i with
  | none => rw [h] at e; cases e
  | some j =>
    rw [h] at e
    exact r.get e
theorem o_ixK : Op2 K rIxK opIxK := by
  intro F H d e x y z Q s a b h q
  unfold opIxK at h
  split at h
  · rename_i hd
    obtain ⟨c, hm, rfl⟩ := Option.map_eq_some_iff.mp h
    cases d with
    | dic ks xs =>
      have h' : (match keyOf e with | some k => dGet ks xs k | none => none) = some c := hm
      cases ek : keyOf e with
      | none => rw [ek] at h'; cases h'
      | some k =>
        rw [ek] at h'
        obtain ⟨p, vs, rfl, q1, l, nd, r⟩ := a
        have ex := view_flat b ek
        subst ex
        obtain ⟨v, hv, rv⟩ := (dGet_rep r l).1 c h'
        exact ⟨p, v, rfl, .inl ⟨_, k, q1, rfl, hv.symm⟩, q _ H F (Ext.refl s) rv⟩
    | _ => cases hd
  · cases h
theorem o_ixX : Op2 K (rXIx K) opIxX := by
  intro F H d e x y z Q s a b h q
  obtain ⟨c, hm, rfl⟩ := Option.map_eq_some_iff.mp h
  cases d with
  | dct ks xs =>
    have h' : (match kOf e with | some k => dctGet ks xs k | none => none) = some c := hm
    cases ek : kOf e with
    | none => rw [ek] at h'; cases h'
    | some k =>
      rw [ek] at h'
      obtain ⟨p, es, rfl, q1, hk, rk, r⟩ := a
      obtain ⟨v, hv, rv⟩ := (dctGet_rep hk r).1 c h'
      exact ⟨p, es, k, v, rfl, q1, keysAt_of s hk rk, View.keyAt s b ek, hv, q _ H F (Ext.refl s) rv⟩
  | _ => cases hm
theorem o_ixS : Op2 K (rIx K) opIxS := by
  intro F H d e x y z Q s a b h q
  unfold opIxS at h
  split at h
  · cases h
  · rename_i hd
    obtain ⟨c, hm, rfl⟩ := Option.map_eq_some_iff.mp h
    cases d with
    | lst xs =>
      cases e with
      | int i =>
        cases b
        obtain ⟨p, vs, rfl, q1, r⟩ := a
        obtain ⟨v, hv, rv⟩ := r.atI (show L2.atI xs i = some c from hm)
        exact .inl ⟨p, vs, i, v, rfl, rfl, SqL.of q1, hv, q _ H F (Ext.refl s) rv⟩
      | _ => cases hm
    | scr xs =>
      cases e with
      | int i =>
        cases b
        obtain ⟨p, vs, rfl, q1, r⟩ := a
        obtain ⟨v, hv, rv⟩ := r.atI (show L2.atI xs i = some c from hm)
        exact .inl ⟨p, vs, i, v, rfl, rfl, s.sqL q1, hv, q _ H F (Ext.refl s) rv⟩
      | _ => cases hm
    | tup xs =>
      cases e with
      | int i =>
        cases b
        obtain ⟨p, vs, rfl, q1, r⟩ := a
        obtain ⟨v, hv, rv⟩ := r.atI (show L2.atI xs i = some c from hm)
        exact .inr (.inl ⟨p, vs, i, v, rfl, rfl, s.sqT q1, hv, q _ H F (Ext.refl s) rv⟩)
      | _ => cases hm
    | str zz =>
      cases e with
      | int i =>
        cases a
        cases b
        have h' : (if zz.length ≤ sizeLine then (L2.atI zz.cps.toList i).map fun c => D.str ⟨#[c]⟩ else none) = some c := hm
        split at h'
        · rename_i hz
          obtain ⟨u, hu, rfl⟩ := Option.map_eq_some_iff.mp h'
          exact .inr (.inr ⟨zz, i, u, rfl, rfl, hz, hu, q _ H F (Ext.refl s) rfl⟩)
        · cases h'
      | _ => cases hm
    | dic ks xs => exact absurd rfl hd
    | _ => cases hm
end
section
variable {X : Cx} {W : WX} {a b : Expr} {g ga gb gc : Ev} {gs : Av} {pos p : Pos} {k : Nat}
theorem ed_ixO (hr : RoomG k X.A) (ha : PE X a (tE X.K W ga)) (hb : PE X b (tE X.K W gb)) (hs : PlainIx b) (hn : NoSl b) : PE X (.Subscript a b pos) (tE X.K W (dOp2 opIxO ga gb)) := by
  refine ed_or2 (f1 := opIxS) (f2 := opIxK) (ed_ix ix_seq o_ixS ha hb hs) ?_ fun x y => ?_
  · exact (pe_dget (u1 hr) ha hb hn).weak fun σ H Q h => by
      have := ec_op2 o_ixK h
      exact this
  · unfold opIxO opIxS opIxK
    cases isDic x
    · exact .inl rfl
    · exact .inr rfl
theorem ed_ixA (hr : RoomG k X.A) (ha : PE X a (tE X.K W ga)) (hb : PE X b (tE X.K W gb)) (hs : PlainIx b := by exact fun _ _ => rfl) (hn : NoSl b := by exact fun _ _ => rfl) (hw : X.w = HasW.w := by rfl) : PE X (.Subscript a b pos) (tE X.K W (dOp2 opIx ga gb)) := by
  refine ed_or2 (f1 := opIxX) (f2 := opIxO) ?_ (ed_ixO hr ha hb hs hn) fun x y => ?_
  · exact (pe_xget hw (u65 hr) ha hb hn).weak fun σ H Q h => by
      have := ec_op2 o_ixX h
      exact this
  · unfold opIx opIxX opIxO
    cases ixX x y
    · exact .inr rfl
    · exact .inl rfl
end
/-! ### x[a:b] -/
inductive PR where | ok (o : Option Int) (ρ : Env) | ex (x : Exn) (ρ : Env) | no
/-- a bound, or none -/
def dPart : Option Ev → Env → PR
  | none, ρ => .ok none ρ
  | some g, ρ => match (g ρ).settle with
    | .ok r ρ1 => match peek r ρ1 with
      | some (.int i) => .ok (some i) ρ1
      | _ => .no
    | .ex x ρ1 => .ex x ρ1
    | .no => .no
def PC0 (K : PySem.W.Frag) (W : WX) (α : Nat → Addr) (σ : L2.St) (F G : Hp) (Q : Option Int → Hp → Prop) : PR → Prop
  | .ok o ρ => ∀ H' F', Grow G F F' → Fits K α ρ σ H' F' G → Q o H'
  | .ex x ρ => ∀ cls d H' F', Grow G F F' → Fits K α ρ σ H' F' G → RepX K F' H' x cls d → W cls d σ H'
  | .no => False
def tP (K : PySem.W.Frag) (W : WX) (o : Option Ev) : TO := fun σ H Q => ∃ (α : Nat → Addr) (ρ : Env) (F G : Hp), Fits K α ρ σ H F G ∧ PC0 K W α σ F G Q (dPart o ρ)
theorem _root_.L2.PO.weak {X : Cx} {e : Option Expr} {t t' : TO} (h : PO X e t) (w : ∀ σ H Q, t' σ H Q → t σ H Q) : PO X e t' := ⟨fun pins s σ H Q I q => h.run pins s σ H Q I (w σ H Q q)⟩
section
variable {X : Cx} {W : WX} {e : Expr} {a b : Option Expr} {g ge : Ev} {ga gb : Option Ev} {pos p2 : Pos} {k : Nat}
theorem od_none : PO X none (tP X.K W none) := po_none.weak fun σ H Q ⟨α, ρ, F, G, f, h⟩ => h H F (Grow.refl _ _) f
theorem od_some (h : PE X e (tE X.K W g)) : PO X (some e) (tP X.K W (some g)) := by
  refine (po_some h).weak fun σ H Q ⟨α, ρ, F, G, f, h⟩ => ⟨α, ρ, F, G, f, EC.settle ?_⟩
  unfold dPart at h
  cases e1 : (g ρ).settle with
  | no => simp [e1, PC0] at h
  | ex x ρ1 => simp only [e1] at h; exact h
  | ok r ρ1 =>
    simp only [e1] at h
    have rs : r.settle = r := by
      cases q : g ρ with
      | no => rw [q] at e1; cases e1
      | ex x ρ => rw [q] at e1; cases e1
      | ok r0 ρ0 =>
        rw [q] at e1
        have e6 : r0.settle = r := by cases e1; rfl
        rw [← e6]
        cases r0 <;> rfl
    intro v H1 F1 g1 f1 r1
    have s1 : SRep X.K F1 σ r v := by
      rw [← rs] at r1 ⊢
      exact settle_srep r1
    cases e2 : peek r ρ1 with
    | none => simp [e2, PC0] at h
    | some d =>
      cases d with
      | int i =>
        simp only [e2] at h
        have hv : v = .int i := f1.peek s1 e2
        exact ⟨i, hv, h H1 F1 g1 f1⟩
      | _ => simp [e2, PC0] at h
/-- a[lo:hi] -/
def dSl (f : D → Option Int → Option Int → Option RV) (ge : Ev) (ga gb : Option Ev) : Ev := fun ρ => (ge ρ).settle.bind fun r ρ1 => match dPart ga ρ1 with
  | .ok lo ρ2 => match dPart gb ρ2 with
    | .ok hi ρ3 => match peek r ρ3 with
      | some d => ER.of (f d lo hi) ρ3
      | none => .no
    | .ex x ρ3 => .ex x ρ3
    | .no => .no
  | .ex x ρ2 => .ex x ρ2
  | .no => .no
def cutD (xs : List D) (lo hi : Option Int) : List D := (xs.drop (HT.sIx xs.length 0 lo)).take (HT.sIx xs.length xs.length hi - HT.sIx xs.length 0 lo)
def opSl : D → Option Int → Option Int → Option RV
  | .lst xs, lo, hi => some (.new (.lst (cutD xs lo hi)))
  | .scr xs, lo, hi => some (.new (.lst (cutD xs lo hi)))
  | .tup xs, lo, hi => some (.val (.tup (cutD xs lo hi)))
  | .str z, lo, hi => if z.length ≤ sizeLine then some (.val (.str (cutS z lo hi))) else none
  | _, _, _ => none
theorem Reps.cut {K : PySem.W.Frag} {F : Hp} {ds : List D} {vs : List V} (r : Reps K F ds vs) (lo hi : Option Int) : Reps K F (cutD ds lo hi) (cutV vs lo hi) := by
  unfold cutD cutV
  rw [r.length]
  exact (r.drop _).take _
abbrev rSlAll (K : PySem.W.Frag) : V → Option Int → Option Int → Hp → VK → Prop := fun x lo hi H Q => rSlL K x lo hi H Q ∨ rSlA K x lo hi H Q ∨ rSlS x lo hi H Q
theorem sl_sound {K : PySem.W.Frag} {F H : Hp} {d : D} {v : V} {lo hi : Option Int} {z : RV} {Q : VK} (s : Sub F H) (a : View K F H d v) (h : opSl d lo hi = some z) (q : ∀ w H' F', Ext H F H' F' → ORep K H F' H' z w → Q w H') : rSlAll K v lo hi H Q := by
  cases d with
  | lst xs =>
    cases h
    obtain ⟨p, vs, rfl, q1, r⟩ := a
    exact .inl ⟨p, vs, rfl, SqL.of q1, fun pp hp => q _ _ _ (Ext.allocO s hp) ⟨pp, rfl, hp, s.free hp, _, upd_same, r.cut lo hi⟩⟩
  | scr xs =>
    cases h
    obtain ⟨p, vs, rfl, q1, r⟩ := a
    exact .inl ⟨p, vs, rfl, s.sqL q1, fun pp hp => q _ _ _ (Ext.allocO s hp) ⟨pp, rfl, hp, s.free hp, _, upd_same, r.cut lo hi⟩⟩
  | tup xs =>
    cases h
    obtain ⟨p, vs, rfl, q1, r⟩ := a
    refine .inr (.inl ⟨p, vs, rfl, s.sqT q1, fun hw => ?_, fun _ pp hp => ?_⟩)
    · refine q _ H F (Ext.refl s) ⟨p, vs, rfl, q1, ?_⟩
      have : cutV vs lo hi = vs := by
        unfold cutV
        rw [hw.1, hw.2]
        simp
      rw [← this]
      exact r.cut lo hi
    · exact q _ _ _ (Ext.alloc s hp) ⟨pp, _, rfl, SqT.of upd_same, Reps.mono (Sub.upd_none (s.free hp)) _ _ (r.cut lo hi)⟩
  | str zz =>
    cases a
    have h' : (if zz.length ≤ sizeLine then some (RV.val (.str (cutS zz lo hi))) else none) = some z := h
    split at h'
    · rename_i hz
      cases h'
      exact .inr (.inr ⟨zz, rfl, hz, q _ H F (Ext.refl s) rfl⟩)
    · cases h'
  | _ => cases h
theorem ed_slice (he : PE X e (tE X.K W ge)) (ha : PO X a (tP X.K W ga)) (hb : PO X b (tP X.K W gb)) : PE X (.Subscript e (.Slice a b none p2) pos) (tE X.K W (dSl opSl ge ga gb)) := by
  refine (pe_slice (sl_list.or (sl_tupA.or sl_str)) he ha hb).weak fun σ H Q ⟨α, ρ, F, G, f, h⟩ => ⟨α, ρ, F, G, f, EC.bindS (fun r ρ1 v H1 F1 g1 f1 s1 h1 => ?_) h⟩
  refine ⟨α, ρ1, F1, G, f1, ?_⟩
  cases e1 : dPart ga ρ1 with
  | no => simp [e1, EC] at h1
  | ex x ρ2 => simp only [e1] at h1; exact h1
  | ok lo ρ2 =>
    simp only [e1] at h1
    intro H2 F2 g2 f2
    refine ⟨α, ρ2, F2, G, f2, ?_⟩
    have h2 := EC.mono g2 h1
    cases e2 : dPart gb ρ2 with
    | no => simp [e2, EC] at h2
    | ex x ρ3 => simp only [e2] at h2; exact h2
    | ok hi ρ3 =>
      simp only [e2] at h2
      intro H3 F3 g3 f3
      have h3 := EC.mono g3 h2
      cases e3 : peek r ρ3 with
      | none => simp [e3, EC] at h3
      | some d =>
        simp only [e3] at h3
        cases e4 : opSl d lo hi with
        | none => simp [e4, ER.of, EC] at h3
        | some z =>
          simp only [e4, ER.of] at h3
          exact sl_sound f3.fh (f3.peek (s1.mono (g2.trans g3).sub) e3) e4 (EC.op f3 h3)
end
end DL

/-! built-in calls. -/
namespace DL
open PySem PySem.Spec L2
variable [HasW]
/-! ### what they compute -/
def fLen : List D → Option RV
  | [.lst xs] => some (.val (.int xs.length))
  | [.scr xs] => some (.val (.int xs.length))
  | [.tup xs] => some (.val (.int xs.length))
  | [.dic ks _] => some (.val (.int ks.length))
  | [.str z] => if z.length ≤ sizeLine then some (.val (.int z.length)) else none
  | _ => none
def fAbs : List D → Option RV
  | [.int i] => some (.val (.int (if i < 0 then -i else i)))
  | _ => none
def fInt : List D → Option RV
  | [.int i] => some (.val (.int i))
  | [.bl b] => some (.val (.int (if b then 1 else 0)))
  | _ => none
def fMax2 : List D → Option RV
  | [.int i, .int j] => some (.val (.int (if j > i then j else i)))
  | _ => none
def fMin2 : List D → Option RV
  | [.int i, .int j] => some (.val (.int (if j < i then j else i)))
  | _ => none
/-- boolsD, intsD of data -/
def boolsD : List D → Option (List Bool)
  | [] => some []
  | .bl b :: r => (boolsD r).map (b :: ·)
  | _ => none
def intsD : List D → Option (List Int)
  | [] => some []
  | .int b :: r => (intsD r).map (b :: ·)
  | _ => none
theorem bools_eq : ∀ {ds : List D} {bs : List Bool}, boolsD ds = some bs → ds = bs.map .bl
  | [], bs, h => by cases h; rfl
  | d :: r, bs, h => by
    cases d with
    | bl b =>
      obtain ⟨cs, h1, rfl⟩ := Option.map_eq_some_iff.mp (show (boolsD r).map (b :: ·) = some bs from h)
      rw [bools_eq h1]
      rfl
    | _ => cases h
theorem ints_eq : ∀ {ds : List D} {bs : List Int}, intsD ds = some bs → ds = bs.map .int
  | [], bs, h => by cases h; rfl
  | d :: r, bs, h => by
    cases d with
    | int b =>
      obtain ⟨cs, h1, rfl⟩ := Option.map_eq_some_iff.mp (show (intsD r).map (b :: ·) = some bs from h)
      rw [ints_eq h1]
      rfl
    | _ => cases h
theorem ints_map : ∀ ns : List Int, intsD (ns.map .int) = some ns
  | [] => rfl
  | n :: r => by show (intsD (r.map .int)).map (n :: ·) = _; rw [ints_map r]; rfl
theorem bools_map : ∀ ns : List Bool, boolsD (ns.map .bl) = some ns
  | [] => rfl
  | n :: r => by show (boolsD (r.map .bl)).map (n :: ·) = _; rw [bools_map r]; rfl
/-- the items of a list -/
def listOf : List D → Option (List D)
  | [.lst xs] => some xs
  | [.scr xs] => some xs
  | _ => none
def seqsOf : List D → Option (List D)
  | [.lst xs] => some xs
  | [.scr xs] => some xs
  | [.tup xs] => some xs
  | _ => none
def fAll (ds : List D) : Option RV := ((listOf ds).bind boolsD).map fun bs => .val (.bl (bs.all id))
def fAny (ds : List D) : Option RV := ((listOf ds).bind boolsD).map fun bs => .val (.bl (bs.any id))
def fSum (ds : List D) : Option RV := ((listOf ds).bind intsD).map fun bs => .val (.int bs.sum)
def fTuple (ds : List D) : Option RV := (seqsOf ds).map fun xs => .val (.tup xs)
def fList (ds : List D) : Option RV := (seqsOf ds).map fun xs => .new (.lst xs)
def tyName : D → Option String
  | .non => some "NoneType"
  | .bl _ => some "bool"
  | .int _ => some "int"
  | .str _ => some "str"
  | .tup _ => some "tuple"
  | .lst _ => some "list"
  | .scr _ => some "list"
  | .dic _ _ => some "dict"
  | .dct _ _ => none
  | .raw _ => none
def fIsi : List D → Option RV
  | [d, .raw (.ty T)] => match tyName d with
    | some t => (kitB t T).map fun b => .val (.bl b)
    | none => none
  | _ => none
def fRepr : List D → Option RV
  | [d] => match py d with
    | some p => if p.showable = true ∧ p.depth ≤ 64 ∧ p.shown.length ≤ sizeLine then some (.val (.str p.shown)) else none
    | none => none
  | _ => none
/-! ### soundness -/
section
variable {K : PySem.W.Frag} {F H : Hp}
theorem listOf_view {ds : List D} {vs : List V} {xs : List D} (s : Sub F H) (v : Views K F H ds vs) (h : listOf ds = some xs) : ∃ a ws, vs = [.ref a] ∧ SqL K H a ws ∧ Reps K F xs ws := by
  unfold listOf at h
  split at h
  · cases h
    obtain ⟨u, t, rfl, ⟨a, ws, rfl, q, r⟩, rfl⟩ := v
    exact ⟨a, ws, rfl, SqL.of q, r⟩
  · cases h
    obtain ⟨u, t, rfl, ⟨a, ws, rfl, q, r⟩, rfl⟩ := v
    exact ⟨a, ws, rfl, s.sqL q, r⟩
  · cases h
theorem on_all : OpN K (rAll K) fAll := by
  intro F H ds vs z Q s v h q
  obtain ⟨bs, h1, rfl⟩ := Option.map_eq_some_iff.mp (show ((listOf ds).bind boolsD).map (fun bs => RV.val (.bl (bs.all id))) = some z from h)
  obtain ⟨xs, h2, h3⟩ := Option.bind_eq_some_iff.mp h1
  obtain ⟨a, ws, rfl, q1, r⟩ := listOf_view s v h2
  have := bools_eq h3
  subst this
  rw [r.bools] at q1
  exact ⟨a, bs, rfl, q1, q _ H F (Ext.refl s) rfl⟩
theorem on_any : OpN K (rAny K) fAny := by
  intro F H ds vs z Q s v h q
  obtain ⟨bs, h1, rfl⟩ := Option.map_eq_some_iff.mp (show ((listOf ds).bind boolsD).map (fun bs => RV.val (.bl (bs.any id))) = some z from h)
  obtain ⟨xs, h2, h3⟩ := Option.bind_eq_some_iff.mp h1
  obtain ⟨a, ws, rfl, q1, r⟩ := listOf_view s v h2
  have := bools_eq h3
  subst this
  rw [r.bools] at q1
  exact ⟨a, bs, rfl, q1, q _ H F (Ext.refl s) rfl⟩
theorem on_sum : OpN K (rSum K) fSum := by
  intro F H ds vs z Q s v h q
  obtain ⟨bs, h1, rfl⟩ := Option.map_eq_some_iff.mp (show ((listOf ds).bind intsD).map (fun bs => RV.val (.int bs.sum)) = some z from h)
  obtain ⟨xs, h2, h3⟩ := Option.bind_eq_some_iff.mp h1
  obtain ⟨a, ws, rfl, q1, r⟩ := listOf_view s v h2
  have := ints_eq h3
  subst this
  rw [r.ints] at q1
  exact ⟨a, bs, rfl, q1, q _ H F (Ext.refl s) rfl⟩
theorem on_tuple : OpN K (fun xs H Q => ∃ p ys, xs = [.ref p] ∧ ((SqL K H p ys ∧ ∀ l, H l = none → Q (.ref l) (upd H l (.tup ys))) ∨ (SqT K H p ys ∧ Q (.ref p) H))) fTuple := by
  intro F H ds vs z Q s v h q
  obtain ⟨xs, h1, rfl⟩ := Option.map_eq_some_iff.mp (show (seqsOf ds).map (fun xs => RV.val (.tup xs)) = some z from h)
  unfold seqsOf at h1
  split at h1
  · cases h1
    obtain ⟨u, t, rfl, ⟨a, ws, rfl, q1, r⟩, rfl⟩ := v
    exact ⟨a, ws, rfl, .inl ⟨SqL.of q1, fun l hl => q _ _ _ (Ext.alloc s hl) ⟨l, _, rfl, SqT.of upd_same, Reps.mono (Sub.upd_none (s.free hl)) _ _ r⟩⟩⟩
  · cases h1
    obtain ⟨u, t, rfl, ⟨a, ws, rfl, q1, r⟩, rfl⟩ := v
    exact ⟨a, ws, rfl, .inl ⟨s.sqL q1, fun l hl => q _ _ _ (Ext.alloc s hl) ⟨l, _, rfl, SqT.of upd_same, Reps.mono (Sub.upd_none (s.free hl)) _ _ r⟩⟩⟩
  · cases h1
    obtain ⟨u, t, rfl, ⟨a, ws, rfl, q1, r⟩, rfl⟩ := v
    exact ⟨a, ws, rfl, .inr ⟨s.sqT q1, q _ H F (Ext.refl s) ⟨a, ws, rfl, q1, r⟩⟩⟩
  · cases h1
theorem on_list : OpN K (fun xs H Q => ∃ p ys, xs = [.ref p] ∧ (SqL K H p ys ∨ SqT K H p ys) ∧ ∀ l, H l = none → Q (.ref l) (upd H l (.lst ys))) fList := by
  intro F H ds vs z Q s v h q
  obtain ⟨xs, h1, rfl⟩ := Option.map_eq_some_iff.mp (show (seqsOf ds).map (fun xs => RV.new (.lst xs)) = some z from h)
  unfold seqsOf at h1
  split at h1
  · cases h1
    obtain ⟨u, t, rfl, ⟨a, ws, rfl, q1, r⟩, rfl⟩ := v
    exact ⟨a, ws, rfl, .inl (SqL.of q1), fun l hl => q _ _ _ (Ext.allocO s hl) ⟨l, rfl, hl, s.free hl, _, upd_same, r⟩⟩
  · cases h1
    obtain ⟨u, t, rfl, ⟨a, ws, rfl, q1, r⟩, rfl⟩ := v
    exact ⟨a, ws, rfl, .inl (s.sqL q1), fun l hl => q _ _ _ (Ext.allocO s hl) ⟨l, rfl, hl, s.free hl, _, upd_same, r⟩⟩
  · cases h1
    obtain ⟨u, t, rfl, ⟨a, ws, rfl, q1, r⟩, rfl⟩ := v
    exact ⟨a, ws, rfl, .inr (s.sqT q1), fun l hl => q _ _ _ (Ext.allocO s hl) ⟨l, rfl, hl, s.free hl, _, upd_same, r⟩⟩
  · cases h1
abbrev rLen (K : PySem.W.Frag) : List V → Hp → VK → Prop := fun xs H Q => (∃ p ys, xs = [.ref p] ∧ (SqL K H p ys ∨ SqT K H p ys) ∧ Q (.int ys.length) H) ∨ (∃ z, xs = [.str z] ∧ z.length ≤ sizeLine ∧ Q (.int z.length) H) ∨ (∃ a kvs, xs = [V.ref a] ∧ Rd H a (.dK kvs) ∧ Q (.int kvs.length) H)
theorem call_lenR {X : Cx} : CallR X (.builtin "len") (fun xs H Q => ∃ a kvs, xs = [V.ref a] ∧ Rd H a (.dK kvs) ∧ Q (.int kvs.length) H) := by
  intro pins s σ H xs us Q I r h
  obtain ⟨a, kvs, rfl, ha, q⟩ := h
  obtain ⟨u, rfl, rx⟩ := vals1 r
  cases rx
  exact d_len I ha fun t s' I' => ⟨.int _, H, I', ⟨_, rfl⟩, q⟩
theorem call_lenA {X : Cx} : CallR X (.builtin "len") (rLen X.K) := call_len_seq.or (call_len_str.or call_lenR)
theorem on_len : OpN K (rLen K) fLen := by
  intro F H ds vs z Q s v h q
  unfold fLen at h
  split at h
  · cases h
    obtain ⟨u, t, rfl, ⟨a, ws, rfl, q1, r⟩, rfl⟩ := v
    exact .inl ⟨a, ws, rfl, .inl (SqL.of q1), q _ H F (Ext.refl s) (show V.int _ = V.int _ by rw [r.length])⟩
  · cases h
    obtain ⟨u, t, rfl, ⟨a, ws, rfl, q1, r⟩, rfl⟩ := v
    exact .inl ⟨a, ws, rfl, .inl (s.sqL q1), q _ H F (Ext.refl s) (show V.int _ = V.int _ by rw [r.length])⟩
  · cases h
    obtain ⟨u, t, rfl, ⟨a, ws, rfl, q1, r⟩, rfl⟩ := v
    exact .inl ⟨a, ws, rfl, .inr (s.sqT q1), q _ H F (Ext.refl s) (show V.int _ = V.int _ by rw [r.length])⟩
  · cases h
    obtain ⟨u, t, rfl, ⟨a, ws, rfl, q1, l, nd, r⟩, rfl⟩ := v
    refine .inr (.inr ⟨a, _, rfl, q1, q _ H F (Ext.refl s) (show V.int _ = V.int _ by rw [List.length_zip, r.length, l, Nat.min_self])⟩)
  · split at h
    · rename_i hz
      cases h
      obtain ⟨u, t, rfl, hu, rfl⟩ := v
      cases hu
      exact .inr (.inl ⟨_, rfl, hz, q _ H F (Ext.refl s) rfl⟩)
    · cases h
  · cases h
theorem on_abs : OpN K (fun xs H Q => ∃ i, xs = [.int i] ∧ Q (.int (if i < 0 then -i else i)) H) fAbs := by
  intro F H ds vs z Q s v h q
  unfold fAbs at h
  split at h
  · cases h
    obtain ⟨u, t, rfl, rfl, rfl⟩ := v
    exact ⟨_, rfl, q _ H F (Ext.refl s) rfl⟩
  · cases h
theorem on_int : OpN K (fun xs H Q => (∃ i, xs = [.int i] ∧ Q (.int i) H) ∨ ∃ k, xs = [.bl k] ∧ Q (.int (if k then 1 else 0)) H) fInt := by
  intro F H ds vs z Q s v h q
  unfold fInt at h
  split at h
  · cases h
    obtain ⟨u, t, rfl, rfl, rfl⟩ := v
    exact .inl ⟨_, rfl, q _ H F (Ext.refl s) rfl⟩
  · cases h
    obtain ⟨u, t, rfl, rfl, rfl⟩ := v
    exact .inr ⟨_, rfl, q _ H F (Ext.refl s) rfl⟩
  · cases h
theorem on_max2 : OpN K (fun xs H Q => ∃ i j, xs = [.int i, .int j] ∧ Q (.int (if j > i then j else i)) H) fMax2 := by
  intro F H ds vs z Q s v h q
  unfold fMax2 at h
  split at h
  · cases h
    obtain ⟨u, t, rfl, rfl, u2, t2, rfl, rfl, rfl⟩ := v
    exact ⟨_, _, rfl, q _ H F (Ext.refl s) rfl⟩
  · cases h
theorem on_min2 : OpN K (fun xs H Q => ∃ i j, xs = [.int i, .int j] ∧ Q (.int (if j < i then j else i)) H) fMin2 := by
  intro F H ds vs z Q s v h q
  unfold fMin2 at h
  split at h
  · cases h
    obtain ⟨u, t, rfl, rfl, u2, t2, rfl, rfl, rfl⟩ := v
    exact ⟨_, _, rfl, q _ H F (Ext.refl s) rfl⟩
  · cases h
theorem ty_view {d : D} {v : V} {t : String} (s : Sub F H) (a : View K F H d v) (h : tyName d = some t) : TyX K H v (.type t) := by
  cases d with
  | dct _ _ => cases h
  | non => cases h; cases a; exact .base .non
  | bl b => cases h; cases a; exact .base (.bl b)
  | int b => cases h; cases a; exact .base (.int b)
  | str b => cases h; cases a; exact .base (.str b)
  | lst xs =>
    cases h
    obtain ⟨p, vs, rfl, q, r⟩ := a
    exact .base (.lst q)
  | scr xs =>
    cases h
    obtain ⟨p, vs, rfl, q, r⟩ := a
    rcases s.sqL q with (q | ⟨o, q⟩) | ⟨o, its, n, e, c, _⟩
    · exact .base (.lst q)
    · exact .base (.frz q)
    · exact .kList e c
  | tup xs =>
    cases h
    obtain ⟨p, vs, rfl, q, r⟩ := a
    rcases s.sqT q with (q | ⟨o, q⟩) | ⟨o, its, n, e, c, _⟩
    · exact .base (.tup q)
    · exact .fTuple q
    · exact .kTuple e c
  | dic ks xs =>
    cases h
    obtain ⟨p, vs, rfl, q, _⟩ := a
    rcases q with q | ⟨o, q⟩
    · exact .base (.dK q)
    · exact .fDict q
  | raw x => cases h
theorem on_isi : OpN K (rIsi K) fIsi := by
  intro F H ds vs z Q s v h q
  unfold fIsi at h
  split at h
  · split at h
    · rename_i t ht
      obtain ⟨b, hb, rfl⟩ := Option.map_eq_some_iff.mp h
      obtain ⟨u, tt, rfl, hu, u2, t2, rfl, rfl, rfl⟩ := v
      exact ⟨_, _, _, _, b, rfl, .ty _, ty_view s hu ht, kit_ty hb, q _ H F (Ext.refl s) rfl⟩
    · cases h
  · cases h
/-! ### repr -/
def rRepr (K : PySem.W.Frag) : List V → Hp → VK → Prop := fun xs H Q => ∃ x d, xs = [x] ∧ Dp K H x d ∧ d.showable = true ∧ d.depth ≤ 64 ∧ d.shown.length ≤ sizeLine ∧ Q (.str d.shown) H
theorem on_repr : OpN K (rRepr K) fRepr := by
  intro F H ds vs z Q s v h q
  unfold fRepr at h
  split at h
  · split at h
    · rename_i p hp
      split at h
      · rename_i hs
        cases h
        obtain ⟨u, t, rfl, hu, rfl⟩ := v
        exact ⟨u, p, rfl, hu.dp s hp, hs.1, hs.2.1, hs.2.2, q _ H F (Ext.refl s) rfl⟩
      · cases h
    · cases h
  · cases h
mutual
theorem dp_noDict : ∀ {d : PyData} {v : V}, Dp K H v d → d.hasDict = false
  | .none, _, h => by simp only [PyData.hasDict]
  | .bool b, _, h => by simp only [PyData.hasDict]
  | .int i, _, h => by simp only [PyData.hasDict]
  | .str x, _, h => by simp only [PyData.hasDict]
  | .list ds, _, h => by
    cases h with
    | lst _ ha => simp only [PyData.hasDict]; exact dpAll_noDict ha
  | .tuple ds, _, h => by
    cases h with
    | tup _ ha => simp only [PyData.hasDict]; exact dpAll_noDict ha
  | .dict _, _, h => by cases h
theorem dpAll_noDict : ∀ {ds : List PyData} {vs : List V}, DpAll K H vs ds → PyData.hasDictAll ds = false
  | [], _, h => by simp only [PyData.hasDictAll]
  | d :: ds, _, h => by
    cases h with
    | cons h1 h2 => simp only [PyData.hasDictAll, Bool.or_eq_false_iff]; exact ⟨dp_noDict h1, dpAll_noDict h2⟩
end
end
section
variable {X : Cx} {W : WX} {k : Nat} {gs : Av} {e f : Expr} {es : List Expr} {pos p : Pos}
theorem call_repr (hr : RoomG k X.A) : CallR X (.builtin "repr") (rRepr X.K) := by
  intro pins s σ H xs us Q I r h
  obtain ⟨x, d, rfl, hd, h1, h2, h3, q⟩ := h
  obtain ⟨u, rfl, rx⟩ := vals1 r
  have un := hr.room.un
  obtain ⟨as, rd⟩ := Dp.reads I d x u hd rx
  cases hd with
  | non =>
    cases rx
    exact call_repr_gives (typeIs_none s) F.slot_NoneType_repr F.entry_NoneType_repr (F.args_NoneType_repr_1 _) gives_none_repr ⟨.str _, H, I.tok _, ⟨_, rfl⟩, q⟩
  | bl b =>
    cases rx
    exact call_repr_gives (typeIs_bool s b) F.slot_bool_repr F.entry_bool_repr (F.args_bool_repr_1 _) (gives_bool_repr b) ⟨.str _, H, I.tok _, ⟨_, rfl⟩, by simpa [PyData.shown] using q⟩ (hx := by cases b <;> decide)
  | int i =>
    obtain ⟨t, rfl⟩ := rx
    have hz : i.natAbs.log2 < 1920 := by simpa [PyData.showable] using h1
    exact PySem.P.repr_of_int hz ⟨.str _, H, I.tok _, ⟨_, rfl⟩, by simpa [PyData.shown] using q⟩
  | str y =>
    obtain ⟨t, rfl⟩ := rx
    exact call_repr_gives (typeIs_str s y t) F.slot_str_repr F.entry_str_repr (F.args_str_repr_1 _) (gives_str_repr y t) ⟨.str _, H, I.tok _, ⟨_, rfl⟩, by simpa [PyData.shown] using q⟩ (hx := by simpa [PyData.shown] using h3)
  | lst hs ha =>
    cases rx
    exact repr_of_reads' rd h1 (fun z => by rw [dp_noDict (.lst hs ha)] at z; cases z) hr.quiet (by omega) (fun _ _ z => z) (fun h' u tk kp => ⟨.str _, H, I.kept kp, ⟨_, rfl⟩, q⟩) h3
  | tup hs ha =>
    cases rx
    exact repr_of_reads' rd h1 (fun z => by rw [dp_noDict (.tup hs ha)] at z; cases z) hr.quiet (by omega) (fun _ _ z => z) (fun h' u tk kp => ⟨.str _, H, I.kept kp, ⟨_, rfl⟩, q⟩) h3
end
end DL

/-! what changes a list or a dict; raise, try. -/
namespace DL
open PySem PySem.Spec L2
variable [HasW]

/-! ### what is owned is written -/
section
variable {K : PySem.W.Frag} {α : Nat → Addr} {ρ : Env} {σ : L2.St} {H F G : Hp}
/-- the owner's thing is another -/
theorem Fits.write (f : Fits K α ρ σ H F G) {i : Nat} {d d' : D} {a : Addr} {o : HO} (h : ρ[i]? = some (.own d) ∨ ρ[i]? = some (.bor d)) (hs : σ[i]? = some (some (.ref a))) (c : Cell K F (upd H a o) a d') :
    Fits K α (setO ρ i d') σ (upd H a o) F G := by
  obtain ⟨fa, ga, _⟩ := f.owner h hs
  have frame : ∀ {b : Addr}, b ≠ a → ∀ u, H b = some u → upd H a o b = some u := fun n u e => by rw [upd_ne n]; exact e
  refine ⟨fun b u e => ?_, fun b u e => ?_, by rw [setO_length]; exact f.len, fun j s q => ?_, fun j k s t b q1 q2 o1 o2 h1 h2 => ?_⟩
  · rw [upd_ne (fun z => by rw [z, fa] at e; cases e)]
    exact f.fh _ _ e
  · rw [upd_ne (fun z => by rw [z, ga] at e; cases e)]
    exact f.gh _ _ e
  · have keep : ∀ {s : Slot}, ρ[j]? = some s → j ≠ i → ∃ x, σ[j]? = some x ∧ SlotOk K F G (upd H a o) x (α j) s := fun {s} q n => by
      obtain ⟨x, hx, so⟩ := f.slot j s q
      refine ⟨x, hx, ?_⟩
      have apart : ∀ {b : Addr}, s.owns = true → x = some (.ref b) → b ≠ a := fun {b} os e z => by
        rcases h with h | h
        · exact n (f.sep j i s _ a q h os rfl (by rw [hx, e, z]) hs)
        · exact n (f.sep j i s _ a q h os rfl (by rw [hx, e, z]) hs)
      cases s with
      | non => trivial
      | val d0 => exact so
      | own d0 =>
        obtain ⟨b, e, fb, gb, cb⟩ := so
        exact ⟨b, e, fb, gb, cb.mono (Sub.refl F) (frame (apart rfl e))⟩
      | bor d0 =>
        obtain ⟨e, fb, gb, cb⟩ := so
        exact ⟨e, fb, gb, cb.mono (Sub.refl F) (frame (apart rfl e))⟩
    rcases setO_get q with ⟨n, q0⟩ | ⟨rfl, z⟩
    · exact keep q0 n
    · rcases z with ⟨d0, e, rfl⟩ | ⟨d0, e, rfl⟩ | ⟨e, z⟩
      · exact ⟨_, hs, a, rfl, fa, ga, c⟩
      · obtain ⟨x, hx, e', _⟩ := f.slot j _ e
        rw [hx] at hs
        cases hs
        cases e'
        exact ⟨_, hx, rfl, fa, ga, c⟩
      · rcases h with h | h
        · rw [h] at e; cases e; cases z
        · rw [h] at e; cases e; cases z
  · have old : ∀ {k : Nat} {s : Slot}, (setO ρ i d')[k]? = some s → s.owns = true → ∃ s', ρ[k]? = some s' ∧ s'.owns = true := fun {k s} q o => by
      rcases setO_get q with ⟨_, q0⟩ | ⟨rfl, ⟨d0, e, _⟩ | ⟨d0, e, _⟩ | ⟨e, _⟩⟩
      · exact ⟨s, q0, o⟩
      · exact ⟨_, e, rfl⟩
      · exact ⟨_, e, rfl⟩
      · exact ⟨s, e, o⟩
    obtain ⟨s1, e1, w1⟩ := old q1 o1
    obtain ⟨s2, e2, w2⟩ := old q2 o2
    exact f.sep j k s1 s2 b e1 e2 w1 w2 h1 h2
end
/-- what an owner owns -/
def ownAt (ρ : Env) (i : Nat) : Option D := match ρ[i]? with
  | some (.own d) => some d
  | some (.bor d) => some d
  | _ => none
theorem ownAt_some {ρ : Env} {i : Nat} {d : D} (h : ownAt ρ i = some d) : ρ[i]? = some (.own d) ∨ ρ[i]? = some (.bor d) := by
  unfold ownAt at h
  split at h
  · cases h; exact .inl (by assumption)
  · cases h; exact .inr (by assumption)
  · cases h
theorem ownAt_ref {K : PySem.W.Frag} {α : Nat → Addr} {ρ : Env} {σ : L2.St} {H F G : Hp} (f : Fits K α ρ σ H F G) {i : Nat} {d : D} (h : ownAt ρ i = some d) : ∃ a, σ[i]? = some (some (.ref a)) ∧ F a = none ∧ G a = none ∧ Cell K F H a d := by
  rcases ownAt_some h with e | e
  · obtain ⟨x, hx, a, rfl, r⟩ := f.slot i _ e
    exact ⟨a, hx, r⟩
  · obtain ⟨x, hx, rfl, r⟩ := f.slot i _ e
    exact ⟨_, hx, r⟩
/-- a method of what a name owns: what it gives back, what is there behind it -/
def dMut (T : String) (i : Nat) (f : D → List D → Option (D × D)) (gs : Av) : Ev := fun ρ => match (ownAt ρ i).bind tyName with
  | none => .no
  | some T' => if T' = T then match gs ρ with
    | .ok rs ρ1 => match frzs rs ρ1 with
      | some (ds, ρ2) => match ownAt ρ2 i with
        | some d => match f d ds with
          | some (ret, d') => .ok (.val ret) (setO ρ2 i d')
          | none => .no
        | none => .no
      | none => .no
    | .ex x ρ1 => .ex x ρ1
    | .no => .no
    else .no
/-- soundness of such a method -/
def MtD (K : PySem.W.Frag) (T : String) (r : V → List V → Hp → VK → Prop) (f : D → List D → Option (D × D)) : Prop :=
  ∀ (F H : Hp) (a : Addr) (d : D) (ds : List D) (vs : List V) (ret d' : D) (Q : VK), Sub F H → F a = none → Cell K F H a d → Reps K F ds vs → f d ds = some (ret, d') →
    (∀ w o, Rep K F ret w → Cell K F (upd H a o) a d' → Q w (upd H a o)) → r (.ref a) vs H Q
theorem cell_ty {K : PySem.W.Frag} {F H : Hp} {a : Addr} {d : D} (c : Cell K F H a d) : ∀ {T : String}, tyName d = some T → tyV K T (.ref a) H := fun {T} h => by
  cases d with
  | dct _ _ => cases h
  | lst xs => cases h; obtain ⟨vs, e, _⟩ := c; exact .inl ⟨rfl, vs, SqL.of e⟩
  | dic ks xs => cases h; obtain ⟨vs, e, _⟩ := c; exact .inr (.inr (.inl ⟨rfl, .inl ⟨_, e⟩⟩))
  | _ => exact c.elim
section
variable {X : Cx} {W : WX} {e o : Expr} {es : List Expr} {gs : Av} {pos p cpos apos : Pos} {x : Str} {i : Nat}
/-- x.m(e, ..) of an owned list or dict -/
theorem ec_mut {K : PySem.W.Frag} {T : String} {r : V → List V → Hp → VK → Prop} {f : D → List D → Option (D × D)} (m : MtD K T r f) {σ : L2.St} {H : Hp} {Q : VK} (h : tE K W (dMut T i f gs) σ H Q) :
    tE K W (dVar i) σ H fun x H1 => tyV K T x H1 ∧ tA K W gs σ H1 fun xs H2 => r x xs H2 Q := by
  obtain ⟨α, ρ, F, G, ft, h⟩ := h
  refine ⟨α, ρ, F, G, ft, ?_⟩
  unfold dMut at h
  cases e1 : ownAt ρ i with
  | none => simp [e1, EC] at h
  | some d0 =>
    simp only [e1, Option.bind_some] at h
    cases e2 : tyName d0 with
    | none => simp [e2, EC] at h
    | some T' =>
      simp only [e2] at h
      by_cases hT : T' = T
      · subst hT
        rw [if_pos rfl] at h
        have go : ∀ v H1 F1, Grow G F F1 → Fits K α ρ σ H1 F1 G → RRep K F1 G H1 σ ρ (.loc i) v → tyV K T' v H1 ∧ tA K W gs σ H1 fun xs H2 => r v xs H2 Q := fun v H1 F1 g1 f1 r1 => by
          have hv : σ[i]? = some (some v) := r1
          obtain ⟨a, ha, fa, ga, c⟩ := ownAt_ref f1 e1
          rw [hv] at ha
          cases ha
          refine ⟨cell_ty c e2, α, ρ, F1, G, f1, ?_⟩
          cases e3 : gs ρ with
          | no => simp [e3, EC] at h
          | ex x ρ1 =>
            simp only [e3] at h
            exact EC.mono (e := .ex x ρ1) g1 h
          | ok rs ρ1 =>
            simp only [e3] at h
            intro vs H2 F2 g2 f2 s2
            cases e4 : frzs rs ρ1 with
            | none => simp [e4, EC] at h
            | some w =>
              obtain ⟨ds, ρ2⟩ := w
              simp only [e4] at h
              obtain ⟨F3, g3, f3, r3⟩ := Fits.frzs f2 s2 e4
              cases e5 : ownAt ρ2 i with
              | none => simp [e5, EC] at h
              | some d =>
                simp only [e5] at h
                cases e6 : f d ds with
                | none => simp [e6, EC] at h
                | some w =>
                  obtain ⟨ret, d'⟩ := w
                  simp only [e6] at h
                  obtain ⟨b, hb, fb, gb, cb⟩ := ownAt_ref f3 e5
                  rw [hv] at hb
                  cases hb
                  refine m F3 H2 a d ds vs ret d' Q f3.fh fb cb r3 e6 fun w o rw' co => ?_
                  exact h w _ F3 ((g1.trans g2).trans g3) (f3.write (ownAt_some e5) hv co) rw'
        unfold dVar
        rcases ownAt_some e1 with e3 | e3
        · simp only [e3]; exact go
        · simp only [e3]; exact go
      · rw [if_neg hT] at h
        exact h.elim
theorem ed_mut {T name id : String} {r : V → List V → Hp → VK → Prop} {f : D → List D → Option (D × D)} (pa : PlainAttrs T) (slot : PySem.Slot T name id) (hty : typeOf (.builtin id) = pure (.type "method_descriptor")) (hm : MtR X id r) (m : MtD X.K T r f)
    (ho : PE X o (tE X.K W (dVar i))) (ha : PA X (e :: es) (tA X.K W gs)) (hbase : attributeBase o name X.env (eval o X.env) = eval o X.env := by rfl)
    (hfew : ((backTo cpos (starEach (e :: es) X.env)).all (fun x => !x.1) && (backToKw cpos (keywordEach [] X.env)).all (fun x => x.1.isSome)
      && decide ((e :: es).length + ([] : List Keyword).length + (if ([] : List Keyword).isEmpty then 0 else 1) < 30)) = true := by rfl)
    (hline : (apos.endLine == cpos.line) = true := by rfl) (hs : starEach (e :: es) X.env = (false, eval e X.env) :: starEach es X.env := by rfl) (hplain : (backTo cpos (starEach es X.env)).any (·.1) = false := by rfl) :
    PE X (.Call (.Attribute o name apos) (e :: es) [] cpos) (tE X.K W (dMut T i f gs)) :=
  (pe_bm pa slot hty hm ho ha hbase hfew hline hs hplain).weak fun _ _ _ h => ec_mut m h
/-- x.m() -/
theorem ed_mut0 {T name id : String} {r : V → List V → Hp → VK → Prop} {f : D → List D → Option (D × D)} (pa : PlainAttrs T) (slot : PySem.Slot T name id) (hty : typeOf (.builtin id) = pure (.type "method_descriptor")) (hm : MtR X id r) (m : MtD X.K T r f)
    (ho : PE X o (tE X.K W (dVar i)))
    (h2 : PE X (.Call (.Attribute o name apos) [] [] cpos) (tBM0 X.K T r (tE X.K W (dVar i))) := by exact pe_bm0 (by assumption) (by assumption) (by assumption) (by assumption) (by assumption)) :
    PE X (.Call (.Attribute o name apos) [] [] cpos) (tE X.K W (dMut T i f fun ρ => .ok [] ρ)) :=
  h2.weak fun σ H Q h => by
    obtain ⟨α, ρ, F, G, ft, h⟩ := ec_mut m h
    refine ⟨α, ρ, F, G, ft, ?_⟩
    refine EC.imp (fun v H1 q => ?_) h
    obtain ⟨t, α', ρ', F', G', f', q⟩ := q
    exact ⟨t, q [] H1 F' (Grow.refl _ _) f' rfl⟩
end
/-! ### append, extend, pop, .. -/
def mAppend : D → List D → Option (D × D)
  | .lst xs, [d] => if xs.length < sizeLine then some (.non, .lst (xs ++ [d])) else none
  | _, _ => none
def mExtend : D → List D → Option (D × D)
  | .lst xs, [.lst ys] => if xs.length + ys.length ≤ sizeLine then some (.non, .lst (xs ++ ys)) else none
  | _, _ => none
section
variable {K : PySem.W.Frag}
theorem m_append : MtD K "list" rAppend mAppend := by
  intro F H a d ds vs ret d' Q s fa c r h q
  unfold mAppend at h
  split at h
  · rename_i xs e
    split at h
    · rename_i hl
      cases h
      obtain ⟨ws, hw, rw'⟩ := c
      obtain ⟨v, t, rfl, rv, rfl⟩ := r
      refine ⟨a, ws, v, rfl, rfl, hw, by rw [rw'.length]; exact hl, ?_⟩
      exact q .non _ rfl ⟨_, upd_same, rw'.snoc rv⟩
    · cases h
  · cases h
theorem m_extend : MtD K "list" rExtend mExtend := by
  intro F H a d ds vs ret d' Q s fa c r h q
  unfold mExtend at h
  split at h
  · rename_i xs ys
    split at h
    · rename_i hl
      cases h
      obtain ⟨ws, hw, rw'⟩ := c
      obtain ⟨v, t, rfl, ⟨b, us, rfl, hb, rb⟩, rfl⟩ := r
      refine ⟨a, b, ws, us, rfl, rfl, hw, s _ _ hb, by rw [rw'.length, rb.length]; exact hl, ?_⟩
      exact q .non _ rfl ⟨_, upd_same, rw'.append rb⟩
    · cases h
  · cases h
end
section
variable {X : Cx} {W : WX} {e o : Expr} {gs : Av} {cpos apos : Pos} {i : Nat}
theorem ed_append (ho : PE X o (tE X.K W (dVar i))) (ha : PA X [e] (tA X.K W gs)) (hbase : attributeBase o "append" X.env (eval o X.env) = eval o X.env := by rfl) (hfew : ((backTo cpos (starEach [e] X.env)).all (fun x => !x.1) && (backToKw cpos (keywordEach [] X.env)).all (fun x => x.1.isSome)
      && decide ([e].length + ([] : List Keyword).length + (if ([] : List Keyword).isEmpty then 0 else 1) < 30)) = true := by rfl) (hline : (apos.endLine == cpos.line) = true := by rfl) (hs : starEach [e] X.env = (false, eval e X.env) :: starEach [] X.env := by rfl) (hplain : (backTo cpos (starEach [] X.env)).any (·.1) = false := by rfl) :
    PE X (.Call (.Attribute o "append" apos) [e] [] cpos) (tE X.K W (dMut "list" i mAppend gs)) := ed_mut PySem.F.plainAttrs_list PySem.F.slot_list_append PySem.F.type_list_append mt_append m_append ho ha hbase hfew hline hs hplain
theorem ed_extend (ho : PE X o (tE X.K W (dVar i))) (ha : PA X [e] (tA X.K W gs)) (hbase : attributeBase o "extend" X.env (eval o X.env) = eval o X.env := by rfl) (hfew : ((backTo cpos (starEach [e] X.env)).all (fun x => !x.1) && (backToKw cpos (keywordEach [] X.env)).all (fun x => x.1.isSome)
      && decide ([e].length + ([] : List Keyword).length + (if ([] : List Keyword).isEmpty then 0 else 1) < 30)) = true := by rfl) (hline : (apos.endLine == cpos.line) = true := by rfl) (hs : starEach [e] X.env = (false, eval e X.env) :: starEach [] X.env := by rfl) (hplain : (backTo cpos (starEach [] X.env)).any (·.1) = false := by rfl) :
    PE X (.Call (.Attribute o "extend" apos) [e] [] cpos) (tE X.K W (dMut "list" i mExtend gs)) := ed_mut PySem.F.plainAttrs_list PySem.F.slot_list_extend PySem.F.type_list_extend mt_extend m_extend ho ha hbase hfew hline hs hplain
end
end DL

/-! stores, op=, raise, try. -/
namespace DL
open PySem PySem.Spec L2
variable [HasW]
/-! ### x[k] = v -/
def putXs : List Key → List D → Key → D → List D
  | k' :: ks, x :: xs, k, d => if k' = k then d :: xs else x :: putXs ks xs k d
  | _, xs, _, _ => xs
/-- a dict with k told d -/
def dicPut (ks : List Key) (xs : List D) (k : Key) (d : D) : D := if hasKey ks k then .dic ks (putXs ks xs k d) else .dic (ks ++ [k]) (xs ++ [d])
def stored1 (x k d : D) : Option D := match x with
  | .lst xs => match k with
    | .int i => (ixN xs.length i).map fun j => .lst (xs.set j d)
    | _ => none
  | .dic ks xs => match keyOf k with
    | some k => if ks.length < sizeLine then some (dicPut ks xs k d) else none
    | none => none
  | _ => none
/-- with a tuple as the key -/
def storedX (x k d : D) : Option D := match x with
  | .dct ks xs => match kOf k with
    | some kk => if ks.length < sizeLine then some (dctPut ks xs k kk d) else none
    | none => none
  | .dic ks _ => if ks.isEmpty then match kOf k with
    | some kk => some (dctPut [] [] k kk d)
    | none => none
    else none
  | _ => none
def stored (x k d : D) : Option D := storedX x k d <|> stored1 x k d
def stAt (i : Nat) (k d : D) (ρ : Env) : Option Env := match ownAt ρ i with
  | some x => (stored x k d).map fun x' => setO ρ i x'
  | none => none
section
variable {K : PySem.W.Frag} {F : Hp}
theorem putXs_length : ∀ (ks : List Key) (xs : List D) (k : Key) (d : D), (putXs ks xs k d).length = xs.length
  | [], xs, k, d => by unfold putXs; rfl
  | _ :: _, [], k, d => rfl
  | k' :: ks, x :: xs, k, d => by
    unfold putXs
    split
    · rfl
    · simp [putXs_length ks xs k d]
theorem map_same {κ : Type} [DecidableEq κ] {k : κ} {v : V} : ∀ (l : List (κ × V)), (∀ p ∈ l, ¬ p.1 = k) → l.map (fun kv => if kv.1 = k then (kv.1, v) else kv) = l
  | [], _ => rfl
  | p :: l, h => by
    rw [List.map_cons, if_neg (h p List.mem_cons_self), map_same l fun q hq => h q (List.mem_cons_of_mem _ hq)]
theorem put_rep {k : Key} {d : D} {v : V} (rv : Rep K F d v) : ∀ {ks : List Key} {xs : List D} {vs : List V}, Reps K F xs vs → ks.length = xs.length → ks.Nodup →
    ∃ ws, (ks.zip vs).map (fun kv => if kv.1 = k then (kv.1, v) else kv) = ks.zip ws ∧ Reps K F (putXs ks xs k d) ws
  | [], [], vs, r, l, n => by cases r; exact ⟨[], rfl, .nil⟩
  | [], _ :: _, _, _, l, _ => by simp at l
  | _ :: _, [], _, _, l, _ => by simp at l
  | k' :: ks, x :: xs, _, r, l, n => by
    obtain ⟨u, t, rfl, a, b⟩ := r
    obtain ⟨n1, n2⟩ := List.nodup_cons.mp n
    by_cases e : k' = k
    · subst e
      refine ⟨v :: t, ?_, ?_⟩
      · rw [List.zip_cons_cons, List.map_cons, if_pos rfl, map_same]
        · rfl
        · rintro ⟨q, w⟩ hp z
          have : q ∈ ks := (List.of_mem_zip hp).1
          exact n1 (z ▸ this)
      · unfold putXs
        rw [if_pos rfl]
        exact .cons rv b
    · obtain ⟨ws, h1, h2⟩ := put_rep rv b (by simpa using l) n2
      refine ⟨u :: ws, ?_, ?_⟩
      · rw [List.zip_cons_cons, List.map_cons, if_neg e, h1]
        rfl
      · unfold putXs
        rw [if_neg e]
        exact .cons a h2
theorem hasKey_zip {ks : List Key} {vs : List V} {k : Key} (l : ks.length = vs.length) : ((ks.zip vs).any fun kv => decide (kv.1 = k)) = hasKey ks k := by
  unfold hasKey
  induction ks generalizing vs with
  | nil => rfl
  | cons k' ks ih =>
    cases vs with
    | nil => simp at l
    | cons v vs =>
      rw [List.zip_cons_cons, List.any_cons, List.any_cons, ih (by simpa using l)]
theorem hasKey_mem {ks : List Key} {k : Key} (h : hasKey ks k = false) : k ∉ ks := fun m => by
  have : hasKey ks k = true := List.any_eq_true.mpr ⟨k, m, decide_eq_true rfl⟩
  rw [h] at this
  cases this
/-- the dict behind a store -/
theorem cell_put {ks : List Key} {xs : List D} {vs : List V} {k : Key} {d : D} {v : V} {H : Hp} {a : Addr} (r : Reps K F xs vs) (l : ks.length = xs.length) (n : ks.Nodup) (rv : Rep K F d v) : Cell K F (upd H a (.dK (putK (ks.zip vs) k v))) a (dicPut ks xs k d) := by
  unfold dicPut putK
  have lv : ks.length = vs.length := by rw [r.length]; exact l
  rw [hasKey_zip lv]
  cases h : hasKey ks k with
  | true =>
    obtain ⟨ws, h1, h2⟩ := put_rep rv r l n (k := k)
    rw [if_pos rfl, if_pos rfl, h1]
    exact ⟨ws, upd_same, by rw [putXs_length]; exact l, n, h2⟩
  | false =>
    rw [if_neg Bool.false_ne_true, if_neg Bool.false_ne_true]
    refine ⟨vs ++ [v], ?_, by simp [l], ?_, r.snoc rv⟩
    · rw [upd_same, List.zip_append lv]
      rfl
    · rw [List.nodup_append]
      exact ⟨n, by simp, fun a ha b hb => by
        have : b = k := by simpa using hb
        subst this
        exact fun z => hasKey_mem h (z ▸ ha)⟩
end
/-- o[i] = v of a list or a dict, by values -/
def rStore (K : PySem.W.Frag) : TSet := fun o i v H Q => rSetL o i v H Q ∨ rSetD o i v H Q ∨ rSetX K o i v H Q
theorem set_any {X : Cx} (hw : X.w = HasW.w) (hu : X.A.units + 65 < cLine) : PSet X (rStore X.K) := by
  intro pins s σ H o i v ov iv u Q I ro ri rv h
  rcases h with h | h | h
  · exact set_list pins s σ H o i v ov iv u Q I ro ri rv h
  · exact set_dict (by omega) pins s σ H o i v ov iv u Q I ro ri rv h
  · exact set_x hw hu pins s σ H o i v ov iv u Q I ro ri rv h
theorem kOf_rep {K : PySem.W.Frag} {F H : Hp} {d : D} {v : V} {k : NestedKey} (h : View K F H d v) (e : kOf d = some k) : Rep K F d v ∧ ∃ b, v = .ref b := by
  obtain ⟨_, ⟨xs, rfl⟩, _⟩ := kOf_some e
  obtain ⟨a, vs, rfl, q⟩ := h
  exact ⟨⟨a, vs, rfl, q⟩, a, rfl⟩
theorem storedX_some {x k d x' : D} (h : storedX x k d = some x') : ∃ kk, kOf k = some kk ∧ ((∃ ks xs, x = .dct ks xs ∧ ks.length < sizeLine ∧ x' = dctPut ks xs k kk d) ∨ ∃ xs, x = .dic [] xs ∧ x' = dctPut [] [] k kk d) := by
  cases x with
  | dct ks xs =>
    have h' : (match kOf k with | some kk => if ks.length < sizeLine then some (dctPut ks xs k kk d) else none | none => none) = some x' := h
    cases e : kOf k with
    | none => rw [e] at h'; cases h'
    | some kk =>
      rw [e] at h'
      dsimp only at h'
      split at h'
      · rename_i hl
        cases h'
        exact ⟨kk, rfl, .inl ⟨ks, xs, rfl, hl, rfl⟩⟩
      · cases h'
  | dic ks xs =>
    have h' : (if ks.isEmpty then match kOf k with | some kk => some (dctPut [] [] k kk d) | none => none else none) = some x' := h
    split at h'
    · rename_i he
      have : ks = [] := List.isEmpty_iff.mp he
      subst this
      cases e : kOf k with
      | none => rw [e] at h'; cases h'
      | some kk =>
        rw [e] at h'
        cases h'
        exact ⟨kk, rfl, .inr ⟨xs, rfl, rfl⟩⟩
    · cases h'
  | _ => cases h
section
variable {K : PySem.W.Frag} {W : WX} {α : Nat → Addr} {ρ ρ' : Env} {σ : L2.St} {H F G : Hp}
/-- a store at an owner -/
theorem Fits.store (f : Fits K α ρ σ H F G) {i : Nat} {k d : D} {vo vi v : V} {Q : Hp → Prop} (ho : σ[i]? = some (some vo)) (hk : View K F H k vi) (hd : Rep K F d v) (h : stAt i k d ρ = some ρ') (q : ∀ H', Fits K α ρ' σ H' F G → Q H') : rStore K vo vi v H Q := by
  unfold stAt at h
  cases e1 : ownAt ρ i with
  | none => simp [e1] at h
  | some x =>
    simp only [e1] at h
    obtain ⟨x', e2, rfl⟩ := Option.map_eq_some_iff.mp h
    obtain ⟨a, ha, fa, ga, c⟩ := ownAt_ref f e1
    rw [ho] at ha
    cases ha
    have fin : ∀ o, Cell K F (upd H a o) a x' → Q (upd H a o) := fun o co => q _ (f.write (ownAt_some e1) ho co)
    cases eX : storedX x k d with
    | some x2 =>
      have e2' : (storedX x k d <|> stored1 x k d) = some x' := e2
      rw [eX] at e2'
      cases e2'
      obtain ⟨kk, hkk, hx⟩ := storedX_some eX
      obtain ⟨rk, b, rfl⟩ := kOf_rep hk hkk
      have ka := View.keyAt f.fh hk hkk
      rcases hx with ⟨ks, xs, rfl, hl, rfl⟩ | ⟨xs, rfl, rfl⟩
      · obtain ⟨es, hH, hm, rks, rxs⟩ := c
        have le : ks.length = es.length := by have := congrArg List.length hm; simpa using this
        exact .inr (.inr ⟨a, es, kk, b, rfl, rfl, .inl hH, keysAt_of f.fh hm rks, ka, by omega, fin _ (cell_dct hm rks rxs hkk rk hd)⟩)
      · obtain ⟨ws, hH, l, n, rxs⟩ := c
        exact .inr (.inr ⟨a, [], kk, b, rfl, rfl, .inr ⟨rfl, hH⟩, (fun e h => nomatch h), ka, by rw [sizeLine_eq]; decide, fin _ (cell_dct (ks := []) (xs := []) (es := []) rfl .nil .nil hkk rk hd)⟩)
    | none =>
    replace e2 : stored1 x k d = some x' := by
      have e2' : (storedX x k d <|> stored1 x k d) = some x' := e2
      rw [eX] at e2'
      exact e2'
    cases x with
    | lst xs =>
      cases k with
      | int j =>
        obtain ⟨n, hn, rfl⟩ := Option.map_eq_some_iff.mp (show (ixN xs.length j).map (fun n => D.lst (xs.set n d)) = some x' from e2)
        obtain ⟨ws, hw, rw'⟩ := c
        cases hk
        exact .inl ⟨a, ws, j, n, rfl, rfl, hw, by rw [rw'.length]; exact hn, fin _ ⟨_, upd_same, rw'.set n hd⟩⟩
      | _ => cases e2
    | dic ks xs =>
      have e3 : (match keyOf k with | some k => if ks.length < sizeLine then some (dicPut ks xs k d) else none | none => none) = some x' := e2
      cases e4 : keyOf k with
      | none => rw [e4] at e3; cases e3
      | some kk =>
        rw [e4] at e3
        by_cases hl : ks.length < sizeLine
        · simp only [if_pos hl] at e3
          cases e3
          obtain ⟨ws, hw, l, n, rw'⟩ := c
          have := view_flat hk e4
          subst this
          refine .inr (.inl ⟨a, _, rfl, .inl ⟨_, kk, hw, rfl, ?_, rfl⟩, fin _ (cell_put rw' l n hd)⟩)
          rw [List.length_zip, rw'.length, l, Nat.min_self, ← l]
          exact hl
        · simp only [if_neg hl] at e3
          cases e3
    | dct ks xs => cases e2
    | _ => exact c.elim
end
/-- x[gi] = g -/
def dStore (i : Nat) (gi g : Ev) : Sv := fun ρ => (g ρ).settle.st fun r ρ1 => match frz r ρ1 with
  | some (d, ρ2) => match ownAt ρ2 i with
    | some _ => (gi ρ2).settle.st fun r2 ρ3 => match peek r2 ρ3 with
      | some k => SR.of (stAt i k d ρ3)
      | none => .no
    | none => .no
  | none => .no
theorem SC.ec {K : PySem.W.Frag} {W : WX} {α : Nat → Addr} {σ : L2.St} {F G : Hp} {Q : VK} {D : Ends} {g : Ev} {ρ : Env} {k : RV → Env → SR} {H : Hp} (f : Fits K α ρ σ H F G)
    (hk : ∀ r ρ1 v H1 F1, Grow G F F1 → Fits K α ρ1 σ H1 F1 G → SRep K F1 σ r v → SC K W α F1 G D (k r ρ1) → Q v H1) (h : SC K W α F G D ((g ρ).settle.st k)) : tE K W g σ H Q :=
  ⟨α, ρ, F, G, f, EC.stS (fun r ρ1 v H1 F1 g1 f1 r1 h1 => hk r ρ1 v H1 F1 g1 f1 r1 h1) h⟩
theorem var_own {K : PySem.W.Frag} {W : WX} {α : Nat → Addr} {ρ : Env} {σ : L2.St} {H F G : Hp} {i : Nat} {d : D} {Q : VK} (f : Fits K α ρ σ H F G) (h : ownAt ρ i = some d) (q : ∀ v H1 F1, Grow G F F1 → Fits K α ρ σ H1 F1 G → σ[i]? = some (some v) → Q v H1) : tE K W (dVar i) σ H Q := by
  refine ⟨α, ρ, F, G, f, ?_⟩
  unfold dVar
  rcases ownAt_some h with e | e
  · simp only [e]; exact q
  · simp only [e]; exact q
section
variable {X : Cx} {W : WX} {e o ix : Expr} {g gi : Ev} {pos p2 : Pos} {i k : Nat}
theorem sd_store (hr : RoomG k X.A) (ho : PE X o (tE X.K W (dVar i))) (hi : PE X ix (tE X.K W gi)) (he : PE X e (tE X.K W g))
    (hs : swapsWithSole [.Subscript o ix p2] e pos.line X.env = pure false := by rfl) (hw : swappedStores [.Subscript o ix p2] e X.env = pure none := by rfl)
    (h1 : (assignEach [.Subscript o ix p2] X.env).map (·.2) = [assign (.Subscript o ix p2) X.env] := by rfl)
    (ha : ∀ v, assign (.Subscript o ix p2) X.env v = (do
      let ov ← holding [v] (eval o X.env)
      let iv ← holding [v, ov] (eval ix X.env)
      standAt p2
      holding [v, ov, iv] (setItem ov iv v)
      release [v, ov, iv] []) := by intro _; rfl) (hww : X.w = HasW.w := by rfl) :
    PS X (.Assign [.Subscript o ix p2] e pos) (tS X.K W (dStore i gi g)) := by
  refine (ps_asg he (pg_sub ho hi (set_any hww (u65 hr)) ha) hs hw h1).weak fun D σ H ⟨α, ρ, F, G, f, h⟩ => ?_
  refine SC.ec f (fun r ρ1 v H1 F1 g1 f1 s1 h1 => ?_) h
  cases e1 : frz r ρ1 with
  | none => simp [e1, SC] at h1
  | some w =>
    obtain ⟨d, ρ2⟩ := w
    simp only [e1] at h1
    obtain ⟨F2, g2, f2, r2⟩ := f1.frz s1 e1
    have h1 := SC.mono g2 h1
    cases e2 : ownAt ρ2 i with
    | none => simp [e2, SC] at h1
    | some x =>
      simp only [e2] at h1
      refine var_own f2 e2 fun vo H3 F3 g3 f3 hv => ?_
      refine SC.ec f3 (fun r2' ρ3 vi H4 F4 g4 f4 s4 h4 => ?_) (SC.mono g3 h1)
      cases e3 : peek r2' ρ3 with
      | none => simp [e3, SC] at h4
      | some kk =>
        simp only [e3] at h4
        obtain ⟨ρ4, e4, h5⟩ := sc_of h4
        exact f4.store hv (f4.peek s4 e3) (Rep.mono (g3.trans g4).sub _ _ r2) e4 fun H' f' => h5 σ H' F4 (Grow.refl _ _) f'
end
/-! ### x[k] op= v -/
def rGetL (K : PySem.W.Frag) : V → V → Hp → VK → Prop := fun o i H Q => ∃ p xs j v, o = .ref p ∧ i = .int j ∧ SqL K H p xs ∧ atI xs j = some v ∧ Q v H
theorem get_list {X : Cx} : PGet X (rGetL X.K) := by
  rintro pins s σ H o i ov iv Q I ro ri ⟨p, xs, j, v, rfl, rfl, hq, he, q⟩
  cases ro
  obtain ⟨t, rfl⟩ := ri
  obtain ⟨its, r, pl, hz⟩ := I.list hq
  obtain ⟨n, h1, h2, h3, h4, h5⟩ := atI_get he
  obtain ⟨w, ew, rw'⟩ := r.get h2
  have hl := r.length
  have hn := line63
  have fin : EP X pins σ Q w s := ⟨v, H, I, rw', q⟩
  by_cases h0 : 0 ≤ j
  · have hj : j.toNat = n := Option.some.inj ((seqIndex_of h0 h5).symm.trans h1)
    exact wpAny_getItem_list pl.isList h0 (by omega) (by rw [hj]; simpa using ew) fin
  · have hj : (j + (its.toArray.size : Int)).toNat = n := by
      have z := Option.some.inj ((seqIndex_neg (by omega) h4).symm.trans h1)
      rw [List.size_toArray, ← hl]
      exact z
    refine wpAny_getItem_list_neg pl.isList (by omega) ?_ (by omega) ?_ fin
    · rw [List.size_toArray]
      omega
    · rw [hj]
      simpa using ew
def rGetA (K : PySem.W.Frag) : V → V → Hp → VK → Prop := fun o i H Q => rGetL K o i H Q ∨ ∃ a v, o = .ref a ∧ DGet H a i (some v) ∧ Q v H
theorem get_any {X : Cx} (hu : X.A.units + 1 < cLine) : PGet X (rGetA X.K) := by
  intro pins s σ H o i ov iv Q I ro ri h
  rcases h with h | ⟨a, v, rfl, g, q⟩
  · exact get_list pins s σ H o i ov iv Q I ro ri h
  · cases ro
    exact d_getItem hu I g ri fun w' s' I' rw' => ⟨v, H, I', rw', q⟩
def dAugS (i : Nat) (gi g : Ev) (f : D → D → Option RV) : Sv := fun ρ => match ownAt ρ i with
  | none => .no
  | some _ => (gi ρ).settle.st fun r ρ1 => match peek r ρ1, ownAt ρ1 i with
    | some kk, some x => match ixD x kk, keyOf kk with
      | some d0, some key => (g ρ1).settle.st fun r2 ρ2 => match peek r2 ρ2 with
        | some y => match f d0 y with
          | some (.val z) => SR.of (stAt i kk z ρ2)
          | _ => .no
        | none => .no
      | _, _ => .no
    | _, _ => .no
theorem rep_of_ixD {K : PySem.W.Frag} {F H : Hp} {a : Addr} {x kk d0 : D} {key : Key} {vi : V} (s : Sub F H) (c : Cell K F H a x) (hk : View K F H kk vi) (ek : keyOf kk = some key) (h : ixD x kk = some d0) {Q : VK} (q : ∀ v, Rep K F d0 v → Q v H) : rGetA K (.ref a) vi H Q := by
  cases x with
  | lst xs =>
    cases kk with
    | int j =>
      obtain ⟨ws, hw, rw'⟩ := c
      obtain ⟨v, hv, rv⟩ := rw'.atI (show L2.atI xs j = some d0 from h)
      cases hk
      exact .inl ⟨a, ws, j, v, rfl, rfl, SqL.of hw, hv, q v rv⟩
    | _ => cases h
  | dic ks xs =>
    have h' : (match keyOf kk with | some k => dGet ks xs k | none => none) = some d0 := h
    rw [ek] at h'
    obtain ⟨ws, hw, l, n, rw'⟩ := c
    obtain ⟨v, hv, rv⟩ := (dGet_rep rw' l).1 d0 h'
    have := view_flat hk ek
    subst this
    exact .inr ⟨a, v, rfl, .inl ⟨_, key, .inl hw, rfl, hv.symm⟩, q v rv⟩
  | dct ks xs => cases h
  | _ => exact c.elim
theorem key_view {K : PySem.W.Frag} {F F' H H' : Hp} {d : D} {v : V} {k : Key} (e : keyOf d = some k) (h : View K F H d v) : View K F' H' d v := by
  cases d with
  | int i => exact h
  | str x => exact h
  | _ => cases e
section
variable {X : Cx} {W : WX} {e o ix : Expr} {g gi : Ev} {pos p2 : Pos} {i k : Nat}
theorem sd_augS {op : Operator} {r : R2} {f : D → D → Option RV} (hr : RoomG k X.A) (hop : OpR X (inplaceOp op) r) (hf : Op2 X.K r f) (ho : PE X o (tE X.K W (dVar i))) (hi : PE X ix (tE X.K W gi)) (he : PE X e (tE X.K W g))
    (ha : ∀ ov iv new, augStore ix ov iv new = (do holding [new, ov, iv] (setItem ov iv new); release [new, ov, iv] []; pure .next) := by intros; rfl) (hww : X.w = HasW.w := by rfl) : PS X (.AugAssign (.Subscript o ix p2) op e pos) (tS X.K W (dAugS i gi g f)) := by
  refine (ps_augS ho hi (get_any (u1 hr)) he hop (set_any hww (u65 hr)) ha).weak fun D σ H ⟨α, ρ, F, G, ft, h⟩ => ?_
  unfold dAugS at h
  cases e1 : ownAt ρ i with
  | none => simp [e1, SC] at h
  | some x0 =>
    simp only [e1] at h
    refine var_own ft e1 fun vo H1 F1 g1 f1 hv => ?_
    refine SC.ec f1 (fun r1 ρ1 vi H2 F2 g2 f2 s2 h2 => ?_) (SC.mono g1 h)
    cases e2 : peek r1 ρ1 with
    | none => simp [e2, SC] at h2
    | some kk =>
      cases e3 : ownAt ρ1 i with
      | none => simp [e2, e3, SC] at h2
      | some x =>
        simp only [e2, e3] at h2
        cases e4 : ixD x kk with
        | none => simp [e4, SC] at h2
        | some d0 =>
          cases e5 : keyOf kk with
          | none => simp [e4, e5, SC] at h2
          | some key =>
            simp only [e4, e5] at h2
            obtain ⟨a, hva, fa, ga, c⟩ := ownAt_ref f2 e3
            rw [hv] at hva
            cases hva
            have kv := f2.peek s2 e2
            refine rep_of_ixD f2.fh c kv e5 e4 fun v0 rv0 => ?_
            refine SC.ec f2 (fun r2 ρ2 u H3 F3 g3 f3 s3 h3 => ?_) h2
            cases e6 : peek r2 ρ2 with
            | none => simp [e6, SC] at h3
            | some y =>
              simp only [e6] at h3
              cases e7 : f d0 y with
              | none => simp [e7, SC] at h3
              | some z =>
                cases z with
                | loc j => simp [e7, SC] at h3
                | new d => simp [e7, SC] at h3
                | val z =>
                  simp only [e7] at h3
                  obtain ⟨ρ4, e8, h4⟩ := sc_of h3
                  refine hf F3 H3 d0 y v0 u (.val z) _ f3.fh (Rep.view f3.fh (Rep.mono g3.sub _ _ rv0)) (f3.peek s3 e6) e7 fun w H4 F4 ex rz => ?_
                  have f4 := f3.ext ex
                  exact f4.store hv (key_view e5 kv) rz e8 fun H' f' => h4 σ H' F4 (f3.grow ex) f'
end
/-! ### x op= v -/
def dAug (i : Nat) (g : Ev) (f : D → D → Option RV) : Sv := fun ρ => match ρ[i]? with
  | some (.val d0) => (g ρ).settle.st fun r2 ρ2 => match peek r2 ρ2 with
    | some y => match f d0 y with
      | some z => SR.of (asgn i z ρ2)
      | none => .no
    | none => .no
  | _ => .no
section
variable {X : Cx} {W : WX} {e : Expr} {g : Ev} {pos p2 : Pos} {i k : Nat} {x : Str}
theorem sd_aug {op : Operator} {r : R2} {f : D → D → Option RV} (hN : X.N.Nodup) (hop : OpR X (inplaceOp op) r) (hf : Op2 X.K r f) (he : PE X e (tE X.K W g)) (hi : X.N[i]? = some x := by rfl) (hx : Loc X.env.scope x := by first | exact .inl rfl | exact .inr rfl)
    (hfn : X.fn x = true ∨ X.env.scope.names.lookup x = some .local := by first | exact .inl rfl | exact .inr rfl | assumption) : PS X (.AugAssign (.Name x p2) op e pos) (tS X.K W (dAug i g f)) := by
  refine (ps_aug hN hi hx he hop hfn).weak fun D σ H ⟨α, ρ, F, G, ft, h⟩ => ?_
  unfold dAug at h
  cases e1 : ρ[i]? with
  | none => simp [e1, SC] at h
  | some sl =>
    cases sl with
    | non => simp [e1, SC] at h
    | own d => simp [e1, SC] at h
    | bor d => simp [e1, SC] at h
    | val d0 =>
      simp only [e1] at h
      obtain ⟨xv, hx', v0, rfl, rv0⟩ := ft.slot i _ e1
      refine ⟨v0, hx', SC.ec ft (fun r2 ρ2 u H3 F3 g3 f3 s3 h3 => ?_) h⟩
      cases e6 : peek r2 ρ2 with
      | none => simp [e6, SC] at h3
      | some y =>
        simp only [e6] at h3
        cases e7 : f d0 y with
        | none => simp [e7, SC] at h3
        | some z =>
          simp only [e7] at h3
          obtain ⟨ρ4, e8, h4⟩ := sc_of h3
          refine hf F3 H3 d0 y v0 u z _ f3.fh (Rep.view f3.fh (Rep.mono g3.sub _ _ rv0)) (f3.peek s3 e6) e7 fun w H4 F4 ex rz => ?_
          have f4 := f3.ext ex
          obtain ⟨F5, g5, f5⟩ := f4.asgn (rz.rrep f3 ex) e8
          exact h4 _ H4 F5 ((f3.grow ex).trans g5) f5
theorem iop_mul' {X : Cx} : OpR X (inplaceOp .Mult) (rI CMul fun i j => .int (i * j)) := iop_mul
end
end DL

/-! raise, try, dict displays, walks over a dict. -/
namespace DL
open PySem PySem.Spec L2
variable [HasW]
/-! ### raise X() of an own class without an own __init__ -/
section
variable {X : Cx} {W : WX} {x : Str} {C : Addr} {bmB : List Value} {B newId initId : String} {p pos pos2 : Pos}
theorem pmk_bare (F : ExcBaseFacts B newId initId bmB) (q : PySem.W.excIn X.K C bmB newId = true) (gC : X.mg x = some (.ref C)) (kC : PySem.W.keepIn X.K (.ref C) = true) (r : Raises X (.ref C)) (hg : Gl X x) (hdb : (x == ("__debug__" : Str)) = false := by decide) :
    PMk X (.Call (.Name x p) [] [] pos) (fun _ H Q => Q (.ref C) none H) := by
  intro pins s σ H Q I h
  refine wpAny_Call_Name_kw (ld_glob I hg gC ?_ hdb)
  refine PySem.W.callWith_K0 I.kIn kC ?_
  show wpAny _ _ (call (.ref C) []) _ _ _
  obtain ⟨bm, N, nm, qn, bs, hdct, sn, sub, ab, col, dd, k0, k1, k2, k3, k5, mN, hC, hN, hni, T⟩ := exc_obj I.kIn q
  refine wpAny_call_exc_subT F T hC hN hni (fun h' e hm => mk_of I hm r h (I.hok.gone hm.new)) ?_
  exact Nat.zero_le _
/-- what is known of an own class of exceptions -/
structure OwnX (K : PySem.W.Frag) (mg : Str → Option Value) (x : Str) (C : Addr) : Prop where
  ns : PySem.W.nsIn K mainGlobals x = some (some (.ref C))
  gl : mg x = some (.ref C)
  keep : PySem.W.keepIn K (.ref C) = true
  base : PySem.W.subIn K (.ref C) (.type "BaseException") = some true
  ty : PySem.W.typeIn K (.ref C) = some (.type "type")
  dict : PySem.W.hasDictIn K C = true
def dRaise (x : ECls) : Sv := fun ρ => .ex ⟨x, []⟩ ρ
theorem sd_raise0 (hc : X.calm = true) (tk : Takes X W) (F : ExcBaseFacts B newId initId bmB) (q : PySem.W.excIn X.K C bmB newId = true) (o : OwnX X.K X.mg x C) (hg : Gl X x := by rfl) (hdb : (x == ("__debug__" : Str)) = false := by decide) :
    PS X (.Raise (some (.Call (.Name x p) [] [] pos)) none pos2) (tS X.K W (dRaise (.own x))) :=
  (ps_raise hc tk (pmk_bare F q o.gl o.keep (raises_own o.base o.ty) hg hdb)).weak fun D σ H ⟨α, ρ, F, G, f, h⟩ =>
    h _ none σ H F (Grow.refl _ _) f ⟨o.ns, .inl rfl⟩
end
/-! ### try: .. except X: .. -/
def noEx : SR → SR
  | .ex _ _ => .no
  | s => s
def dTry (ism : ECls → Option Bool) (gb gs : Sv) : Sv := fun ρ => match gb ρ with
  | .ex x ρ1 => match ism x.cls with
    | some true => noEx (gs ρ1)
    | some false => .ex x ρ1
    | none => .no
  | s => s
theorem SC.noEx {K : PySem.W.Frag} {W W' : WX} {α : Nat → Addr} {F G : Hp} {D : Ends} : ∀ {s : SR}, SC K W α F G D (DL.noEx s) → SC K W' α F G D s
  | .nx ρ, h => h
  | .rt r ρ, h => h
  | .bk ρ, h => h
  | .ct ρ, h => h
  | .ex x ρ, h => h.elim
  | .no, h => h
section
variable {X : Cx} {W : WX} {x : Str} {c : Value} {body suite : List Stmt} {b₀ : Stmt} {np pos pos' : Pos} {gb gs : Sv} {ism : ECls → Option Bool}
theorem sd_try (hs : X.stack = X.env :: X.outer) (hf : X.env.frame = some X.env.locals) (hc : Names X x c) (tk : Takes X W) (hx : ∀ e b, ism e = some b → ∀ v, ClsIs X.K e v → PySem.W.exmOne X.K v c = some b)
    (hb : ∀ (W' : WX) (pn : List (Addr × Obj)) (xe : Value → Shared → Prop), Takes (X.tr pn xe) W' → PassesOwn (model X.prog X.w) X.A X.env xe → PSs (X.tr pn xe) body (tS X.K W' gb))
    (hsu : ∀ (a : Addr) (oe : Obj) (cls : Value) (d : Option Addr) (pn : List (Addr × Obj)), PSs (X.suite a ((a, oe) :: pn)) (b₀ :: suite) (tS X.K W0 gs)) :
    PS X (.Try body [.ExceptHandler (some (.Name x np)) none (b₀ :: suite) pos'] [] [] pos) (tS X.K W (dTry ism gb gs)) := by
  refine (ps_try_only (tb := fun W' => tS X.K W' gb) (ts := fun _ _ _ => tS X.K W0 gs) hs hf hc tk hb (fun a oe cls d pn _ _ => hsu a oe cls d pn)).weak fun D σ H ⟨α, ρ, F, G, f, h⟩ => ⟨α, ρ, F, G, f, ?_⟩
  unfold dTry at h
  cases e1 : gb ρ with
  | nx ρ1 => rw [e1] at h; exact h
  | rt r ρ1 => rw [e1] at h; exact h
  | bk ρ1 => rw [e1] at h; exact h
  | ct ρ1 => rw [e1] at h; exact h
  | no => rw [e1] at h; exact h
  | ex x ρ1 =>
    rw [e1] at h
    intro cls d σ' H' F' g1 f1 x1
    cases e2 : ism x.cls with
    | none => simp [e2, SC] at h
    | some b =>
      simp only [e2] at h
      refine ⟨b, hx _ _ e2 cls x1.1, fun hb a _ => ?_, fun hb => ?_⟩
      · subst hb
        exact ⟨α, ρ1, F', G, f1, SC.noEx (SC.mono g1 h)⟩
      · subst hb
        exact h cls d σ' H' F' g1 f1 x1
/-- a class name in a clause -/
theorem names_own {C : Addr} (o : OwnX X.K X.mg x C) (hg : Gl X x := by rfl) (hdb : (x == ("__debug__" : Str)) = false := by decide) : Names X x (.ref C) := ⟨hg, hdb, .inl o.gl⟩
/-- the class itself is caught -/
theorem exm_own {K : PySem.W.Frag} {mg : Str → Option Value} {C : Addr} (o : OwnX K mg x C) (h : PySem.W.subIn K (.ref C) (.ref C) = some true) : PySem.W.exmOne K (.ref C) (.ref C) = some true := PySem.W.exm_ref o.base o.dict o.ty h
end
/-! ### {k: v, ..} -/
inductive PsR where | ok (ps : List (Key × D)) (ρ : Env) | ex (x : Exn) (ρ : Env) | no
/-- an item, made data at once -/
def dFrz (g : Ev) (ρ : Env) (k : D → Env → PsR) : PsR := match (g ρ).settle with
  | .ok r ρ1 => match frz r ρ1 with
    | some (d, ρ2) => k d ρ2
    | none => .no
  | .ex x ρ1 => .ex x ρ1
  | .no => .no
def dPairs : List (Ev × Ev) → Env → PsR
  | [], ρ => .ok [] ρ
  | (gk, gv) :: r, ρ => dFrz gk ρ fun dk ρ1 => match keyOf dk with
    | some k => dFrz gv ρ1 fun dv ρ2 => match dPairs r ρ2 with
      | .ok ps ρ3 => .ok ((k, dv) :: ps) ρ3
      | .ex x ρ3 => .ex x ρ3
      | .no => .no
    | none => .no
def putD (d : D) (p : Key × D) : D := match d with
  | .dic ks xs => dicPut ks xs p.1 p.2
  | d => d
def mergeD (ps : List (Key × D)) : D := ps.foldl putD (.dic [] [])
def dDisp (prs : List (Ev × Ev)) : Ev := fun ρ => match dPairs prs ρ with
  | .ok ps ρ1 => if ps.length ≤ 15 then .ok (.new (mergeD ps)) ρ1 else .no
  | .ex _ _ => .no
  | .no => .no
/-- kvs is what d says -/
def DicRel (K : PySem.W.Frag) (F : Hp) (kvs : List (Key × V)) : D → Prop
  | .dic ks xs => ∃ vs, kvs = ks.zip vs ∧ ks.length = xs.length ∧ ks.Nodup ∧ Reps K F xs vs
  | _ => False
section
variable {K : PySem.W.Frag} {F H : Hp}
theorem DicRel.put {kvs : List (Key × V)} {d e : D} {k : Key} {v : V} (r : DicRel K F kvs d) (rv : Rep K F e v) : DicRel K F (putK kvs k v) (putD d (k, e)) := by
  cases d with
  | dic ks xs =>
    obtain ⟨vs, rfl, l, n, rr⟩ := r
    have c := cell_put (H := fun _ => none) (a := 0) (k := k) rr l n rv
    have c' : Cell K F (upd (fun _ => none) 0 (.dK (putK (ks.zip vs) k v))) 0 (dicPut ks xs k e) := c
    show DicRel K F (putK (ks.zip vs) k v) (dicPut ks xs k e)
    unfold dicPut at c' ⊢
    split
    · rename_i hh
      rw [if_pos hh] at c'
      obtain ⟨ws, q, l', n', r'⟩ := c'
      rw [upd_same] at q
      exact ⟨ws, HO.dK.inj (Option.some.inj q), l', n', r'⟩
    · rename_i hh
      rw [if_neg hh] at c'
      obtain ⟨ws, q, l', n', r'⟩ := c'
      rw [upd_same] at q
      exact ⟨ws, HO.dK.inj (Option.some.inj q), l', n', r'⟩
  | _ => exact r.elim
theorem DicRel.merge : ∀ {ps : List (Key × D)} {kvs : List (Key × V)} {acc : List (Key × V)} {d : D}, DicRel K F acc d → ps.map (·.1) = kvs.map (·.1) → Reps K F (ps.map (·.2)) (kvs.map (·.2)) → DicRel K F (mergeK acc kvs) (ps.foldl putD d)
  | [], [], acc, d, r, _, _ => r
  | [], _ :: _, _, _, _, e, _ => by simp at e
  | _ :: _, [], _, _, _, e, _ => by simp at e
  | (k, x) :: ps, (k', v) :: kvs, acc, d, r, e, rr => by
    obtain ⟨u, t, e1, a, b⟩ := rr
    rw [List.map_cons] at e1
    have e2 : v = u ∧ kvs.map (·.2) = t := List.cons.inj e1
    have e3 : k = k' ∧ ps.map (·.1) = kvs.map (·.1) := List.cons.inj (show k :: ps.map (·.1) = k' :: kvs.map (·.1) from e)
    obtain ⟨rfl, rfl⟩ := e2
    obtain ⟨rfl, e4⟩ := e3
    show DicRel K F (mergeK (putK acc k v) kvs) (ps.foldl putD (putD d (k, x)))
    exact DicRel.merge (r.put a) e4 b
theorem DicRel.cell {kvs : List (Key × V)} {d : D} {a : Addr} (r : DicRel K F kvs d) : Cell K F (upd H a (.dK kvs)) a d := by
  cases d with
  | dic ks xs =>
    obtain ⟨vs, rfl, l, n, rr⟩ := r
    exact ⟨vs, upd_same, l, n, rr⟩
  | _ => exact r.elim
end
section
variable {X : Cx} {W : WX} {pos : Pos}
/-- a new object held still while the parts are made -/
theorem Fits.still {K : PySem.W.Frag} {α : Nat → Addr} {ρ : Env} {σ : L2.St} {H F G : Hp} (f : Fits K α ρ σ H F G) {P : Addr} {o : HO} (h : H P = none) : Fits K α ρ σ (upd H P o) F (upd G P o) := by
  have f1 := f.ext (Ext.allocO (o := o) f.fh h)
  refine ⟨f1.fh, f1.gh.trans (Sub.refl _) |> fun _ => (Sub.upd2 f.gh), f1.len, fun i s q => ?_, f1.sep⟩
  obtain ⟨x, hx, so⟩ := f1.slot i s q
  refine ⟨x, hx, ?_⟩
  obtain ⟨x', hx', so'⟩ := f.slot i s q
  rw [hx] at hx'
  cases hx'
  have ne : ∀ {b : Addr} {d : D}, Cell K F H b d → b ≠ P := fun {b d} c z => by
    obtain ⟨u, hu⟩ := c.there
    rw [z, h] at hu
    cases hu
  cases s with
  | non => trivial
  | val d => exact so
  | own d =>
    obtain ⟨a, e, fa, ga, c⟩ := so
    obtain ⟨a', e', _, _, c'⟩ := so'
    rw [e] at e'
    cases e'
    exact ⟨a, e, fa, by rw [upd_ne (ne c')]; exact ga, c⟩
  | bor d =>
    obtain ⟨e, fa, ga, c⟩ := so
    exact ⟨e, fa, by rw [upd_ne (ne so'.2.2.2)]; exact ga, c⟩
/-- parts of a display -/
def tPrs (K : PySem.W.Frag) (prs : List (Ev × Ev)) : List (TE × TE) := prs.map fun p => (tE K W0 p.1, tE K W0 p.2)
theorem pc_pairs {K : PySem.W.Frag} {α : Nat → Addr} {σ : L2.St} {G : Hp} : ∀ {prs : List (Ev × Ev)} {ρ ρ' : Env} {H F : Hp} {ps : List (Key × D)} {T : List (V × V) → Hp → Prop}, Fits K α ρ σ H F G → dPairs prs ρ = .ok ps ρ' →
    (∀ (kvs : List (Key × V)) H' F', Grow G F F' → Fits K α ρ' σ H' F' G → ps.map (·.1) = kvs.map (·.1) → Reps K F' (ps.map (·.2)) (kvs.map (·.2)) → T (kvs.map fun kv => (kV kv.1, kv.2)) H') → tPairs (tPrs K prs) σ H T
  | [], ρ, ρ', H, F, ps, T, f, e, h => by
    cases e
    exact h [] H F (Grow.refl _ _) f rfl .nil
  | (gk, gv) :: r, ρ, ρ', H, F, ps, T, f, e, h => by
    have part : ∀ {g : Ev} {ρ : Env} {H F : Hp} {k : D → Env → PsR} {Q : V → Hp → Prop}, Fits K α ρ σ H F G → dFrz g ρ k = .ok ps ρ' → (∀ d ρ1 v H1 F1, Grow G F F1 → Fits K α ρ1 σ H1 F1 G → Rep K F1 d v → k d ρ1 = .ok ps ρ' → Q v H1) → tE K W0 g σ H Q := by
      intro g ρ H F k Q f e h
      refine ⟨α, ρ, F, G, f, EC.settle ?_⟩
      unfold dFrz at e
      cases e1 : (g ρ).settle with
      | no => rw [e1] at e; cases e
      | ex x ρ1 => rw [e1] at e; cases e
      | ok r ρ1 =>
        rw [e1] at e
        have rs : r.settle = r := by
          cases q : g ρ with
          | no => rw [q] at e1; cases e1
          | ex x ρ => rw [q] at e1; cases e1
          | ok r0 ρ0 =>
            rw [q] at e1
            have e6 : r0.settle = r := by cases e1; rfl
            rw [← e6]
            cases r0 <;> rfl
        intro v H1 F1 g1 f1 r1
        have s1 : SRep K F1 σ r v := by
          rw [← rs] at r1 ⊢
          exact settle_srep r1
        have e' : (match frz r ρ1 with | some (d, ρ2) => k d ρ2 | none => .no) = PsR.ok ps ρ' := e
        cases e2 : frz r ρ1 with
        | none => rw [e2] at e'; cases e'
        | some w =>
          obtain ⟨d, ρ2⟩ := w
          rw [e2] at e'
          obtain ⟨F2, g2, f2, r2⟩ := f1.frz s1 e2
          exact h d ρ2 v H1 F2 (g1.trans g2) f2 r2 e'
    show tE K W0 gk σ H fun x H1 => tE K W0 gv σ H1 fun y H2 => tPairs (tPrs K r) σ H2 fun ps H3 => T ((x, y) :: ps) H3
    refine part f (show dFrz gk ρ _ = .ok ps ρ' from e) fun dk ρ1 x H1 F1 g1 f1 rk e1 => ?_
    cases ek : keyOf dk with
    | none => rw [ek] at e1; cases e1
    | some k =>
      rw [ek] at e1
      have := key_rep rk ek
      subst this
      refine part f1 e1 fun dv ρ2 y H2 F2 g2 f2 rv e2 => ?_
      cases e3 : dPairs r ρ2 with
      | no => rw [e3] at e2; cases e2
      | ex z ρ3 => rw [e3] at e2; cases e2
      | ok qs ρ3 =>
        rw [e3] at e2
        cases e2
        refine pc_pairs f2 e3 fun kvs H' F' g3 f3 k1 k2 => ?_
        exact h ((k, y) :: kvs) H' F' ((g1.trans g2).trans g3) f3 (by simp [k1]) (.cons (Rep.mono g3.sub _ _ rv) k2)
theorem ed_disp {keys : List (Option Expr)} {values : List Expr} {prs : List (Ev × Ev)} (h : PPs X pos keys values (tPrs X.K prs)) (hall : keys.all (·.isSome) = true := by rfl) (hl : keys.length = values.length := by rfl) (h0 : keys ≠ [] := by exact fun z => nomatch z)
    (h15 : keys.length ≤ 15 := by decide) : PE X (.Dict keys values pos) (tE X.K W (dDisp prs)) := by
  refine (pe_disp h hall hl h0 h15).weak fun σ H Q ⟨α, ρ, F, G, f, h⟩ => ?_
  unfold dDisp at h
  cases e1 : dPairs prs ρ with
  | no => simp [e1, EC] at h
  | ex x ρ1 => simp [e1, EC] at h
  | ok ps ρ1 =>
    simp only [e1] at h
    by_cases hlen : ps.length ≤ 15
    · rw [if_pos hlen] at h
      intro P hP
      have fP : F P = none := f.fh.free hP
      have gP : G P = none := f.gh.free hP
      refine pc_pairs (f.still hP) e1 fun kvs H' F' g1 f1 k1 k2 => ?_
      have hp : H' P = some (.dK []) := f1.gh P _ upd_same
      have nP : F' P = none := by
        cases q : F' P with
        | none => rfl
        | some u =>
          rcases g1.new P u q with z | ⟨_, z⟩
          · rw [fP] at z; cases z
          · rw [upd_same] at z; cases z
      have gr : Grow G F F' := ⟨g1.sub, fun a o e => by
        rcases g1.new a o e with z | ⟨z1, z2⟩
        · exact .inl z
        · refine .inr ⟨z1, ?_⟩
          by_cases q : a = P
          · subst q; exact gP
          · rw [upd_ne q] at z2; exact z2⟩
      refine ⟨hp, kvs, rfl, ?_, ?_⟩
      · have := congrArg List.length k1
        simp only [List.length_map] at this
        omega
      · have rel : DicRel X.K F' (mergeK [] kvs) (mergeD ps) := DicRel.merge (K := X.K) (F := F') (acc := []) (d := .dic [] []) ⟨[], rfl, rfl, List.nodup_nil, .nil⟩ k1 k2
        -- back from the ground that was held
        obtain ⟨f6, ap6⟩ := Fits.loose gP (Fits.turn (o' := .dK (mergeK [] kvs)) f1 nP gP f1)
        exact h _ _ F' gr f6 ⟨P, rfl, nP, gP, rel.cell, fun j s q o => ap6 j s q o⟩
    · rw [if_neg hlen] at h
      exact h.elim
theorem pd_nil : PPs X pos [] [] (tPrs X.K []) := pps_nil
theorem pd_cons {k v : Expr} {ks : List (Option Expr)} {vs : List Expr} {gk gv : Ev} {r : List (Ev × Ev)} (hk : PE X k (tE X.K W0 gk)) (hv : PE X v (tE X.K W0 gv)) (hr : PPs X pos ks vs (tPrs X.K r)) : PPs X pos (some k :: ks) (v :: vs) (tPrs X.K ((gk, gv) :: r)) := pps_cons hk hv hr
theorem ed_disp0 : PE X (.Dict [] [] pos) (tE X.K W fun ρ => .ok (.new (.dic [] [])) ρ) := by
  refine pe_dnewK.weak fun σ H Q ⟨α, ρ, F, G, f, h⟩ P hP => ?_
  exact EC.op f h _ _ F (Ext.allocO f.fh hP) ⟨P, rfl, hP, f.fh.free hP, [], upd_same, rfl, List.nodup_nil, .nil⟩
end
end DL

/-! a dict walked: it is locked meanwhile. -/
namespace DL
open PySem PySem.Spec L2
variable [HasW]
/-- what data say is the same by both -/
structure Alike (F F' : Hp) : Prop where
  tup : ∀ a xs, Rd F a (.tup xs) → Rd F' a (.tup xs)
  rlst : ∀ a xs, Rd F a (.lst xs) → Rd F' a (.lst xs)
  lst : ∀ a xs, F a = some (.lst xs) → F' a = some (.lst xs)
  dic : ∀ a xs, Rd F a (.dK xs) → Rd F' a (.dK xs)
  ext : ∀ a φ, Rd F a (.ext φ) → Rd F' a (.ext φ)
section
variable {K : PySem.W.Frag} {F F' : Hp}
mutual
theorem Rep.alike (s : Alike F F') : ∀ (d : D) (v : V), Rep K F d v → Rep K F' d v
  | .non, _, h => h
  | .bl _, _, h => h
  | .int _, _, h => h
  | .str _, _, h => h
  | .raw _, _, h => h
  | .tup xs, v, h => by
    obtain ⟨a, vs, e, q, r⟩ := h
    exact ⟨a, vs, e, q.imp (s.tup a vs) id, Reps.alike s xs vs r⟩
  | .lst xs, v, h => by
    obtain ⟨a, vs, e, q, r⟩ := h
    exact ⟨a, vs, e, s.lst a vs q, Reps.alike s xs vs r⟩
  | .scr xs, v, h => by
    obtain ⟨a, vs, e, q, r⟩ := h
    exact ⟨a, vs, e, q.imp (s.rlst a vs) id, Reps.alike s xs vs r⟩
  | .dic ks xs, v, h => by
    obtain ⟨a, vs, e, q, l, n, r⟩ := h
    exact ⟨a, vs, e, s.dic a _ q, l, n, Reps.alike s xs vs r⟩
  | .dct ks xs, v, h => by
    obtain ⟨a, es, e, q, l, rk, r⟩ := h
    exact ⟨a, es, e, s.ext a _ q, l, Reps.alike s ks _ rk, Reps.alike s xs _ r⟩
theorem Reps.alike (s : Alike F F') : ∀ (ds : List D) (vs : List V), Reps K F ds vs → Reps K F' ds vs
  | [], _, h => h
  | d :: ds, _, h => by
    obtain ⟨v, r, e, a, b⟩ := h
    exact ⟨v, r, e, Rep.alike s d v a, Reps.alike s ds r b⟩
end
theorem Cell.alike {H H' : Hp} {a : Addr} (s : Alike F F') (e : ∀ o, H a = some o → H' a = some o) {d : D} (c : Cell K F H a d) : Cell K F' H' a d := by
  cases d with
  | lst xs => obtain ⟨vs, q, r⟩ := c; exact ⟨vs, e _ q, Reps.alike s _ _ r⟩
  | dic ks xs => obtain ⟨vs, q, l, n, r⟩ := c; exact ⟨vs, e _ q, l, n, Reps.alike s _ _ r⟩
  | dct ks xs => obtain ⟨es, q, l, rk, r⟩ := c; exact ⟨es, e _ q, l, Reps.alike s _ _ rk, Reps.alike s _ _ r⟩
  | _ => exact c.elim
theorem alike_lock {d : Addr} {o : Obj} {kvs : List (Key × V)} (h : F d = some (.dK kvs)) : Alike F (upd F d (.frz o (.dK kvs))) := by
  refine ⟨fun a xs r => ?_, fun a xs r => ?_, fun a xs r => ?_, fun a xs r => ?_, fun a φ r => ?_⟩
  · by_cases e : a = d
    · subst e
      rcases r with r | ⟨o', r⟩ <;> (rw [h] at r; cases r)
    · rcases r with r | ⟨o', r⟩
      · exact .inl (by rw [upd_ne e]; exact r)
      · exact .inr ⟨o', by rw [upd_ne e]; exact r⟩
  · by_cases e : a = d
    · subst e
      rcases r with r | ⟨o', r⟩ <;> (rw [h] at r; cases r)
    · rcases r with r | ⟨o', r⟩
      · exact .inl (by rw [upd_ne e]; exact r)
      · exact .inr ⟨o', by rw [upd_ne e]; exact r⟩
  · by_cases e : a = d
    · subst e
      rw [h] at r; cases r
    · rw [upd_ne e]; exact r
  · by_cases e : a = d
    · subst e
      rcases r with r | ⟨o', r⟩
      · rw [h] at r; cases r
        exact .inr ⟨o, upd_same⟩
      · rw [h] at r; cases r
    · rcases r with r | ⟨o', r⟩
      · exact .inl (by rw [upd_ne e]; exact r)
      · exact .inr ⟨o', by rw [upd_ne e]; exact r⟩
  · by_cases e : a = d
    · subst e
      rcases r with r | ⟨o', r⟩ <;> (rw [h] at r; cases r)
    · rcases r with r | ⟨o', r⟩
      · exact .inl (by rw [upd_ne e]; exact r)
      · exact .inr ⟨o', by rw [upd_ne e]; exact r⟩
theorem alike_open {d : Addr} {o : Obj} {kvs : List (Key × V)} (h : F d = some (.frz o (.dK kvs))) : Alike F (upd F d (.dK kvs)) := by
  refine ⟨fun a xs r => ?_, fun a xs r => ?_, fun a xs r => ?_, fun a xs r => ?_, fun a φ r => ?_⟩
  · by_cases e : a = d
    · subst e
      rcases r with r | ⟨o', r⟩ <;> (rw [h] at r; cases r)
    · rcases r with r | ⟨o', r⟩
      · exact .inl (by rw [upd_ne e]; exact r)
      · exact .inr ⟨o', by rw [upd_ne e]; exact r⟩
  · by_cases e : a = d
    · subst e
      rcases r with r | ⟨o', r⟩ <;> (rw [h] at r; cases r)
    · rcases r with r | ⟨o', r⟩
      · exact .inl (by rw [upd_ne e]; exact r)
      · exact .inr ⟨o', by rw [upd_ne e]; exact r⟩
  · by_cases e : a = d
    · subst e
      rw [h] at r; cases r
    · rw [upd_ne e]; exact r
  · by_cases e : a = d
    · subst e
      rcases r with r | ⟨o', r⟩
      · rw [h] at r; cases r
      · rw [h] at r
        cases r
        exact .inl upd_same
    · rcases r with r | ⟨o', r⟩
      · exact .inl (by rw [upd_ne e]; exact r)
      · exact .inr ⟨o', by rw [upd_ne e]; exact r⟩
  · by_cases e : a = d
    · subst e
      rcases r with r | ⟨o', r⟩ <;> (rw [h] at r; cases r)
    · rcases r with r | ⟨o', r⟩
      · exact .inl (by rw [upd_ne e]; exact r)
      · exact .inr ⟨o', by rw [upd_ne e]; exact r⟩
end
/-- set where something stands -/
def updIf (G : Hp) (d : Addr) (o : HO) : Hp := fun b => if b = d then (match G d with
  | some _ => some o
  | none => none) else G b
theorem updIf_ne {G : Hp} {d b : Addr} {o : HO} (h : b ≠ d) : updIf G d o b = G b := if_neg h
theorem updIf_none {G : Hp} {d b : Addr} {o : HO} : updIf G d o b = none ↔ G b = none := by
  unfold updIf
  by_cases e : b = d
  · subst e
    rw [if_pos rfl]
    cases G b <;> simp
  · rw [if_neg e]
theorem upd_none {F : Hp} {d b : Addr} {o u : HO} (h : F d = some u) : upd F d o b = none ↔ F b = none := by
  by_cases e : b = d
  · subst e
    rw [upd_same, h]
    simp
  · rw [upd_ne e]
section
variable {K : PySem.W.Frag} {α : Nat → Addr} {ρ : Env} {σ : L2.St} {H F G G' : Hp} {d : Addr} {o u : HO}
/-- one object of the data told otherwise -/
theorem Fits.told (f : Fits K α ρ σ H F G) (h : F d = some u) (a : Alike F (upd F d o)) (hG : ∀ b, G' b = none ↔ G b = none) (hG2 : Sub G' (upd H d o)) : Fits K α ρ σ (upd H d o) (upd F d o) G' := by
  refine ⟨f.fh.upd2, hG2, f.len, fun i s q => ?_, f.sep⟩
  obtain ⟨x, hx, so⟩ := f.slot i s q
  refine ⟨x, hx, ?_⟩
  have ne : ∀ {b : Addr}, F b = none → b ≠ d := fun {b} z e => by rw [e, h] at z; cases z
  cases s with
  | non => trivial
  | val e => obtain ⟨v, e1, r⟩ := so; exact ⟨v, e1, Rep.alike a _ _ r⟩
  | own e =>
    obtain ⟨b, e1, fb, gb, c⟩ := so
    exact ⟨b, e1, (upd_none h).mpr fb, (hG b).mpr gb, c.alike a fun w z => by rw [upd_ne (ne fb)]; exact z⟩
  | bor e =>
    obtain ⟨e1, fb, gb, c⟩ := so
    exact ⟨e1, (upd_none h).mpr fb, (hG _).mpr gb, c.alike a fun w z => by rw [upd_ne (ne fb)]; exact z⟩
end
/-! ### what a dict gives -/
inductive DW where | keys | vals | items
def keyD : Key → D
  | .inl i => .int i
  | .inr x => .str x
def walked (w : DW) (ks : List Key) (xs : List D) : List D := match w with
  | .keys => ks.map keyD
  | .vals => xs
  | .items => List.zipWith (fun k x => .tup [keyD k, x]) ks xs
def itOf (w : DW) (d : Addr) (o : Obj) (kvs : List (Key × V)) : It := match w with
  | .keys => Itk d o kvs
  | .vals => Itd d o kvs
  | .items => Iti d o kvs
section
variable {K : PySem.W.Frag} {F : Hp}
theorem rep_key (k : Key) : Rep K F (keyD k) (kV k) := by
  cases k with
  | inl i => exact rfl
  | inr x => exact rfl
theorem zip_at {ks : List Key} {vs : List V} {i : Nat} {k : Key} {v : V} (h : (ks.zip vs)[i]? = some (k, v)) : ks[i]? = some k ∧ vs[i]? = some v := by
  have := List.getElem?_zip_eq_some.mp h
  exact this
theorem jd_dic (w : DW) {d : Addr} {o : Obj} {ks : List Key} {xs : List D} {vs : List V} (h : F d = some (.frz o (.dK (ks.zip vs)))) (l : ks.length = xs.length) (r : Reps K F xs vs) : JD K F (itOf w d o (ks.zip vs)) (walked w ks xs) := fun H1 F1 s1 s2 => by
  have hd : H1 d = some (.frz o (.dK (ks.zip vs))) := s2 _ _ (s1 _ _ h)
  have r1 := Reps.mono s1 _ _ r
  have lz : (ks.zip vs).length = ks.length := by rw [List.length_zip, r.length, l, Nat.min_self]
  have lw : (walked w ks xs).length = ks.length := by
    cases w with
    | keys => exact List.length_map _
    | vals => exact l.symm
    | items => show (List.zipWith _ ks xs).length = _; rw [List.length_zipWith, l, Nat.min_self]
  have stop : (itOf w d o (ks.zip vs)).stop (walked w ks xs).length H1 := by
    cases w <;> exact ⟨hd, by rw [lw, lz]; exact Nat.le_refl _⟩
  refine ⟨fun i e he => ?_, stop⟩
  have hi : i < ks.length := by rw [← lw]; exact (List.getElem?_eq_some_iff.mp he).1
  have go : (itOf w d o (ks.zip vs)).go i H1 := by
    cases w <;> exact ⟨hd, by rw [lz]; exact hi⟩
  refine ⟨go, fun x H2 y => ?_⟩
  cases w with
  | keys =>
    obtain ⟨rfl, k, v, e1, rfl⟩ := y
    obtain ⟨e2, _⟩ := zip_at e1
    have he' : (ks.map keyD)[i]? = some e := he
    rw [List.getElem?_map, e2] at he'
    cases he'
    exact ⟨F1, Ext.refl s2, rep_key k⟩
  | vals =>
    obtain ⟨rfl, k, e1⟩ := y
    obtain ⟨_, e2⟩ := zip_at e1
    obtain ⟨v, hv, rv⟩ := r1.get (show xs[i]? = some e from he)
    rw [e2] at hv
    cases hv
    exact ⟨F1, Ext.refl s2, rv⟩
  | items =>
    obtain ⟨T, k, v, e1, rfl, hT, rfl⟩ := y
    obtain ⟨e2, e3⟩ := zip_at e1
    have he' : (List.zipWith (fun k x => D.tup [keyD k, x]) ks xs)[i]? = some e := he
    rw [List.getElem?_zipWith, e2] at he'
    cases e4 : xs[i]? with
    | none => rw [e4] at he'; cases he'
    | some x =>
      rw [e4] at he'
      cases he'
      obtain ⟨v', hv, rv⟩ := r1.get e4
      rw [e3] at hv
      cases hv
      exact ⟨_, Ext.alloc s2 hT, rep_pair (s2.free hT) (rep_key k) rv⟩
end
/-- what a name that holds a dict gives; it is plain data from then on -/
def dicAt (ρ : Env) (i : Nat) : Option (List Key × List D × Env) := match ρ[i]? with
  | some (.val (.dic ks xs)) => some (ks, xs, ρ)
  | some (.own (.dic ks xs)) => some (ks, xs, ρ.set i (.val (.dic ks xs)))
  | _ => none
def iDic (w : DW) (i : Nat) : Iv := fun ρ => match dicAt ρ i with
  | some (ks, xs, ρ1) => .ok (walked w ks xs) ρ1
  | none => .no
def offEx : ER → ER
  | .ex _ _ => .no
  | e => e
/-- [.. for .. in d.items()] -/
def dLcD (w : DW) (i : Nat) (vs : List Nat) (ft : D → Env → Option Env) (gt ge : Ev) : Ev := fun ρ => offEx (dLc (iDic w i) vs ft gt ge ρ)
theorem PE.or {X : Cx} {e : Expr} {t1 t2 : TE} (h1 : PE X e t1) (h2 : PE X e t2) : PE X e (fun σ H Q => t1 σ H Q ∨ t2 σ H Q) := ⟨fun pins s σ H Q I h => by
  rcases h with h | h
  · exact h1.run pins s σ H Q I h
  · exact h2.run pins s σ H Q I h⟩
/-- the reading of a walk over a dict that is locked -/
def iWalk (w : DW) (td : TE) : TI := fun σ H R => td σ H fun x H1 => ∃ d o kvs, x = .ref d ∧ H1 d = some (.frz o (.dK kvs)) ∧ R (itOf w d o kvs) H1
section
variable {K : PySem.W.Frag} {W : WX} {ft : D → Env → Option Env} {gt ge : Ev} {tch : List Nat} {vs : List Nat} {w : DW} {i : Nat}
theorem EC.off {W : WX} {α : Nat → Addr} {σ : L2.St} {F G : Hp} {Q : VK} : ∀ {e : ER}, EC K W α σ F G Q (offEx e) → EC K W0 α σ F G Q e
  | .ok r ρ, h => h
  | .ex x ρ, h => h.elim
  | .no, h => h
/-- the walk, the dict being locked -/
theorem ec_walk {α : Nat → Addr} {ρ : Env} {σ : L2.St} {H F G : Hp} {R : It → Hp → Prop} {d : Addr} {o : Obj} {ks : List Key} {xs : List D} {us : List V} (f : Fits K α ρ σ H F G) (hs : ρ[i]? = some (.val (.dic ks xs))) (hv : σ[i]? = some (some (.ref d))) (hF : F d = some (.frz o (.dK (ks.zip us)))) (l : ks.length = xs.length) (r : Reps K F xs us)
    (h : IC K W0 α σ F G R (iDic w i ρ)) : iWalk w (tVar i) σ H R := by
  have e2 : iDic w i ρ = .ok (walked w ks xs) ρ := by unfold iDic dicAt; rw [hs]
  rw [e2] at h
  exact ⟨.ref d, hv, d, o, _, rfl, f.fh _ _ hF, h _ H F (Grow.refl _ _) f (jd_dic w hF l r)⟩
theorem ec_lcD_val {α : Nat → Addr} {ρ : Env} {σ : L2.St} {H F G : Hp} {Q : VK} {ks : List Key} {xs : List D} (ht : ∀ j ∈ tch, j ∈ vs) (f : Fits K α ρ σ H F G) (hs : ρ[i]? = some (.val (.dic ks xs))) (h : EC K W α σ F G Q (dLcD w i vs ft gt ge ρ)) :
    tLockE (tLc (iWalk w (tVar i)) (tG K tch ft) (tT K W0 gt) (tE K W0 ge) vs) σ H Q ∨ tLc (iWalk w (tVar i)) (tG K tch ft) (tT K W0 gt) (tE K W0 ge) vs σ H Q := by
  obtain ⟨x, hx, v, rfl, d, us, rfl, rd, l, nd, r⟩ := f.slot i _ hs
  rcases rd with hF | ⟨o, hF⟩
  · refine .inl ⟨d, _, f.fh _ _ hF, trivial, fun od => ?_⟩
    let z : HO := .frz od (.dK (ks.zip us))
    have hH : H d = some (.dK (ks.zip us)) := f.fh _ _ hF
    have al : Alike F (upd F d z) := alike_lock hF
    have f0 : Fits K α ρ σ (upd H d z) (upd F d z) (updIf G d z) := f.told hF al (fun b => updIf_none) (fun b u e => by
      by_cases q : b = d
      · subst q
        rw [upd_same]
        have e' : (match G b with | some _ => some z | none => none) = some u := by
          have := e
          unfold updIf at this
          rw [if_pos rfl] at this
          exact this
        cases e2 : G b with
        | none => rw [e2] at e'; cases e'
        | some w => rw [e2] at e'; exact e'
      · rw [updIf_ne q] at e
        rw [upd_ne q]
        exact f.gh _ _ e)
    refine ec_lc_at (W := W0) ht f0 (fun R q => ec_walk f0 hs hx upd_same l (Reps.alike al _ _ r) q) ?_
    have key : ∀ {e : ER}, EC K W α σ F G Q (offEx e) → EC K W0 α σ (upd F d z) (updIf G d z) (fun v H' => H' d = some (.frz od (.dK (ks.zip us))) ∧ Q v (upd H' d (.dK (ks.zip us)))) e := by
      intro e h
      cases e with
      | no => exact h
      | ex x ρ1 => exact h.elim
      | ok rv ρ1 =>
        intro v H' F' g1 f1 r1
        have hz : F' d = some z := g1.sub _ _ upd_same
        have hz2 : H' d = some z := f1.fh _ _ hz
        refine ⟨hz2, ?_⟩
        have al2 : Alike F' (upd F' d (.dK (ks.zip us))) := alike_open hz
        have f2 : Fits K α ρ1 σ (upd H' d (.dK (ks.zip us))) (upd F' d (.dK (ks.zip us))) G := f1.told hz al2 (fun b => updIf_none.symm) (fun b u e => by
          by_cases q : b = d
          · subst q
            have := f.gh _ _ e
            rw [hH] at this
            cases this
            exact upd_same
          · rw [upd_ne q]
            exact f1.gh _ _ (by rw [updIf_ne q]; exact e))
        have g2 : Grow G F (upd F' d (.dK (ks.zip us))) := by
          refine ⟨fun a o e => ?_, fun a o e => ?_⟩
          · by_cases q : a = d
            · subst q
              rw [hF] at e
              cases e
              exact upd_same
            · rw [upd_ne q]
              exact g1.sub _ _ (by rw [upd_ne q]; exact e)
          · by_cases q : a = d
            · subst q
              rw [upd_same] at e
              cases e
              exact .inl hF
            · rw [upd_ne q] at e
              rcases g1.new a o e with w | ⟨w1, w2⟩
              · rw [upd_ne q] at w
                exact .inl w
              · exact .inr ⟨(upd_none hF).mp w1, updIf_none.mp w2⟩
        refine h v _ _ g2 f2 ?_
        cases rv with
        | val dd => exact Rep.alike al2 _ _ r1
        | loc j => exact r1
        | new dd =>
          obtain ⟨a, rfl, fa, ga, c, sp⟩ := r1
          have ne : a ≠ d := fun q => by rw [q, hz] at fa; cases fa
          exact ⟨a, rfl, by rw [upd_ne ne]; exact fa, updIf_none.mp ga, c.alike al2 fun w q => by rw [upd_ne ne]; exact q, sp⟩
    exact key h
  · exact .inr (ec_lc_at (W := W0) ht f (fun R q => ec_walk f hs hx hF l r q) (EC.off h))
theorem dicAt_own {ρ : Env} {i : Nat} {ks : List Key} {xs : List D} (h : ρ[i]? = some (.own (.dic ks xs))) : dLcD w i vs ft gt ge ρ = dLcD w i vs ft gt ge (ρ.set i (.val (.dic ks xs))) := by
  have hi : i < ρ.length := (List.getElem?_eq_some_iff.mp h).1
  have e : iDic w i ρ = iDic w i (ρ.set i (.val (.dic ks xs))) := by
    unfold iDic dicAt
    rw [h, List.getElem?_set_self hi]
  unfold dLcD dLc
  rw [e]
theorem ec_lcD {σ : L2.St} {H : Hp} {Q : VK} (ht : ∀ j ∈ tch, j ∈ vs) (h : tE K W (dLcD w i vs ft gt ge) σ H Q) :
    tLockE (tLc (iWalk w (tVar i)) (tG K tch ft) (tT K W0 gt) (tE K W0 ge) vs) σ H Q ∨ tLc (iWalk w (tVar i)) (tG K tch ft) (tT K W0 gt) (tE K W0 ge) vs σ H Q := by
  obtain ⟨α, ρ, F, G, f, h⟩ := h
  have no : dicAt ρ i = none → False := fun e => by
    have : dLcD w i vs ft gt ge ρ = .no := by
      unfold dLcD dLc iDic
      rw [e]
      rfl
    rw [this] at h
    exact h
  cases e : ρ[i]? with
  | none => exact (no (by unfold dicAt; rw [e])).elim
  | some s =>
    cases s with
    | non => exact (no (by unfold dicAt; rw [e])).elim
    | bor d => exact (no (by unfold dicAt; rw [e])).elim
    | val d =>
      cases d with
      | dic ks xs => exact ec_lcD_val ht f e h
      | _ => exact (no (by unfold dicAt; rw [e])).elim
    | own d =>
      cases d with
      | dic ks xs =>
        obtain ⟨x, hx, a, rfl, _⟩ := f.slot i _ e
        obtain ⟨F1, g1, f1, r1⟩ := f.freeze e hx
        have hi : i < ρ.length := (List.getElem?_eq_some_iff.mp e).1
        rw [dicAt_own e] at h
        exact ec_lcD_val ht f1 (List.getElem?_set_self hi) (EC.mono g1 h)
      | _ => exact (no (by unfold dicAt; rw [e])).elim
end
section
variable {X : Cx} {W : WX} {elt tg e : Expr} {ifs : List Expr} {scope : Scope} {own : List (Str × Nat)} {ft : D → Env → Option Env} {gt ge : Ev} {tch : List Nat} {pos apos cpos : Pos} {i : Nat} {x : Str} {w : DW} {iter : Expr}
theorem ed_lcD (hc : X.calm = true) (hN : X.N.Nodup) (ok : BlkOk X.N X.env.scope scope own) (ht : ∀ j ∈ tch, j ∈ own.map (·.2)) (hi : PI X tg iter (iWalk w (tVar i)))
    (hg : ∀ (s : Shared) (H : Hp) (C : Addr) (cl : List (Str × Addr)) (fp : List Addr), PG (X.blk s H scope (compEnvC scope cl C X.env) fp) tg (tG X.K tch ft)) (hif : ∀ (s : Shared) (H : Hp) (C : Addr) (cl : List (Str × Addr)) (fp : List Addr), PTs (X.blk s H scope (compEnvC scope cl C X.env) fp) ifs (tT X.K W0 gt))
    (he : ∀ (s : Shared) (H : Hp) (C : Addr) (cl : List (Str × Addr)) (fp : List Addr), PE (X.blk s H scope (compEnvC scope cl C X.env) fp) elt (tE X.K W0 ge)) (hs : ∀ x, foldedSetIterable iter X.env x = pure x := by intro _; rfl) :
    PE X (.ListComp elt [⟨tg, iter, ifs, 0⟩] scope pos) (tE X.K W (dLcD w i (own.map (·.2)) ft gt ge)) := by
  have p := pe_lc (pos := pos) hc hN hi ok hg hif he hs
  exact (PE.or (pe_lock p) p).weak fun σ H Q h => ec_lcD ht h
theorem iw_values (he : PE X e (tVar i)) (hbase : attributeBase e "values" X.env (eval e X.env) = eval e X.env := by rfl) (hline : (apos.endLine == cpos.line) = true := by rfl) : PI X tg (.Call (.Attribute e "values" apos) [] [] cpos) (iWalk .vals (tVar i)) := pi_values he hbase hline
theorem iw_items {elts : List Expr} {kk : Nat} {tpos : Pos} (he : PE X e (tVar i)) (hbase : attributeBase e "items" X.env (eval e X.env) = eval e X.env := by rfl) (hline : (apos.endLine == cpos.line) = true := by rfl) : PI X (.Tuple elts kk tpos) (.Call (.Attribute e "items" apos) [] [] cpos) (iWalk .items (tVar i)) := pi_items he hbase hline
end
end DL

/-! short words for the walks that a program prints. -/
namespace DL
open PySem PySem.Spec L2
variable [HasW]
/-! ### defs -/
structure FnC (P : Program) (w : World) (K : PySem.W.Frag) (mg : Str → Option Value) (base : Heap) (k : Nat) (x : Str) (ms : List Bool) (den : List D → DR) : Prop where
  ex : ∃ (f : Addr) (fd : FuncData) (ps : List Str), mg x = some (.ref f) ∧ PySem.W.keepIn K (.ref f) = true ∧ Binds K fd ps [] ∧ FnG P w K mg base k f fd ps (spD K ms den)
  loc : ∀ ds r outs, den ds = .ok r outs → ∀ i, r ≠ .loc i
/-- where a def of the text stands -/
structure DefAt (K : PySem.W.Frag) (mg : Str → Option Value) (x : Str) (st : Stmt) (ps : List Str) : Prop where
  ex : ∃ (f : Addr) (fd : FuncData), mg x = some (.ref f) ∧ Fun K x x st f fd ∧ Binds K fd ps []
section
variable {P : Program} {w : World} {K : PySem.W.Frag} {mg : Str → Option Value} {base : Heap}
theorem fnC_of {x : Str} {st : Stmt} {N ps : List Str} {k : Nat} {ms : List Bool} {g : Sv} (d : DefAt K mg x st ps) (S : FnScope N ps (defScope st)) (hm : ms.length = ps.length)
    (hb : ∀ (f : Addr) (cdv : Value) (A : Around) (outer : List PySem.Env) (s : Shared) (H : Hp) (E : XK), RoomG k (A.deeper (PyProof.Rows.envOfC x (defScope st) s.heap.objs.size f cdv)) →
      PSs (cxOf (L2.CX P w) P w K mg base N x (defScope st) f cdv A outer s H E) (defBody st) (tS K (fun cls d _ H' => E cls d H') g)) :
    FnC P w K mg base (k + 1) x ms (dDef N.length ms g) := by
  obtain ⟨f, fd, m, F, b⟩ := d.ex
  exact ⟨⟨f, fd, ps, m, F.kp, b, def_okG F S hm (hb f)⟩, fun ds r outs h => dDef_loc _ _ _ _ _ _ h⟩
theorem fnC_zero {x : Str} {st : Stmt} {ps : List Str} {ms : List Bool} {k : Nat} (d : DefAt K mg x st ps) (hm : ms.length = ps.length) : FnC P w K mg base k x ms fun _ => .no := by
  obtain ⟨f, fd, m, F, b⟩ := d.ex
  refine ⟨⟨f, fd, ps, m, F.kp, b, fun vs H Q E h => (spD_len vs H Q E h).trans hm, fun A up s H args us vs Q E _ _ _ _ h => ?_⟩, fun ds r outs h => by cases h⟩
  obtain ⟨α, F, G, ds, _, _, h⟩ := h
  exact h.elim
theorem FnC.mono {j k : Nat} {x : Str} {ms : List Bool} {den : List D → DR} (c : FnC P w K mg base j x ms den) (h : j ≤ k) : FnC P w K mg base k x ms den := by
  obtain ⟨f, fd, ps, m, kp, b, F⟩ := c.ex
  exact ⟨⟨f, fd, ps, m, kp, b, F.mono h⟩, c.loc⟩
end
section
variable {X : Cx} {W : WX} {e : Expr} {es : List Expr} {gs : Av} {pos p : Pos} {j k : Nat} {ms : List Bool} {den : List D → DR} {x : Str}
/-- f(..) -/
theorem ed_callF (c : FnC X.prog X.w X.K X.mg X.base k x ms den) (hr : RoomG j X.A) (tk : Takes X W) (ha : PA X (e :: es) (tA X.K W gs)) (hk : k ≤ j := by omega) (hg : Gl X x := by rfl) (hdb : (x == ("__debug__" : Str)) = false := by decide)
    (he : starEach (e :: es) X.env = (false, eval e X.env) :: starEach es X.env := by rfl) (hpl : (backTo pos (starEach es X.env)).any (·.1) = false := by rfl) : PE X (.Call (.Name x p) (e :: es) [] pos) (tE X.K W (dCall ms den gs)) := by
  obtain ⟨f, fd, ps, m, kp, b, F⟩ := c.ex
  exact ed_callG c.loc (F.mono hk) hr m kp b tk ha hg hdb he hpl
end
/-! ### constants of the module -/
structure GlobD (K : PySem.W.Frag) (mg : Str → Option Value) (x : Str) (d : D) : Prop where
  ex : ∃ u v, mg x = some u ∧ RelV v u ∧ ∀ F, Rep K F d v
/-- a flat value as data -/
def flatOk : Value → D → Bool
  | .none, .non => true
  | .bool a, .bl b => a == b
  | .int i _, .int j => decide (i = j)
  | .str x _, .str y => decide (x = y)
  | _, _ => false
def flatsOk : List Value → List D → Bool
  | [], [] => true
  | u :: us, d :: ds => flatOk u d && flatsOk us ds
  | _, _ => false
section
variable {K : PySem.W.Frag} {mg : Str → Option Value} {h : Heap} {x : Str}
theorem flatOk_rep {u : Value} {d : D} (e : flatOk u d = true) : ∃ v, RelV v u ∧ ∀ F, Rep K F d v := by
  unfold flatOk at e
  split at e
  · exact ⟨.non, rfl, fun F => rfl⟩
  · exact ⟨.bl _, rfl, fun F => by simp at e; subst e; rfl⟩
  · exact ⟨.int _, ⟨_, rfl⟩, fun F => by simp at e; subst e; rfl⟩
  · exact ⟨.str _, ⟨_, rfl⟩, fun F => by simp at e; subst e; rfl⟩
  · cases e
theorem flatsOk_rep : ∀ {us : List Value} {ds : List D}, flatsOk us ds = true → ∃ vs, Vals vs us ∧ ∀ F, Reps K F ds vs
  | [], [], _ => ⟨[], .nil, fun F => .nil⟩
  | [], _ :: _, e => by cases e
  | _ :: _, [], e => by cases e
  | u :: us, d :: ds, e => by
    have e' : (flatOk u d && flatsOk us ds) = true := e
    rw [Bool.and_eq_true] at e'
    obtain ⟨v, r1, h1⟩ := flatOk_rep (K := K) e'.1
    obtain ⟨vs, r2, h2⟩ := flatsOk_rep e'.2
    exact ⟨v :: vs, .cons r1 r2, fun F => .cons (h1 F) (h2 F)⟩
theorem glob_flat {u : Value} {d : D} (X : K.In h) (G : h.Ns mainGlobals mg) (a : PySem.W.nsIn K mainGlobals x = some (some u)) (e : flatOk u d = true) : GlobD K mg x d := by
  obtain ⟨v, r, hv⟩ := flatOk_rep (K := K) e
  exact ⟨u, v, PySem.W.mg_of X G a, r, hv⟩
theorem glob_tup {a : Addr} {dd : Option Addr} {us : Array Value} {n : Nat} {sl : Array (Option Value)} {ds : List D} (X : K.In h) (G : h.Ns mainGlobals mg) (e1 : PySem.W.nsIn K mainGlobals x = some (some (.ref a))) (e2 : K.lookup a = some ⟨.type "tuple", dd, .seq us n, sl⟩)
    (hs : us.size ≤ 1000) (e : flatsOk us.toList ds = true) : GlobD K mg x (.tup ds) := by
  obtain ⟨vs, r, hv⟩ := flatsOk_rep (K := K) e
  exact ⟨.ref a, .ref a, PySem.W.mg_of X G e1, rfl, fun F => ⟨a, vs, rfl, .inr ⟨_, us, n, e2, rfl, rfl, le_line hs, r⟩, hv F⟩⟩
theorem glob_lst {a : Addr} {us : Array Value} {n : Nat} {sl : Array (Option Value)} {ds : List D} (X : K.In h) (G : h.Ns mainGlobals mg) (e1 : PySem.W.nsIn K mainGlobals x = some (some (.ref a))) (e2 : K.lookup a = some ⟨.type "list", none, .seq us n, sl⟩)
    (hs : us.size ≤ 1000) (e : flatsOk us.toList ds = true) : GlobD K mg x (.scr ds) := by
  obtain ⟨vs, r, hv⟩ := flatsOk_rep (K := K) e
  exact ⟨.ref a, .ref a, PySem.W.mg_of X G e1, rfl, fun F => ⟨a, vs, rfl, .inr ⟨_, us, n, e2, rfl, rfl, rfl, le_line hs, r⟩, hv F⟩⟩
end
def seqOfK : D → List D
  | .tup xs => xs
  | .scr xs => xs
  | _ => []
section
variable {X : Cx} {W : WX} {a b e : Expr} {es : List Expr} {g ga gb : Ev} {gs : Av} {pos p : Pos} {j k : Nat} {x : Str} {d : D}
theorem ed_globD (c : GlobD X.K X.mg x d) (hg : Gl X x := by rfl) (hd : (x == ("__debug__" : Str)) = false := by decide) : PE X (.Name x pos) (tE X.K W (dC d)) := by
  obtain ⟨u, v, m, r, rd⟩ := c.ex
  exact ed_glob hg m r rd hd
/-! ### built-ins -/
theorem bo_len : bootBuiltins "len" = some (.builtin "len") := by decide +kernel
theorem bo_abs : bootBuiltins "abs" = some (.builtin "abs") := by decide +kernel
theorem bo_all : bootBuiltins "all" = some (.builtin "all") := by decide +kernel
theorem bo_any : bootBuiltins "any" = some (.builtin "any") := by decide +kernel
theorem bo_sum : bootBuiltins "sum" = some (.builtin "sum") := by decide +kernel
theorem bo_max : bootBuiltins "max" = some (.builtin "max") := by decide +kernel
theorem bo_min : bootBuiltins "min" = some (.builtin "min") := by decide +kernel
theorem bo_repr : bootBuiltins "repr" = some (.builtin "repr") := by decide +kernel
theorem bo_isi : bootBuiltins "isinstance" = some (.builtin "isinstance") := by decide +kernel
theorem bo_int : bootBuiltins "int" = some (.type "int") := by decide +kernel
theorem bo_str : bootBuiltins "str" = some (.type "str") := by decide +kernel
theorem bo_bool : bootBuiltins "bool" = some (.type "bool") := by decide +kernel
theorem bo_list : bootBuiltins "list" = some (.type "list") := by decide +kernel
theorem bo_tuple : bootBuiltins "tuple" = some (.type "tuple") := by decide +kernel
theorem bo_dict : bootBuiltins "dict" = some (.type "dict") := by decide +kernel
theorem ed_bi {id : String} {r : List V → Hp → VK → Prop} {f : List D → Option RV} (hc : CallR X (.builtin id) r) (o : OpN X.K r f) (hm : X.mg x = none) (hv : bootBuiltins x = some (.builtin id)) (ha : PA X (e :: es) (tA X.K W gs)) (hg : Gl X x := by rfl) (hn : x ≠ "__name__" := by decide) (hdb : (x == ("__debug__" : Str)) = false := by decide)
    (he : starEach (e :: es) X.env = (false, eval e X.env) :: starEach es X.env := by rfl) (hpl : (backTo pos (starEach es X.env)).any (·.1) = false := by rfl) : PE X (.Call (.Name x p) (e :: es) [] pos) (tE X.K W (dB f gs)) := ed_callB hc o hg hm hv ha hn hdb he hpl
theorem ed_bt {T : String} {r : List V → Hp → VK → Prop} {f : List D → Option RV} (hc : CallR X (.type T) r) (o : OpN X.K r f) (hm : X.mg x = none) (hv : bootBuiltins x = some (.type T)) (ha : PA X (e :: es) (tA X.K W gs)) (hg : Gl X x := by rfl) (hn : x ≠ "__name__" := by decide) (hdb : (x == ("__debug__" : Str)) = false := by decide)
    (he : starEach (e :: es) X.env = (false, eval e X.env) :: starEach es X.env := by rfl) (hpl : (backTo pos (starEach es X.env)).any (·.1) = false := by rfl) : PE X (.Call (.Name x p) (e :: es) [] pos) (tE X.K W (dB f gs)) := ed_callTy hc o hg hm hv ha hn hdb he hpl
/-- the name of a built-in type -/
theorem ed_ty {T : String} (hm : X.mg x = none) (hv : bootBuiltins x = some (.type T)) (hg : Gl X x := by rfl) (hn : x ≠ "__name__" := by decide) (hd : (x == ("__debug__" : Str)) = false := by decide) : PE X (.Name x pos) (tE X.K W (dC (.raw (.ty T)))) :=
  ed_bltn hg hm hv rfl hn hd
/-- - x -/
def opNeg : D → Option RV
  | .int i => some (.val (.int (-i)))
  | _ => none
theorem o_neg {K : PySem.W.Frag} : Op1 K (rU fun i => .int (-i)) opNeg := by
  intro F H d v z Q s a h q
  cases d with
  | int i => cases h; cases a; exact ⟨i, rfl, q _ H F (Ext.refl s) rfl⟩
  | _ => cases h
theorem ed_neg (ha : PE X a (tE X.K W ga)) : PE X (.UnaryOp .USub a pos) (tE X.K W (dOp1 opNeg ga)) := ed_un un_neg o_neg ha
/-- is None -/
def opIsN (d : D) : Option RV := match d with
  | .raw _ => none
  | .non => some (.val (.bl true))
  | _ => some (.val (.bl false))
end
/-! ### what stands at the top -/
section
variable {K : PySem.W.Frag} {mg : Str → Option Value} {h : Heap} {x : Str}
theorem defAt_of {st : Stmt} {ps : List Str} {f : Addr} {oc : Value} {od an : Option Addr} {osl : Array (Option Value)} {kV doc pm cdv ct : Value} (X : K.In h) (G : h.Ns mainGlobals mg) (a : PySem.W.nsIn K mainGlobals x = some (some (.ref f)))
    (l : K.lookup f = some ⟨oc, od, .func (PySem.W.fnOf x x (defArgs st) (defBody st) (defScope st) .none kV doc pm an cdv ct), osl⟩) (c : PySem.W.codeIn K cdv x = true) (k : PySem.W.keepIn K (.ref f) = true)
    (b : ∀ (kV doc pm : Value) (an : Option Addr) (cdv ct : Value) (us : List Value), us.length = ps.length → bindArgs (PySem.W.fnOf x x (defArgs st) (defBody st) (defScope st) .none kV doc pm an cdv ct) ⟨us, []⟩ = pure (ps.zip us)) : DefAt K mg x st ps :=
  ⟨⟨f, _, PySem.W.mg_of X G a, fun_mk l c k, (fun_mk (st := st) l c k).binds b⟩⟩
end
end DL

/-! sum(lists, start): a start that is a list. -/
namespace DL
open PySem PySem.Spec L2 Builtin
variable [HasW]
theorem sub_list_text : isSubtype (.type "list") (.type "str") = pure false := by rw [isSubtype_type]; kernel_rfl
theorem sub_list_bytes : isSubtype (.type "list") (.type "bytes") = pure false := by rw [isSubtype_type]; kernel_rfl
theorem sub_list_barr : isSubtype (.type "list") (.type "bytearray") = pure false := by rw [isSubtype_type]; kernel_rfl
theorem args_sum_two (a b : Value) : argsOk "sum" ⟨[a, b], []⟩ := by unfold argsOk; kernel_rfl
/-- a plain list object -/
abbrev lstO (its : List Value) (n : Nat) : Obj := { cls := .type "list", data := .seq its.toArray n }
section
variable {prog : Program} {w : World} {A : Around} {R : Result → Shared → Prop} {I : Addr} {fp wr : List Addr} {n : Nat} {P : Nat → Value → Prop} {St : Nat → Heap → Prop}
theorem sum_lists_loop (W : Walks prog w A.in1 I fp wr n P St) (S : Addr) (hfp : ∀ b ∈ fp, b < S) (pre : Nat → List Value) (big : ∀ i, i < n → (pre (i + 1)).length ≤ sizeLine) (base : Heap)
    (part : ∀ i v, P i v → ∃ a its c, v = .ref a ∧ base.get? a = some (lstO its c) ∧ pre (i + 1) = pre i ++ its ∧ a ∉ wr ∧ a ≠ S) :
    ∀ (k i : Nat) (s : Shared) (T c c2 : Nat), n - i = k → i ≤ n → St i s.heap → (∀ b o, b ∉ wr → b ≠ S → base.get? b = some o → s.heap.get? b = some o) → s.heap.get? S = some (lstO [.ref T] c) → T ≠ S → T ∉ wr → s.heap.get? T = some (lstO (pre i) c2) →
      (∀ h' tk T' c', (∀ b o, b ∉ wr → b ≠ S → s.heap.get? b = some o → h'.get? b = some o) → h'.get? T' = some (lstO (pre n) c') → (i = n ∧ T' = T) ∨ (i < n ∧ S < T') → R (.ok (.ret (.ref T'))) { s with heap := h', toks := tk }) →
      codeAny (model prog w) A (.builtin "sum.loop" ⟨[.ref I, .ref S, rawInt 2, rawInt 0], []⟩) R s := by
  have hS : S ∉ fp := fun h => Nat.lt_irrefl _ (hfp _ h)
  have hSw : S ∉ wr := fun h => hS (W.sub _ h)
  intro k
  induction k with
  | zero =>
    intro i s T c c2 hk hi st kept hSo hTS hTf hTo hR
    obtain rfl : i = n := by omega
    refine codeAny_builtin F.entry_sum_loop ?_
    rw [Around.under_plainId F.plain_sum_loop _]
    show wpAny _ A.in1 (seqItems? (.ref S) >>= _) _ _ s
    refine wpAny_bind (wpAny_seqItems hSo rfl ?_)
    show wpAny _ A.in1 (tryCatch (pyNext (.ref I)) _ >>= _) _ _ s
    refine wpAny_bind (wpAny_tryCatch (W.done s _ _ st fun h' tk hk' => ?_))
    exact wpAny_pure (hR h' tk T c2 (fun b o hb _ e => hk' b o hb e) (hk' T _ hTf hTo) (.inl ⟨rfl, rfl⟩))
  | succ k ih =>
    intro i s T c c2 hk hi st kept hSo hTS hTf hTo hR
    have hlt : i < n := by omega
    refine codeAny_builtin F.entry_sum_loop ?_
    rw [Around.under_plainId F.plain_sum_loop _]
    show wpAny _ A.in1 (seqItems? (.ref S) >>= _) _ _ s
    refine wpAny_bind (wpAny_seqItems hSo rfl ?_)
    show wpAny _ A.in1 (tryCatch (pyNext (.ref I)) _ >>= _) _ _ s
    refine wpAny_bind (wpAny_tryCatch (W.item i s _ _ hlt st fun v h' tk hP st' hk' => ?_))
    obtain ⟨a, its, ca, rfl, ha, hpre, haw, haS⟩ := part i v hP
    have hSo' := hk' S _ hSw hSo
    have hTo' := hk' T _ hTf hTo
    have ha' := hk' a _ haw (kept a _ haw haS ha)
    have hsz : (pre i).toArray.size + its.toArray.size ≤ sizeLine := by
      have := big i hlt
      rw [hpre, List.length_append] at this
      simpa using this
    show wpAny _ A.in1 ((holding [Value.ref a] (binaryOp .Add (.ref T) (.ref a))).attempt >>= _) _ _ _
    refine wpAny_bind (wpAny_attempt (wpAny_holding (PySem.P.add_list hTo' ha' ?_ hsz)))
    have hSlt : S < h'.objs.size := Heap.lt_size hSo'
    have hS1 : (h'.push { cls := .type "list", data := .seq ((pre i).toArray ++ its.toArray) }).get? S = some (lstO [.ref T] c) := Heap.get?_push_of_some _ hSo'
    show wpAny _ A.in1 (updateSeq S (fun _ => #[.ref h'.objs.size]) >>= _) _ _ _
    refine wpAny_bind ?_
    refine wpAny_updateSeq hS1 rfl ?_
    have hS2 := Heap.get?_update_self (Obj.mapSeq fun _ => #[Value.ref h'.objs.size]) hS1 rfl
    refine wpAny_bind (wpAny_letGo ?_)
    refine wpAny_bind ?_
    refine wpAny_updateSeq hS2 rfl (wpAny_pure ⟨plainId_quiet F.plain_sum_loop _, ?_⟩)
    have ea : (pre i).toArray ++ its.toArray = (pre (i + 1)).toArray := by rw [hpre]; simp
    have hN : (h'.push { cls := .type "list", data := .seq ((pre i).toArray ++ its.toArray) }).get? h'.objs.size = some (lstO (pre (i + 1)) 0) := by
      rw [ea]
      exact Heap.get?_push_size _ rfl
    have up : ∀ b o, b ≠ S → h'.get? b = some o → (((h'.push { cls := .type "list", data := .seq ((pre i).toArray ++ its.toArray) }).update S (Obj.mapSeq fun _ => #[.ref h'.objs.size])).update S (Obj.mapSeq fun _ => #[.ref h'.objs.size])).get? b = some o := fun b o hb e =>
      (Heap.get?_update_other _ _ (Ne.symm hb)).trans ((Heap.get?_update_other _ _ (Ne.symm hb)).trans (Heap.get?_push_of_some _ e))
    have hNS : h'.objs.size ≠ S := fun e => by rw [e] at hSlt; exact Nat.lt_irrefl _ hSlt
    refine ih (i + 1) _ h'.objs.size _ 0 (by omega) hlt (W.frame _ _ _ st' fun b hb o e => up b o (fun z => hS (z ▸ hb)) e) (fun b o hb1 hb2 e => up b o hb2 (hk' b o hb1 (kept b o hb1 hb2 e))) (Heap.get?_update_self _ hS2 rfl) hNS (fun m => Nat.lt_irrefl _ (Nat.lt_trans (hfp _ (W.sub _ m)) hSlt)) ?_ fun h'' tk'' T' c' hk'' hT' hor => ?_
    · exact (Heap.get?_update_other _ _ (Ne.symm hNS)).trans ((Heap.get?_update_other _ _ (Ne.symm hNS)).trans hN)
    · refine hR h'' tk'' T' c' (fun b o hb1 hb2 e => hk'' b o hb1 hb2 (up b o hb2 (hk' b o hb1 e))) hT' (.inr ⟨hlt, ?_⟩)
      rcases hor with ⟨_, rfl⟩ | ⟨_, q⟩
      · exact hSlt
      · exact q
/-- sum(xs, start) at the heap -/
theorem call_sum_lists {E : Value → Shared → Prop} {s : Shared} {l b : Addr} {items start : List Value} {cb : Nat} {Q : Value → Shared → Prop} (pre : Nat → List Value) (hh : A.handled = none) (hl : s.heap.IsList l items.toArray) (hb : s.heap.get? b = some (lstO start cb)) (p0 : pre 0 = start)
    (big : ∀ i, i < items.length → (pre (i + 1)).length ≤ sizeLine) (part : ∀ i v, items[i]? = some v → ∃ a its c, v = .ref a ∧ s.heap.get? a = some (lstO its c) ∧ pre (i + 1) = pre i ++ its)
    (hQ : ∀ h' tk T c, (∀ b o, s.heap.get? b = some o → h'.get? b = some o) → h'.get? T = some (lstO (pre items.length) c) → (items = [] ∧ T = b) ∨ (items ≠ [] ∧ s.heap.objs.size ≤ T) → Q (.ref T) { s with heap := h', toks := tk }) :
    wpAny (model prog w) A (call (.builtin "sum") [.ref l, .ref b]) Q E s := by
  have hbt : s.TypeIs (.ref b) "list" := ⟨_, hb, rfl⟩
  refine call_function_tree F.kind_sum F.plain_sum F.entry_sum (args_sum_two _ _) ?_
  unfold Builtin.«sum»
  simp only [List.length_cons, List.length_nil]
  rw [if_neg (by decide)]
  refine wpAny_bind (wpAny_of_eq (show Builtin.Builtins.bindParams "sum" ["start"] 0 ⟨[.ref b], []⟩ = pure [some (.ref b)] from rfl) ?_)
  refine wpAny_bind (wpAny_pyIter_list hl ?_)
  have hlt : l < s.heap.objs.size := by obtain ⟨_, e, _⟩ := hl; exact Heap.lt_size e
  have hit : (s.heap.push { cls := .type "list_iterator", data := .fields #[.ref l, .int 0 0] }).IsListIter s.heap.objs.size l 0 := ⟨_, Heap.get?_push_size _ rfl, rfl, rfl⟩
  have hl2 := hl.push { cls := .type "list_iterator", data := .fields #[.ref l, .int 0 0] }
  have hb2 : (s.heap.push { cls := .type "list_iterator", data := .fields #[.ref l, .int 0 0] }).get? b = some (lstO start cb) := Heap.get?_push_of_some _ hb
  have hbt2 : ({ s with heap := s.heap.push { cls := .type "list_iterator", data := .fields #[.ref l, .int 0 0] } } : Shared).TypeIs (.ref b) "list" := ⟨_, hb2, rfl⟩
  have W := Walks.list (prog := prog) (w := w) (A := A.in1) hh s.heap.objs.size l (Nat.ne_of_lt hlt) items.toArray
  refine wpAny_bind (wpAny_pure ?_)
  simp only [List.forIn_cons, List.forIn_nil]
  refine wpAny_bind (wpAny_bind (wpAny_bind (wpAny_isInstance (T := "list") (b := false) hbt2 sub_list_text ?_)))
  simp only [Bool.false_eq_true, if_false]
  refine wpAny_pure (wpAny_bind (wpAny_bind (wpAny_isInstance (T := "list") (b := false) hbt2 sub_list_bytes ?_)))
  simp only [Bool.false_eq_true, if_false]
  refine wpAny_pure (wpAny_bind (wpAny_bind (wpAny_isInstance (T := "list") (b := false) hbt2 sub_list_barr ?_)))
  simp only [Bool.false_eq_true, if_false]
  refine wpAny_pure (wpAny_pure ?_)
  refine wpAny_bind (wpAny_newObj_type ?_)
  let h2 := s.heap.push { cls := .type "list_iterator", data := .fields #[.ref l, .int 0 0] }
  have old : ∀ c o, s.heap.get? c = some o → c ≠ h2.objs.size ∧ c ∉ [s.heap.objs.size] := fun c o e => by
    have q := Heap.lt_size e
    refine ⟨?_, ?_⟩
    · show c ≠ (s.heap.push _).objs.size
      rw [Heap.size_push]
      exact Nat.ne_of_lt (Nat.lt_succ_of_lt q)
    · intro m
      rw [List.mem_singleton] at m
      exact Nat.ne_of_lt q m
  have hsz : h2.objs.size = s.heap.objs.size + 1 := Heap.size_push _ _
  refine wpAny_pure ⟨plainId_quiet F.plain_sum_loop _, sum_lists_loop (n := items.toArray.size) W h2.objs.size (fun c hc => ?_) pre (fun i hi => big i (by simpa using hi)) s.heap (fun i v hv => ?_) items.toArray.size 0 _ b _ cb (by omega) (Nat.zero_le _) ⟨?_, ?_⟩ (fun c o hc1 hc2 e => Heap.get?_push_of_some _ (Heap.get?_push_of_some _ e)) (Heap.get?_push_size _ rfl) ?_ ?_ ?_ fun h' tk T c kp hT hor => ?_⟩
  · rw [hsz]
    rcases List.mem_cons.mp hc with rfl | hc
    · exact Nat.lt_succ_self _
    · rw [List.mem_singleton] at hc
      rw [hc]
      exact Nat.lt_succ_of_lt hlt
  · obtain ⟨a, its, c, rfl, ha, hp⟩ := part i v (by simpa using hv)
    exact ⟨a, its, c, rfl, ha, hp, (old a _ ha).2, (old a _ ha).1⟩
  · obtain ⟨o, e, r⟩ := hit
    exact ⟨o, Heap.get?_push_of_some _ e, r⟩
  · exact hl2.push _
  · exact (old b _ hb).1
  · exact (old b _ hb).2
  · rw [p0]
    exact Heap.get?_push_of_some _ hb2
  · have e1 : items.toArray.size = items.length := by simp
    rw [e1] at hT hor
    refine hQ h' tk T c (fun a o e => kp a o (old a o e).2 (old a o e).1 (Heap.get?_push_of_some _ (Heap.get?_push_of_some _ e))) hT ?_
    rcases hor with ⟨q, rfl⟩ | ⟨q, r⟩
    · exact .inl ⟨List.length_eq_zero_iff.mp q.symm, rfl⟩
    · refine .inr ⟨fun z => by rw [z] at q; exact Nat.lt_irrefl _ q, ?_⟩
      rw [hsz] at r
      exact Nat.le_of_lt (Nat.lt_of_succ_lt r)
end
def rSumL (K : PySem.W.Frag) : List V → Hp → VK → Prop := fun vs H Q => ∃ (a b : Addr) (ls : List (Addr × List V)) (zs : List V), vs = [.ref a, .ref b] ∧ SqL K H a (ls.map fun p => .ref p.1) ∧ (∀ p ∈ ls, H p.1 = some (.lst p.2)) ∧ H b = some (.lst zs) ∧
  zs.length + (ls.map (·.2)).flatten.length ≤ sizeLine ∧ (ls = [] → Q (.ref b) H) ∧ (ls ≠ [] → ∀ p, H p = none → Q (.ref p) (upd H p (.lst (zs ++ (ls.map (·.2)).flatten))))
section
variable {X : Cx} {pins : List (Addr × Obj)} {σ : L2.St} {H : Hp} {s : Shared}
theorem lists_at (I : Inv X pins σ H s) : ∀ {ls : List (Addr × List V)}, (∀ p ∈ ls, H p.1 = some (.lst p.2)) → ∃ vss : List (List Value), vss.length = ls.length ∧ Vals (ls.map (·.2)).flatten vss.flatten ∧ ∀ (i : Nat) (p : Addr × List V) (vs : List Value), ls[i]? = some p → vss[i]? = some vs → ∃ n, s.heap.get? p.1 = some (lstO vs n)
  | [], _ => ⟨[], rfl, .nil, fun i p vs e => by simp at e⟩
  | p :: ls, h => by
    obtain ⟨_, its, n, r, hl, e⟩ := I.lstM (h p List.mem_cons_self)
    obtain ⟨vss, h1, h2, h3⟩ := lists_at I fun q hq => h q (List.mem_cons_of_mem _ hq)
    refine ⟨its :: vss, by simp [h1], ?_, fun i q vs e1 e2 => ?_⟩
    · rw [List.map_cons, List.flatten_cons, List.flatten_cons]
      exact r.append h2
    · cases i with
      | zero => simp at e1 e2; subst e1; subst e2; exact ⟨n, e⟩
      | succ i => exact h3 i q vs (by simpa using e1) (by simpa using e2)
theorem call_sumL (hc : X.calm = true) : CallR X (.builtin "sum") (rSumL X.K) := by
  rintro pins s σ H vs us Q I rv ⟨a, b, ls, zs, rfl, hq, hls, hb, hz, q0, q1⟩
  obtain ⟨u1, u2, rfl, r1, r2⟩ := vals2 rv
  cases r1
  cases r2
  obtain ⟨its, ri, pl, _⟩ := I.list hq
  obtain ⟨_, st, nb, rs, _, eb⟩ := I.lstM hb
  obtain ⟨vss, v1, v2, v3⟩ := lists_at I hls
  have li : its.length = ls.length := by have := ri.length; simpa using this.symm
  have lz : st.length = zs.length := rs.length.symm
  have pre_le : ∀ i, (vss.take i).flatten.length ≤ (ls.map (·.2)).flatten.length := fun i => by
    have e : (ls.map (·.2)).flatten.length = vss.flatten.length := v2.length
    have : vss.flatten = (vss.take i).flatten ++ (vss.drop i).flatten := by rw [← List.flatten_append, List.take_append_drop]
    rw [e, this, List.length_append]
    omega
  refine call_sum_lists (fun i => st ++ (vss.take i).flatten) (I.ok.hd hc) pl.isList eb (by simp) (fun i _ => ?_) (fun i v hv => ?_) fun h' tk T c hk hT hor => ?_
  · rw [List.length_append]
    have := pre_le (i + 1)
    omega
  · have hi : i < ls.length := by rw [← li]; exact (List.getElem?_eq_some_iff.mp hv).1
    have hi2 : i < vss.length := by rw [v1]; exact hi
    obtain ⟨n, e⟩ := v3 i ls[i] vss[i] (List.getElem?_eq_getElem hi) (List.getElem?_eq_getElem hi2)
    obtain ⟨w, ew, rw'⟩ := ri.get (i := i) (show (ls.map fun p => V.ref p.1)[i]? = some (.ref ls[i].1) by rw [List.getElem?_map, List.getElem?_eq_getElem hi]; rfl)
    rw [hv] at ew
    cases ew
    cases rw'
    refine ⟨ls[i].1, vss[i], n, rfl, e, ?_⟩
    rw [List.take_succ, List.getElem?_eq_getElem hi2]
    show st ++ (vss.take i ++ [vss[i]]).flatten = st ++ (vss.take i).flatten ++ vss[i]
    rw [List.flatten_append, List.flatten_cons, List.flatten_nil, List.append_nil, List.append_assoc]
  · rcases hor with ⟨z, rfl⟩ | ⟨z, q⟩
    · have : ls = [] := List.length_eq_zero_iff.mp (by rw [← li, z]; rfl)
      exact ⟨.ref _, H, I.kept hk, rfl, q0 this⟩
    · have ne : ls ≠ [] := fun w => z (List.length_eq_zero_iff.mp (by rw [li, w]; rfl))
      have e2 : vss.take its.length = vss := List.take_of_length_le (by omega)
      rw [e2] at hT
      have vv : Vals (zs ++ (ls.map (·.2)).flatten) (st ++ vss.flatten) := rs.append v2
      have ob : ObjOk X.prog X.w (upd H T (.lst (zs ++ (ls.map (·.2)).flatten))) h' T (.lst (zs ++ (ls.map (·.2)).flatten)) := by
        refine ⟨?_, st ++ vss.flatten, c, vv, hT⟩
        rw [List.length_append]
        exact hz
      exact ⟨.ref T, _, I.laid hk q ob, rfl, q1 ne T (I.hok.fresh q)⟩
end
/-! ### over data -/
def lists : List D → Option (List (List D))
  | [] => some []
  | .lst xs :: r => (lists r).map (xs :: ·)
  | _ => none
def fSumL : List D → Option RV
  | [.lst ls, .lst zs] => match lists ls with
    | some [] => if zs.length ≤ sizeLine then some (.val (.lst zs)) else none
    | some (x :: xs) => if zs.length + (x :: xs).flatten.length ≤ sizeLine then some (.new (.lst (zs ++ (x :: xs).flatten))) else none
    | none => none
  | _ => none
theorem lists_rep {K : PySem.W.Frag} {F : Hp} : ∀ {ls : List D} {xss : List (List D)} {vs : List V}, Reps K F ls vs → lists ls = some xss → ∃ ps : List (Addr × List V), vs = ps.map (fun p => .ref p.1) ∧ (∀ p ∈ ps, F p.1 = some (.lst p.2)) ∧ Reps K F xss.flatten (ps.map (·.2)).flatten ∧ ps.length = xss.length
  | [], xss, vs, r, e => by
    cases r
    cases e
    exact ⟨[], rfl, (fun p h => by cases h), .nil, rfl⟩
  | d :: ls, xss, vs, r, e => by
    obtain ⟨v, t, rfl, a, b⟩ := r
    cases d with
    | lst xs =>
      obtain ⟨yss, e1, rfl⟩ := Option.map_eq_some_iff.mp (show (lists ls).map (xs :: ·) = some xss from e)
      obtain ⟨p, ws, rfl, q, rr⟩ := a
      obtain ⟨ps, rfl, h1, h2, h3⟩ := lists_rep b e1
      refine ⟨(p, ws) :: ps, rfl, fun z hz => ?_, ?_, by simp [h3]⟩
      · rcases List.mem_cons.mp hz with rfl | hz
        · exact q
        · exact h1 z hz
      · rw [List.flatten_cons, List.map_cons, List.flatten_cons]
        exact rr.append h2
    | _ => cases e
theorem sumL_sound {K : PySem.W.Frag} {F H : Hp} {ds : List D} {vs : List V} {z : RV} {Q : VK} (s : Sub F H) (v : Reps K F ds vs) (h : fSumL ds = some z) (q : ∀ w H' F', Ext H F H' F' → ORep K H F' H' z w → Q w H') : rSumL K vs H Q := by
  unfold fSumL at h
  split at h
  · rename_i ls zs
    obtain ⟨u, t, rfl, ⟨a, ws, rfl, q1, r1⟩, u2, t2, rfl, ⟨b, us, rfl, q2, r2⟩, rfl⟩ := v
    cases e : lists ls with
    | none => rw [e] at h; cases h
    | some xss =>
      obtain ⟨ps, rfl, h1, h2, h3⟩ := lists_rep r1 e
      have hl := h2.length
      rw [e] at h
      cases xss with
      | nil =>
        have h : (if zs.length ≤ sizeLine then some (RV.val (.lst zs)) else none) = some z := h
        split at h
        · rename_i hz
          cases h
          have ne : ps = [] := List.length_eq_zero_iff.mp h3
          subst ne
          refine ⟨a, b, [], us, rfl, SqL.of (s _ _ q1), fun p hp => (nomatch hp), s _ _ q2, by rw [r2.length]; simpa using hz, fun _ => q _ H F (Ext.refl s) ⟨b, us, rfl, q2, r2⟩, fun w => absurd rfl w⟩
        · cases h
      | cons x xs =>
        have h : (if zs.length + (x :: xs).flatten.length ≤ sizeLine then some (RV.new (.lst (zs ++ (x :: xs).flatten))) else none) = some z := h
        split at h
        · rename_i hz
          cases h
          have ne : ps ≠ [] := fun w => by rw [w] at h3; cases h3
          refine ⟨a, b, ps, us, rfl, SqL.of (s _ _ q1), fun p hp => s _ _ (h1 p hp), s _ _ q2, by rw [r2.length, hl]; exact hz, fun w => absurd w ne, fun _ p hp => ?_⟩
          exact q _ _ _ (Ext.allocO s hp) ⟨p, rfl, hp, s.free hp, _, upd_same, r2.append h2⟩
        · cases h
  · cases h
def dSumL (gs : Av) : Ev := dFz gs fun ds ρ => ER.of (fSumL ds) ρ
section
variable {X : Cx} {W : WX} {a b : Expr} {gs : Av} {pos p : Pos}
theorem ed_sumL (hc : X.calm = true) (hm : X.mg "sum" = none) (ha : PA X [a, b] (tA X.K W gs)) (hg : Gl X "sum" := by rfl)
    (he : starEach [a, b] X.env = (false, eval a X.env) :: starEach [b] X.env := by rfl) (hpl : (backTo pos (starEach [b] X.env)).any (·.1) = false := by rfl) :
    PE X (.Call (.Name "sum" p) [a, b] [] pos) (tE X.K W (dSumL gs)) := by
  refine (pe_callB (call_sumL hc) hg hm bo_sum ha (by decide) (by decide) he hpl).weak fun σ H Q h => ac_fz h fun α ρ2 F G H1 ds vs f r hh => ?_
  cases e : fSumL ds with
  | none => rw [e] at hh; exact hh.elim
  | some z =>
    rw [e] at hh
    exact sumL_sound f.fh r e (EC.op f hh)
end
end DL

/-! d.get(k, x). -/
namespace DL
open PySem PySem.Spec L2
variable [HasW]
def dGet2 (go ge gf : Ev) : Ev := fun ρ => (go ρ).settle.bind fun r ρ1 => match peek r ρ1 with
  | some (.dic _ _) => (ge ρ1).settle.bind fun r1 ρ2 => (gf ρ2).settle.bind fun r2 ρ3 => match peek r ρ3, peek r1 ρ3, frz r2 ρ3 with
    | some (.dic ks xs), some k, some (d, ρ4) => match keyOf k with
      | some k => .ok (.val ((dGet ks xs k).getD d)) ρ4
      | none => .no
    | _, _, _ => .no
  | _ => .no
section
variable {X : Cx} {W : WX} {o e f : Expr} {go ge gf : Ev} {apos cpos : Pos} {k : Nat}
theorem ed_dget2 (hr : RoomG k X.A) (ho : PE X o (tE X.K W go)) (he : PE X e (tE X.K W ge)) (hf : PE X f (tE X.K W gf)) (m : M2 X o "get" apos e f cpos := by exact ⟨rfl, rfl, rfl, rfl⟩) :
    PE X (.Call (.Attribute o "get" apos) [e, f] [] cpos) (tE X.K W (dGet2 go ge gf)) := by
  refine (pe_dget2 (u1 hr) ho he hf m).weak fun σ H Q ⟨α, ρ, F, G, ft, h⟩ => ⟨α, ρ, F, G, ft, EC.bindS (fun r ρ1 v H1 F1 g1 f1 s1 h1 => ?_) h⟩
  cases e1 : peek r ρ1 with
  | none => simp [e1, EC] at h1
  | some d0 =>
    cases d0 with
    | dic ks0 xs0 =>
      simp only [e1] at h1
      obtain ⟨a, us, rfl, q1, _⟩ := f1.peek s1 e1
      refine ⟨a, rfl, .inl ⟨_, q1⟩, α, ρ1, F1, G, f1, EC.bindS (fun r1 ρ2 y H2 F2 g2 f2 s2 h2 => ?_) h1⟩
      refine ⟨α, ρ2, F2, G, f2, EC.bindS (fun r2 ρ3 z H3 F3 g3 f3 s3 h3 => ?_) h2⟩
      cases e2 : peek r ρ3 with
      | none => simp [e2, EC] at h3
      | some dd =>
        cases e3 : peek r1 ρ3 with
        | none => simp [e2, e3, EC] at h3
        | some kk =>
          cases e4 : frz r2 ρ3 with
          | none => simp [e2, e3, e4, EC] at h3
          | some w =>
            obtain ⟨d, ρ4⟩ := w
            cases dd with
            | dic ks xs =>
              simp only [e2, e3, e4] at h3
              cases e5 : keyOf kk with
              | none => simp [e5, EC] at h3
              | some key =>
                simp only [e5] at h3
                obtain ⟨a', vs, ea, q2, l, nd, rr⟩ := f3.peek (s1.mono (g2.sub.trans g3.sub)) e2
                cases ea
                have hk := view_flat (f3.peek (s2.mono g3.sub) e3) e5
                subst hk
                obtain ⟨F4, g4, f4, r4⟩ := f3.frz s3 e4
                refine ⟨_, .inl ⟨_, key, q2, rfl, rfl⟩, ?_⟩
                have rel := dGet_rep (k := key) (Reps.mono g4.sub _ _ rr) l
                cases e6 : dGet ks xs key with
                | none =>
                  rw [rel.2.1 e6]
                  rw [e6] at h3
                  exact h3 _ H3 F4 g4 f4 r4
                | some d1 =>
                  obtain ⟨v1, hv1, rv1⟩ := rel.1 d1 e6
                  rw [hv1]
                  rw [e6] at h3
                  exact h3 _ H3 F4 g4 f4 rv1
            | _ => simp [e2, e3, e4, EC] at h3
    | _ => simp [e1, EC] at h1
end
@[simp] theorem dGet2_ap {go ge gf : Ev} {ρ : Env} : dGet2 go ge gf ρ = (go ρ).settle.bind fun r ρ1 => match peek r ρ1 with
  | some (.dic _ _) => (ge ρ1).settle.bind fun r1 ρ2 => (gf ρ2).settle.bind fun r2 ρ3 => match peek r ρ3, peek r1 ρ3, frz r2 ρ3 with
    | some (.dic ks xs), some k, some (d, ρ4) => match keyOf k with
      | some k => .ok (.val ((dGet ks xs k).getD d)) ρ4
      | none => .no
    | _, _, _ => .no
  | _ => .no := rfl
@[simp] theorem dSumL_ap {gs : Av} {ρ : Env} : dSumL gs ρ = dFz gs (fun ds ρ => ER.of (fSumL ds) ρ) ρ := rfl
end DL

/-! is None, is not None. -/
namespace DL
open PySem PySem.Spec L2
variable [HasW]
def opNotN (d : D) : Option RV := match d with
  | .raw _ => none
  | .non => some (.val (.bl false))
  | _ => some (.val (.bl true))
theorem View.isN {K : PySem.W.Frag} {F H : Hp} {d : D} {v : V} (h : View K F H d v) (n : ∀ u, d ≠ .raw u) : decide (v = .non) = (match d with | .non => true | _ => false) := by
  cases d with
  | raw u => exact absurd rfl (n u)
  | non => cases h; rfl
  | bl _ => cases h; rfl
  | int _ => cases h; rfl
  | str _ => cases h; rfl
  | tup _ => obtain ⟨a, vs, rfl, _⟩ := h; rfl
  | lst _ => obtain ⟨a, vs, rfl, _⟩ := h; rfl
  | scr _ => obtain ⟨a, vs, rfl, _⟩ := h; rfl
  | dic _ _ => obtain ⟨a, vs, rfl, _⟩ := h; rfl
  | dct _ _ => obtain ⟨a, vs, rfl, _⟩ := h; rfl
theorem o_isN {K : PySem.W.Frag} : Op1 K (fun x H Q => Q (.bl (decide (x = .non))) H) opIsN := by
  intro F H d v z Q s a h q
  have key := fun n => View.isN (K := K) a n
  cases d <;> first | (cases h; done) | (cases h; rw [key (by intro u e; cases e)]; exact q _ H F (Ext.refl s) rfl)
theorem o_notN {K : PySem.W.Frag} : Op1 K (fun x H Q => Q (.bl (!decide (x = .non))) H) opNotN := by
  intro F H d v z Q s a h q
  have key := fun n => View.isN (K := K) a n
  cases d <;> first | (cases h; done) | (cases h; rw [key (by intro u e; cases e)]; exact q _ H F (Ext.refl s) rfl)
def BoolF1 (f : D → Option RV) : Prop := ∀ x z, f x = some z → ∃ c, z = .val (.bl c)
theorem bf_isN : BoolF1 opIsN := fun x z h => by cases x <;> cases h <;> exact ⟨_, rfl⟩
theorem bf_notN : BoolF1 opNotN := fun x z h => by cases x <;> cases h <;> exact ⟨_, rfl⟩
section
variable {X : Cx} {W : WX} {a b : Expr} {ga : Ev} {pos p : Pos} {op : CmpOp} {j : Option Str}
theorem cd_isN {j} (ha : PE X a (tE X.K W ga)) : PC X .Is a (.Constant .none j p) (tE X.K W (dOp1 opIsN ga)) :=
  (pc_isN ha).weak fun _ _ _ h => ec_op1 o_isN h
theorem cd_notN {j} (ha : PE X a (tE X.K W ga)) : PC X .IsNot a (.Constant .none j p) (tE X.K W (dOp1 opNotN ga)) :=
  (pc_notN ha).weak fun _ _ _ h => ec_op1 o_notN h
theorem td_ofC1 {f : D → Option RV} (h : PC X op a b (tE X.K W (dOp1 f ga))) (hf : BoolF1 f) (hm : behindInMarks op b = false := by first | exact nomark _ | rfl) : PT X (.Compare a [op] [b] pos) (tT X.K W (dOp1 f ga)) := by
  refine (pt_cmp h hm).weak fun σ H Q ⟨α, ρ, F, G, ft, h⟩ => ⟨α, ρ, F, G, ft, ?_⟩
  have key : ∀ {e : ER}, (∀ r ρ', e = .ok r ρ' → ∃ c, r = .val (.bl c)) → BC X.K W α σ F G Q e → EC X.K W α σ F G (fun x H' => ∃ c, x = .bl c ∧ Q c H') e := by
    intro e he hb
    cases e with
    | no => exact hb
    | ex x ρ1 => exact hb
    | ok r ρ1 =>
      obtain ⟨c, rfl⟩ := he r ρ1 rfl
      exact fun v H1 F1 g1 f1 r1 => ⟨c, r1, hb H1 F1 g1 f1⟩
  refine key (fun r ρ' q => ?_) h
  unfold dOp1 at q
  cases e1 : (ga ρ).settle with
  | no => simp [e1, ER.bind] at q
  | ex x ρ1 => simp [e1, ER.bind] at q
  | ok r1 ρ1 =>
    simp only [e1, ER.bind] at q
    cases e3 : peek r1 ρ1 with
    | none => simp [e3] at q
    | some x =>
      simp only [e3] at q
      cases e4 : f x with
      | none => simp [e4, ER.of] at q
      | some z =>
        simp only [e4, ER.of] at q
        cases q
        exact hf x _ e4
end
section
@[simp] theorem opIsN_non : opIsN .non = some (.val (.bl true)) := rfl
@[simp] theorem opIsN_tup {xs} : opIsN (.tup xs) = some (.val (.bl false)) := rfl
@[simp] theorem opIsN_int {i} : opIsN (.int i) = some (.val (.bl false)) := rfl
@[simp] theorem opIsN_str {i} : opIsN (.str i) = some (.val (.bl false)) := rfl
@[simp] theorem opIsN_lst {i} : opIsN (.lst i) = some (.val (.bl false)) := rfl
@[simp] theorem opNotN_non : opNotN .non = some (.val (.bl false)) := rfl
@[simp] theorem opNotN_tup {xs} : opNotN (.tup xs) = some (.val (.bl true)) := rfl
@[simp] theorem opNotN_int {i} : opNotN (.int i) = some (.val (.bl true)) := rfl
@[simp] theorem opNotN_str {i} : opNotN (.str i) = some (.val (.bl true)) := rfl
@[simp] theorem opNotN_lst {i} : opNotN (.lst i) = some (.val (.bl true)) := rfl
end
end DL

/-! sorted(x) of lists, tuples, dicts; list(d). -/
namespace DL
open PySem PySem.Spec L2 PySem.W PyProof.Rows
variable [HasW]
/-! ### over data -/
def sortKey (d : D) : PyData := (py d).getD .none
def sortD (ds : List D) : List D := ds.mergeSort (dataLe false sortKey)
def tupKey : PyData → Bool
  | .tuple (_ :: _) => true
  | _ => false
def othKey : PyData → Bool
  | .none => false
  | .tuple _ => false
  | _ => true
def sortsOk (ds : List D) : Bool := match pys ds with
  | some ps => (ps.all fun p => ps.all fun q => alike p q) && (ps.all tupKey || ps.all othKey) && decide (PyData.depthAll ps ≤ 60) && decide (ps.length ≤ sizeLine)
  | none => false
def srcOf : D → Option (List D)
  | .lst xs => some xs
  | .scr xs => some xs
  | .tup xs => some xs
  | .dic ks _ => some (ks.map keyD)
  | .dct ks _ => some ks
  | _ => none
def fSorted : List D → Option RV
  | [d] => match srcOf d with
    | some ds => if sortsOk ds then some (.new (.lst (sortD ds))) else none
    | none => none
  | _ => none
theorem pys_keys : ∀ (ds : List D) (ps : List PyData), pys ds = some ps → ps = ds.map sortKey ∧ ∀ d ∈ ds, py d = some (sortKey d)
  | [], ps, h => by cases h; exact ⟨rfl, fun d h => nomatch h⟩
  | d :: ds, ps, h => by
    have h' : (match py d, pys ds with | some p, some ps => some (p :: ps) | _, _ => none) = some ps := h
    cases e1 : py d with
    | none => rw [e1] at h'; cases h'
    | some p =>
      cases e2 : pys ds with
      | none => rw [e1, e2] at h'; cases h'
      | some qs =>
        rw [e1, e2] at h'
        cases h'
        obtain ⟨i1, i2⟩ := pys_keys ds qs e2
        have e3 : sortKey d = p := by unfold sortKey; rw [e1]; rfl
        refine ⟨by rw [List.map_cons, e3, ← i1], fun x hx => ?_⟩
        rcases List.mem_cons.mp hx with rfl | hx
        · rw [e1, e3]
        · exact i2 x hx
theorem depthAll_mem : ∀ (ps : List PyData) (p : PyData), p ∈ ps → p.depth ≤ PyData.depthAll ps
  | q :: ps, p, h => by
    simp only [PyData.depthAll]
    rcases List.mem_cons.mp h with rfl | h
    · omega
    · have := depthAll_mem ps p h; omega
theorem sortsOk_some {ds : List D} (h : sortsOk ds = true) : (∀ d ∈ ds, py d = some (sortKey d)) ∧ AllAlike (ds.map sortKey) ∧ Sortable (ds.map sortKey) ∧ (∀ d ∈ ds, (sortKey d).depth ≤ 60) ∧ ds.length ≤ sizeLine := by
  unfold sortsOk at h
  cases e : pys ds with
  | none => rw [e] at h; cases h
  | some ps =>
    rw [e] at h
    dsimp only at h
    obtain ⟨rfl, h2⟩ := pys_keys ds ps e
    simp only [Bool.and_eq_true, Bool.or_eq_true, decide_eq_true_eq] at h
    obtain ⟨⟨⟨h3, h4⟩, h5⟩, h6⟩ := h
    refine ⟨h2, fun p hp q hq => List.all_eq_true.mp (List.all_eq_true.mp h3 p hp) q hq, ?_, fun d hd => Nat.le_trans (depthAll_mem _ _ (List.mem_map.mpr ⟨d, hd, rfl⟩)) h5, by rwa [List.length_map] at h6⟩
    rcases h4 with h4 | h4
    · refine .inl fun d hd => ?_
      have := List.all_eq_true.mp h4 d hd
      unfold tupKey at this
      split at this
      · exact ⟨_, _, rfl⟩
      · cases this
    · refine .inr fun d hd => ?_
      have := List.all_eq_true.mp h4 d hd
      unfold othKey at this
      split at this
      · cases this
      · cases this
      · rename_i a b
        exact ⟨a, fun xs e => b xs e⟩
/-! ### the call -/
section
variable {X : Cx} {pins : List (Addr × Obj)} {σ : L2.St} {H : Hp} {s : Shared}
/-- what the items are, by F -/
def ItemRel (K : PySem.W.Frag) (F : Hp) (u : Value) (d : D) : Prop := ∃ v, RelV v u ∧ Rep K F d v
theorem each_of {K : PySem.W.Frag} {F : Hp} : ∀ {ds : List D} {xs : List V} {us : List Value}, Reps K F ds xs → Vals xs us → EachIs (ItemRel K F) us ds
  | [], _, _, r, v => by cases r; cases v; exact .nil
  | d :: ds, _, _, r, v => by
    obtain ⟨x, t, rfl, a, b⟩ := r
    cases v with
    | cons p q => exact .cons ⟨x, p, a⟩ (each_of b q)
theorem of_each {K : PySem.W.Frag} {F : Hp} : ∀ {ds : List D} {us : List Value}, EachIs (ItemRel K F) us ds → ∃ xs, Vals xs us ∧ Reps K F ds xs
  | [], _, e => by cases e; exact ⟨[], .nil, .nil⟩
  | d :: ds, _, e => by
    cases e with
    | cons a b =>
      obtain ⟨v, h1, h2⟩ := a
      obtain ⟨xs, h3, h4⟩ := of_each b
      exact ⟨v :: xs, .cons h1 h3, .cons h2 h4⟩
/-- the values of the items -/
def Src (K : PySem.W.Frag) (H : Hp) (a : Addr) (xs : List V) : Prop := SqL K H a xs ∨ SqT K H a xs ∨ (∃ kvs : List (L2.Key × V), Rd H a (.dK kvs) ∧ xs = kvs.map fun kv => kV kv.1) ∨ (∃ es, Rd H a (dxO a es) ∧ KeysAt K H es ∧ xs = es.map fun e => .ref e.2.1)
theorem src_collect (hw : X.w = HasW.w) (hc : X.calm = true) (I : Inv X pins σ H s) {a : Addr} {xs : List V} (h : Src X.K H a xs) {A : Around} (hA : A.handled = none) {R : List Value → Shared → Prop} {E : Value → Shared → Prop}
    (q : ∀ (h' : Heap) (tk : Nat) (us : List Value), (∀ b o, s.heap.get? b = some o → h'.get? b = some o) → Vals xs us → R us { s with heap := h', toks := tk }) : wpAny (model X.prog X.w) A (collect (.ref a)) R E s := by
  rcases h with h | h | ⟨kvs, h, rfl⟩ | ⟨es, h, ka, rfl⟩
  · obtain ⟨its, r', pl, hz⟩ := I.list h
    obtain ⟨o, ho, hcl, n, hd⟩ := pl.isList
    have hlen := r'.length
    refine wpAny_collect_seq a (T := "list") (.inl rfl) ho hcl hd (fun h' kp => ?_) (by simp only [List.size_toArray]; omega)
    exact q h' s.toks _ kp (by simpa using r')
  · obtain ⟨its, r', pl, hz⟩ := I.tuple h
    obtain ⟨o, ho, hcl, n, hd⟩ := pl
    have hlen := r'.length
    refine wpAny_collect_seq a (T := "tuple") (.inr rfl) ho hcl hd (fun h' kp => ?_) (by simp only [List.size_toArray]; omega)
    exact q h' s.toks _ kp (by simpa using r')
  · obtain ⟨z, lo, vs, rel, dd⟩ := dk_rd I.hok h
    obtain ⟨ep, hat⟩ := dd.dictAt
    have hl : kvs.length = vs.length := Paired.length rel
    refine PySem.W.kdu_collect (PySem.W.kdl_dict (knd := mixKind X.prog X.w) (kvs := vs) (ep := ep) lo) hA hat (by rw [← hl]; exact z) fun h' tk acc hk hacc => q h' tk _ hk ?_
    have el : acc.toList.length = acc.size := by simp
    refine vals_of_at (by rw [List.length_map, el, hacc.1, hl]) fun j x w h1 h2 => ?_
    obtain ⟨k, y, hky, hi⟩ := hacc.2 j w (by rw [← Array.getElem?_toList]; exact h2)
    have e1 : (kvs.map (·.1))[j]? = some k := by
      rw [KV.keys rel, List.getElem?_map, hky] <;> rfl
    have e2 : (kvs.map fun kv => kV kv.1)[j]? = some (kV k) := by
      have e3 : (kvs.map fun kv => kV kv.1) = (kvs.map (·.1)).map kV := by rw [List.map_map] <;> rfl
      rw [e3, List.getElem?_map, e1] <;> rfl
    rw [e2] at h1
    cases h1
    exact keyIs_rel hi
  · obtain ⟨z, lo, us, rv, o, des, ep, ho, hx, hdt, he, _, _⟩ := XAt.facts hw I (.inl h) ka
    have l1 : es.length = us.length := by have := rv.length; rwa [List.length_map] at this
    have lz := zip3_length es us l1
    have l2 : des.size = es.length := by rw [← lz, ← Array.length_toList, he, List.length_map]
    refine PySem.W.kdu_collect (kdl_raw lo hx hdt) hA ho (by omega) fun h' tk acc hk hacc => q h' tk _ hk ?_
    have el : acc.toList.length = acc.size := by simp
    refine vals_of_at (by rw [List.length_map, el, hacc.1, l2]) fun j x w h1 h2 => ?_
    obtain ⟨en, hen, rfl⟩ := hacc.2 j w (by rw [← Array.getElem?_toList]; exact h2)
    have qe := entry_at he j
    rw [hen] at qe
    cases hz : (zip3 es us)[j]? with
    | none => rw [hz] at qe; cases qe
    | some x3 =>
      rw [hz] at qe
      have e2 : en = entryOfKey (nestedKind X.prog X.w) x3 := Option.some.inj qe
      have e3 : (es.map (·.2.1))[j]? = some x3.2.1 := by
        have : ∀ (es : List Ent) (us : List Value), es.length = us.length → (zip3 es us).map (·.2.1) = es.map (·.2.1) := by
          intro es
          induction es with
          | nil => intro us h; cases us; rfl; cases h
          | cons e es ih =>
            intro us h
            cases us with
            | nil => cases h
            | cons u us => show e.2.1 :: (zip3 es us).map _ = _; rw [ih us (by simpa using h)]; rfl
        rw [← this es us l1, List.getElem?_map, hz]
        rfl
      have e4 : (es.map fun e => V.ref e.2.1)[j]? = some (.ref x3.2.1) := by
        have : (es.map fun e => V.ref e.2.1) = (es.map (·.2.1)).map V.ref := by rw [List.map_map]; rfl
        rw [this, List.getElem?_map, e3]
        rfl
      rw [e4] at h1
      cases h1
      rw [e2]
      exact rfl
def rSortedAny (K : PySem.W.Frag) : List V → Hp → VK → Prop := fun vs H Q => ∃ (a : Addr) (xs : List V) (ds : List D) (F : Hp), vs = [.ref a] ∧ Src K H a xs ∧ Sub F H ∧ Reps K F ds xs ∧ sortsOk ds = true ∧
  ∀ (ys : List V) (p : Addr), Reps K F (sortD ds) ys → H p = none → Q (.ref p) (upd H p (.lst ys))
theorem call_sortedAny (hc : X.calm = true) (hu : X.A.units + 65 < cLine) (hw : X.w = HasW.w) : CallR X (.builtin "sorted") (rSortedAny X.K) := by
  intro pins s σ H vs us0 Q I r h
  obtain ⟨a, xs, ds, F, rfl, src, sub, rp, ok, q⟩ := h
  obtain ⟨u, rfl, rx⟩ := vals1 r
  cases rx
  obtain ⟨hpy, hal, hso, hdp, hlen⟩ := sortsOk_some ok
  refine Calls.call_function_entry PyProof.Rows.kind_sorted PyProof.Rows.plain_sorted PyProof.Rows.entry_sorted (PyProof.Rows.args_sorted1 _) ?_
  unfold Builtin.«sorted»
  refine wpAny_bind (m := checkCount "sorted" 1 1 _) (wpAny_pure ?_)
  refine wpAny_bind (src_collect hw hc I src (A := X.A.in1) (I.ok.hd hc) fun h' tk us hk rv => ?_)
  have lx : us.length = ds.length := by rw [← rv.length]; exact rp.length
  have I1 : Inv X pins σ H { s with heap := h', toks := tk } := I.kept hk
  refine wpAny_bind (wpAny_newList ?_ (by omega))
  have hoL : (h'.push (seqObj "list" us.toArray 0)).get? h'.objs.size = some (seqObj "list" us.toArray 0) := Heap.get?_push_size _ rfl
  show wpAny _ _ _ _ _ { s with heap := h'.push (seqObj "list" us.toArray 0), toks := tk }
  have e0 : EachIs (ItemRel X.K F) us ds := each_of rp rv
  have old : ∀ b o, h'.get? b = some o → (PySem.W.sortingHeap (h'.push (seqObj "list" us.toArray 0)) h'.objs.size us).get? b = some o := fun b o e => PySem.W.sortingHeap_old (Nat.ne_of_lt (Heap.lt_size e)) (Heap.get?_push_of_some _ e)
  have er : EachIs (fun v b => ∃ as, Reads (PySem.W.sortingHeap (h'.push (seqObj "list" us.toArray 0)) h'.objs.size us) v (sortKey b) as) us ds := by
    refine (PySem.W.each_mem e0).mono fun v d ⟨⟨x, h1, h2⟩, hd⟩ => ?_
    obtain ⟨as, rd⟩ := Dp.reads I1 _ _ _ (View.dp sub (Rep.view sub h2) (hpy d hd)) h1
    exact ⟨as, PyProof.Rows.Reads.keeps old rd⟩
  refine wpAny_bind (wpAny_holding (wpAny_call_entry PyProof.Rows.slot_list_sort ⟨_, hoL, rfl⟩ PyProof.Rows.entry_list_sort
    (PySem.W.list_sort_vals (s := { s with heap := h'.push (seqObj "list" us.toArray 0), toks := tk }) hoL
      (PySem.W.SortsAt.data (s := { s with heap := PySem.W.sortingHeap (h'.push (seqObj "list" us.toArray 0)) h'.objs.size us, toks := tk }) (PySem.W.each_map (R := fun v d => ∃ as, Reads (PySem.W.sortingHeap (h'.push (seqObj "list" us.toArray 0)) h'.objs.size us) v d as) sortKey er) hal hso
        (fun d hd => by
          obtain ⟨b, hb, rfl⟩ := List.mem_map.mp hd
          have := hdp b hb
          show X.A.units + 1 + 1 + _ < cLine
          omega)) (by omega) ⟨_, rfl, ?_⟩)
    (PyProof.Rows.args_list_sort _)))
  have eo := PySem.W.sortVals_data false e0 er hal
  obtain ⟨ys, r1, r2⟩ := of_each eo
  generalize hout : PySem.W.sortVals _ false us us = out at eo r1
  have lo : out.length = ds.length := by rw [← hout, PySem.W.sortVals_length false rfl, lx]
  obtain ⟨e', he'⟩ := PyProof.Rows.sortedHeap_at (vs := us) (out := out.toArray) hoL
  have ly : ys.length ≤ sizeLine := by rw [r1.length]; omega
  refine wpAny_pure ⟨_, rfl, .ref h'.objs.size, upd H h'.objs.size (.lst ys), I1.laid (t' := tk) (fun b u e => ?_) (Nat.le_refl _) (show ObjOk X.prog X.w _ _ _ (.lst ys) from ⟨ly, out, e', r1, he'⟩), rfl, q ys _ r2 (I1.hok.fresh (Nat.le_refl _))⟩
  exact (PyProof.Rows.sortedHeap_old (Nat.ne_of_lt (Heap.lt_size e)) (Heap.lt_size (Heap.get?_push_of_some _ e))).trans (Heap.get?_push_of_some _ e)
end
section
variable {K : PySem.W.Frag} {F H : Hp}
theorem keys_zip {ks : List L2.Key} {vs : List V} (l : ks.length = vs.length) : ((ks.zip vs).map fun kv => kV kv.1) = ks.map kV := by
  have : ((ks.zip vs).map fun kv => kV kv.1) = ((ks.zip vs).map (·.1)).map kV := by rw [List.map_map]; rfl
  rw [this, List.map_fst_zip (by omega)]
theorem reps_keys : ∀ ks : List L2.Key, Reps K F (ks.map keyD) (ks.map kV)
  | [] => .nil
  | k :: ks => .cons (rep_key k) (reps_keys ks)
theorem srcOf_view {d : D} {v : V} {ds : List D} (s : Sub F H) (a : View K F H d v) (h : srcOf d = some ds) : ∃ p xs, v = .ref p ∧ Src K H p xs ∧ Reps K F ds xs := by
  cases d with
  | lst xs => cases h; obtain ⟨p, vs, rfl, q, r⟩ := a; exact ⟨p, vs, rfl, .inl (SqL.of q), r⟩
  | scr xs => cases h; obtain ⟨p, vs, rfl, q, r⟩ := a; exact ⟨p, vs, rfl, .inl (s.sqL q), r⟩
  | tup xs => cases h; obtain ⟨p, vs, rfl, q, r⟩ := a; exact ⟨p, vs, rfl, .inr (.inl (s.sqT q)), r⟩
  | dic ks xs =>
    cases h
    obtain ⟨p, vs, rfl, q, l, n, r⟩ := a
    exact ⟨p, ks.map kV, rfl, .inr (.inr (.inl ⟨_, q, (keys_zip (by rw [r.length]; exact l)).symm⟩)), reps_keys ks⟩
  | dct ks xs =>
    cases h
    obtain ⟨p, es, rfl, q, hm, rk, r⟩ := a
    exact ⟨p, _, rfl, .inr (.inr (.inr ⟨es, q, keysAt_of s hm rk, rfl⟩)), rk⟩
  | _ => cases h
theorem on_sorted : OpN K (rSortedAny K) fSorted := by
  intro F H ds vs z Q s v h q
  unfold fSorted at h
  split at h
  · rename_i d
    cases e : srcOf d with
    | none => rw [e] at h; cases h
    | some xs =>
      rw [e] at h
      dsimp only at h
      split at h
      · rename_i ok
        cases h
        obtain ⟨u, t, rfl, a, rfl⟩ := v
        obtain ⟨p, ws, rfl, src, r⟩ := srcOf_view s a e
        exact ⟨p, ws, xs, F, rfl, src, s, r, ok, fun ys p' r' hp => q _ _ _ (Ext.allocO s hp) ⟨p', rfl, hp, s.free hp, _, upd_same, r'⟩⟩
      · cases h
  · cases h
end
theorem bo_sorted : bootBuiltins "sorted" = some (.builtin "sorted") := by decide +kernel
end DL

/-! walks over the items of a dict whose keys are tuples. -/
namespace DL
open PySem PySem.Spec L2
variable [HasW]
section
variable {F : Hp}
theorem alike_lockX {d : Addr} {o : Obj} {es : List Ent} (h : F d = some (dxO d es)) : Alike F (upd F d (.frz o (dxO d es))) := by
  have h' : F d = some (.ext (DxOk d es)) := h
  refine ⟨fun a xs r => ?_, fun a xs r => ?_, fun a xs r => ?_, fun a xs r => ?_, fun a φ r => ?_⟩
  · by_cases e : a = d
    · subst e
      rcases r with r | ⟨o', r⟩ <;> (rw [h'] at r; cases r)
    · rcases r with r | ⟨o', r⟩
      · exact .inl (by rw [upd_ne e]; exact r)
      · exact .inr ⟨o', by rw [upd_ne e]; exact r⟩
  · by_cases e : a = d
    · subst e
      rcases r with r | ⟨o', r⟩ <;> (rw [h'] at r; cases r)
    · rcases r with r | ⟨o', r⟩
      · exact .inl (by rw [upd_ne e]; exact r)
      · exact .inr ⟨o', by rw [upd_ne e]; exact r⟩
  · by_cases e : a = d
    · subst e
      rw [h'] at r; cases r
    · rw [upd_ne e]; exact r
  · by_cases e : a = d
    · subst e
      rcases r with r | ⟨o', r⟩ <;> (rw [h'] at r; cases r)
    · rcases r with r | ⟨o', r⟩
      · exact .inl (by rw [upd_ne e]; exact r)
      · exact .inr ⟨o', by rw [upd_ne e]; exact r⟩
  · by_cases e : a = d
    · subst e
      rcases r with r | ⟨o', r⟩
      · rw [h'] at r; cases r
        exact .inr ⟨o, upd_same⟩
      · rw [h'] at r; cases r
    · rcases r with r | ⟨o', r⟩
      · exact .inl (by rw [upd_ne e]; exact r)
      · exact .inr ⟨o', by rw [upd_ne e]; exact r⟩
theorem alike_openX {d : Addr} {o : Obj} {es : List Ent} (h : F d = some (.frz o (dxO d es))) : Alike F (upd F d (dxO d es)) := by
  have h' : F d = some (.frz o (.ext (DxOk d es))) := h
  refine ⟨fun a xs r => ?_, fun a xs r => ?_, fun a xs r => ?_, fun a xs r => ?_, fun a φ r => ?_⟩
  · by_cases e : a = d
    · subst e
      rcases r with r | ⟨o', r⟩ <;> (rw [h'] at r; cases r)
    · rcases r with r | ⟨o', r⟩
      · exact .inl (by rw [upd_ne e]; exact r)
      · exact .inr ⟨o', by rw [upd_ne e]; exact r⟩
  · by_cases e : a = d
    · subst e
      rcases r with r | ⟨o', r⟩ <;> (rw [h'] at r; cases r)
    · rcases r with r | ⟨o', r⟩
      · exact .inl (by rw [upd_ne e]; exact r)
      · exact .inr ⟨o', by rw [upd_ne e]; exact r⟩
  · by_cases e : a = d
    · subst e
      rw [h'] at r; cases r
    · rw [upd_ne e]; exact r
  · by_cases e : a = d
    · subst e
      rcases r with r | ⟨o', r⟩ <;> (rw [h'] at r; cases r)
    · rcases r with r | ⟨o', r⟩
      · exact .inl (by rw [upd_ne e]; exact r)
      · exact .inr ⟨o', by rw [upd_ne e]; exact r⟩
  · by_cases e : a = d
    · subst e
      rcases r with r | ⟨o', r⟩
      · rw [h'] at r; cases r
      · rw [h'] at r
        cases r
        exact .inl upd_same
    · rcases r with r | ⟨o', r⟩
      · exact .inl (by rw [upd_ne e]; exact r)
      · exact .inr ⟨o', by rw [upd_ne e]; exact r⟩
end
def walkedX (ks xs : List D) : List D := List.zipWith (fun k x => .tup [k, x]) ks xs
def ItX (d : Addr) (o : Obj) (es : List Ent) : It :=
  ⟨fun i H => H d = some (.frz o (dxO d es)) ∧ i < es.length, fun i H v H' => ∃ T e, es[i]? = some e ∧ v = .ref T ∧ H T = none ∧ H' = upd H T (.tup [.ref e.2.1, e.2.2]), fun i H => H d = some (.frz o (dxO d es)) ∧ es.length ≤ i⟩
theorem jd_dct {K : PySem.W.Frag} {F : Hp} {d : Addr} {o : Obj} {ks xs : List D} {es : List Ent} (h : F d = some (.frz o (dxO d es))) (l : ks.map kOf = es.map (fun e => some e.1)) (rk : Reps K F ks (es.map fun e => .ref e.2.1)) (r : Reps K F xs (es.map (·.2.2))) : JD K F (ItX d o es) (walkedX ks xs) := fun H1 F1 s1 s2 => by
  have hd : H1 d = some (.frz o (dxO d es)) := s2 _ _ (s1 _ _ h)
  have rk1 := Reps.mono s1 _ _ rk
  have r1 := Reps.mono s1 _ _ r
  have l1 : ks.length = es.length := by have := congrArg List.length l; simpa using this
  have l2 : xs.length = es.length := by have := r.length; rw [List.length_map] at this; exact this.symm
  have lw : (walkedX ks xs).length = es.length := by
    show (List.zipWith _ ks xs).length = _
    rw [List.length_zipWith, l1, l2, Nat.min_self]
  refine ⟨fun i e he => ?_, ⟨hd, by rw [lw]; exact Nat.le_refl _⟩⟩
  have hi : i < es.length := by rw [← lw]; exact (List.getElem?_eq_some_iff.mp he).1
  refine ⟨⟨hd, hi⟩, fun x H2 y => ?_⟩
  obtain ⟨T, e1, he1, rfl, hT, rfl⟩ := y
  have he' : (List.zipWith (fun k x => D.tup [k, x]) ks xs)[i]? = some e := he
  obtain ⟨k, x, hk, hx, rfl⟩ := zip_get he'
  obtain ⟨v, hv, rv⟩ := rk1.get hk
  obtain ⟨u, hu, ru⟩ := r1.get hx
  rw [List.getElem?_map, he1] at hv hu
  cases hv
  cases hu
  exact ⟨_, Ext.alloc s2 hT, rep_pair (s2.free hT) rv ru⟩
theorem entsOf_get : ∀ {es : List Ent} {us : List Value} {i : Nat} {e : Ent}, Vals (es.map (·.2.2)) us → es[i]? = some e → ∃ u, (entsOf es us)[i]? = some (entryH e.1 e.2.1 u) ∧ RelV e.2.2 u
  | [], _, i, e, _, h => by simp at h
  | x :: es, _, 0, e, r, h => by
    cases r with
    | cons a b =>
      simp at h
      subst h
      exact ⟨_, rfl, a⟩
  | x :: es, _, i + 1, e, r, h => by
    cases r with
    | cons a b =>
      obtain ⟨u, h1, h2⟩ := entsOf_get (i := i) (e := e) b (by simpa using h)
      exact ⟨u, by simpa [entsOf] using h1, h2⟩
theorem entsOf_length : ∀ {es : List Ent} {us : List Value}, Vals (es.map (·.2.2)) us → (entsOf es us).length = es.length
  | [], _, r => by cases r; rfl
  | x :: es, _, r => by
    cases r with
    | cons a b => simp [entsOf, entsOf_length b]
section
variable {P : Program} {w : World} {K : PySem.W.Frag} {d : Addr} {o : Obj} {des : Array DictEntry} {ep : Nat}
theorem frzX {X : Cx} {pins : List (Addr × Obj)} {σ : L2.St} {H : Hp} {s : Shared} {es : List Ent} (I : Inv X pins σ H s) (h : H d = some (.frz o (dxO d es))) :
    (d == sysModules) = false ∧ s.heap.get? d = some o ∧ o.ExactDict ∧ ∃ (des : Array DictEntry) (ep : Nat) (us : List Value), o.data = .dict des ep ∧ Vals (es.map (·.2.2)) us ∧ des.toList = entsOf es us := by
  obtain ⟨hd, ⟨z, hs, nd, us, rv, o', des, ep, ho, hx, hdt, he⟩, _⟩ := I.hok d _ h
  rw [hd] at ho
  cases ho
  exact ⟨hs, hd, hx, des, ep, us, hdt, rv, he⟩
theorem turn_itemsX {es : List Ent} {elts : List Expr} {kk : Nat} {tpos : Pos} (it : Addr) (hod : o.data = .dict des ep) (hsz : des.size = es.length) :
    Turn P w K (.Tuple elts kk tpos) (ItX d o es) [it] it (fun i h => ∃ ok ov, IsItemIter h it d i des.size ep ok ov) where
  mem := by simp
  obj := fun i h st b hb => by
    have e : b = it := by simpa using hb
    subst e
    obtain ⟨ok, ov, e⟩ := st
    exact ⟨_, e, fun v z => nomatch z⟩
  keep := fun i h h' st k => let ⟨ok, ov, e⟩ := st; ⟨ok, ov, k it (by simp) _ e⟩
  item := by
    intro X hP hw hK hc i pins s σ H E I hf st hg
    subst hP hw hK
    obtain ⟨hd, hi⟩ := hg
    obtain ⟨hs, hgd, hx, des', ep', us, hdt, rv, he0⟩ := frzX I hd
    obtain ⟨rfl, rfl⟩ := dict_ep hod hdt
    obtain ⟨e, hei⟩ : ∃ p, es[i]? = some p := ⟨es[i], List.getElem?_eq_getElem hi⟩
    obtain ⟨u, hu, ru⟩ := entsOf_get rv hei
    obtain ⟨ok, ov, he⟩ := st
    have hlt : it < s.heap.objs.size := Heap.lt_size he
    have hii : i < des'.size := by omega
    have hen : des'[i] = entryH e.1 e.2.1 u := by
      have : des'.toList[i]? = some des'[i] := by rw [Array.getElem?_toList, Array.getElem?_eq_getElem hii]
      rw [he0, hu] at this
      exact (Option.some.inj this).symm
    refine wpAny_pyNext_items_item_raw he ⟨o, hgd, hx, hdt⟩ hii fun h' ho hT hz hk => ?_
    rw [hen] at ho hT
    refine ⟨_, rfl, wpAny_letOwnedTupleGo_items (s := { s with heap := h' }) ho fun h'' he' sb => ?_⟩
    have hT2 : h''.get? s.heap.objs.size = some { cls := .type "tuple", data := .seq #[.ref e.2.1, u] } := (sb.2 _ (Nat.ne_of_gt hlt)).trans hT
    have new : ObjOk X.prog X.w (upd H s.heap.objs.size (.tup [.ref e.2.1, e.2.2])) h'' s.heap.objs.size (.tup [.ref e.2.1, e.2.2]) :=
      ⟨by show 2 ≤ sizeLine; decide, [.ref e.2.1, u], .cons rfl (.cons ru .nil), ⟨_, hT2, rfl, _, rfl⟩⟩
    have I1 : Inv X pins σ (upd H s.heap.objs.size (.tup [.ref e.2.1, e.2.2])) { s with heap := h'' } :=
      I.turnedNew (t' := s.toks) (ch := [it]) (fun b ob hb e => (sb.2 b (by simpa using hb)).trans (hk b ob (by simpa using hb) e)) hf (Nat.le_refl _) new
    refine ⟨.ref s.heap.objs.size, _, I1, rfl, ⟨_, e, hei, rfl, I.hok.fresh (Nat.le_refl _), rfl⟩, ⟨_, u, he'⟩, fun b hb => ?_⟩
    have e2 : b = it := by simpa using hb
    rw [e2, upd_ne (Nat.ne_of_lt hlt)]
    exact (hf it (by simp)).1
  done := by
    intro X hP hw hK hc i pins s σ H E I hf st hg
    subst hP hw hK
    obtain ⟨hd, hi⟩ := hg
    obtain ⟨f0, f1, f2, f3, f4, f5⟩ := hf it (by simp)
    obtain ⟨hs, hgd, hx, des', ep', us, hdt, rv, he0⟩ := frzX I hd
    obtain ⟨rfl, rfl⟩ := dict_ep hod hdt
    obtain ⟨ok, ov, he⟩ := st
    exact wpAny_pyNext_items_end_raw (I.ok.hd hc) he ⟨o, hgd, hx, hdt⟩ (by omega) fun h' eb => ⟨rfl, I.turned (t' := s.toks) (fun b ob hb e => eb b ob hb e) f0 f1 f3 f4 f5⟩
  self := fun A i s Q E st h => let ⟨_, _, e⟩ := st; PySem.W.kcp_self e h
end
def iItemsX (td : TE) : TI := fun σ H R => td σ H fun x H1 => ∃ d o es, x = .ref d ∧ H1 d = some (.frz o (dxO d es)) ∧ R (ItX d o es) H1
theorem pi_itemsX {X : Cx} {e : Expr} {td : TE} {apos cpos tpos : Pos} {elts : List Expr} {kk : Nat} (he : PE X e td) (hbase : attributeBase e "items" X.env (eval e X.env) = eval e X.env := by rfl) (hline : (apos.endLine == cpos.line) = true := by rfl) :
    PI X (.Tuple elts kk tpos) (.Call (.Attribute e "items" apos) [] [] cpos) (iItemsX td) := by
  refine ⟨fun pins s σ H R I h => ?_⟩
  refine wpAny_Call_method (T := "dict") (id := "dict.items") hbase rfl hline PySem.F.plainAttrs_dict PySem.F.slot_dict_items PySem.F.type_dict_items (thn (he.run pins s σ H _ I h) fun u s1 ⟨x, H1, I1, rx, d, o, es, ex, hd, q⟩ => ?_)
  subst ex
  obtain rfl : u = Value.ref d := rx
  obtain ⟨hs, hgd, hx, des, ep, us, hdt, rv, he0⟩ := frzX I1 hd
  have hl : des.size = es.length := by rw [← Array.length_toList, he0, entsOf_length rv]
  refine ⟨⟨o, hgd, hx.1⟩, (fun b z => by cases z; exact ⟨o, hgd, hx.2.1⟩), ?_⟩
  have I2 : Inv X pins σ H1 { s1 with heap := s1.heap.push { cls := .type "dict_items", data := .fields #[.ref d] } } := I1.kept (t' := s1.toks) fun b ob q => Heap.get?_push_of_some _ q
  have fin : wpAny (model X.prog X.w) X.A (pyIter (.ref s1.heap.objs.size)) (PIE X pins σ (.Tuple elts kk tpos) R) X.xe { s1 with heap := s1.heap.push { cls := .type "dict_items", data := .fields #[.ref d] } } := by
    refine wpAny_pyIter_items_raw (d := d) ⟨_, Heap.get?_push_size _ rfl, rfl, rfl⟩ ⟨o, Heap.get?_push_of_some _ hgd, hx, hdt⟩ (pi_one (tk := s1.toks) I2 _ (turn_itemsX _ hdt hl) ⟨.none, .none, ?_⟩ q)
    exact Heap.get?_push_size _ rfl
  show wpAny _ _ (callWith cpos (.builtin "dict.items") [.ref d] [] []) _ X.xe s1
  exact method_meetsIn PySem.F.slot_dict_items PySem.F.entry_dict_items rfl (PySem.evalArgs_none ⟨rfl, ⟨o, hgd, hx.1⟩, PySem.F.args_dict_items_1 _, _, meets_dict_items_raw d hs, ⟨⟨des, ep, o, hgd, hx, hdt⟩, fin⟩⟩)
/-- what a name that holds such a dict gives -/
def dctAt (ρ : Env) (i : Nat) : Option (List D × List D × Env) := match ρ[i]? with
  | some (.val (.dct ks xs)) => some (ks, xs, ρ)
  | some (.own (.dct ks xs)) => some (ks, xs, ρ.set i (.val (.dct ks xs)))
  | _ => none
def iDct (i : Nat) : Iv := fun ρ => match dctAt ρ i with
  | some (ks, xs, ρ1) => .ok (walkedX ks xs) ρ1
  | none => .no
def dLcX (i : Nat) (vs : List Nat) (ft : D → Env → Option Env) (gt ge : Ev) : Ev := fun ρ => offEx (dLc (iDct i) vs ft gt ge ρ)
section
variable {K : PySem.W.Frag} {W : WX} {ft : D → Env → Option Env} {gt ge : Ev} {tch : List Nat} {vs : List Nat} {i : Nat}
/-- the walk, the dict being locked -/
theorem ec_walkX {α : Nat → Addr} {ρ : Env} {σ : L2.St} {H F G : Hp} {R : It → Hp → Prop} {d : Addr} {o : Obj} {ks xs : List D} {es : List Ent} (f : Fits K α ρ σ H F G) (hs : ρ[i]? = some (.val (.dct ks xs))) (hv : σ[i]? = some (some (.ref d))) (hF : F d = some (.frz o (dxO d es))) (l : ks.map kOf = es.map (fun e => some e.1)) (rk : Reps K F ks (es.map fun e => .ref e.2.1)) (r : Reps K F xs (es.map (·.2.2)))
    (h : IC K W0 α σ F G R (iDct i ρ)) : iItemsX (tVar i) σ H R := by
  have e2 : iDct i ρ = .ok (walkedX ks xs) ρ := by unfold iDct dctAt; rw [hs]
  rw [e2] at h
  exact ⟨.ref d, hv, d, o, _, rfl, f.fh _ _ hF, h _ H F (Grow.refl _ _) f (jd_dct hF l rk r)⟩
theorem ec_lcX_val {α : Nat → Addr} {ρ : Env} {σ : L2.St} {H F G : Hp} {Q : VK} {ks xs : List D} (ht : ∀ j ∈ tch, j ∈ vs) (f : Fits K α ρ σ H F G) (hs : ρ[i]? = some (.val (.dct ks xs))) (h : EC K W α σ F G Q (dLcX i vs ft gt ge ρ)) :
    tLockE (tLc (iItemsX (tVar i)) (tG K tch ft) (tT K W0 gt) (tE K W0 ge) vs) σ H Q ∨ tLc (iItemsX (tVar i)) (tG K tch ft) (tT K W0 gt) (tE K W0 ge) vs σ H Q := by
  obtain ⟨x, hx, v, rfl, d, es, rfl, rd, l, rk, r⟩ := f.slot i _ hs
  rcases rd with hF | ⟨o, hF⟩
  · refine .inl ⟨d, _, f.fh _ _ hF, trivial, fun od => ?_⟩
    let z : HO := .frz od (dxO d es)
    have hH : H d = some (dxO d es) := f.fh _ _ hF
    have al : Alike F (upd F d z) := alike_lockX hF
    have f0 : Fits K α ρ σ (upd H d z) (upd F d z) (updIf G d z) := f.told hF al (fun b => updIf_none) (fun b u e => by
      by_cases q : b = d
      · subst q
        rw [upd_same]
        have e' : (match G b with | some _ => some z | none => none) = some u := by
          have := e
          unfold updIf at this
          rw [if_pos rfl] at this
          exact this
        cases e2 : G b with
        | none => rw [e2] at e'; cases e'
        | some w => rw [e2] at e'; exact e'
      · rw [updIf_ne q] at e
        rw [upd_ne q]
        exact f.gh _ _ e)
    refine ec_lc_at (W := W0) ht f0 (fun R q => ec_walkX f0 hs hx upd_same l (Reps.alike al _ _ rk) (Reps.alike al _ _ r) q) ?_
    have key : ∀ {e : ER}, EC K W α σ F G Q (offEx e) → EC K W0 α σ (upd F d z) (updIf G d z) (fun v H' => H' d = some (.frz od (dxO d es)) ∧ Q v (upd H' d (dxO d es))) e := by
      intro e h
      cases e with
      | no => exact h
      | ex x ρ1 => exact h.elim
      | ok rv ρ1 =>
        intro v H' F' g1 f1 r1
        have hz : F' d = some z := g1.sub _ _ upd_same
        have hz2 : H' d = some z := f1.fh _ _ hz
        refine ⟨hz2, ?_⟩
        have al2 : Alike F' (upd F' d (dxO d es)) := alike_openX hz
        have f2 : Fits K α ρ1 σ (upd H' d (dxO d es)) (upd F' d (dxO d es)) G := f1.told hz al2 (fun b => updIf_none.symm) (fun b u e => by
          by_cases q : b = d
          · subst q
            have := f.gh _ _ e
            rw [hH] at this
            cases this
            exact upd_same
          · rw [upd_ne q]
            exact f1.gh _ _ (by rw [updIf_ne q]; exact e))
        have g2 : Grow G F (upd F' d (dxO d es)) := by
          refine ⟨fun a o e => ?_, fun a o e => ?_⟩
          · by_cases q : a = d
            · subst q
              rw [hF] at e
              cases e
              exact upd_same
            · rw [upd_ne q]
              exact g1.sub _ _ (by rw [upd_ne q]; exact e)
          · by_cases q : a = d
            · subst q
              rw [upd_same] at e
              cases e
              exact .inl hF
            · rw [upd_ne q] at e
              rcases g1.new a o e with w | ⟨w1, w2⟩
              · rw [upd_ne q] at w
                exact .inl w
              · exact .inr ⟨(upd_none hF).mp w1, updIf_none.mp w2⟩
        refine h v _ _ g2 f2 ?_
        cases rv with
        | val dd => exact Rep.alike al2 _ _ r1
        | loc j => exact r1
        | new dd =>
          obtain ⟨a, rfl, fa, ga, c, sp⟩ := r1
          have ne : a ≠ d := fun q => by rw [q, hz] at fa; cases fa
          exact ⟨a, rfl, by rw [upd_ne ne]; exact fa, updIf_none.mp ga, c.alike al2 fun w q => by rw [upd_ne ne]; exact q, sp⟩
    exact key h
  · exact .inr (ec_lc_at (W := W0) ht f (fun R q => ec_walkX f hs hx hF l rk r q) (EC.off h))
theorem dctAt_own {ρ : Env} {i : Nat} {ks xs : List D} (h : ρ[i]? = some (.own (.dct ks xs))) : dLcX i vs ft gt ge ρ = dLcX i vs ft gt ge (ρ.set i (.val (.dct ks xs))) := by
  have hi : i < ρ.length := (List.getElem?_eq_some_iff.mp h).1
  have e : iDct i ρ = iDct i (ρ.set i (.val (.dct ks xs))) := by
    unfold iDct dctAt
    rw [h, List.getElem?_set_self hi]
  unfold dLcX dLc
  rw [e]
theorem ec_lcX {σ : L2.St} {H : Hp} {Q : VK} (ht : ∀ j ∈ tch, j ∈ vs) (h : tE K W (dLcX i vs ft gt ge) σ H Q) :
    tLockE (tLc (iItemsX (tVar i)) (tG K tch ft) (tT K W0 gt) (tE K W0 ge) vs) σ H Q ∨ tLc (iItemsX (tVar i)) (tG K tch ft) (tT K W0 gt) (tE K W0 ge) vs σ H Q := by
  obtain ⟨α, ρ, F, G, f, h⟩ := h
  have no : dctAt ρ i = none → False := fun e => by
    have : dLcX i vs ft gt ge ρ = .no := by
      unfold dLcX dLc iDct
      rw [e]
      rfl
    rw [this] at h
    exact h
  cases e : ρ[i]? with
  | none => exact (no (by unfold dctAt; rw [e])).elim
  | some s =>
    cases s with
    | non => exact (no (by unfold dctAt; rw [e])).elim
    | bor d => exact (no (by unfold dctAt; rw [e])).elim
    | val d =>
      cases d with
      | dct ks xs => exact ec_lcX_val ht f e h
      | _ => exact (no (by unfold dctAt; rw [e])).elim
    | own d =>
      cases d with
      | dct ks xs =>
        obtain ⟨x, hx, a, rfl, _⟩ := f.slot i _ e
        obtain ⟨F1, g1, f1, r1⟩ := f.freeze e hx
        have hi : i < ρ.length := (List.getElem?_eq_some_iff.mp e).1
        rw [dctAt_own e] at h
        exact ec_lcX_val ht f1 (List.getElem?_set_self hi) (EC.mono g1 h)
      | _ => exact (no (by unfold dctAt; rw [e])).elim
end
/-- the one or, where it says nothing, the other -/
def orE (g1 g2 : Ev) : Ev := fun ρ => match g1 ρ with
  | .no => g2 ρ
  | r => r
theorem ed_orE {X : Cx} {W : WX} {e : Expr} {g1 g2 : Ev} (h1 : PE X e (tE X.K W g1)) (h2 : PE X e (tE X.K W g2)) : PE X e (tE X.K W (orE g1 g2)) := by
  refine ⟨fun pins s σ H Q I ⟨α, ρ, F, G, ft, h⟩ => ?_⟩
  unfold orE at h
  cases q : g1 ρ with
  | no => rw [q] at h; exact h2.run pins s σ H Q I ⟨α, ρ, F, G, ft, h⟩
  | ok r ρ1 => rw [q] at h; exact h1.run pins s σ H Q I ⟨α, ρ, F, G, ft, by rw [q]; exact h⟩
  | ex x ρ1 => rw [q] at h; exact h1.run pins s σ H Q I ⟨α, ρ, F, G, ft, by rw [q]; exact h⟩
section
variable {X : Cx} {W : WX} {elt e : Expr} {elts : List Expr} {kk : Nat} {tpos : Pos} {ifs : List Expr} {scope : Scope} {own : List (Str × Nat)} {ft : D → Env → Option Env} {gt ge : Ev} {tch : List Nat} {pos apos cpos : Pos} {i : Nat}
theorem ed_lcX {iter tg : Expr} (hc : X.calm = true) (hN : X.N.Nodup) (ok : BlkOk X.N X.env.scope scope own) (ht : ∀ j ∈ tch, j ∈ own.map (·.2)) (hi : PI X tg iter (iItemsX (tVar i)))
    (hg : ∀ (s : Shared) (H : Hp) (C : Addr) (cl : List (Str × Addr)) (fp : List Addr), PG (X.blk s H scope (compEnvC scope cl C X.env) fp) tg (tG X.K tch ft)) (hif : ∀ (s : Shared) (H : Hp) (C : Addr) (cl : List (Str × Addr)) (fp : List Addr), PTs (X.blk s H scope (compEnvC scope cl C X.env) fp) ifs (tT X.K W0 gt))
    (he : ∀ (s : Shared) (H : Hp) (C : Addr) (cl : List (Str × Addr)) (fp : List Addr), PE (X.blk s H scope (compEnvC scope cl C X.env) fp) elt (tE X.K W0 ge)) (hs : ∀ x, foldedSetIterable iter X.env x = pure x := by intro _; rfl) :
    PE X (.ListComp elt [⟨tg, iter, ifs, 0⟩] scope pos) (tE X.K W (dLcX i (own.map (·.2)) ft gt ge)) := by
  have p := pe_lc (pos := pos) hc hN hi ok hg hif he hs
  exact (PE.or (pe_lock p) p).weak fun σ H Q h => ec_lcX ht h
/-- [.. for a, b in d.items()], whatever the keys -/
theorem ed_lcA (hc : X.calm = true) (hN : X.N.Nodup) (ok : BlkOk X.N X.env.scope scope own) (ht : ∀ j ∈ tch, j ∈ own.map (·.2)) (hv : PE X e (tVar i))
    (hg : ∀ (s : Shared) (H : Hp) (C : Addr) (cl : List (Str × Addr)) (fp : List Addr), PG (X.blk s H scope (compEnvC scope cl C X.env) fp) (.Tuple elts kk tpos) (tG X.K tch ft)) (hif : ∀ (s : Shared) (H : Hp) (C : Addr) (cl : List (Str × Addr)) (fp : List Addr), PTs (X.blk s H scope (compEnvC scope cl C X.env) fp) ifs (tT X.K W0 gt))
    (he : ∀ (s : Shared) (H : Hp) (C : Addr) (cl : List (Str × Addr)) (fp : List Addr), PE (X.blk s H scope (compEnvC scope cl C X.env) fp) elt (tE X.K W0 ge)) (hs : ∀ x, foldedSetIterable (.Call (.Attribute e "items" apos) [] [] cpos) X.env x = pure x := by intro _; rfl)
    (hbase : attributeBase e "items" X.env (eval e X.env) = eval e X.env := by rfl) (hline : (apos.endLine == cpos.line) = true := by rfl) :
    PE X (.ListComp elt [⟨.Tuple elts kk tpos, .Call (.Attribute e "items" apos) [] [] cpos, ifs, 0⟩] scope pos) (tE X.K W (orE (dLcX i (own.map (·.2)) ft gt ge) (dLcD .items i (own.map (·.2)) ft gt ge))) :=
  ed_orE (ed_lcX hc hN ok ht (pi_itemsX hv hbase hline) hg hif he hs) (ed_lcD hc hN ok ht (iw_items hv hbase hline) hg hif he hs)
end
end DL

/-! d.get of tuples, min and max of one thing, xs[::-1], pop, insert, dict(..) of pairs, list(d), len(d). -/
namespace DL
open PySem PySem.Spec L2 PySem.W PyProof.Rows
variable [HasW]
/-! ### d.get(k, x), k a tuple -/
def xdic : D → Option (List D × List D)
  | .dct ks xs => some (ks, xs)
  | .dic ks _ => if ks.isEmpty then some ([], []) else none
  | _ => none
def dGet2X (go ge gf : Ev) : Ev := fun ρ => (go ρ).settle.bind fun r ρ1 => match (peek r ρ1).bind xdic with
  | some _ => (ge ρ1).settle.bind fun r1 ρ2 => (gf ρ2).settle.bind fun r2 ρ3 => match (peek r ρ3).bind xdic, (peek r1 ρ3).bind kOf, frz r2 ρ3 with
    | some (ks, xs), some k, some (d, ρ4) => .ok (.val ((dctGet ks xs k).getD d)) ρ4
    | _, _, _ => .no
  | none => .no
theorem view_x {K : PySem.W.Frag} {F H : Hp} (s : Sub F H) {d : D} {v : V} {ks xs : List D} (a : View K F H d v) (h : xdic d = some (ks, xs)) : ∃ p es, v = .ref p ∧ XAt H p es ∧ KeysAt K H es ∧ ks.map kOf = es.map (fun e => some e.1) ∧ Reps K F xs (es.map (·.2.2)) := by
  cases d with
  | dct ks' xs' =>
    cases h
    obtain ⟨p, es, rfl, q, hm, rk, r⟩ := a
    exact ⟨p, es, rfl, .inl q, keysAt_of s hm rk, hm, r⟩
  | dic ks' xs' =>
    have h' : (if ks'.isEmpty then some (([] : List D), ([] : List D)) else none) = some (ks, xs) := h
    split at h'
    · rename_i he
      have : ks' = [] := List.isEmpty_iff.mp he
      subst this
      cases h'
      obtain ⟨p, vs, rfl, q, l, nd, r⟩ := a
      exact ⟨p, [], rfl, .inr ⟨rfl, q⟩, (fun e h => nomatch h), rfl, .nil⟩
    · cases h'
  | _ => cases h
def tXGet2 (K : PySem.W.Frag) (td ty tx : TE) : TE := fun σ H Q => td σ H fun x H1 => ∃ a es0, x = .ref a ∧ XAt H1 a es0 ∧ KeysAt K H1 es0 ∧ ty σ H1 fun y H2 => tx σ H2 fun z H3 => ∃ es k, XAt H3 a es ∧ KeysAt K H3 es ∧ KeyAt K H3 y k ∧ Q ((xGet es k).getD z) H3
section
variable {X : Cx} {W : WX} {o e f : Expr} {go ge gf : Ev} {td ty tx : TE} {apos cpos pos p : Pos} {k : Nat}
theorem pe_xget2 (hw : X.w = HasW.w) (hu : X.A.units + 65 < cLine) (ho : PE X o td) (he : PE X e ty) (hf : PE X f tx) (m : M2 X o "get" apos e f cpos) : PE X (.Call (.Attribute o "get" apos) [e, f] [] cpos) (tXGet2 X.K td ty tx) := by
  refine ⟨fun pins s σ H Q I h => ?_⟩
  refine wpAny_Call_method m.base m.few m.line PySem.F.plainAttrs_dict PySem.F.slot_dict_get PySem.F.type_dict_get (thn (ho.run pins s σ H _ I h) fun u s1 ⟨x, H1, I1, rx, a, es0, ex, xa, ka, q1⟩ => ?_)
  subst ex
  obtain rfl : u = Value.ref a := rx
  obtain ⟨z, hd, us, rv, dd⟩ := xa.facts hw I1 ka
  refine ⟨dd.typeIs, (fun b q => ?_), ?_⟩
  · cases q
    obtain ⟨ob, _, _, h1, h2, _⟩ := dd
    exact ⟨ob, h1, h2.2.1⟩
  rw [m.trees]
  refine wpAny_dict_get2_heap (knd := nestedKind X.prog X.w) (room8 hu) hd (thn (he.run pins s1 σ H1 _ I1 q1) fun iv s2 ⟨y, H2, I2, ry, q2⟩ => thn (hf.run pins s2 σ H2 _ I2 q2) fun fv s3 ⟨zv, H3, I3, rz, es, kk, xa3, ka3, kat, q3⟩ => ?_)
  obtain ⟨z3, hd3, us3, rv3, dd3⟩ := xa3.facts hw I3 ka3
  obtain ⟨b, rfl, rfl, hk⟩ := kat.is I3 ry
  refine ⟨b, kk, _, rfl, hk, dd3, ?_⟩
  have rel := xGet_rel (k := kk) es us3 rv3
  cases h1 : xGet es kk with
  | none =>
    rw [h1] at rel q3
    have e2 : (atKey (zip3 es us3) kk).map (·.2) = none := RelO.none_of rel
    rw [e2]
    exact ⟨zv, H3, I3.tok _, rz, q3⟩
  | some v1 =>
    rw [h1] at rel q3
    obtain ⟨w', hw', rw'⟩ := RelO.some_of (v := v1) rel
    rw [hw']
    exact ⟨v1, H3, I3.tok _, rw', q3⟩
theorem ed_xget2 (hr : RoomG k X.A) (ho : PE X o (tE X.K W go)) (he : PE X e (tE X.K W ge)) (hf : PE X f (tE X.K W gf)) (m : M2 X o "get" apos e f cpos := by exact ⟨rfl, rfl, rfl, rfl⟩) (hw : X.w = HasW.w := by rfl) :
    PE X (.Call (.Attribute o "get" apos) [e, f] [] cpos) (tE X.K W (dGet2X go ge gf)) := by
  refine (pe_xget2 hw (u65 hr) ho he hf m).weak fun σ H Q ⟨α, ρ, F, G, ft, h⟩ => ⟨α, ρ, F, G, ft, EC.bindS (fun r ρ1 v H1 F1 g1 f1 s1 h1 => ?_) h⟩
  cases e1 : (peek r ρ1).bind xdic with
  | none => simp [e1, EC] at h1
  | some w0 =>
    simp only [e1] at h1
    obtain ⟨d0, e0, e01⟩ := Option.bind_eq_some_iff.mp e1
    obtain ⟨a, es0, rfl, xa, ka, _⟩ := view_x f1.fh (f1.peek s1 e0) (show xdic d0 = some (w0.1, w0.2) from e01)
    refine ⟨a, es0, rfl, xa, ka, α, ρ1, F1, G, f1, EC.bindS (fun r1 ρ2 y H2 F2 g2 f2 s2 h2 => ?_) h1⟩
    refine ⟨α, ρ2, F2, G, f2, EC.bindS (fun r2 ρ3 z H3 F3 g3 f3 s3 h3 => ?_) h2⟩
    cases e2 : (peek r ρ3).bind xdic with
    | none => simp [e2, EC] at h3
    | some dd =>
      cases e3 : (peek r1 ρ3).bind kOf with
      | none => simp [e2, e3, EC] at h3
      | some kk =>
        cases e4 : frz r2 ρ3 with
        | none => simp [e2, e3, e4, EC] at h3
        | some w =>
          obtain ⟨d, ρ4⟩ := w
          obtain ⟨ks, xs⟩ := dd
          simp only [e2, e3, e4] at h3
          obtain ⟨d2, e20, e21⟩ := Option.bind_eq_some_iff.mp e2
          obtain ⟨d3, e30, e31⟩ := Option.bind_eq_some_iff.mp e3
          obtain ⟨a', es, ea, xa2, ka2, hm, rr⟩ := view_x f3.fh (f3.peek (s1.mono (g2.sub.trans g3.sub)) e20) e21
          cases ea
          obtain ⟨F4, g4, f4, r4⟩ := f3.frz s3 e4
          refine ⟨es, kk, xa2, ka2, View.keyAt f3.fh (f3.peek (s2.mono g3.sub) e30) e31, ?_⟩
          have rel := dctGet_rep (k := kk) hm (Reps.mono g4.sub _ _ rr)
          cases e6 : dctGet ks xs kk with
          | none =>
            rw [rel.2.1 e6]
            rw [e6] at h3
            exact h3 _ H3 F4 g4 f4 r4
          | some d1 =>
            obtain ⟨v1, hv1, rv1⟩ := rel.1 d1 e6
            rw [hv1]
            rw [e6] at h3
            exact h3 _ H3 F4 g4 f4 rv1
theorem ed_get2A (hr : RoomG k X.A) (ho : PE X o (tE X.K W go)) (he : PE X e (tE X.K W ge)) (hf : PE X f (tE X.K W gf)) (m : M2 X o "get" apos e f cpos := by exact ⟨rfl, rfl, rfl, rfl⟩) (hw : X.w = HasW.w := by rfl) :
    PE X (.Call (.Attribute o "get" apos) [e, f] [] cpos) (tE X.K W (orE (dGet2X go ge gf) (dGet2 go ge gf))) := ed_orE (ed_xget2 hr ho he hf m hw) (ed_dget2 hr ho he hf m)
end
/-! ### xs[::-1] -/
def opRev (d : D) : Option RV := match d with
  | .lst xs => some (.new (.lst xs.reverse))
  | .scr xs => some (.new (.lst xs.reverse))
  | _ => none
section
variable {X : Cx} {W : WX} {e : Expr} {g : Ev} {pos : Pos} {k : Nat}
theorem ed_revL {p1 p2 p3 : Pos} (he : PE X e (tE X.K W g)) : PE X (.Subscript e (.Slice none none (some (.UnaryOp .USub (.Constant (.int 1) k p1) p2)) p3) pos) (tE X.K W (dOp1 opRev g)) := by
  refine (pe_revL he).weak fun σ H Q h => ?_
  refine ec_op1 (r := fun x H1 Q => ∃ a xs, x = .ref a ∧ SqL X.K H1 a xs ∧ ∀ p, H1 p = none → Q (.ref p) (upd H1 p (.lst xs.reverse))) ?_ h
  intro F H d v z Q s a h q
  cases d with
  | lst xs => cases h; obtain ⟨p, vs, rfl, hq, r⟩ := a; exact ⟨p, vs, rfl, SqL.of hq, fun p' hp => q _ _ _ (Ext.allocO s hp) ⟨p', rfl, hp, s.free hp, _, upd_same, r.rev⟩⟩
  | scr xs => cases h; obtain ⟨p, vs, rfl, hq, r⟩ := a; exact ⟨p, vs, rfl, s.sqL hq, fun p' hp => q _ _ _ (Ext.allocO s hp) ⟨p', rfl, hp, s.free hp, _, upd_same, r.rev⟩⟩
  | _ => cases h
end
/-! ### min, max of one thing -/
def intsOf : D → Option (List Int)
  | .lst xs => intsD xs
  | .scr xs => intsD xs
  | .tup xs => intsD xs
  | _ => none
def fMax1 : List D → Option RV
  | [d] => match intsOf d with
    | some (n :: ns) => some (.val (.int (ns.foldl max n)))
    | _ => none
  | _ => none
def fMin1 : List D → Option RV
  | [d] => match intsOf d with
    | some (n :: ns) => some (.val (.int (ns.foldl min n)))
    | _ => none
  | _ => none
section
variable {X : Cx}
def rExt (K : PySem.W.Frag) (f : Int → List Int → Int) : List V → Hp → VK → Prop := fun vs H Q => ∃ (a : Addr) (n : Int) (ns : List Int), vs = [.ref a] ∧ (SqL K H a ((n :: ns).map V.int) ∨ SqT K H a ((n :: ns).map V.int)) ∧ Q (.int (f n ns)) H
theorem alikeAll_ints (ns : List Int) : AlikeAll (ns.map PyData.int) := by
  refine ⟨fun d hd e he => ?_, fun d hd => ?_⟩
  · obtain ⟨i, _, rfl⟩ := List.mem_map.mp hd
    obtain ⟨j, _, rfl⟩ := List.mem_map.mp he
    rfl
  · obtain ⟨i, _, rfl⟩ := List.mem_map.mp hd
    exact fun z => nomatch z
theorem reads_ints {h : Heap} : ∀ {ns : List Int} {us : List Value}, Vals (ns.map V.int) us → ∃ as, ReadsAll h us (ns.map PyData.int) as
  | [], _, r => by cases r; exact ⟨_, .nil⟩
  | n :: ns, _, r => by
    cases r with
    | cons a b =>
      obtain ⟨t, rfl⟩ := a
      obtain ⟨as, q⟩ := reads_ints b
      exact ⟨_, .cons (.int _ _) q⟩
theorem call_max1 (hc : X.calm = true) (hu : X.A.units + 65 < cLine) : CallR X (.builtin "max") (rExt X.K fun n ns => ns.foldl max n) := by
  rintro pins s σ H vs us Q I r ⟨a, n, ns, rfl, hq, q⟩
  obtain ⟨u, rfl, rx⟩ := vals1 r
  cases rx
  have dp : PyData.depthAll ((n :: ns).map PyData.int) = 0 := PySem.W.depth_ints _
  rcases hq with hq | hq
  · obtain ⟨its, rv, pl, hz⟩ := I.list hq
    obtain ⟨as, rd⟩ := reads_ints (h := s.heap) rv
    refine max_list_data (I.ok.hd hc) pl.isList (x := .int n) (xs := ns.map PyData.int) (by simpa using rd) (alikeAll_ints (n :: ns)) (by rw [show (PyData.int n :: ns.map PyData.int) = (n :: ns).map PyData.int from rfl, dp]; omega) fun i v h' tk bs hi rd' hk => ?_
    rw [maxD_ints] at rd'
    cases rd'
    exact ⟨.int _, H, I.kept hk, ⟨_, rfl⟩, q⟩
  · obtain ⟨its, rv, pl, hz⟩ := I.tuple hq
    obtain ⟨as, rd⟩ := reads_ints (h := s.heap) rv
    refine max_tuple_data (I.ok.hd hc) pl (x := .int n) (xs := ns.map PyData.int) (by simpa using rd) (alikeAll_ints (n :: ns)) (by rw [show (PyData.int n :: ns.map PyData.int) = (n :: ns).map PyData.int from rfl, dp]; omega) fun i v h' tk bs hi rd' hk => ?_
    rw [maxD_ints] at rd'
    cases rd'
    exact ⟨.int _, H, I.kept hk, ⟨_, rfl⟩, q⟩
theorem call_min1 (hc : X.calm = true) (hu : X.A.units + 65 < cLine) : CallR X (.builtin "min") (rExt X.K fun n ns => ns.foldl min n) := by
  rintro pins s σ H vs us Q I r ⟨a, n, ns, rfl, hq, q⟩
  obtain ⟨u, rfl, rx⟩ := vals1 r
  cases rx
  have dp : PyData.depthAll ((n :: ns).map PyData.int) = 0 := PySem.W.depth_ints _
  rcases hq with hq | hq
  · obtain ⟨its, rv, pl, hz⟩ := I.list hq
    obtain ⟨as, rd⟩ := reads_ints (h := s.heap) rv
    refine min_list_data (I.ok.hd hc) pl.isList (x := .int n) (xs := ns.map PyData.int) (by simpa using rd) (alikeAll_ints (n :: ns)) (by rw [show (PyData.int n :: ns.map PyData.int) = (n :: ns).map PyData.int from rfl, dp]; omega) fun i v h' tk bs hi rd' hk => ?_
    rw [minD_ints] at rd'
    cases rd'
    exact ⟨.int _, H, I.kept hk, ⟨_, rfl⟩, q⟩
  · obtain ⟨its, rv, pl, hz⟩ := I.tuple hq
    obtain ⟨as, rd⟩ := reads_ints (h := s.heap) rv
    refine min_tuple_data (I.ok.hd hc) pl (x := .int n) (xs := ns.map PyData.int) (by simpa using rd) (alikeAll_ints (n :: ns)) (by rw [show (PyData.int n :: ns.map PyData.int) = (n :: ns).map PyData.int from rfl, dp]; omega) fun i v h' tk bs hi rd' hk => ?_
    rw [minD_ints] at rd'
    cases rd'
    exact ⟨.int _, H, I.kept hk, ⟨_, rfl⟩, q⟩
end
section
variable {K : PySem.W.Frag} {F H : Hp}
theorem intsOf_view {d : D} {v : V} {ns : List Int} (s : Sub F H) (a : View K F H d v) (h : intsOf d = some ns) : ∃ p, v = .ref p ∧ (SqL K H p (ns.map V.int) ∨ SqT K H p (ns.map V.int)) := by
  cases d with
  | lst xs => obtain ⟨p, vs, rfl, q, r⟩ := a; have := ints_eq (show intsD xs = some ns from h); subst this; rw [r.ints] at q; exact ⟨p, rfl, .inl (SqL.of q)⟩
  | scr xs => obtain ⟨p, vs, rfl, q, r⟩ := a; have := ints_eq (show intsD xs = some ns from h); subst this; rw [r.ints] at q; exact ⟨p, rfl, .inl (s.sqL q)⟩
  | tup xs => obtain ⟨p, vs, rfl, q, r⟩ := a; have := ints_eq (show intsD xs = some ns from h); subst this; rw [r.ints] at q; exact ⟨p, rfl, .inr (s.sqT q)⟩
  | _ => cases h
theorem on_max1 : OpN K (rExt K fun n ns => ns.foldl max n) fMax1 := by
  intro F H ds vs z Q s v h q
  unfold fMax1 at h
  split at h
  · rename_i d
    split at h
    · rename_i n ns e
      cases h
      obtain ⟨u, t, rfl, a, rfl⟩ := v
      obtain ⟨p, rfl, hp⟩ := intsOf_view s a e
      exact ⟨p, n, ns, rfl, hp, q _ H F (Ext.refl s) rfl⟩
    · cases h
  · cases h
theorem on_min1 : OpN K (rExt K fun n ns => ns.foldl min n) fMin1 := by
  intro F H ds vs z Q s v h q
  unfold fMin1 at h
  split at h
  · rename_i d
    split at h
    · rename_i n ns e
      cases h
      obtain ⟨u, t, rfl, a, rfl⟩ := v
      obtain ⟨p, rfl, hp⟩ := intsOf_view s a e
      exact ⟨p, n, ns, rfl, hp, q _ H F (Ext.refl s) rfl⟩
    · cases h
  · cases h
end
/-! ### pop, insert -/
def mPop : D → List D → Option (D × D)
  | .lst xs, [] => match xs[xs.length - 1]? with
    | some d => some (d, .lst xs.dropLast)
    | none => none
  | _, _ => none
def mInsert : D → List D → Option (D × D)
  | .lst xs, [.int i, d] => if xs.length < sizeLine ∧ 0 ≤ i ∧ i < 2 ^ 63 then some (.non, .lst (xs.take i.toNat ++ [d] ++ xs.drop i.toNat)) else none
  | _, _ => none
section
variable {K : PySem.W.Frag}
theorem m_pop : MtD K "list" rPop mPop := by
  intro F H a d ds vs ret d' Q s fa c r h q
  unfold mPop at h
  split at h
  · rename_i xs
    cases e : xs[xs.length - 1]? with
    | none => rw [e] at h; cases h
    | some y =>
      rw [e] at h
      cases h
      obtain ⟨ws, hw, rw'⟩ := c
      cases r
      obtain ⟨v, hv, rv⟩ := rw'.get e
      refine ⟨a, ws, v, rfl, rfl, hw, by rw [rw'.length]; exact hv, ?_⟩
      refine q v _ rv ⟨_, upd_same, ?_⟩
      rw [List.dropLast_eq_take, List.dropLast_eq_take, rw'.length]
      exact rw'.take _
  · cases h
theorem m_insert : MtD K "list" (fun x vs H Q => ∃ (l : Addr) (xs : List V) (i : Int) (y : V), x = .ref l ∧ vs = [.int i, y] ∧ H l = some (.lst xs) ∧ xs.length < sizeLine ∧ 0 ≤ i ∧ i < 2 ^ 63 ∧ Q .non (upd H l (.lst (xs.take i.toNat ++ [y] ++ xs.drop i.toNat)))) mInsert := by
  intro F H a d ds vs ret d' Q s fa c r h q
  unfold mInsert at h
  split at h
  · rename_i xs i d0
    split at h
    · rename_i hl
      cases h
      obtain ⟨ws, hw, rw'⟩ := c
      obtain ⟨v0, t0, rfl, rfl, v, t, rfl, rv, rfl⟩ := r
      refine ⟨a, ws, i, v, rfl, rfl, hw, by rw [rw'.length]; exact hl.1, hl.2.1, hl.2.2, ?_⟩
      exact q .non _ rfl ⟨_, upd_same, ((rw'.take _).append (.cons rv .nil)).append (rw'.drop _)⟩
    · cases h
  · cases h
end
section
variable {X : Cx} {W : WX} {e f o : Expr} {gs : Av} {cpos apos : Pos} {i : Nat}
theorem ed_pop (ho : PE X o (tE X.K W (dVar i))) (hbase : attributeBase o "pop" X.env (eval o X.env) = eval o X.env := by rfl) (hline : (apos.endLine == cpos.line) = true := by rfl) :
    PE X (.Call (.Attribute o "pop" apos) [] [] cpos) (tE X.K W (dMut "list" i mPop fun ρ => .ok [] ρ)) := ed_mut0 PySem.F.plainAttrs_list PySem.F.slot_list_pop PySem.F.type_list_pop mt_pop m_pop ho (pe_bm0 PySem.F.plainAttrs_list PySem.F.slot_list_pop PySem.F.type_list_pop mt_pop ho hbase hline)
theorem ed_insert (ho : PE X o (tE X.K W (dVar i))) (ha : PA X [e, f] (tA X.K W gs)) (hbase : attributeBase o "insert" X.env (eval o X.env) = eval o X.env := by rfl) (hfew : ((backTo cpos (starEach [e, f] X.env)).all (fun x => !x.1) && (backToKw cpos (keywordEach [] X.env)).all (fun x => x.1.isSome)
      && decide ([e, f].length + ([] : List Keyword).length + (if ([] : List Keyword).isEmpty then 0 else 1) < 30)) = true := by rfl) (hline : (apos.endLine == cpos.line) = true := by rfl) (hs : starEach [e, f] X.env = (false, eval e X.env) :: starEach [f] X.env := by rfl) (hplain : (backTo cpos (starEach [f] X.env)).any (·.1) = false := by rfl) :
    PE X (.Call (.Attribute o "insert" apos) [e, f] [] cpos) (tE X.K W (dMut "list" i mInsert gs)) := ed_mut PySem.F.plainAttrs_list PySem.F.slot_list_insert PySem.F.type_list_insert mt_insert m_insert ho ha hbase hfew hline hs hplain
end
/-! ### is, is not of truths -/
def opIsB : D → D → Option RV
  | .bl a, .bl b => some (.val (.bl (decide (a = b))))
  | _, _ => none
def opNotB : D → D → Option RV
  | .bl a, .bl b => some (.val (.bl (!decide (a = b))))
  | _, _ => none
section
variable {K : PySem.W.Frag}
theorem o_isB : Op2 K rIsB opIsB := by
  intro F H d e x y z Q s a b h q
  unfold opIsB at h
  split at h
  · cases h; cases a; cases b; exact ⟨_, _, rfl, rfl, q _ H F (Ext.refl s) rfl⟩
  · cases h
theorem o_notB : Op2 K rNotB opNotB := by
  intro F H d e x y z Q s a b h q
  unfold opNotB at h
  split at h
  · cases h; cases a; cases b; exact ⟨_, _, rfl, rfl, q _ H F (Ext.refl s) rfl⟩
  · cases h
theorem bf_isB : BoolF opIsB := fun x y z h => by
  unfold opIsB at h
  split at h
  · cases h; exact ⟨_, rfl⟩
  · cases h
theorem bf_notB : BoolF opNotB := fun x y z h => by
  unfold opNotB at h
  split at h
  · cases h; exact ⟨_, rfl⟩
  · cases h
end
section
variable {X : Cx} {W : WX} {a b : Expr} {ga gb : Ev}
theorem cd_isB (ha : PE X a (tE X.K W ga)) (hb : PE X b (tE X.K W gb)) : PC X .Is a b (tE X.K W (dOp2 opIsB ga gb)) := cd_op op_isBl o_isB ha hb
theorem cd_notB (ha : PE X a (tE X.K W ga)) (hb : PE X b (tE X.K W gb)) : PC X .IsNot a b (tE X.K W (dOp2 opNotB ga gb)) := cd_op op_notBl o_notB ha hb
end
end DL

/-! a if c else b as a test. -/
namespace DL
open PySem PySem.Spec L2
variable [HasW]
section
variable {X : Cx} {W : WX} {a b c : Expr} {ga gb gc : Ev} {ta tb tc : TT} {pos : Pos}
theorem pt_ifx (hc : PT X c tc) (ha : PT X a ta) (hb : PT X b tb) : PT X (.IfExp c a b pos) (fun σ H Q => tc σ H fun d H1 => if d = true then ta σ H1 Q else tb σ H1 Q) := by
  refine ⟨fun pins s σ H Q I h => ?_⟩
  rw [PySem.isTrue]
  refine wpAny_bind (thn (hc.run pins s σ H _ I h) fun d s1 ⟨H1, I1, q1⟩ => ?_)
  cases d with
  | true => exact ha.run pins s1 σ H1 Q I1 q1
  | false => exact hb.run pins s1 σ H1 Q I1 q1
theorem td_ifx (hc : PT X c (tT X.K W gc)) (ha : PT X a (tT X.K W ga)) (hb : PT X b (tT X.K W gb)) : PT X (.IfExp c a b pos) (tT X.K W (dIf gc ga gb)) := by
  refine (pt_ifx hc ha hb).weak fun σ H Q ⟨α, ρ, F, G, f, h⟩ => ⟨α, ρ, F, G, f, BC.bindB (fun r ρ1 hr => ?_) (fun b ρ1 H1 F1 g1 f1 h1 => ?_) h⟩
  · cases r with
    | val d =>
      cases d with
      | bl b => exact absurd rfl (hr b)
      | _ => rfl
    | _ => rfl
  · cases b with
    | true => exact iteT ⟨α, ρ1, F1, G, f1, h1⟩
    | false => exact iteF ⟨α, ρ1, F1, G, f1, h1⟩
end
end DL

/-! a, b = x, y: what is new stays one's own. -/
namespace DL
open PySem PySem.Spec L2
inductive HR where | ok (rs : List RV) (ρ : Env) | no
def HR.add (r : RV) : HR → HR
  | .ok rs ρ => .ok (r :: rs) ρ
  | .no => .no
def dHold : List Ev → Env → HR
  | [], ρ => .ok [] ρ
  | g :: gs, ρ => match g ρ with
    | .ok r ρ1 => match r with
      | .loc i => match frz (.loc i) ρ1 with
        | some (d, ρ2) => (dHold gs ρ2).add (.val d)
        | none => .no
      | .val d => (dHold gs ρ1).add (.val d)
      | .new d => (dHold gs ρ1).add (.new d)
    | _ => .no
def setH (ρ : Env) (i : Nat) : RV → Option Env
  | .val d => setV ρ i (.val d)
  | .new d => setV ρ i (.own d)
  | .loc _ => none
def setHs : List Nat → List RV → Env → Option Env
  | [], [], ρ => some ρ
  | i :: is, r :: rs, ρ => match setH ρ i r with
    | some ρ1 => setHs is rs ρ1
    | none => none
  | _, _, _ => none
def dParH (is : List Nat) (gs : List Ev) : Sv := fun ρ => match dHold gs ρ with
  | .ok rs ρ1 => SR.of (setHs is rs ρ1)
  | .no => .no
variable [HasW]
def HeldOk (K : PySem.W.Frag) (F G H : Hp) (σ : L2.St) (ρ : Env) : List RV → List V → Prop
  | [], vs => vs = []
  | r :: rs, vs => ∃ v t, vs = v :: t ∧ RRep K F G H σ ρ r v ∧ (∀ i, r ≠ .loc i) ∧ (∀ d, r = .new d → ∀ (k : Nat) (d' : D), rs[k]? = some (.new d') → t[k]? ≠ some v) ∧ HeldOk K F G H σ ρ rs t
section
variable {K : PySem.W.Frag} {W : WX} {α : Nat → Addr} {ρ ρ' : Env} {σ : L2.St} {H F G H' F' : Hp} {a : Addr} {o : HO}
/-- what is held is ground -/
theorem Fits.pin (f : Fits K α ρ σ H F G) (h : H a = some o) (sp : ∀ (i : Nat) (s : Slot), ρ[i]? = some s → s.owns = true → σ[i]? ≠ some (some (V.ref a))) : Fits K α ρ σ H F (upd G a o) := by
  refine ⟨f.fh, fun b u e => ?_, f.len, fun i s q => ?_, f.sep⟩
  · by_cases q : b = a
    · subst q
      rw [upd_same] at e
      cases e
      exact h
    · rw [upd_ne q] at e
      exact f.gh _ _ e
  · obtain ⟨x, hx, so⟩ := f.slot i s q
    refine ⟨x, hx, ?_⟩
    cases s with
    | non => trivial
    | val d => exact so
    | own d =>
      obtain ⟨b, rfl, fb, gb, c⟩ := so
      have ne : b ≠ a := fun z => sp i _ q rfl (by rw [hx, z])
      exact ⟨b, rfl, fb, by rw [upd_ne ne]; exact gb, c⟩
    | bor d =>
      obtain ⟨rfl, fb, gb, c⟩ := so
      have ne : α i ≠ a := fun z => sp i _ q rfl (by rw [hx, z])
      exact ⟨rfl, fb, by rw [upd_ne ne]; exact gb, c⟩
theorem of_upd_none {b : Addr} (h : upd G a o b = none) : b ≠ a ∧ G b = none := by
  have ne : b ≠ a := fun z => by rw [z, upd_same] at h; cases h
  rw [upd_ne ne] at h
  exact ⟨ne, h⟩
theorem Fits.unpin (f : Fits K α ρ σ H F (upd G a o)) (g : G a = none) : Fits K α ρ σ H F G := by
  refine ⟨f.fh, fun b u e => f.gh _ _ (by rw [upd_ne (ne_of_none e g)]; exact e), f.len, fun i s q => ?_, f.sep⟩
  obtain ⟨x, hx, so⟩ := f.slot i s q
  refine ⟨x, hx, ?_⟩
  cases s with
  | non => trivial
  | val d => exact so
  | own d => obtain ⟨b, e, fb, gb, c⟩ := so; exact ⟨b, e, fb, (of_upd_none gb).2, c⟩
  | bor d => obtain ⟨e, fb, gb, c⟩ := so; exact ⟨e, fb, (of_upd_none gb).2, c⟩
theorem Grow.unpin (g : Grow (upd G a o) F F') : Grow G F F' := ⟨g.sub, fun b u e => (g.new b u e).imp id fun h => ⟨h.1, (of_upd_none h.2).2⟩⟩
theorem HeldOk.unpin : ∀ {rs : List RV} {vs : List V}, HeldOk K F (upd G a o) H σ ρ rs vs → HeldOk K F G H σ ρ rs vs
  | [], _, h => h
  | r :: rs, _, h => by
    obtain ⟨v, t, rfl, rr, nl, sp, hh⟩ := h
    refine ⟨v, t, rfl, ?_, nl, sp, HeldOk.unpin hh⟩
    cases r with
    | val d => exact rr
    | loc i => exact rr
    | new d => obtain ⟨b, e, fb, gb, c, s⟩ := rr; exact ⟨b, e, fb, (of_upd_none gb).2, c, s⟩
theorem HeldOk.apart : ∀ {rs : List RV} {vs : List V}, HeldOk K F (upd G a o) H σ ρ rs vs → ∀ (k : Nat) (d' : D), rs[k]? = some (.new d') → vs[k]? ≠ some (.ref a)
  | [], _, h, k, d', e => by simp at e
  | r :: rs, _, h, 0, d', e => by
    obtain ⟨v, t, rfl, rr, _⟩ := h
    simp at e
    subst e
    obtain ⟨b, rfl, fb, gb, _⟩ := rr
    intro z
    simp at z
    exact (of_upd_none gb).1 z
  | r :: rs, _, h, k + 1, d', e => by
    obtain ⟨v, t, rfl, _, _, _, hh⟩ := h
    have := HeldOk.apart hh k d' (by simpa using e)
    simpa using this
def tHold (K : PySem.W.Frag) (W : WX) : List Ev → L2.St → Hp → (List V → Hp → Prop) → Prop
  | [], _, H, T => T [] H
  | g :: gs, σ, H, T => tE K W g σ H fun v H1 => tHold K W gs σ H1 fun vs H2 => T (v :: vs) H2
theorem hold_all : ∀ {gs : List Ev} {ρ : Env} {H F G : Hp} {rs : List RV} {ρ' : Env} {T : List V → Hp → Prop}, Fits K α ρ σ H F G → dHold gs ρ = .ok rs ρ' →
    (∀ vs H' F', Grow G F F' → Fits K α ρ' σ H' F' G → HeldOk K F' G H' σ ρ' rs vs → T vs H') → tHold K W gs σ H T
  | [], ρ, H, F, G, rs, ρ', T, f, e, h => by
    cases e
    exact h [] H F (Grow.refl _ _) f rfl
  | g :: gs, ρ, H, F, G, rs, ρ', T, f, e, h => by
    refine ⟨α, ρ, F, G, f, ?_⟩
    unfold dHold at e
    cases e1 : g ρ with
    | no => rw [e1] at e; cases e
    | ex x ρ1 => rw [e1] at e; cases e
    | ok r ρ1 =>
      rw [e1] at e
      intro v H1 F1 g1 f1 r1
      have val : ∀ {d : D} {ρ2 : Env} {F2 : Hp}, Grow G F1 F2 → Fits K α ρ2 σ H1 F2 G → Rep K F2 d v → (dHold gs ρ2).add (.val d) = .ok rs ρ' → tHold K W gs σ H1 fun vs H2 => T (v :: vs) H2 := by
        intro d ρ2 F2 g2 f2 rd e2
        cases e3 : dHold gs ρ2 with
        | no => rw [e3] at e2; cases e2
        | ok rs' ρ3 =>
          rw [e3] at e2
          cases e2
          exact hold_all f2 e3 fun vs H' F' g3 f3 hh => h (v :: vs) H' F' ((g1.trans g2).trans g3) f3 ⟨v, vs, rfl, Rep.mono g3.sub _ _ rd, (fun i z => nomatch z), (fun d z => nomatch z), hh⟩
      cases r with
      | val d => exact val (Grow.refl _ _) f1 r1 e
      | loc i =>
        have e' : (match frz (.loc i) ρ1 with | some (d, ρ2) => (dHold gs ρ2).add (.val d) | none => .no) = HR.ok rs ρ' := e
        cases e2 : frz (.loc i) ρ1 with
        | none => rw [e2] at e'; cases e'
        | some w =>
          obtain ⟨d, ρ2⟩ := w
          rw [e2] at e'
          obtain ⟨F2, g2, f2, r2⟩ := f1.frz (r := .loc i) (v := v) r1 e2
          exact val g2 f2 r2 e'
      | new d =>
        obtain ⟨a, rfl, fa, ga, c, sp⟩ := r1
        obtain ⟨o, ho⟩ := c.there
        have e' : (dHold gs ρ1).add (.new d) = HR.ok rs ρ' := e
        cases e3 : dHold gs ρ1 with
        | no => rw [e3] at e'; cases e'
        | ok rs' ρ3 =>
          rw [e3] at e'
          cases e'
          refine hold_all (f1.pin ho sp) e3 fun vs H' F' g3 f3 hh => ?_
          have fa' : F' a = none := by
            cases z : F' a with
            | none => rfl
            | some u =>
              rcases g3.new a u z with w | ⟨_, w⟩
              · rw [fa] at w; cases w
              · rw [upd_same] at w; cases w
          have ha' : H' a = some o := f3.gh _ _ upd_same
          refine h (.ref a :: vs) H' F' (g1.trans g3.unpin) (f3.unpin ga) ⟨_, vs, rfl, ⟨a, rfl, fa', ga, c.mono g3.sub (fun u z => by rw [ho] at z; cases z; exact ha'), fun i s q ow z => ?_⟩, (fun i z => nomatch z), (fun d' _ => hh.apart), hh.unpin⟩
          obtain ⟨x, hx, so⟩ := f3.slot i s q
          rw [z] at hx
          cases hx
          cases s with
          | non => cases ow
          | val d => cases ow
          | own d => obtain ⟨b, eb, fb, gb, _⟩ := so; cases eb; rw [upd_same] at gb; cases gb
          | bor d =>
            obtain ⟨eb, fb, gb, _⟩ := so
            cases eb
            rw [upd_same] at gb
            cases gb
def setAll : L2.St → List Nat → List V → L2.St
  | σ, i :: is, v :: vs => setAll (σ.set i (some v)) is vs
  | σ, _, _ => σ
theorem HeldOk.shift {i : Nat} {s t : Slot} {v : V} (e : ρ[i]? = some t) : ∀ {rs : List RV} {vs : List V}, (s.owns = true → ∀ (k : Nat) (d' : D), rs[k]? = some (.new d') → vs[k]? ≠ some v) → HeldOk K F G H σ ρ rs vs → HeldOk K F G H (σ.set i (some v)) (ρ.set i s) rs vs
  | [], _, _, h => h
  | r :: rs, _, ap, h => by
    obtain ⟨u, l, rfl, rr, nl, sp, hh⟩ := h
    refine ⟨u, l, rfl, ?_, nl, sp, HeldOk.shift e (fun o k d' q => by simpa using ap o (k + 1) d' (by simpa using q)) hh⟩
    cases r with
    | val d => exact rr
    | loc i => exact absurd rfl (nl i)
    | new d =>
      obtain ⟨b, rfl, fb, gb, c, ss⟩ := rr
      refine ⟨b, rfl, fb, gb, c, fun j w q ow z => ?_⟩
      by_cases hj : i = j
      · subst hj
        have hi : i < ρ.length := (List.getElem?_eq_some_iff.mp e).1
        rw [List.getElem?_set_self hi] at q
        cases q
        have hs : i < σ.length := by
          have := (List.getElem?_eq_some_iff.mp z).1
          rwa [List.length_set] at this
        rw [List.getElem?_set_self hs] at z
        cases z
        exact ap ow 0 d rfl rfl
      · rw [List.getElem?_set_ne hj] at q z
        exact ss j w q ow z
theorem set_all : ∀ {is : List Nat} {rs : List RV} {vs : List V} {ρ ρ' : Env} {σ : L2.St}, Fits K α ρ σ H F G → HeldOk K F G H σ ρ rs vs → setHs is rs ρ = some ρ' → Fits K α ρ' (setAll σ is vs) H F G
  | [], [], vs, ρ, ρ', σ, f, h, e => by cases e; cases h; exact f
  | [], _ :: _, _, _, _, _, _, _, e => by cases e
  | _ :: _, [], _, _, _, _, _, _, e => by cases e
  | i :: is, r :: rs, _, ρ, ρ', σ, f, h, e => by
    obtain ⟨v, t, rfl, rr, nl, sp, hh⟩ := h
    have e' : (match setH ρ i r with | some ρ1 => setHs is rs ρ1 | none => none) = some ρ' := e
    cases e1 : setH ρ i r with
    | none => rw [e1] at e'; cases e'
    | some ρ1 =>
      rw [e1] at e'
      show Fits K α ρ' (setAll (σ.set i (some v)) is t) H F G
      cases r with
      | loc i => exact absurd rfl (nl i)
      | val d =>
        obtain ⟨u, e2, rfl⟩ := setV_there (show setV ρ i (.val d) = some ρ1 from e1)
        exact set_all (f.setSlot (s := .val d) (v := v) e2 ⟨v, rfl, rr⟩ fun o => by cases o) (hh.shift e2 (fun o => by cases o)) e'
      | new d =>
        obtain ⟨u, e2, rfl⟩ := setV_there (show setV ρ i (.own d) = some ρ1 from e1)
        have rr' := rr
        obtain ⟨a, rfl, fa, ga, c, ss⟩ := rr
        exact set_all (f.setSlot (s := .own d) (v := .ref a) e2 ⟨a, rfl, fa, ga, c⟩ fun _ j u b q _ q1 q2 => by cases q; exact ss j u q1 q2) (hh.shift e2 fun _ => sp d rfl) e'
end
theorem setHs_len : ∀ {is : List Nat} {rs : List RV} {ρ ρ' : Env}, setHs is rs ρ = some ρ' → rs.length = is.length
  | [], [], _, _, _ => rfl
  | [], _ :: _, _, _, q => by cases q
  | _ :: _, [], _, _, q => by cases q
  | i :: is, r :: rs, ρ, ρ', q => by
    have q' : (match setH ρ i r with | some ρ1 => setHs is rs ρ1 | none => none) = some ρ' := q
    cases z : setH ρ i r with
    | none => rw [z] at q'; cases q'
    | some ρ3 =>
      rw [z] at q'
      rw [List.length_cons, List.length_cons, setHs_len q']
theorem len2 {α : Type} {l : List α} (h : l.length = 2) : ∃ a b, l = [a, b] := by
  cases l with
  | nil => cases h
  | cons a l => cases l with
    | nil => cases h
    | cons b l => cases l with
      | nil => exact ⟨a, b, rfl⟩
      | cons c l => cases h
theorem len3 {α : Type} {l : List α} (h : l.length = 3) : ∃ a b c, l = [a, b, c] := by
  cases l with
  | nil => cases h
  | cons a l =>
    obtain ⟨b, c, rfl⟩ := len2 (l := l) (by simpa using h)
    exact ⟨a, b, c, rfl⟩
section
variable {X : Cx} {W : WX} {a b c : Expr} {ga gb gc : Ev} {px py pz pt pos : Pos} {kt k2 pt2} {i j l : Nat} {x y z : Str}
theorem sd_par2 (hc : X.calm = true) (hN : X.N.Nodup) (ha : PE X a (tE X.K W ga)) (hb : PE X b (tE X.K W gb)) (hij : i ≠ j)
    (hi : X.N[i]? = some x := by rfl) (hj : X.N[j]? = some y := by rfl)
    (hx : X.env.scope.names.lookup x = some .local := by rfl) (hy : X.env.scope.names.lookup y = some .local := by rfl) (h1 : starEach [a, b] X.env = (false, eval a X.env) :: starEach [b] X.env := by rfl) (h2 : starEach [b] X.env = (false, eval b X.env) :: starEach [] X.env := by rfl)
    (hw : swappedStores [.Tuple [.Name x px, .Name y py] kt pt] (.Tuple [a, b] k2 pt2) X.env = pure (some [x, y]) := by rfl)
    (hs : swapsWithSole [.Tuple [.Name x px, .Name y py] kt pt] (.Tuple [a, b] k2 pt2) pos.line X.env = pure false := by rfl) :
    PS X (.Assign [.Tuple [.Name x px, .Name y py] kt pt] (.Tuple [a, b] k2 pt2) pos) (tS X.K W (dParH [i, j] [ga, gb])) := by
  refine (ps_par hc hN hi hj hij hx hy (pa_cons ha (pa_cons hb pa_nil h2) h1) hw hs).weak fun D σ H ⟨α, ρ, F, G, f, h⟩ => ?_
  unfold dParH at h
  cases e : dHold [ga, gb] ρ with
  | no => rw [e] at h; exact h.elim
  | ok rs ρ1 =>
    rw [e] at h
    obtain ⟨ρ2, e2, h2⟩ := sc_of h
    refine hold_all (K := X.K) (W := W) (α := α) (σ := σ) (gs := [ga, gb]) (T := fun vs H2 => ∃ v w, vs = [v, w] ∧ D.nx ((σ.set i (some v)).set j (some w)) H2) f e fun vs H' F' g' f' hh => ?_
    obtain ⟨r1, r2, rfl⟩ := len2 (setHs_len e2)
    have ff := set_all f' hh e2
    obtain ⟨v, t, rfl, _, _, _, v2, t2, rfl, _, _, _, rfl⟩ := hh
    exact ⟨v, v2, rfl, h2 _ H' F' g' ff⟩
theorem sd_par3 (hc : X.calm = true) (hN : X.N.Nodup) (ha : PE X a (tE X.K W ga)) (hb : PE X b (tE X.K W gb)) (hcc : PE X c (tE X.K W gc)) (hij : i ≠ j) (hil : i ≠ l) (hjl : j ≠ l)
    (hi : X.N[i]? = some x := by rfl) (hj : X.N[j]? = some y := by rfl) (hl : X.N[l]? = some z := by rfl)
    (hx : X.env.scope.names.lookup x = some .local := by rfl) (hy : X.env.scope.names.lookup y = some .local := by rfl) (hz : X.env.scope.names.lookup z = some .local := by rfl)
    (h1 : starEach [a, b, c] X.env = (false, eval a X.env) :: starEach [b, c] X.env := by rfl) (h2 : starEach [b, c] X.env = (false, eval b X.env) :: starEach [c] X.env := by rfl) (h3 : starEach [c] X.env = (false, eval c X.env) :: starEach [] X.env := by rfl)
    (hw : swappedStores [.Tuple [.Name x px, .Name y py, .Name z pz] kt pt] (.Tuple [a, b, c] k2 pt2) X.env = pure (some [x, y, z]) := by rfl)
    (hs : swapsWithSole [.Tuple [.Name x px, .Name y py, .Name z pz] kt pt] (.Tuple [a, b, c] k2 pt2) pos.line X.env = pure false := by rfl) :
    PS X (.Assign [.Tuple [.Name x px, .Name y py, .Name z pz] kt pt] (.Tuple [a, b, c] k2 pt2) pos) (tS X.K W (dParH [i, j, l] [ga, gb, gc])) := by
  refine (ps_par3 hc hN hi hj hl hij hil hjl hx hy hz (pa_cons ha (pa_cons hb (pa_cons hcc pa_nil h3) h2) h1) hw hs).weak fun D σ H ⟨α, ρ, F, G, f, h⟩ => ?_
  unfold dParH at h
  cases e : dHold [ga, gb, gc] ρ with
  | no => rw [e] at h; exact h.elim
  | ok rs ρ1 =>
    rw [e] at h
    obtain ⟨ρ2, e2, h2⟩ := sc_of h
    refine hold_all (K := X.K) (W := W) (α := α) (σ := σ) (gs := [ga, gb, gc]) (T := fun vs H2 => ∃ u v w, vs = [u, v, w] ∧ D.nx (((σ.set i (some u)).set j (some v)).set l (some w)) H2) f e fun vs H' F' g' f' hh => ?_
    obtain ⟨r1, r2, r3, rfl⟩ := len3 (setHs_len e2)
    have ff := set_all f' hh e2
    obtain ⟨v, t, rfl, _, _, _, v2, t2, rfl, _, _, _, v3, t3, rfl, _, _, _, rfl⟩ := hh
    exact ⟨v, v2, v3, rfl, h2 _ H' F' g' ff⟩
/-- the same by a tuple that is made and read again (a name that is a cell) -/
theorem sd_cell2 (hc : X.calm = true) (hN : X.N.Nodup) (ha : PE X a (tE X.K W ga)) (hb : PE X b (tE X.K W gb))
    (hi : X.N[i]? = some x := by rfl) (hj : X.N[j]? = some y := by rfl)
    (hx : Loc X.env.scope x := by first | exact .inl rfl | exact .inr rfl) (hy : Loc X.env.scope y := by first | exact .inl rfl | exact .inr rfl)
    (fx : X.fn x = true ∨ X.env.scope.names.lookup x = some .local := by first | exact .inl rfl | exact .inr rfl | assumption) (fy : X.fn y = true ∨ X.env.scope.names.lookup y = some .local := by first | exact .inl rfl | exact .inr rfl | assumption)
    (h1 : starEach [a, b] X.env = (false, eval a X.env) :: starEach [b] X.env := by rfl) (h2 : starEach [b] X.env = (false, eval b X.env) :: starEach [] X.env := by rfl)
    (hw : swappedStores [.Tuple [.Name x px, .Name y py] kt pt] (.Tuple [a, b] k2 pt2) X.env = pure none := by rfl)
    (hs : swapsWithSole [.Tuple [.Name x px, .Name y py] kt pt] (.Tuple [a, b] k2 pt2) pos.line X.env = pure false := by rfl)
    (g1 : (assignEach [.Tuple [.Name x px, .Name y py] kt pt] X.env).map (·.2) = [assign (.Tuple [.Name x px, .Name y py] kt pt) X.env] := by rfl)
    (hn : (assignEach [.Name x px, .Name y py] X.env).length = 2 := by rfl) (hst : (assignEach [.Name x px, .Name y py] X.env).findIdx? (·.1) = none := by rfl) :
    PS X (.Assign [.Tuple [.Name x px, .Name y py] kt pt] (.Tuple [a, b] k2 pt2) pos) (tS X.K W (dParH [i, j] [ga, gb])) := by
  refine (ps_asg (pe_tup (pa_cons ha (pa_cons hb pa_nil h2) h1)) (pg_tup hc (pgs_cons (pg_name hN hi hx fx) (pgs_cons (pg_name hN hj hy fy) pgs_nil)) hn hst) hs hw g1).weak fun D σ H ⟨α, ρ, F, G, f, h⟩ => ?_
  unfold dParH at h
  cases e : dHold [ga, gb] ρ with
  | no => rw [e] at h; exact h.elim
  | ok rs ρ1 =>
    rw [e] at h
    obtain ⟨ρ2, e2, h2⟩ := sc_of h
    refine hold_all (K := X.K) (W := W) (α := α) (σ := σ) (gs := [ga, gb]) (T := fun vs H1 => vs.length ≤ sizeLine ∧ ∀ p, H1 p = none → (gTup X.K 2 (gCons (gName i) (gCons (gName j) gNil))) (.ref p) σ (upd H1 p (.tup vs)) D.nx) f e fun vs H' F' g' f' hh => ?_
    obtain ⟨r1, r2, rfl⟩ := len2 (setHs_len e2)
    have ff := set_all f' hh e2
    obtain ⟨v, t, rfl, _, _, _, v2, t2, rfl, _, _, _, rfl⟩ := hh
    refine ⟨by rw [sizeLine_eq]; show 2 ≤ _; decide, fun p hp => ⟨p, [v, v2], rfl, SqT.of upd_same, rfl, v, [v2], rfl, v2, [], rfl, rfl, ?_⟩⟩
    exact h2 _ _ F' g' (ff.ext (Ext.allocO ff.fh hp))
theorem sd_cell3 (hc : X.calm = true) (hN : X.N.Nodup) (ha : PE X a (tE X.K W ga)) (hb : PE X b (tE X.K W gb)) (hcc : PE X c (tE X.K W gc))
    (hi : X.N[i]? = some x := by rfl) (hj : X.N[j]? = some y := by rfl) (hl : X.N[l]? = some z := by rfl)
    (hx : Loc X.env.scope x := by first | exact .inl rfl | exact .inr rfl) (hy : Loc X.env.scope y := by first | exact .inl rfl | exact .inr rfl) (hz : Loc X.env.scope z := by first | exact .inl rfl | exact .inr rfl)
    (fx : X.fn x = true ∨ X.env.scope.names.lookup x = some .local := by first | exact .inl rfl | exact .inr rfl | assumption) (fy : X.fn y = true ∨ X.env.scope.names.lookup y = some .local := by first | exact .inl rfl | exact .inr rfl | assumption) (fz : X.fn z = true ∨ X.env.scope.names.lookup z = some .local := by first | exact .inl rfl | exact .inr rfl | assumption)
    (h1 : starEach [a, b, c] X.env = (false, eval a X.env) :: starEach [b, c] X.env := by rfl) (h2 : starEach [b, c] X.env = (false, eval b X.env) :: starEach [c] X.env := by rfl) (h3 : starEach [c] X.env = (false, eval c X.env) :: starEach [] X.env := by rfl)
    (hw : swappedStores [.Tuple [.Name x px, .Name y py, .Name z pz] kt pt] (.Tuple [a, b, c] k2 pt2) X.env = pure none := by rfl)
    (hs : swapsWithSole [.Tuple [.Name x px, .Name y py, .Name z pz] kt pt] (.Tuple [a, b, c] k2 pt2) pos.line X.env = pure false := by rfl)
    (g1 : (assignEach [.Tuple [.Name x px, .Name y py, .Name z pz] kt pt] X.env).map (·.2) = [assign (.Tuple [.Name x px, .Name y py, .Name z pz] kt pt) X.env] := by rfl)
    (hn : (assignEach [.Name x px, .Name y py, .Name z pz] X.env).length = 3 := by rfl) (hst : (assignEach [.Name x px, .Name y py, .Name z pz] X.env).findIdx? (·.1) = none := by rfl) :
    PS X (.Assign [.Tuple [.Name x px, .Name y py, .Name z pz] kt pt] (.Tuple [a, b, c] k2 pt2) pos) (tS X.K W (dParH [i, j, l] [ga, gb, gc])) := by
  refine (ps_asg (pe_tup (pa_cons ha (pa_cons hb (pa_cons hcc pa_nil h3) h2) h1)) (pg_tup hc (pgs_cons (pg_name hN hi hx fx) (pgs_cons (pg_name hN hj hy fy) (pgs_cons (pg_name hN hl hz fz) pgs_nil))) hn hst) hs hw g1).weak fun D σ H ⟨α, ρ, F, G, f, h⟩ => ?_
  unfold dParH at h
  cases e : dHold [ga, gb, gc] ρ with
  | no => rw [e] at h; exact h.elim
  | ok rs ρ1 =>
    rw [e] at h
    obtain ⟨ρ2, e2, h2⟩ := sc_of h
    refine hold_all (K := X.K) (W := W) (α := α) (σ := σ) (gs := [ga, gb, gc]) (T := fun vs H1 => vs.length ≤ sizeLine ∧ ∀ p, H1 p = none → (gTup X.K 3 (gCons (gName i) (gCons (gName j) (gCons (gName l) gNil)))) (.ref p) σ (upd H1 p (.tup vs)) D.nx) f e fun vs H' F' g' f' hh => ?_
    obtain ⟨r1, r2, r3, rfl⟩ := len3 (setHs_len e2)
    have ff := set_all f' hh e2
    obtain ⟨v, t, rfl, _, _, _, v2, t2, rfl, _, _, _, v3, t3, rfl, _, _, _, rfl⟩ := hh
    refine ⟨by rw [sizeLine_eq]; show 3 ≤ _; decide, fun p hp => ⟨p, [v, v2, v3], rfl, SqT.of upd_same, rfl, v, [v2, v3], rfl, v2, [v3], rfl, v3, [], rfl, rfl, ?_⟩⟩
    exact h2 _ _ F' g' (ff.ext (Ext.allocO ff.fh hp))
end
end DL

/-! what is computed, by simp. -/
namespace DL
open PySem PySem.Spec L2
section
variable {ρ : Env} {g g1 g2 gc ga gb : Ev} {s1 s2 gb' : Sv} {gs : Av} {d : D} {i : Nat} {r : RV} {x : Exn} {b : Bool} {k : RV → Env → ER} {ks : RV → Env → SR}
/-! results -/
@[simp] theorem er_bind_ok : (ER.ok r ρ).bind k = k r ρ := rfl
@[simp] theorem er_bind_ex : (ER.ex x ρ).bind k = .ex x ρ := rfl
@[simp] theorem er_bind_no : ER.no.bind k = .no := rfl
@[simp] theorem er_st_ok : (ER.ok r ρ).st ks = ks r ρ := rfl
@[simp] theorem er_st_ex : (ER.ex x ρ).st ks = .ex x ρ := rfl
@[simp] theorem er_st_no : ER.no.st ks = .no := rfl
@[simp] theorem er_settle_val : (ER.ok (.val d) ρ).settle = .ok (.val d) ρ := rfl
@[simp] theorem er_settle_new : (ER.ok (.new d) ρ).settle = .ok (.val d) ρ := rfl
@[simp] theorem er_settle_loc : (ER.ok (.loc i) ρ).settle = .ok (.loc i) ρ := rfl
@[simp] theorem er_settle_ex : (ER.ex x ρ).settle = .ex x ρ := rfl
@[simp] theorem er_settle_no : ER.no.settle = .no := rfl
@[simp] theorem er_of_some : ER.of (some r) ρ = .ok r ρ := rfl
@[simp] theorem er_of_none : ER.of none ρ = .no := rfl
@[simp] theorem sr_of_some {ρ' : Env} : SR.of (some ρ') = .nx ρ' := rfl
@[simp] theorem sr_of_none : SR.of none = .no := rfl
@[simp] theorem sr_bind_nx {k : Env → SR} : (SR.nx ρ).bind k = k ρ := rfl
@[simp] theorem sr_bind_rt {k : Env → SR} : (SR.rt r ρ).bind k = .rt r ρ := rfl
@[simp] theorem sr_bind_bk {k : Env → SR} : (SR.bk ρ).bind k = .bk ρ := rfl
@[simp] theorem sr_bind_ct {k : Env → SR} : (SR.ct ρ).bind k = .ct ρ := rfl
@[simp] theorem sr_bind_ex {k : Env → SR} : (SR.ex x ρ).bind k = .ex x ρ := rfl
@[simp] theorem sr_bind_no {k : Env → SR} : SR.no.bind k = .no := rfl
@[simp] theorem er_bind_ite {c : Prop} [Decidable c] {a b : ER} : (if c then a else b).bind k = if c then a.bind k else b.bind k := by split <;> rfl
@[simp] theorem er_st_ite {c : Prop} [Decidable c] {a b : ER} : (if c then a else b).st ks = if c then a.st ks else b.st ks := by split <;> rfl
@[simp] theorem er_settle_ite {c : Prop} [Decidable c] {a b : ER} : (if c then a else b).settle = if c then a.settle else b.settle := by split <;> rfl
@[simp] theorem sr_bind_ite {c : Prop} [Decidable c] {a b : SR} {k : Env → SR} : (if c then a else b).bind k = if c then a.bind k else b.bind k := by split <;> rfl
/-! what is read -/
@[simp] theorem peek_val : peek (.val d) ρ = some d := rfl
theorem peek_loc : peek (.loc i) ρ = match ρ[i]? with
    | some (.val d) => some d
    | some (.own d) => some d
    | some (.bor d) => some d
    | _ => none := rfl
@[simp] theorem frz_val : frz (.val d) ρ = some (d, ρ) := rfl
theorem frz_loc : frz (.loc i) ρ = match ρ[i]? with
    | some (.val d) => some (d, ρ)
    | some (.own d) => some (d, ρ.set i (.val d))
    | _ => none := rfl
/-! expressions -/
@[simp] theorem dC_ap : dC d ρ = .ok (.val d) ρ := rfl
theorem dVar_ap : dVar i ρ = match ρ[i]? with
    | some (.val d) => .ok (.val d) ρ
    | some (.own _) => .ok (.loc i) ρ
    | some (.bor _) => .ok (.loc i) ρ
    | _ => .no := rfl
@[simp] theorem dOp2_ap {f : D → D → Option RV} : dOp2 f ga gb ρ = (ga ρ).settle.bind fun r1 ρ1 => (gb ρ1).settle.bind fun r2 ρ2 => match peek r1 ρ2, peek r2 ρ2 with
    | some x, some y => ER.of (f x y) ρ2
    | _, _ => .no := rfl
@[simp] theorem dOp1_ap {f : D → Option RV} : dOp1 f ga ρ = (ga ρ).settle.bind fun r1 ρ1 => match peek r1 ρ1 with
    | some x => ER.of (f x) ρ1
    | _ => .no := rfl
/-- a test's two ways -/
def ER.two (e : ER) (a b : Env → ER) : ER := e.bind fun r ρ1 => match r with
  | .val (.bl true) => a ρ1
  | .val (.bl false) => b ρ1
  | _ => .no
@[simp] theorem two_bl {a c : Env → ER} : (ER.ok (.val (.bl b)) ρ).two a c = if b = true then a ρ else c ρ := by cases b <;> rfl
@[simp] theorem two_ex {a c : Env → ER} : (ER.ex x ρ).two a c = .ex x ρ := rfl
@[simp] theorem two_no {a c : Env → ER} : ER.no.two a c = .no := rfl
@[simp] theorem two_ite {c : Prop} [Decidable c] {e f : ER} {a b : Env → ER} : (if c then e else f).two a b = if c then e.two a b else f.two a b := by split <;> rfl
@[simp] theorem dIf_ap : dIf gc ga gb ρ = (gc ρ).two ga gb := rfl
@[simp] theorem dAndT_ap : dAndT ga gb ρ = (ga ρ).two gb (fun ρ1 => .ok (.val (.bl false)) ρ1) := rfl
@[simp] theorem dOrT_ap : dOrT ga gb ρ = (ga ρ).two (fun ρ1 => .ok (.val (.bl true)) ρ1) gb := rfl
@[simp] theorem dNot_ap : dNot ga ρ = (ga ρ).two (fun ρ1 => .ok (.val (.bl false)) ρ1) (fun ρ1 => .ok (.val (.bl true)) ρ1) := by
  unfold dNot ER.two
  congr
  funext r ρ1
  cases r with
  | val d =>
    cases d with
    | bl b => cases b <;> rfl
    | _ => rfl
  | _ => rfl
/-- a value's truth, two ways -/
def ER.tru (e : ER) (a b : RV → Env → ER) : ER := e.settle.bind fun r ρ1 => match peek r ρ1 with
  | some d => match truth d with
    | some true => a r ρ1
    | some false => b r ρ1
    | none => .no
  | none => .no
@[simp] theorem tru_bl {a c : RV → Env → ER} : (ER.ok (.val (.bl b)) ρ).tru a c = if b = true then a (.val (.bl b)) ρ else c (.val (.bl b)) ρ := by cases b <;> rfl
@[simp] theorem tru_ex {a c : RV → Env → ER} : (ER.ex x ρ).tru a c = .ex x ρ := rfl
@[simp] theorem tru_no {a c : RV → Env → ER} : ER.no.tru a c = .no := rfl
@[simp] theorem tru_ite {c : Prop} [Decidable c] {e f : ER} {a b : RV → Env → ER} : (if c then e else f).tru a b = if c then e.tru a b else f.tru a b := by split <;> rfl
theorem tru_val {a c : RV → Env → ER} : (ER.ok (.val d) ρ).tru a c = match truth d with
  | some true => a (.val d) ρ
  | some false => c (.val d) ρ
  | none => .no := rfl
theorem tru_new {a c : RV → Env → ER} : (ER.ok (.new d) ρ).tru a c = match truth d with
  | some true => a (.val d) ρ
  | some false => c (.val d) ρ
  | none => .no := rfl
@[simp] theorem dAndV_ap : dAndV ga gb ρ = (ga ρ).tru (fun _ ρ1 => gb ρ1) (fun r ρ1 => .ok r ρ1) := by
  unfold dAndV ER.tru
  congr
@[simp] theorem dOrV_ap : dOrV ga gb ρ = (ga ρ).tru (fun r ρ1 => .ok r ρ1) (fun _ ρ1 => gb ρ1) := by
  unfold dOrV ER.tru
  congr
@[simp] theorem dNotV_ap : dNotV ga ρ = (ga ρ).tru (fun _ ρ1 => .ok (.val (.bl false)) ρ1) (fun _ ρ1 => .ok (.val (.bl true)) ρ1) := by
  unfold dNotV ER.tru
  congr
  funext r ρ1
  cases peek r ρ1 with
  | none => rfl
  | some d =>
    dsimp only
    cases truth d with
    | none => rfl
    | some b => cases b <;> rfl
@[simp] theorem dTru_ap : dTru ga ρ = (ga ρ).tru (fun _ ρ1 => .ok (.val (.bl true)) ρ1) (fun _ ρ1 => .ok (.val (.bl false)) ρ1) := by
  unfold dTru ER.tru
  congr
  funext r ρ1
  cases peek r ρ1 with
  | none => rfl
  | some d =>
    dsimp only
    cases truth d with
    | none => rfl
    | some b => cases b <;> rfl
@[simp] theorem dBool_ap : dBool ga ρ = (ga ρ).two (fun ρ1 => .ok (.val (.bl true)) ρ1) (fun ρ1 => .ok (.val (.bl false)) ρ1) := by
  unfold dBool ER.two
  congr
  funext r ρ1
  cases r with
  | val d =>
    cases d with
    | bl b => cases b <;> rfl
    | _ => rfl
  | _ => rfl
@[simp] theorem dChain_ap {f f' : D → D → Option RV} : dChain f f' ga gb gc ρ = (ga ρ).settle.bind fun r1 ρ1 => (gb ρ1).settle.bind fun r2 ρ2 => match peek r1 ρ2, peek r2 ρ2 with
  | some x, some y => (ER.of (f x y) ρ2).two (fun ρ2 => (gc ρ2).settle.bind fun r3 ρ3 => match peek r2 ρ3, peek r3 ρ3 with
      | some y', some z => ER.of (f' y' z) ρ3
      | _, _ => .no) (fun ρ2 => .ok (.val (.bl false)) ρ2)
  | _, _ => .no := by
  unfold dChain
  congr
  funext r1 ρ1
  congr
  funext r2 ρ2
  cases peek r1 ρ2 with
  | none => rfl
  | some x =>
    cases peek r2 ρ2 with
    | none => rfl
    | some y =>
      dsimp only
      cases f x y with
      | none => rfl
      | some z =>
        cases z with
        | val d =>
          cases d with
          | bl b => cases b <;> rfl
          | _ => rfl
        | _ => rfl
/-! arguments -/
@[simp] theorem dNil_ap : dNil ρ = .ok [] ρ := rfl
@[simp] theorem dCons_ap : dCons g gs ρ = match (g ρ).settle with
  | .ok r ρ1 => match gs ρ1 with
    | .ok rs ρ2 => .ok (r :: rs) ρ2
    | .ex x ρ2 => .ex x ρ2
    | .no => .no
  | .ex x ρ1 => .ex x ρ1
  | .no => .no := rfl
@[simp] theorem dFz_ap {h : List D → Env → ER} : dFz gs h ρ = match gs ρ with
  | .ok rs ρ1 => match frzs rs ρ1 with
    | some (ds, ρ2) => h ds ρ2
    | none => .no
  | .ex x ρ1 => .ex x ρ1
  | .no => .no := rfl
@[simp] theorem frzs_nil : frzs [] ρ = some ([], ρ) := rfl
@[simp] theorem frzs_cons {rs : List RV} : frzs (r :: rs) ρ = match frz r ρ with
    | some (d, ρ1) => match frzs rs ρ1 with
      | some (ds, ρ2) => some (d :: ds, ρ2)
      | none => none
    | none => none := rfl
@[simp] theorem peeks_nil : peeks [] ρ = some [] := rfl
@[simp] theorem peeks_cons {rs : List RV} : peeks (r :: rs) ρ = match peek r ρ, peeks rs ρ with
  | some d, some ds => some (d :: ds)
  | _, _ => none := rfl
@[simp] theorem dTup_ap : dTup gs ρ = dFz gs (fun ds ρ => if ds.length ≤ 1000 then .ok (.val (.tup ds)) ρ else .no) ρ := rfl
@[simp] theorem dLst_ap : dLst gs ρ = dFz gs (fun ds ρ => if ds.length ≤ 1000 then .ok (.new (.lst ds)) ρ else .no) ρ := rfl
@[simp] theorem dB_ap {f : List D → Option RV} : dB f gs ρ = match gs ρ with
  | .ok rs ρ1 => match peeks rs ρ1 with
    | some ds => ER.of (f ds) ρ1
    | none => .no
  | .ex x ρ1 => .ex x ρ1
  | .no => .no := rfl
@[simp] theorem dCall_ap {ms : List Bool} {f : List D → DR} : dCall ms f gs ρ = match gs ρ with
  | .ok rs ρ1 => match passes ms rs ρ1 with
    | some (ds, ρ2) => if (lents ms rs).Nodup then match f ds with
        | .ok r outs => .ok r (backs ms rs outs ρ2)
        | .ex x outs => .ex x (backs ms rs outs ρ2)
        | .no => .no
      else .no
    | none => .no
  | .ex x ρ1 => .ex x ρ1
  | .no => .no := rfl
@[simp] theorem dSl_ap {f : D → Option Int → Option Int → Option RV} {a b : Option Ev} : dSl f g a b ρ = (g ρ).settle.bind fun r ρ1 => match dPart a ρ1 with
  | .ok lo ρ2 => match dPart b ρ2 with
    | .ok hi ρ3 => match peek r ρ3 with
      | some d => ER.of (f d lo hi) ρ3
      | none => .no
    | .ex x ρ3 => .ex x ρ3
    | .no => .no
  | .ex x ρ2 => .ex x ρ2
  | .no => .no := rfl
@[simp] theorem dPart_none : dPart none ρ = .ok none ρ := rfl
@[simp] theorem dPart_some : dPart (some g) ρ = match (g ρ).settle with
    | .ok r ρ1 => match peek r ρ1 with
      | some (.int i) => .ok (some i) ρ1
      | _ => .no
    | .ex x ρ1 => .ex x ρ1
    | .no => .no := rfl
/-! statements -/
@[simp] theorem dSeq_ap : dSeq s1 s2 ρ = (s1 ρ).bind s2 := rfl
def ER.ifS (e : ER) (a b : Sv) : SR := e.st fun r ρ1 => match r with
  | .val (.bl true) => a ρ1
  | .val (.bl false) => b ρ1
  | _ => .no
@[simp] theorem ifS_bl : (ER.ok (.val (.bl b)) ρ).ifS s1 s2 = if b = true then s1 ρ else s2 ρ := by cases b <;> rfl
@[simp] theorem ifS_ex : (ER.ex x ρ).ifS s1 s2 = .ex x ρ := rfl
@[simp] theorem ifS_no : ER.no.ifS s1 s2 = .no := rfl
@[simp] theorem ifS_ite {c : Prop} [Decidable c] {a b : ER} : (if c then a else b).ifS s1 s2 = if c then a.ifS s1 s2 else b.ifS s1 s2 := by split <;> rfl
@[simp] theorem dIfS_ap : dIfS gc s1 s2 ρ = (gc ρ).ifS s1 s2 := rfl
@[simp] theorem dSet_ap : dSet i g ρ = (g ρ).st fun r ρ1 => SR.of (asgn i r ρ1) := rfl
@[simp] theorem dExpr_ap : dExpr g ρ = (g ρ).settle.st fun _ ρ1 => .nx ρ1 := rfl
@[simp] theorem dRet_ap : dRet g ρ = (g ρ).st fun r ρ1 => match r with
  | .loc i => match ρ1[i]? with
    | some (.own d) => .rt (.new d) (ρ1.set i .non)
    | some (.val d) => .rt (.val d) ρ1
    | _ => .no
  | r => .rt r ρ1 := rfl
@[simp] theorem dPar_ap {j : Nat} : dPar i j ga gb ρ = (ga ρ).settle.st fun r1 ρ1 => (gb ρ1).settle.st fun r2 ρ2 => match frz r1 ρ2 with
  | some (d, ρ3) => match frz r2 ρ3 with
    | some (e, ρ4) => match setV ρ4 i (.val d) with
      | some ρ5 => SR.of (setV ρ5 j (.val e))
      | none => .no
    | none => .no
  | none => .no := rfl
@[simp] theorem dRaise_ap {c : ECls} : dRaise c ρ = .ex ⟨c, []⟩ ρ := rfl
@[simp] theorem asgn_val : asgn i (.val d) ρ = setV ρ i (.val d) := rfl
@[simp] theorem asgn_new : asgn i (.new d) ρ = setV ρ i (.own d) := rfl
@[simp] theorem asgn_loc {j : Nat} : asgn i (.loc j) ρ = match frz (.loc j) ρ with
    | some (d, ρ1) => setV ρ1 i (.val d)
    | none => none := rfl
theorem setV_ap {s : Slot} : setV ρ i s = match ρ[i]? with
  | some (.bor _) => none
  | some _ => some (ρ.set i s)
  | none => none := rfl
@[simp] theorem dAugS_ap {f : D → D → Option RV} {gi : Ev} : dAugS i gi g f ρ = match ownAt ρ i with
  | none => .no
  | some _ => (gi ρ).settle.st fun r ρ1 => match peek r ρ1, ownAt ρ1 i with
    | some kk, some x => match ixD x kk, keyOf kk with
      | some d0, some key => (g ρ1).settle.st fun r2 ρ2 => match peek r2 ρ2 with
        | some y => match f d0 y with
          | some (.val z) => SR.of (stAt i kk z ρ2)
          | _ => .no
        | none => .no
      | _, _ => .no
    | _, _ => .no := rfl
@[simp] theorem dStore_ap {gi : Ev} : dStore i gi g ρ = (g ρ).settle.st fun r ρ1 => match frz r ρ1 with
  | some (d, ρ2) => match ownAt ρ2 i with
    | some _ => (gi ρ2).settle.st fun r2 ρ3 => match peek r2 ρ3 with
      | some k => SR.of (stAt i k d ρ3)
      | none => .no
    | none => .no
  | none => .no := rfl
@[simp] theorem dFor_ap {gi : Iv} {ft : D → Env → Option Env} : dFor gi ft s1 ρ = match gi ρ with
  | .ok ds ρ1 => forGo ft s1 ds ρ1
  | .ex x ρ1 => .ex x ρ1
  | .no => .no := rfl
@[simp] theorem dTry_ap {ism : ECls → Option Bool} : dTry ism s1 s2 ρ = match s1 ρ with
  | .ex x ρ1 => match ism x.cls with
    | some true => noEx (s2 ρ1)
    | some false => .ex x ρ1
    | none => .no
  | s => s := rfl
end
section
variable {i j : Int} {xs ys : List D} {a b : Str} {p q : Bool}
theorem atI_zero {α : Type} (xs : List α) : L2.atI xs 0 = xs[0]? := by
  unfold L2.atI ixN
  cases xs with
  | nil => rfl
  | cons x xs =>
    rw [if_pos (Int.le_refl 0), if_pos (by rw [List.length_cons]; omega)]
    rfl
theorem atI_cast {α : Type} (xs : List α) (n : Nat) : L2.atI xs (n : Int) = xs[n]? := by
  unfold L2.atI ixN
  rw [if_pos (by omega)]
  by_cases h : (n : Int) < xs.length
  · rw [if_pos h]
    simp
  · rw [if_neg h]
    have : xs.length ≤ n := by omega
    rw [List.getElem?_eq_none this]
    rfl
theorem atI_one {α : Type} (xs : List α) : L2.atI xs 1 = xs[1]? := atI_cast xs 1
theorem atI_two {α : Type} (xs : List α) : L2.atI xs 2 = xs[2]? := atI_cast xs 2
theorem atI_three {α : Type} (xs : List α) : L2.atI xs 3 = xs[3]? := atI_cast xs 3
theorem atI_four {α : Type} (xs : List α) : L2.atI xs 4 = xs[4]? := atI_cast xs 4
theorem atI_of {α : Type} (xs : List α) (i : Int) (h : 0 ≤ i) : L2.atI xs i = xs[i.toNat]? := by
  have : i = (i.toNat : Int) := by omega
  exact (congrArg (L2.atI xs) this).trans (atI_cast xs _)
@[simp] theorem opAdd_int : opAdd (.int i) (.int j) = some (.val (.int (i + j))) := rfl
@[simp] theorem opAdd_str : opAdd (.str a) (.str b) = if a.length + b.length ≤ sizeLine then some (.val (.str (a ++ b))) else none := rfl
@[simp] theorem opAdd_tup : opAdd (.tup xs) (.tup ys) = if xs.length + ys.length ≤ sizeLine then some (.val (.tup (xs ++ ys))) else none := rfl
@[simp] theorem opAdd_lst : opAdd (.lst xs) (.lst ys) = if xs.length + ys.length ≤ sizeLine then some (.new (.lst (xs ++ ys))) else none := rfl
@[simp] theorem opAddI_int : opAddI (.int i) (.int j) = some (.val (.int (i + j))) := rfl
@[simp] theorem opSub_int : opSub (.int i) (.int j) = some (.val (.int (i - j))) := rfl
@[simp] theorem opMul_int : opMul (.int i) (.int j) = if CMul i j then some (.val (.int (i * j))) else none := rfl
@[simp] theorem opMulI_int : opMulI (.int i) (.int j) = if CMul i j then some (.val (.int (i * j))) else none := rfl
@[simp] theorem opFdiv_int : opFdiv (.int i) (.int j) = if CDiv i j then some (.val (.int (i / j))) else none := rfl
@[simp] theorem opMod_int : opMod (.int i) (.int j) = if 0 < j then some (.val (.int (i % j))) else none := rfl
@[simp] theorem opPow_int : opPow (.int i) (.int j) = if CPow i j then some (.val (.int (i ^ j.toNat))) else none := rfl
@[simp] theorem opLt_int : opLt (.int i) (.int j) = some (.val (.bl (decide (i < j)))) := rfl
@[simp] theorem opLe_int : opLe (.int i) (.int j) = some (.val (.bl (decide (i ≤ j)))) := rfl
@[simp] theorem opGt_int : opGt (.int i) (.int j) = some (.val (.bl (decide (j < i)))) := rfl
@[simp] theorem opGe_int : opGe (.int i) (.int j) = some (.val (.bl (decide (j ≤ i)))) := rfl
@[simp] theorem opEq_int : opEq (.int i) (.int j) = some (.val (.bl (decide (i = j)))) := rfl
@[simp] theorem opNe_int : opNe (.int i) (.int j) = some (.val (.bl (!decide (i = j)))) := rfl
@[simp] theorem opEq_str : opEq (.str a) (.str b) = some (.val (.bl (decide (a = b)))) := rfl
@[simp] theorem opNe_str : opNe (.str a) (.str b) = some (.val (.bl (!decide (a = b)))) := rfl
@[simp] theorem opEq_bl : opEq (.bl p) (.bl q) = some (.val (.bl (decide (p = q)))) := rfl
@[simp] theorem opNe_bl : opNe (.bl p) (.bl q) = some (.val (.bl (!decide (p = q)))) := rfl
@[simp] theorem opIx_lst : opIx (.lst xs) (.int i) = (L2.atI xs i).map .val := rfl
@[simp] theorem opIx_scr : opIx (.scr xs) (.int i) = (L2.atI xs i).map .val := rfl
@[simp] theorem opIx_tup : opIx (.tup xs) (.int i) = (L2.atI xs i).map .val := rfl
@[simp] theorem ixD_lst : ixD (.lst xs) (.int i) = L2.atI xs i := rfl
@[simp] theorem keyOf_int : keyOf (.int i) = some (.inl i) := rfl
@[simp] theorem keyOf_str : keyOf (.str a) = some (.inr a) := rfl
@[simp] theorem opNeg_int : opNeg (.int i) = some (.val (.int (-i))) := rfl
@[simp] theorem fInt_int : fInt [.int i] = some (.val (.int i)) := rfl
@[simp] theorem fAbs_int : fAbs [.int i] = some (.val (.int (if i < 0 then -i else i))) := rfl
@[simp] theorem fLen_lst : fLen [.lst xs] = some (.val (.int xs.length)) := rfl
@[simp] theorem fLen_tup : fLen [.tup xs] = some (.val (.int xs.length)) := rfl
@[simp] theorem fLen_scr : fLen [.scr xs] = some (.val (.int xs.length)) := rfl
@[simp] theorem fMax2_int : fMax2 [.int i, .int j] = some (.val (.int (if j > i then j else i))) := rfl
@[simp] theorem fMin2_int : fMin2 [.int i, .int j] = some (.val (.int (if j < i then j else i))) := rfl
@[simp] theorem opSl_lst {lo hi : Option Int} : opSl (.lst xs) lo hi = some (.new (.lst (cutD xs lo hi))) := rfl
@[simp] theorem opSl_scr {lo hi : Option Int} : opSl (.scr xs) lo hi = some (.new (.lst (cutD xs lo hi))) := rfl
@[simp] theorem opSl_tup {lo hi : Option Int} : opSl (.tup xs) lo hi = some (.val (.tup (cutD xs lo hi))) := rfl
@[simp] theorem stored_lst {d : D} : stored (.lst xs) (.int i) d = (ixN xs.length i).map fun j => .lst (xs.set j d) := rfl
theorem stAt_ap {ρ : Env} {n : Nat} {k d : D} : stAt n k d ρ = match ownAt ρ n with
  | some x => (stored x k d).map fun x' => setO ρ n x'
  | none => none := rfl
theorem CMul_ap : CMul i j = ((-(2 ^ 64) < i ∧ i < 2 ^ 64) ∨ (-(2 ^ 64) < j ∧ j < 2 ^ 64)) := rfl
theorem CDiv_ap : CDiv i j = (0 < j ∧ j < 1073741824) := rfl
theorem CPow_ap : CPow i j = (0 ≤ j ∧ j ≤ 1000000 ∧ i.natAbs < 2 ^ 64) := rfl
/-- from a place on -/
theorem cut_from (ds : List D) (c : Int) : ∃ n, cutD ds (some c) none = ds.drop n := by
  unfold cutD
  refine ⟨HT.sIx ds.length 0 (some c), ?_⟩
  rw [List.take_of_length_le]
  rw [List.length_drop]
  exact Nat.le_refl _
theorem cut_front (ds : List D) (c : Nat) : cutD ds none (some (c : Int)) = ds.take c := by
  show (ds.drop 0).take (HT.sIx ds.length ds.length (some (c : Int)) - 0) = ds.take c
  rw [HT.sIx_nat, List.drop_zero, Nat.sub_zero]
  by_cases h : c ≤ ds.length
  · rw [Nat.min_eq_left h]
  · rw [Nat.min_eq_right (by omega), List.take_of_length_le (Nat.le_refl _), List.take_of_length_le (by omega)]
end
theorem isi_of {d : D} {t T : String} {b : Bool} (h1 : tyName d = some t) (h2 : kitB t T = some b) : fIsi [d, .raw (.ty T)] = some (.val (.bl b)) := by
  unfold fIsi
  simp only [h1, h2]
  rfl
@[simp] theorem isi_non_int : fIsi [.non, .raw (.ty "int")] = some (.val (.bl false)) := isi_of rfl (by decide +kernel)
@[simp] theorem isi_non_str : fIsi [.non, .raw (.ty "str")] = some (.val (.bl false)) := isi_of rfl (by decide +kernel)
@[simp] theorem isi_non_bool : fIsi [.non, .raw (.ty "bool")] = some (.val (.bl false)) := isi_of rfl (by decide +kernel)
@[simp] theorem isi_non_list : fIsi [.non, .raw (.ty "list")] = some (.val (.bl false)) := isi_of rfl (by decide +kernel)
@[simp] theorem isi_non_tuple : fIsi [.non, .raw (.ty "tuple")] = some (.val (.bl false)) := isi_of rfl (by decide +kernel)
@[simp] theorem isi_non_dict : fIsi [.non, .raw (.ty "dict")] = some (.val (.bl false)) := isi_of rfl (by decide +kernel)
@[simp] theorem isi_bl_int {p : Bool} : fIsi [(.bl p), .raw (.ty "int")] = some (.val (.bl true)) := isi_of rfl (by decide +kernel)
@[simp] theorem isi_bl_str {p : Bool} : fIsi [(.bl p), .raw (.ty "str")] = some (.val (.bl false)) := isi_of rfl (by decide +kernel)
@[simp] theorem isi_bl_bool {p : Bool} : fIsi [(.bl p), .raw (.ty "bool")] = some (.val (.bl true)) := isi_of rfl (by decide +kernel)
@[simp] theorem isi_bl_list {p : Bool} : fIsi [(.bl p), .raw (.ty "list")] = some (.val (.bl false)) := isi_of rfl (by decide +kernel)
@[simp] theorem isi_bl_tuple {p : Bool} : fIsi [(.bl p), .raw (.ty "tuple")] = some (.val (.bl false)) := isi_of rfl (by decide +kernel)
@[simp] theorem isi_bl_dict {p : Bool} : fIsi [(.bl p), .raw (.ty "dict")] = some (.val (.bl false)) := isi_of rfl (by decide +kernel)
@[simp] theorem isi_int_int {i : Int} : fIsi [(.int i), .raw (.ty "int")] = some (.val (.bl true)) := isi_of rfl (by decide +kernel)
@[simp] theorem isi_int_str {i : Int} : fIsi [(.int i), .raw (.ty "str")] = some (.val (.bl false)) := isi_of rfl (by decide +kernel)
@[simp] theorem isi_int_bool {i : Int} : fIsi [(.int i), .raw (.ty "bool")] = some (.val (.bl false)) := isi_of rfl (by decide +kernel)
@[simp] theorem isi_int_list {i : Int} : fIsi [(.int i), .raw (.ty "list")] = some (.val (.bl false)) := isi_of rfl (by decide +kernel)
@[simp] theorem isi_int_tuple {i : Int} : fIsi [(.int i), .raw (.ty "tuple")] = some (.val (.bl false)) := isi_of rfl (by decide +kernel)
@[simp] theorem isi_int_dict {i : Int} : fIsi [(.int i), .raw (.ty "dict")] = some (.val (.bl false)) := isi_of rfl (by decide +kernel)
@[simp] theorem isi_str_int {a : Str} : fIsi [(.str a), .raw (.ty "int")] = some (.val (.bl false)) := isi_of rfl (by decide +kernel)
@[simp] theorem isi_str_str {a : Str} : fIsi [(.str a), .raw (.ty "str")] = some (.val (.bl true)) := isi_of rfl (by decide +kernel)
@[simp] theorem isi_str_bool {a : Str} : fIsi [(.str a), .raw (.ty "bool")] = some (.val (.bl false)) := isi_of rfl (by decide +kernel)
@[simp] theorem isi_str_list {a : Str} : fIsi [(.str a), .raw (.ty "list")] = some (.val (.bl false)) := isi_of rfl (by decide +kernel)
@[simp] theorem isi_str_tuple {a : Str} : fIsi [(.str a), .raw (.ty "tuple")] = some (.val (.bl false)) := isi_of rfl (by decide +kernel)
@[simp] theorem isi_str_dict {a : Str} : fIsi [(.str a), .raw (.ty "dict")] = some (.val (.bl false)) := isi_of rfl (by decide +kernel)
@[simp] theorem isi_tup_int {xs : List D} : fIsi [(.tup xs), .raw (.ty "int")] = some (.val (.bl false)) := isi_of rfl (by decide +kernel)
@[simp] theorem isi_tup_str {xs : List D} : fIsi [(.tup xs), .raw (.ty "str")] = some (.val (.bl false)) := isi_of rfl (by decide +kernel)
@[simp] theorem isi_tup_bool {xs : List D} : fIsi [(.tup xs), .raw (.ty "bool")] = some (.val (.bl false)) := isi_of rfl (by decide +kernel)
@[simp] theorem isi_tup_list {xs : List D} : fIsi [(.tup xs), .raw (.ty "list")] = some (.val (.bl false)) := isi_of rfl (by decide +kernel)
@[simp] theorem isi_tup_tuple {xs : List D} : fIsi [(.tup xs), .raw (.ty "tuple")] = some (.val (.bl true)) := isi_of rfl (by decide +kernel)
@[simp] theorem isi_tup_dict {xs : List D} : fIsi [(.tup xs), .raw (.ty "dict")] = some (.val (.bl false)) := isi_of rfl (by decide +kernel)
@[simp] theorem isi_lst_int {xs : List D} : fIsi [(.lst xs), .raw (.ty "int")] = some (.val (.bl false)) := isi_of rfl (by decide +kernel)
@[simp] theorem isi_lst_str {xs : List D} : fIsi [(.lst xs), .raw (.ty "str")] = some (.val (.bl false)) := isi_of rfl (by decide +kernel)
@[simp] theorem isi_lst_bool {xs : List D} : fIsi [(.lst xs), .raw (.ty "bool")] = some (.val (.bl false)) := isi_of rfl (by decide +kernel)
@[simp] theorem isi_lst_list {xs : List D} : fIsi [(.lst xs), .raw (.ty "list")] = some (.val (.bl true)) := isi_of rfl (by decide +kernel)
@[simp] theorem isi_lst_tuple {xs : List D} : fIsi [(.lst xs), .raw (.ty "tuple")] = some (.val (.bl false)) := isi_of rfl (by decide +kernel)
@[simp] theorem isi_lst_dict {xs : List D} : fIsi [(.lst xs), .raw (.ty "dict")] = some (.val (.bl false)) := isi_of rfl (by decide +kernel)
@[simp] theorem isi_scr_int {xs : List D} : fIsi [(.scr xs), .raw (.ty "int")] = some (.val (.bl false)) := isi_of rfl (by decide +kernel)
@[simp] theorem isi_scr_str {xs : List D} : fIsi [(.scr xs), .raw (.ty "str")] = some (.val (.bl false)) := isi_of rfl (by decide +kernel)
@[simp] theorem isi_scr_bool {xs : List D} : fIsi [(.scr xs), .raw (.ty "bool")] = some (.val (.bl false)) := isi_of rfl (by decide +kernel)
@[simp] theorem isi_scr_list {xs : List D} : fIsi [(.scr xs), .raw (.ty "list")] = some (.val (.bl true)) := isi_of rfl (by decide +kernel)
@[simp] theorem isi_scr_tuple {xs : List D} : fIsi [(.scr xs), .raw (.ty "tuple")] = some (.val (.bl false)) := isi_of rfl (by decide +kernel)
@[simp] theorem isi_scr_dict {xs : List D} : fIsi [(.scr xs), .raw (.ty "dict")] = some (.val (.bl false)) := isi_of rfl (by decide +kernel)
@[simp] theorem isi_dic_int {ks : List Key} {xs : List D} : fIsi [(.dic ks xs), .raw (.ty "int")] = some (.val (.bl false)) := isi_of rfl (by decide +kernel)
@[simp] theorem isi_dic_str {ks : List Key} {xs : List D} : fIsi [(.dic ks xs), .raw (.ty "str")] = some (.val (.bl false)) := isi_of rfl (by decide +kernel)
@[simp] theorem isi_dic_bool {ks : List Key} {xs : List D} : fIsi [(.dic ks xs), .raw (.ty "bool")] = some (.val (.bl false)) := isi_of rfl (by decide +kernel)
@[simp] theorem isi_dic_list {ks : List Key} {xs : List D} : fIsi [(.dic ks xs), .raw (.ty "list")] = some (.val (.bl false)) := isi_of rfl (by decide +kernel)
@[simp] theorem isi_dic_tuple {ks : List Key} {xs : List D} : fIsi [(.dic ks xs), .raw (.ty "tuple")] = some (.val (.bl false)) := isi_of rfl (by decide +kernel)
@[simp] theorem isi_dic_dict {ks : List Key} {xs : List D} : fIsi [(.dic ks xs), .raw (.ty "dict")] = some (.val (.bl true)) := isi_of rfl (by decide +kernel)
end DL

/-! what is computed, by simp alone. -/
namespace DL
open PySem PySem.Spec L2
section
variable {ρ : Env} {d e : D} {i j : Nat} {r : RV} {ms : List Bool} {ds os : List D} {rs : List RV} {s : Slot} {b : Bool}
@[simp] theorem s_argEnv_nil : argEnv [] ds = [] := by cases ds <;> rfl
@[simp] theorem s_argEnv_t : argEnv (true :: ms) (d :: ds) = .bor d :: argEnv ms ds := rfl
@[simp] theorem s_argEnv_f : argEnv (false :: ms) (d :: ds) = .val d :: argEnv ms ds := rfl
@[simp] theorem s_passes_nil : passes [] [] ρ = some ([], ρ) := rfl
@[simp] theorem s_passes_f : passes (false :: ms) (r :: rs) ρ = match frz r ρ with
    | some (d, ρ1) => match passes ms rs ρ1 with
      | some (ds, ρ2) => some (d :: ds, ρ2)
      | none => none
    | none => none := rfl
@[simp] theorem s_passes_t : passes (true :: ms) (.loc i :: rs) ρ = match passes ms rs ρ with
    | some (ds, ρ2) => match ρ2[i]? with
      | some (.own d) => some (d :: ds, ρ2)
      | some (.bor d) => some (d :: ds, ρ2)
      | _ => none
    | none => none := rfl
@[simp] theorem s_lents_nil : lents [] rs = [] := by cases rs <;> rfl
@[simp] theorem s_lents_t : lents (true :: ms) (.loc i :: rs) = i :: lents ms rs := rfl
@[simp] theorem s_lents_f : lents (false :: ms) (r :: rs) = lents ms rs := rfl
@[simp] theorem s_backs_nil : backs [] rs os ρ = ρ := by cases rs <;> cases os <;> rfl
@[simp] theorem s_backs_t : backs (true :: ms) (.loc i :: rs) (d :: ds) ρ = setO (backs ms rs ds ρ) i d := rfl
@[simp] theorem s_backs_f : backs (false :: ms) (r :: rs) (d :: ds) ρ = backs ms rs ds ρ := rfl
@[simp] theorem s_outs_nil : outsOf [] [] ρ = some [] := rfl
@[simp] theorem s_outs_t : outsOf (true :: ms) (e :: ds) (.bor d :: ρ) = match outsOf ms ds ρ with
    | some os => some (d :: os)
    | none => none := rfl
@[simp] theorem s_outs_f : outsOf (false :: ms) (d :: ds) (s :: ρ) = match outsOf ms ds ρ with
    | some os => some (d :: os)
    | none => none := rfl
@[simp] theorem s_dVar : dVar i ρ = match ρ[i]? with
    | some (.val d) => .ok (.val d) ρ
    | some (.own _) => .ok (.loc i) ρ
    | some (.bor _) => .ok (.loc i) ρ
    | _ => .no := rfl
@[simp] theorem s_frz_loc : frz (.loc i) ρ = match ρ[i]? with
    | some (.val d) => some (d, ρ)
    | some (.own d) => some (d, ρ.set i (.val d))
    | _ => none := rfl
@[simp] theorem s_peek_loc : peek (.loc i) ρ = match ρ[i]? with
    | some (.val d) => some d
    | some (.own d) => some d
    | some (.bor d) => some d
    | _ => none := rfl
@[simp] theorem s_setV : setV ρ i s = match ρ[i]? with
  | some (.bor _) => none
  | some _ => some (ρ.set i s)
  | none => none := rfl
@[simp] theorem s_setO : setO ρ i d = match ρ[i]? with
  | some (.own _) => ρ.set i (.own d)
  | some (.bor _) => ρ.set i (.bor d)
  | _ => ρ := rfl
@[simp] theorem s_ownAt : ownAt ρ i = match ρ[i]? with
  | some (.own d) => some d
  | some (.bor d) => some d
  | _ => none := rfl
@[simp] theorem s_stAt {k : D} : stAt i k d ρ = match ownAt ρ i with
  | some x => (stored x k d).map fun x' => setO ρ i x'
  | none => none := rfl
@[simp] theorem s_owns_non : Slot.non.owns = false := rfl
@[simp] theorem s_owns_val : (Slot.val d).owns = false := rfl
@[simp] theorem s_idle_nil : idle ρ [] = true := rfl
@[simp] theorem s_idle_cons {vs : List Nat} : idle ρ (i :: vs) = ((match ρ[i]? with
    | some s => !s.owns
    | none => true) && idle ρ vs) := rfl
@[simp] theorem s_wipe_nil : wipeE ρ [] = ρ := rfl
@[simp] theorem s_wipe_cons {vs : List Nat} : wipeE ρ (i :: vs) = (wipeE ρ vs).set i .non := rfl
@[simp] theorem s_rest_nil {ρ1 : Env} : restE ρ ρ1 [] = ρ := rfl
@[simp] theorem s_rest_cons {ρ1 : Env} {vs : List Nat} : restE ρ ρ1 (i :: vs) = match ρ1[i]? with
    | some s => (restE ρ ρ1 vs).set i s
    | none => restE ρ ρ1 vs := rfl
@[simp] theorem s_gtName : gtName i d ρ = setV ρ i (.val d) := rfl
@[simp] theorem s_gtNil : gtNil [] ρ = some ρ := rfl
@[simp] theorem s_gtCons {f : D → Env → Option Env} {fs : List D → Env → Option Env} : gtCons f fs (d :: ds) ρ = match f d ρ with
    | some ρ1 => fs ds ρ1
    | none => none := rfl
@[simp] theorem s_gtTup {n : Nat} {fs : List D → Env → Option Env} : gtTup n fs (.tup ds) ρ = if ds.length = n then fs ds ρ else none := rfl
@[simp] theorem s_dYes : dYes ρ = .ok (.val (.bl true)) ρ := rfl
@[simp] theorem s_dAsg {ft : D → Env → Option Env} {g : Ev} : dAsg ft g ρ = (g ρ).settle.st fun r ρ1 => match frz r ρ1 with
  | some (d, ρ2) => SR.of (ft d ρ2)
  | none => .no := rfl
@[simp] theorem s_iSeq {g : Ev} : iSeq g ρ = match (g ρ).settle with
  | .ok r ρ1 => match frz r ρ1 with
    | some (d, ρ2) => match seqOf d with
      | some xs => .ok xs ρ2
      | none => .no
    | none => .no
  | .ex x ρ1 => .ex x ρ1
  | .no => .no := rfl
@[simp] theorem s_seq_lst : seqOf (.lst ds) = some ds := rfl
@[simp] theorem s_seq_tup : seqOf (.tup ds) = some ds := rfl
@[simp] theorem s_seq_scr : seqOf (.scr ds) = some ds := rfl
@[simp] theorem s_iArgs {k : List D → Option (List D)} {gs : Av} : iArgs k gs ρ = match gs ρ with
  | .ok rs ρ1 => match frzs rs ρ1 with
    | some (ds, ρ2) => match k ds with
      | some xs => .ok xs ρ2
      | none => .no
    | none => .no
  | .ex x ρ1 => .ex x ρ1
  | .no => .no := rfl
@[simp] theorem s_zipL {xs ys : List D} : kZip [.lst xs, .lst ys] = some (List.zipWith (fun x y => .tup [x, y]) xs ys) := rfl
@[simp] theorem s_zipT {xs ys : List D} : kZip [.tup xs, .tup ys] = some (List.zipWith (fun x y => .tup [x, y]) xs ys) := rfl
@[simp] theorem s_dLc {gi : Iv} {vs : List Nat} {ft : D → Env → Option Env} {gt ge : Ev} : dLc gi vs ft gt ge ρ = match gi ρ with
  | .ok ds ρ1 => if idle ρ1 vs = true ∧ ds.length ≤ 1000000 then match compGo vs ft gt ge ds (wipeE ρ1 vs) with
      | some (ys, ρ2) => .ok (.new (.lst ys)) (restE ρ2 ρ1 vs)
      | none => .no
    else .no
  | .ex x ρ1 => .ex x ρ1
  | .no => .no := rfl
@[simp] theorem s_dMut {T : String} {f : D → List D → Option (D × D)} {gs : Av} : dMut T i f gs ρ = match (ownAt ρ i).bind tyName with
  | none => .no
  | some T' => if T' = T then match gs ρ with
    | .ok rs ρ1 => match frzs rs ρ1 with
      | some (ds, ρ2) => match ownAt ρ2 i with
        | some d => match f d ds with
          | some (ret, d') => .ok (.val ret) (setO ρ2 i d')
          | none => .no
        | none => .no
      | none => .no
    | .ex x ρ1 => .ex x ρ1
    | .no => .no
    else .no := rfl
@[simp] theorem s_ty_lst : tyName (.lst ds) = some "list" := rfl
@[simp] theorem s_ty_tup : tyName (.tup ds) = some "tuple" := rfl
@[simp] theorem s_ty_dic {ks : List Key} : tyName (.dic ks ds) = some "dict" := rfl
@[simp] theorem s_append {xs : List D} : mAppend (.lst xs) [d] = if xs.length < sizeLine then some (.non, .lst (xs ++ [d])) else none := rfl
@[simp] theorem s_extend {xs ys : List D} : mExtend (.lst xs) [.lst ys] = if xs.length + ys.length ≤ sizeLine then some (.non, .lst (xs ++ ys)) else none := rfl
@[simp] theorem s_dAug {g : Ev} {f : D → D → Option RV} : dAug i g f ρ = match ρ[i]? with
  | some (.val d0) => (g ρ).settle.st fun r2 ρ2 => match peek r2 ρ2 with
    | some y => match f d0 y with
      | some z => SR.of (asgn i z ρ2)
      | none => .no
    | none => .no
  | _ => .no := rfl
@[simp] theorem s_tupOf {xs : List D} : fTuple [.lst xs] = some (.val (.tup xs)) := rfl
@[simp] theorem s_tupOfT {xs : List D} : fTuple [.tup xs] = some (.val (.tup xs)) := rfl
@[simp] theorem s_lstOf {xs : List D} : fList [.tup xs] = some (.new (.lst xs)) := rfl
@[simp] theorem s_lstOfL {xs : List D} : fList [.lst xs] = some (.new (.lst xs)) := rfl
@[simp] theorem s_truth_bl : truth (.bl b) = some b := rfl
theorem dDef_run {n : Nat} {g : Sv} (h : ds.length = ms.length) : dDef n ms g ds = match g (argEnv ms ds ++ List.replicate (n - ms.length) .non) with
    | .nx ρ => match outsOf ms ds ρ with
      | some os => .ok (.val .non) os
      | none => .no
    | .rt r ρ => match r with
      | .loc _ => .no
      | r => match outsOf ms ds ρ with
        | some os => .ok r os
        | none => .no
    | .ex x ρ => match outsOf ms ds ρ with
      | some os => .ex x os
      | none => .no
    | _ => .no := if_pos h
end
/-! comprehensions over what is given by a function -/
theorem compGo_fm {vs : List Nat} {ft : D → Env → Option Env} {gt ge : Ev} {β : Type} {f g : β → D} {p : β → Bool} {ρ : Env} :
    ∀ l : List β, (∀ b ∈ l, ∃ ρ1, ft (f b) ρ = some ρ1 ∧ gt ρ1 = .ok (.val (.bl (p b))) ρ1 ∧ (p b = true → ∃ r, (ge ρ1).settle = .ok r ρ1 ∧ frz r ρ1 = some (g b, ρ1)) ∧ wipeE ρ1 vs = ρ) → compGo vs ft gt ge (l.map f) ρ = some ((l.filter p).map g, ρ)
  | [], _ => rfl
  | b :: l, h => by
    obtain ⟨ρ1, h1, h2, h3, h4⟩ := h b List.mem_cons_self
    have ih := compGo_fm l fun c hc => h c (List.mem_cons_of_mem _ hc)
    rw [List.map_cons]
    unfold compGo
    rw [h1]
    dsimp only
    rw [h2]
    cases e : p b with
    | false =>
      dsimp only
      rw [h4, ih, List.filter_cons, if_neg (by rw [e]; decide)]
    | true =>
      obtain ⟨r, h5, h6⟩ := h3 e
      dsimp only
      rw [h5]
      dsimp only
      rw [h6]
      dsimp only
      rw [h4, ih, List.filter_cons, if_pos e]
      rfl
theorem compGo_m {vs : List Nat} {ft : D → Env → Option Env} {ge : Ev} {β : Type} {f g : β → D} {ρ : Env} (l : List β) (h : ∀ b ∈ l, ∃ ρ1, ft (f b) ρ = some ρ1 ∧ (∃ r, (ge ρ1).settle = .ok r ρ1 ∧ frz r ρ1 = some (g b, ρ1)) ∧ wipeE ρ1 vs = ρ) : compGo vs ft dYes ge (l.map f) ρ = some (l.map g, ρ) := by
  have := compGo_fm (vs := vs) (ft := ft) (gt := dYes) (ge := ge) (f := f) (g := g) (p := fun _ => true) (ρ := ρ) l fun b hb => by
    obtain ⟨ρ1, h1, h2, h3⟩ := h b hb
    exact ⟨ρ1, h1, rfl, fun _ => h2, h3⟩
  rw [this, List.filter_eq_self.mpr fun _ _ => rfl]
end DL

/-! data that may be shown and compared. -/
namespace DL
open PySem PySem.Spec L2
/-- d is the kit's p, of whole numbers that are not great, h deep, of weight w at the most -/
structure Nice (d : D) (p : PyData) (h w : Nat) : Prop where
  py : py d = some p
  lay : p.canLay0 = true
  show' : p.showable = true
  short : p.intsShort 13 = true
  deep : p.depth ≤ h
  wt : p.weight ≤ w
structure NiceL (ds : List D) (ps : List PyData) (h w : Nat) : Prop where
  py : pys ds = some ps
  lay : PyData.canLayAll0 ps = true
  show' : PyData.showableAll ps = true
  short : PyData.intsShortAll 13 ps = true
  deep : PyData.depthAll ps ≤ h
  wt : PyData.weightAll ps ≤ w
theorem log_lt {i : Int} {k : Nat} (hk : 0 < k) (h : i.natAbs < 2 ^ k) : i.natAbs.log2 < k := by
  by_cases h0 : i.natAbs = 0
  · rw [h0]; simpa using hk
  · exact (Nat.log2_lt h0).mpr h
theorem shown_int {i : Int} (h : i.natAbs < 10 ^ 12) : (PyData.shown (.int i)).length ≤ 13 := by
  simp only [PyData.shown]
  by_cases h0 : 0 ≤ i
  · exact Nat.le_trans (PyProof.Rows.toString_length_le h0 (k := 12) (by decide) (by omega)) (by decide)
  · have h1 : 0 ≤ -i := by omega
    have h2 := PyProof.Rows.toString_length_le h1 (k := 12) (by decide) (by omega)
    have e : (0 : Int) - i = -i := by omega
    rw [PyProof.Rows.toString_neg (by omega), e, PyProof.Rows.ofString_len, String.length_append]
    rw [PyProof.Rows.ofString_len] at h2
    have : ("-" : String).length = 1 := by decide
    omega
theorem Nice.int {i : Int} (h : i.natAbs < 10 ^ 12) : Nice (.int i) (.int i) 0 41 where
  py := rfl
  lay := rfl
  show' := by
    have := log_lt (i := i) (k := 40) (by decide) (Nat.lt_trans h (by decide))
    simp only [PyData.showable, decide_eq_true_eq]
    omega
  short := by
    have := shown_int h
    simp only [PyData.intsShort]
    exact decide_eq_true this
  deep := Nat.le_refl 0
  wt := by
    have := log_lt (i := i) (k := 40) (by decide) (Nat.lt_trans h (by decide))
    simp only [PyData.weight]
    split <;> omega
theorem Nice.non : Nice .non .none 0 0 := ⟨rfl, rfl, rfl, rfl, Nat.le_refl 0, Nat.le_refl 0⟩
theorem Nice.bl (b : Bool) : Nice (.bl b) (.bool b) 0 0 := ⟨rfl, rfl, rfl, rfl, Nat.le_refl 0, Nat.le_refl 0⟩
theorem Nice.str {x : Str} (h : PyData.strOk x = true) : Nice (.str x) (.str x) 0 x.cps.size := ⟨rfl, h, rfl, rfl, Nat.le_refl 0, Nat.le_refl _⟩
theorem NiceL.nil : NiceL [] [] 0 0 := ⟨rfl, rfl, rfl, rfl, Nat.le_refl 0, Nat.le_refl 0⟩
theorem Nice.up {d : D} {p : PyData} {h w h' w' : Nat} (a : Nice d p h w) (b : h ≤ h') (c : w ≤ w') : Nice d p h' w' := ⟨a.py, a.lay, a.show', a.short, Nat.le_trans a.deep b, Nat.le_trans a.wt c⟩
theorem NiceL.up {d : List D} {p : List PyData} {h w h' w' : Nat} (a : NiceL d p h w) (b : h ≤ h') (c : w ≤ w') : NiceL d p h' w' := ⟨a.py, a.lay, a.show', a.short, Nat.le_trans a.deep b, Nat.le_trans a.wt c⟩
theorem NiceL.cons {d : D} {p : PyData} {ds : List D} {ps : List PyData} {h w h' w' : Nat} (a : Nice d p h w) (b : NiceL ds ps h' w') : NiceL (d :: ds) (p :: ps) (max h h') (w + 1 + w') where
  py := by unfold pys; rw [a.py, b.py]
  lay := by simp [PyData.canLayAll0, a.lay, b.lay]
  show' := by simp [PyData.showableAll, a.show', b.show']
  short := by simp [PyData.intsShortAll, a.short, b.short]
  deep := by have := a.deep; have := b.deep; simp only [PyData.depthAll]; omega
  wt := by have := a.wt; have := b.wt; simp only [PyData.weightAll]; omega
theorem NiceL.map {β : Type} {f : β → D} {g : β → PyData} {h w : Nat} : ∀ (l : List β), (∀ b ∈ l, Nice (f b) (g b) h w) → NiceL (l.map f) (l.map g) h (l.length * (w + 1))
  | [], _ => ⟨rfl, rfl, rfl, rfl, Nat.zero_le _, Nat.zero_le _⟩
  | b :: l, hb => by
    have ih := NiceL.map l fun c hc => hb c (List.mem_cons_of_mem _ hc)
    exact (NiceL.cons (hb b List.mem_cons_self) ih).up (by omega) (by rw [List.length_cons, Nat.add_mul]; omega)
theorem Nice.tup {ds : List D} {ps : List PyData} {h w : Nat} (a : NiceL ds ps h w) : Nice (.tup ds) (.tuple ps) (h + 1) w where
  py := by unfold DL.py; rw [a.py]; rfl
  lay := by simp [PyData.canLay0, a.lay]
  show' := by simp [PyData.showable, a.show']
  short := by simp [PyData.intsShort, a.short]
  deep := by have := a.deep; simp only [PyData.depth]; omega
  wt := by have := a.wt; simp only [PyData.weight]; omega
theorem Nice.lst {ds : List D} {ps : List PyData} {h w : Nat} (a : NiceL ds ps h w) : Nice (.lst ds) (.list ps) (h + 1) w where
  py := by unfold DL.py; rw [a.py]; rfl
  lay := by simp [PyData.canLay0, a.lay]
  show' := by simp [PyData.showable, a.show']
  short := by simp [PyData.intsShort, a.short]
  deep := by have := a.deep; simp only [PyData.depth]; omega
  wt := by have := a.wt; simp only [PyData.weight]; omega
theorem Nice.shaped {d : D} {p : PyData} {h w : Nat} (a : Nice d p h w) (h1 : h ≤ 60) : SeqAt.shaped p = true := by
  have := a.deep
  simp only [SeqAt.shaped, a.lay, Bool.true_and, decide_eq_true_eq]
  omega
mutual
theorem eqv_refl : ∀ p : PyData, p.canLay0 = true → PyData.eqv p p = true
  | .none, _ => by simp [PyData.eqv]
  | .bool b, _ => by simp [PyData.eqv]
  | .int i, _ => by simp [PyData.eqv]
  | .str x, _ => by simp [PyData.eqv]
  | .list xs, h => by
    have h1 : PyData.canLayAll0 xs = true := by simpa [PyData.canLay0] using h
    simpa [PyData.eqv] using eqvAll_refl xs h1
  | .tuple xs, h => by
    have h1 : PyData.canLayAll0 xs = true := by simpa [PyData.canLay0] using h
    simpa [PyData.eqv] using eqvAll_refl xs h1
  | .dict kvs, h => by simp [PyData.canLay0] at h
theorem eqvAll_refl : ∀ ps : List PyData, PyData.canLayAll0 ps = true → PyData.eqvAll ps ps = true
  | [], _ => by simp [PyData.eqvAll]
  | p :: ps, h => by
    have h1 : p.canLay0 = true ∧ PyData.canLayAll0 ps = true := by simpa [PyData.canLayAll0] using h
    simp [PyData.eqvAll, eqv_refl p h1.1, eqvAll_refl ps h1.2]
end
theorem Nice.repr {d : D} {p : PyData} {h w : Nat} (a : Nice d p h w) (h1 : h ≤ 60) (h2 : w ≤ 2 ^ 20) : fRepr [d] = some (.val (.str p.shown)) := by
  have d1 := a.deep
  have w1 := a.wt
  have l : PyData.layable0 p = true := by
    simp only [PyData.layable0, a.lay, Bool.true_and, Bool.and_eq_true, decide_eq_true_eq]
    exact ⟨by omega, by omega⟩
  have s := PyProof.Rows.shown_le13 l a.short
  have s2 : p.shown.length ≤ sizeLine := by rw [sizeLine_eq]; omega
  have d2 : p.depth ≤ 64 := by omega
  unfold fRepr
  simp [a.py, a.show', d2, s2]
theorem eqDeep_nice {d e : D} {p q : PyData} {h w h' w' : Nat} (a : Nice d p h w) (b : Nice e q h' w') (h1 : h ≤ 60) (h2 : h' ≤ 60) : eqDeep d e = some (PyData.eqv p q) := by
  unfold eqDeep
  rw [a.py, b.py]
  exact if_pos ⟨a.shaped h1, b.shaped h2⟩
theorem eqD_self {d : D} {p : PyData} {h w : Nat} (a : Nice d p h w) (h1 : h ≤ 60) : eqD d d = some true := by
  have e := eqDeep_nice a a h1 h1
  rw [eqv_refl p a.lay] at e
  cases d with
  | int i => simp [eqD]
  | str x => simp [eqD]
  | bl b => simp [eqD]
  | _ => exact e
/-- the body of _law_alike -/
def alikeD : List D → DR := dDef 2 [false, false]
    (dRet (dAndV (dOp2 opEq (dB fRepr (dCons (dVar 0) dNil)) (dB fRepr (dCons (dVar 1) dNil))) (dOp2 opEq (dVar 0) (dVar 1))))
theorem alike_nice {d : D} {p : PyData} {h w : Nat} (a : Nice d p h w) (h1 : h ≤ 60) (h2 : w ≤ 2 ^ 20) : alikeD [d, d] = .ok (.val (.bl true)) [d, d] := by
  have e1 := a.repr h1 h2
  have e2 : opEq d d = some (.val (.bl true)) := by unfold opEq; rw [eqD_self a h1]; rfl
  unfold alikeD dDef
  simp [e1, e2]
end DL

/-! more of what is computed, by simp. -/
namespace DL
open PySem PySem.Spec L2
section
variable {ρ : Env} {d e : D} {i j : Nat} {ks xs ys : List D} {g g1 g2 : Ev} {a b : Bool}
@[simp] theorem s_orE : orE g1 g2 ρ = match g1 ρ with
  | .no => g2 ρ
  | r => r := rfl
@[simp] theorem s_pop : mPop (.lst xs) [] = match xs[xs.length - 1]? with
    | some d => some (d, .lst xs.dropLast)
    | none => none := rfl
@[simp] theorem s_insert {n : Int} : mInsert (.lst xs) [.int n, d] = if xs.length < sizeLine ∧ 0 ≤ n ∧ n < 2 ^ 63 then some (.non, .lst (xs.take n.toNat ++ [d] ++ xs.drop n.toNat)) else none := rfl
@[simp] theorem s_rev : opRev (.lst xs) = some (.new (.lst xs.reverse)) := rfl
@[simp] theorem s_isB : opIsB (.bl a) (.bl b) = some (.val (.bl (decide (a = b)))) := rfl
@[simp] theorem s_notB : opNotB (.bl a) (.bl b) = some (.val (.bl (!decide (a = b)))) := rfl
@[simp] theorem s_dGet2X {go ge gf : Ev} : dGet2X go ge gf ρ = (go ρ).settle.bind fun r ρ1 => match (peek r ρ1).bind xdic with
  | some _ => (ge ρ1).settle.bind fun r1 ρ2 => (gf ρ2).settle.bind fun r2 ρ3 => match (peek r ρ3).bind xdic, (peek r1 ρ3).bind kOf, frz r2 ρ3 with
    | some (ks, xs), some k, some (d, ρ4) => .ok (.val ((dctGet ks xs k).getD d)) ρ4
    | _, _, _ => .no
  | none => .no := rfl
@[simp] theorem s_xdic : xdic (.dct ks xs) = some (ks, xs) := rfl
@[simp] theorem s_xdic0 : xdic (.dic [] xs) = some ([], []) := rfl
@[simp] theorem s_hr_add {r : RV} {rs : List RV} : (HR.ok rs ρ).add r = .ok (r :: rs) ρ := rfl
@[simp] theorem s_hold_nil : dHold [] ρ = .ok [] ρ := rfl
@[simp] theorem s_hold_cons {gs : List Ev} : dHold (g :: gs) ρ = match g ρ with
    | .ok r ρ1 => match r with
      | .loc i => match frz (.loc i) ρ1 with
        | some (d, ρ2) => (dHold gs ρ2).add (.val d)
        | none => .no
      | .val d => (dHold gs ρ1).add (.val d)
      | .new d => (dHold gs ρ1).add (.new d)
    | _ => .no := rfl
@[simp] theorem s_setHs_nil : setHs [] [] ρ = some ρ := rfl
@[simp] theorem s_setHs_cons {is : List Nat} {r : RV} {rs : List RV} : setHs (i :: is) (r :: rs) ρ = match setH ρ i r with
    | some ρ1 => setHs is rs ρ1
    | none => none := rfl
@[simp] theorem s_setH_val : setH ρ i (.val d) = setV ρ i (.val d) := rfl
@[simp] theorem s_setH_new : setH ρ i (.new d) = setV ρ i (.own d) := rfl
@[simp] theorem s_dParH {is : List Nat} {gs : List Ev} : dParH is gs ρ = match dHold gs ρ with
  | .ok rs ρ1 => SR.of (setHs is rs ρ1)
  | .no => .no := rfl
@[simp] theorem s_rv_loc : (RV.loc i).settle = .loc i := rfl
end
end DL

/-! list(zip(x, y)): the tuples stay, so each is a new one. -/
namespace ZL
open PySem PySem.Calls PyProof.Rows PyProof.V PySem.Spec PySem.W
section
variable {prog : Program} {w : World} {A : Around} {E : Value → Shared → Prop} {s : Shared} {z TI TO T S i1 i2 : Addr} {fp1 fp2 : List Addr} {n1 n2 i : Nat} {P1 P2 : Nat → Value → Prop} {St1 St2 : Nat → Heap → Prop} {f : Bool} {oT : Obj}
theorem held_item {Q : Value → Shared → Prop} (Z : ZipSep2 z TI TO i1 i2 fp1 fp2) (D1 : Draws prog w A i1 fp1 n1 P1 St1) (D2 : Draws prog w A i2 fp2 n2 P2 St2)
    (hz : IsZipHeld s.heap z TI TO T f) (hT : s.heap.get? T = some oT) (hTI : IsTupOf2 s.heap TI (.ref i1) (.ref i2)) (st1 : St1 i s.heap) (st2 : St2 i s.heap) (hlt1 : i < n1) (hlt2 : i < n2)
    (hQ : ∀ x1 x2 h' tk, P1 i x1 → P2 i x2 → IsZipHeld h' z TI TO T true → St1 (i + 1) h' → St2 (i + 1) h' → IsTupOf2 h' s.heap.objs.size x1 x2 →
      (∀ c o, c ≠ z → c ≠ i1 → c ≠ i2 → s.heap.get? c = some o → h'.get? c = some o) → Q (.ref s.heap.objs.size) { s with heap := h', toks := tk }) :
    wpAny (model prog w) A (Builtin.«zip.__next__» ⟨[.ref z], []⟩) (fun fin s' => ∃ v, fin = .done (.ret v) ∧ Q v s') E s := by
  obtain ⟨hp, g, d, tk0, os⟩ := s
  show wpAny _ _ (field (.ref z) 2 >>= _) _ _ _
  refine wpAny_bind (wpAny_field hz rfl (x := .bool false) rfl ?_)
  show wpAny _ _ (field (.ref z) 3 >>= _) _ _ _
  refine wpAny_bind (wpAny_field hz rfl (x := .ref TI) rfl ?_)
  refine wpAny_bind (wpAny_seqItems hTI rfl ?_)
  show wpAny _ _ (Builtin.SmallTypes.ownedTupleIsFree (.ref z) >>= _) _ _ _
  refine wpAny_bind (wpAny_tupleHeld_zip hz hT fun g0 hz0 hs0 => ?_)
  replace hs0 : Heap.SameBut z hp g0 := hs0
  simp only [Bool.false_eq_true, if_false]
  refine wpAny_bind ?_
  rw [← Array.forIn_toList]
  simp only [List.forIn_cons, List.forIn_nil]
  refine wpAny_bind (wpAny_bind (wpAny_holding ?_))
  show wpAny _ _ (Builtin.SmallTypes.nextOf (.ref i1) >>= _) _ _ ⟨g0, g, d, tk0, os⟩
  refine wpAny_bind (D1.item i _ _ _ hlt1 (D1.over st1 hs0 Z.zf1) fun x1 p1 tk1 hx1 sn1 hp1 => wpAny_pure ?_)
  replace hp1 : Heap.SameBut i1 g0 p1 := hp1
  refine wpAny_pure ?_
  refine wpAny_bind (wpAny_bind (wpAny_holding ?_))
  show wpAny _ _ (Builtin.SmallTypes.nextOf (.ref i2) >>= _) _ _ ⟨p1, g, d, tk1, os⟩
  refine wpAny_bind (D2.item i _ _ _ hlt2 (D2.over (D2.over st2 hs0 Z.zf2) hp1 Z.sep1_2) fun x2 p2 tk2 hx2 sn2 hp2 => wpAny_pure ?_)
  replace hp2 : Heap.SameBut i2 p1 p2 := hp2
  refine wpAny_pure (wpAny_pure ?_)
  show wpAny _ _ (newTuple [x1, x2] >>= _) _ _ ⟨p2, g, d, tk2, os⟩
  refine wpAny_bind (wpAny_newTuple ?_)
  have hsz : p2.objs.size = hp.objs.size := by rw [hp2.1, hp1.1, hs0.1]
  have hz3 : IsZipHeld p2 z TI TO T true := hp2.extBut _ _ Z.zi2 (hp1.extBut _ _ Z.zi1 hz0)
  have hk : ∀ c o, c ≠ z → c ≠ i1 → c ≠ i2 → hp.get? c = some o → p2.get? c = some o := fun c o c1 c2 c3 e => hp2.extBut _ _ c3 (hp1.extBut _ _ c2 (hs0.extBut _ _ c1 e))
  have hj1 : St1 (i + 1) p2 := D1.over sn1 hp2 Z.sep2_1
  refine wpAny_pure ⟨_, rfl, ?_⟩
  show Q (.ref p2.objs.size) _
  have hp' : IsTupOf2 (p2.push { cls := .type "tuple", data := .seq #[x1, x2] }) p2.objs.size x1 x2 := Heap.get?_push_size _ rfl
  rw [hsz] at hp' ⊢
  exact hQ x1 x2 _ tk2 hx1 hx2 (Heap.get?_push_of_some _ hz3) (D1.frame _ _ _ hj1 fun b _ o e => Heap.get?_push_of_some _ e) (D2.frame _ _ _ sn2 fun b _ o e => Heap.get?_push_of_some _ e) hp' fun c o c1 c2 c3 e => Heap.get?_push_of_some _ (hk c o c1 c2 c3 e)
theorem held_end {Q : Fin → Shared → Prop} (Z : ZipSep2 z TI TO i1 i2 fp1 fp2) (D1 : Draws prog w A i1 fp1 n1 P1 St1) (D2 : Draws prog w A i2 fp2 n2 P2 St2)
    (hz : IsZipHeld s.heap z TI TO T f) (hT : s.heap.get? T = some oT) (hTI : IsTupOf2 s.heap TI (.ref i1) (.ref i2)) (st1 : St1 i s.heap) (st2 : St2 i s.heap) (hle1 : i ≤ n1) (hle2 : i ≤ n2) (hend : i = n1 ∨ i = n2)
    (hE : ∀ h' tk e, (∀ c o, c ≠ z → c ≠ i1 → c ≠ i2 → s.heap.get? c = some o → h'.get? c = some o) → (∃ o, h'.get? e = some o ∧ o.cls = .type "StopIteration") → E (.ref e) { s with heap := h', toks := tk }) :
    wpAny (model prog w) A (Builtin.«zip.__next__» ⟨[.ref z], []⟩) Q E s := by
  obtain ⟨hp, g, d, tk0, os⟩ := s
  show wpAny _ _ (field (.ref z) 2 >>= _) _ _ _
  refine wpAny_bind (wpAny_field hz rfl (x := .bool false) rfl ?_)
  show wpAny _ _ (field (.ref z) 3 >>= _) _ _ _
  refine wpAny_bind (wpAny_field hz rfl (x := .ref TI) rfl ?_)
  refine wpAny_bind (wpAny_seqItems hTI rfl ?_)
  show wpAny _ _ (Builtin.SmallTypes.ownedTupleIsFree (.ref z) >>= _) _ _ _
  refine wpAny_bind (wpAny_tupleHeld_zip hz hT fun g0 hz0 hs0 => ?_)
  replace hs0 : Heap.SameBut z hp g0 := hs0
  simp only [Bool.false_eq_true, if_false]
  refine wpAny_bind ?_
  rw [← Array.forIn_toList]
  simp only [List.forIn_cons, List.forIn_nil]
  refine wpAny_bind (wpAny_bind (wpAny_holding ?_))
  show wpAny _ _ (Builtin.SmallTypes.nextOf (.ref i1) >>= _) _ _ ⟨g0, g, d, tk0, os⟩
  by_cases hlt1 : i < n1
  · refine wpAny_bind (D1.item i _ _ _ hlt1 (D1.over st1 hs0 Z.zf1) fun x1 p1 tk1 hx1 sn1 hp1 => wpAny_pure ?_)
    replace hp1 : Heap.SameBut i1 g0 p1 := hp1
    have hi2 : i = n2 := by omega
    refine wpAny_pure ?_
    refine wpAny_bind (wpAny_bind (wpAny_holding ?_))
    show wpAny _ _ (Builtin.SmallTypes.nextOf (.ref i2) >>= _) _ _ ⟨p1, g, d, tk1, os⟩
    refine wpAny_bind (D2.done ⟨p1, g, d, tk1, os⟩ _ _ (by rw [← hi2]; exact D2.over (D2.over st2 hs0 Z.zf2) hp1 Z.sep1_2) fun q e hq he => ?_)
    replace hq : Heap.ExtBut i2 p1 q := hq
    exact hE q tk1 e (fun c o cz c1 c2 x => hq _ _ c2 (hp1.extBut _ _ c1 (hs0.extBut _ _ cz x))) he
  · have hi1 : i = n1 := by omega
    refine wpAny_bind (D1.done ⟨g0, g, d, tk0, os⟩ _ _ (by rw [← hi1]; exact D1.over st1 hs0 Z.zf1) fun q e hq he => ?_)
    replace hq : Heap.ExtBut i1 g0 q := hq
    exact hE q tk0 e (fun c o cz c1 c2 x => hq _ _ c1 (hs0.extBut _ _ cz x)) he
/-- where a zip stands before its turn i, S being a list that is made meanwhile -/
def ZSt (h : Heap) (z TI TO i1 i2 S : Addr) (St1 St2 : Nat → Heap → Prop) (i : Nat) : Prop :=
  IsTupOf2 h TI (.ref i1) (.ref i2) ∧ St1 i h ∧ St2 i h ∧
  ((∃ a1 a2, IsZip h z TI TO .none ∧ IsTupOf2 h TO a1 a2) ∨ ∃ T f oT, IsZipHeld h z TI TO T f ∧ h.get? T = some oT ∧ T ≠ z ∧ T ≠ i1 ∧ T ≠ i2 ∧ T ≠ S)
theorem zst_item {Q : Option Value → Shared → Prop} (Z : ZipSep2 z TI TO i1 i2 fp1 fp2) (D1 : Draws prog w A.in1 i1 fp1 n1 P1 St1) (D2 : Draws prog w A.in1 i2 fp2 n2 P2 St2)
    (st : ZSt s.heap z TI TO i1 i2 S St1 St2 i) (hS : S < s.heap.objs.size) (hlt1 : i < n1) (hlt2 : i < n2)
    (hQ : ∀ x1 x2 h' tk, P1 i x1 → P2 i x2 → ZSt h' z TI TO i1 i2 S St1 St2 (i + 1) → IsTupOf2 h' s.heap.objs.size x1 x2 →
      (∀ c o, c ≠ z → c ≠ TO → c ≠ i1 → c ≠ i2 → s.heap.get? c = some o → h'.get? c = some o) → Q (some (.ref s.heap.objs.size)) { s with heap := h', toks := tk }) :
    wpAny (model prog w) A (pyNext (.ref z)) Q E s := by
  obtain ⟨hTI, st1, st2, h⟩ := st
  obtain ⟨o1, l1⟩ := D1.live _ _ st1
  obtain ⟨o2, l2⟩ := D2.live _ _ st2
  rcases h with ⟨a1, a2, hz, hTO⟩ | ⟨T, f, oT, hz, hT, T1, T2, T3, T4⟩
  · refine wpAny_pyNext_zipD2_item Z D1 D2 hz hTI hTO st1 st2 hlt1 hlt2 fun x1 x2 h' tk y1 y2 b1 b2 d1 d2 b5 b6 b7 => hQ x1 x2 h' tk y1 y2 ⟨?_, d1, d2, .inr ⟨_, false, _, b1, b5, ?_, ?_, ?_, ?_⟩⟩ b5 b7
    · exact b7 _ _ Z.TIz Z.TITO Z.TIi1 Z.TIi2 hTI
    · exact Nat.ne_of_gt (Heap.lt_size hz)
    · exact Nat.ne_of_gt (Heap.lt_size l1)
    · exact Nat.ne_of_gt (Heap.lt_size l2)
    · exact Nat.ne_of_gt hS
  · have hTy : s.TypeIs (.ref z) "zip" := ⟨_, hz, rfl⟩
    unfold pyNext
    refine wpAny_bind (wpAny_attempt (wpAny_callSpecial?_slot (name := Str.ofString "__next__") hTy F.slot_zip_next
      (wpAny_call_entry F.slot_zip_next hTy F.entry_zip_next
        (held_item Z D1 D2 hz hT hTI st1 st2 hlt1 hlt2 fun x1 x2 h' tk y1 y2 b1 d1 d2 b5 b7 => wpAny_pure (hQ x1 x2 h' tk y1 y2 ⟨?_, d1, d2, .inr ⟨T, true, oT, b1, ?_, T1, T2, T3, T4⟩⟩ b5 fun c o c1 _ c3 c4 e => b7 c o c1 c3 c4 e)) (F.args_zip_next_1 _))))
    · exact b7 _ _ Z.TIz Z.TIi1 Z.TIi2 hTI
    · exact b7 _ _ T1 T2 T3 hT
theorem zst_done {Q : Option Value → Shared → Prop} (Z : ZipSep2 z TI TO i1 i2 fp1 fp2) (D1 : Draws prog w A.in1 i1 fp1 n1 P1 St1) (D2 : Draws prog w A.in1 i2 fp2 n2 P2 St2)
    (st : ZSt s.heap z TI TO i1 i2 S St1 St2 i) (hle1 : i ≤ n1) (hle2 : i ≤ n2) (hend : i = n1 ∨ i = n2)
    (hQ : ∀ h' tk, (∀ c o, c ≠ z → c ≠ TO → c ≠ i1 → c ≠ i2 → s.heap.get? c = some o → h'.get? c = some o) → Q none { s with heap := h', toks := tk }) :
    wpAny (model prog w) A (pyNext (.ref z)) Q E s := by
  obtain ⟨hTI, st1, st2, h⟩ := st
  rcases h with ⟨a1, a2, hz, hTO⟩ | ⟨T, f, oT, hz, hT, T1, T2, T3, T4⟩
  · exact wpAny_pyNext_zipD2_end Z D1 D2 hz hTI hTO st1 st2 hle1 hle2 hend hQ
  · have hTy : s.TypeIs (.ref z) "zip" := ⟨_, hz, rfl⟩
    unfold pyNext
    refine wpAny_bind (wpAny_attempt (wpAny_callSpecial?_slot (name := Str.ofString "__next__") hTy F.slot_zip_next
      (wpAny_call_entry F.slot_zip_next hTy F.entry_zip_next (held_end Z D1 D2 hz hT hTI st1 st2 hle1 hle2 hend fun h' tk e hk he => ?_) (F.args_zip_next_1 _))))
    obtain ⟨o, ho, hc⟩ := he
    refine wpAny_bind (wpAny_isInstance (T := "StopIteration") (b := true) ⟨o, ho, hc⟩ isSubtype_stop ?_)
    exact wpAny_pure (hQ _ _ fun c o c1 _ c3 c4 e => hk c o c1 c3 c4 e)
theorem ZSt.keep {h h' : Heap} (D1 : Draws prog w A i1 fp1 n1 P1 St1) (D2 : Draws prog w A i2 fp2 n2 P2 St2) (st : ZSt h z TI TO i1 i2 S St1 St2 i) (hk : ∀ b o, b ≠ S → h.get? b = some o → h'.get? b = some o)
    (hz : z ≠ S) (hTI : TI ≠ S) (hTO : TO ≠ S) (h1 : S ∉ fp1) (h2 : S ∉ fp2) : ZSt h' z TI TO i1 i2 S St1 St2 i := by
  obtain ⟨a, st1, st2, q⟩ := st
  refine ⟨hk _ _ hTI a, D1.frame _ _ _ st1 fun b hb o e => hk b o (fun x => h1 (x ▸ hb)) e, D2.frame _ _ _ st2 fun b hb o e => hk b o (fun x => h2 (x ▸ hb)) e, ?_⟩
  rcases q with ⟨a1, a2, b1, b2⟩ | ⟨T, f, oT, b1, b2, b3, b4, b5, b6⟩
  · exact .inl ⟨a1, a2, hk _ _ hz b1, hk _ _ hTO b2⟩
  · exact .inr ⟨T, f, oT, hk _ _ hz b1, hk _ _ b6 b2, b3, b4, b5, b6⟩
/-- the tuples that came -/
structure ZG (P1 P2 : Nat → Value → Prop) (lo : Addr) (h : Heap) (as : List Addr) : Prop where
  rise : as.Pairwise (· < ·)
  above : ∀ a ∈ as, lo ≤ a
  pairs : ∀ (j : Nat) (a : Addr), as[j]? = some a → ∃ x1 x2, P1 j x1 ∧ P2 j x2 ∧ IsTupOf2 h a x1 x2
theorem ZG.there {lo : Addr} {h : Heap} {as : List Addr} (g : ZG P1 P2 lo h as) {a : Addr} (ha : a ∈ as) : a < h.objs.size := by
  obtain ⟨j, hj⟩ := List.mem_iff_getElem?.mp ha
  obtain ⟨_, _, _, _, e⟩ := g.pairs j a hj
  exact Heap.lt_size e
theorem loop {R : Result → Shared → Prop} {n : Nat} (Z : ZipSep2 z TI TO i1 i2 fp1 fp2) (D1 : Draws prog w A.in1.in1 i1 fp1 n1 P1 St1) (D2 : Draws prog w A.in1.in1 i2 fp2 n2 P2 St2) (hn : n = min n1 n2) (hl : n ≤ sizeLine)
    (hzS : z ≠ S) (hTIS : TI ≠ S) (hTOS : TO ≠ S) (hS1 : S ∉ fp1) (hS2 : S ∉ fp2) (lo : Addr) (hlz : z < lo) (hlTO : TO < lo) (hl1 : i1 < lo) (hl2 : i2 < lo) (hSlo : S < lo) (res : Value) {h₁ : Heap}
    (hR : ∀ h' tk acc c as, (∀ b o, b ≠ S → b ≠ z → b ≠ TO → b ≠ i1 → b ≠ i2 → h₁.get? b = some o → h'.get? b = some o) → h'.get? S = some { cls := .type "list", dict := none, data := .seq acc c, slots := #[] } → as.length = n → ZG P1 P2 lo h' as →
      acc.toList = as.map Value.ref → R (.ok (.ret res)) { s with heap := h', toks := tk }) :
    ∀ (k i : Nat) (h : Heap) (tk c : Nat) (acc : Array Value) (as : List Addr), n - i = k → i ≤ n → ZSt h z TI TO i1 i2 S St1 St2 i → (∀ b o, b ≠ S → b ≠ z → b ≠ TO → b ≠ i1 → b ≠ i2 → h₁.get? b = some o → h.get? b = some o) →
      h.get? S = some { cls := .type "list", dict := none, data := .seq acc c, slots := #[] } → acc.toList = as.map Value.ref → as.length = i → ZG P1 P2 lo h as → lo ≤ h.objs.size →
      codeAny (model prog w) A (.builtin "list.extend.loop" ⟨[.ref S, .ref z, res], []⟩) R { s with heap := h, toks := tk } := by
  have hSi1 : S ≠ i1 := fun e => hS1 (e ▸ Z.mem1)
  have hSi2 : S ≠ i2 := fun e => hS2 (e ▸ Z.mem2)
  intro k
  induction k with
  | zero =>
    intro i h tk c acc as hk hi hst hkeep hS hacc hal hG hIs
    have hin : i = n := by omega
    refine codeAny_builtin PySem.F.entry_extend_loop ?_
    rw [Around.under_plainId PySem.F.plain_extend_loop _]
    show wpAny _ A.in1 (pyNext (.ref z) >>= _) _ _ _
    refine wpAny_bind (zst_done (s := { s with heap := h, toks := tk }) (A := A.in1) Z D1 D2 hst (by omega) (by omega) (by omega) fun h' tk' he => ?_)
    refine wpAny_pure (hR h' tk' acc c as (fun b o b1 b2 b3 b4 b5 e => he b o b2 b3 b4 b5 (hkeep b o b1 b2 b3 b4 b5 e)) (he S _ (Ne.symm hzS) (Ne.symm hTOS) hSi1 hSi2 hS) (by omega) ⟨hG.rise, hG.above, fun j a hj => ?_⟩ hacc)
    obtain ⟨x1, x2, e1, e2, e3⟩ := hG.pairs j a hj
    have ha := hG.above a (List.mem_of_getElem? hj)
    exact ⟨x1, x2, e1, e2, he a _ (Nat.ne_of_gt (Nat.lt_of_lt_of_le hlz ha)) (Nat.ne_of_gt (Nat.lt_of_lt_of_le hlTO ha)) (Nat.ne_of_gt (Nat.lt_of_lt_of_le hl1 ha)) (Nat.ne_of_gt (Nat.lt_of_lt_of_le hl2 ha)) e3⟩
  | succ k ih =>
    intro i h tk c acc as hk hi hst hkeep hS hacc hal hG hIs
    have hlt : i < n := by omega
    have hsz : acc.size = i := by rw [← Array.length_toList, hacc, List.length_map, hal]
    refine codeAny_builtin PySem.F.entry_extend_loop ?_
    rw [Around.under_plainId PySem.F.plain_extend_loop _]
    show wpAny _ A.in1 (pyNext (.ref z) >>= _) _ _ _
    refine wpAny_bind (zst_item (s := { s with heap := h, toks := tk }) (A := A.in1) Z D1 D2 hst (Heap.lt_size hS) (by omega) (by omega) fun x1 x2 h' tk' hx1 hx2 hst' ht hkp => ?_)
    dsimp only at ht hkp ⊢
    have hS' := hkp S _ (Ne.symm hzS) (Ne.symm hTOS) hSi1 hSi2 hS
    have up : ∀ b o, b ≠ S → h'.get? b = some o → (h'.update S (Obj.mapSeq (·.push (Value.ref h.objs.size)))).get? b = some o := fun b o hb e => (Heap.get?_update_other _ _ (Ne.symm hb)).trans e
    have hSl : S < h.objs.size := Heap.lt_size hS
    show wpAny _ A.in1 (updateSeq S (·.push (Value.ref h.objs.size)) >>= _) _ _ _
    refine wpAny_bind ?_
    refine wpAny_updateSeq hS' rfl (wpAny_pure ⟨plainId_quiet PySem.F.plain_extend_loop _, ih (i + 1) _ tk' _ (acc.push (Value.ref h.objs.size)) (as ++ [h.objs.size]) (by omega) hlt (hst'.keep D1 D2 up hzS hTIS hTOS hS1 hS2)
      (fun b o b1 b2 b3 b4 b5 e => up b o b1 (hkp b o b2 b3 b4 b5 (hkeep b o b1 b2 b3 b4 b5 e))) (Heap.get?_update_self _ hS' rfl) (by rw [Array.toList_push, hacc, List.map_append]; rfl) (by rw [List.length_append, hal]; rfl) ⟨?_, ?_, ?_⟩ ?_⟩) (by rw [hsz]; omega) (by show (acc.push (Value.ref h.objs.size)).size ≤ sizeLine + 1; rw [Array.size_push, hsz]; omega)
    · refine List.pairwise_append.mpr ⟨hG.rise, List.pairwise_singleton _ _, fun a ha b hb => ?_⟩
      rw [List.mem_singleton.mp hb]
      exact hG.there ha
    · intro a ha
      rcases List.mem_append.mp ha with ha | ha
      · exact hG.above a ha
      · rw [List.mem_singleton.mp ha]; exact hIs
    · intro j b hj
      rcases Nat.lt_trichotomy j as.length with h1 | h1 | h1
      · rw [List.getElem?_append_left h1] at hj
        obtain ⟨x1', x2', e1, e2, e3⟩ := hG.pairs j b hj
        have ha := hG.above b (List.mem_of_getElem? hj)
        exact ⟨x1', x2', e1, e2, up b _ (Nat.ne_of_gt (Nat.lt_of_lt_of_le hSlo ha)) (hkp b _ (Nat.ne_of_gt (Nat.lt_of_lt_of_le hlz ha)) (Nat.ne_of_gt (Nat.lt_of_lt_of_le hlTO ha)) (Nat.ne_of_gt (Nat.lt_of_lt_of_le hl1 ha)) (Nat.ne_of_gt (Nat.lt_of_lt_of_le hl2 ha)) e3)⟩
      · subst h1
        have hb : h.objs.size = b := by simpa using hj
        subst hb
        exact ⟨x1, x2, by rw [hal]; exact hx1, by rw [hal]; exact hx2, up _ _ (Nat.ne_of_gt hSl) ht⟩
      · have hnone : (as ++ [h.objs.size])[j]? = none := List.getElem?_eq_none (by rw [List.length_append, List.length_singleton]; omega)
        rw [hnone] at hj; cases hj
    · have e : (h'.update S (Obj.mapSeq (·.push (Value.ref h.objs.size)))).get? h.objs.size = _ := up _ _ (Nat.ne_of_gt hSl) ht
      exact Nat.le_trans hIs (Nat.le_of_lt (Heap.lt_size e))
theorem zip_no_len : typeLookup (.type "zip") "__len__" = pure none := am_miss_of_fast (by decide +kernel)
theorem zip_no_hint : typeLookup (.type "zip") "__length_hint__" = pure none := am_miss_of_fast (by decide +kernel)
theorem hint (hT : s.TypeIs (.ref z) "zip") {Q : Bool → Shared → Prop} (h : Q true s) : wpAny (model prog w) A (Builtin.List.listLengthHint (.ref z)) Q E s := by
  unfold Builtin.List.listLengthHint
  refine wpAny_bind (wpAny_specialOf hT zip_no_len ?_)
  simp only
  refine wpAny_ite_split (fun hab => absurd hab (by decide)) (fun _ => ?_)
  refine wpAny_bind (wpAny_specialOf hT zip_no_hint ?_)
  exact wpAny_pure h
end
end ZL

/-! list(zip(x, y)): the call. -/
namespace ZL
open PySem PySem.Calls PyProof.Rows PyProof.V PySem.Spec PySem.W
section
variable {prog : Program} {w : World} {A : Around} {E : Value → Shared → Prop} {s : Shared} {z TI TO T S i1 i2 : Addr} {fp1 fp2 : List Addr} {n1 n2 i n : Nat} {P1 P2 : Nat → Value → Prop} {St1 St2 : Nat → Heap → Prop} {a1 a2 : Value}
theorem extend {R : Result → Shared → Prop} (hh : A.handled = none) (Z : ZipSep2 z TI TO i1 i2 fp1 fp2) (D1 : ∀ B : Around, B.handled = none → Draws prog w B i1 fp1 n1 P1 St1) (D2 : ∀ B : Around, B.handled = none → Draws prog w B i2 fp2 n2 P2 St2)
    (hz : IsZip s.heap z TI TO .none) (hTI : IsTupOf2 s.heap TI (.ref i1) (.ref i2)) (hTO : IsTupOf2 s.heap TO a1 a2) (st1 : St1 0 s.heap) (st2 : St2 0 s.heap) (hn : n = min n1 n2) (hl : n ≤ sizeLine) (S : Addr) (hzS : z ≠ S) (hTIS : TI ≠ S) (hTOS : TO ≠ S) (hS1 : S ∉ fp1) (hS2 : S ∉ fp2)
    (res : Value) (c₀ : Nat) (hS : s.heap.get? S = some { cls := .type "list", data := .seq #[] c₀ })
    (hR : ∀ h' tk acc c as, (∀ b o, b ≠ S → b ≠ z → b ≠ TO → b ≠ i1 → b ≠ i2 → s.heap.get? b = some o → h'.get? b = some o) → h'.get? S = some { cls := .type "list", dict := none, data := .seq acc c, slots := #[] } → as.length = n → ZG P1 P2 s.heap.objs.size h' as →
      acc.toList = as.map Value.ref → R (.ok (.ret res)) { s with heap := h', toks := tk }) :
    wpAny (model prog w) A.in1 (Builtin.List.listExtendWith (.ref S) (.ref z) res)
      (fun fin s' => match fin with | .done f => R (.ok f) s' | .again c' => c'.quiet = true ∧ codeAny (model prog w) A c' R s') (fun e s' => R (.error e) s') s := by
  have hTy : s.TypeIs (.ref z) "zip" := ⟨_, hz, rfl⟩
  have hh2 : A.in1.in1.handled = none := hh
  have key : ∀ (h : Heap) (c₁ tk : Nat), (∀ b o, b ≠ S → s.heap.get? b = some o → h.get? b = some o) → s.heap.objs.size ≤ h.objs.size →
      h.get? S = some { cls := .type "list", data := .seq #[] c₁ } → codeAny (model prog w) A (.builtin "list.extend.loop" ⟨[.ref S, .ref z, res], []⟩) R { s with heap := h, toks := tk } := by
    intro h c₁ tk hk hsz hS₁
    have st : ZSt s.heap z TI TO i1 i2 S St1 St2 0 := ⟨hTI, st1, st2, .inl ⟨a1, a2, hz, hTO⟩⟩
    obtain ⟨o1, l1⟩ := (D1 _ hh).live _ _ st1
    obtain ⟨o2, l2⟩ := (D2 _ hh).live _ _ st2
    exact loop (s := s) (h₁ := s.heap) (n := n) Z (D1 _ hh2) (D2 _ hh2) hn hl hzS hTIS hTOS hS1 hS2 s.heap.objs.size (Heap.lt_size hz) (Heap.lt_size hTO) (Heap.lt_size l1) (Heap.lt_size l2) (Heap.lt_size hS) res
      hR n 0 h tk c₁ #[] [] (Nat.sub_zero _) (Nat.zero_le _) (st.keep (D1 _ hh) (D2 _ hh) hk hzS hTIS hTOS hS1 hS2) (fun b o b1 _ _ _ _ e => hk b o b1 e) hS₁ rfl rfl
      ⟨List.Pairwise.nil, (fun _ ha => nomatch ha), (fun j a hj => by simp at hj)⟩ hsz
  unfold Builtin.List.listExtendWith
  refine wpAny_bind (wpAny_typeOf (T := "zip") hTy ?_)
  have h1 : Builtin.List.listSameRef (.ref S) (.ref z) = false := by simp [Builtin.List.listSameRef, Ne.symm hzS]
  have h2 : (Value.type "zip" == Value.type "list") = false := by decide
  have h3 : (Value.type "zip" == Value.type "tuple") = false := by decide
  simp only [h1, h2, h3, Bool.or_false, Bool.false_eq_true, if_false]
  refine wpAny_bind (wpAny_pyIter_zip hz ?_)
  refine wpAny_bind (wpAny_holding (hint hTy ?_))
  refine wpAny_ite_split (fun _ => ?_) (fun _ => wpAny_pure ⟨plainId_quiet PySem.F.plain_extend_loop _, key _ c₀ _ (fun b o _ e => e) (Nat.le_refl _) hS⟩)
  refine wpAny_bind (wpAny_rule ?_)
  refine wpAny_bind ?_
  show wpAny _ _ (updateSeq S (·.push .none) >>= fun _ => updateSeq S (·.pop)) _ _ _
  refine wpAny_bind (wpAny_updateSeq hS rfl ?_)
  have hS₂ := Heap.get?_update_self (Obj.mapSeq (·.push Value.none)) hS rfl
  refine wpAny_updateSeq (hz := by seq_fits) hS₂ rfl ?_
  have hS₃ := Heap.get?_update_self (Obj.mapSeq (·.pop)) hS₂ rfl
  refine wpAny_pure ⟨plainId_quiet PySem.F.plain_extend_loop _, key _ _ _ (fun b o hb e => ?_) ?_ hS₃⟩
  · exact (Heap.get?_update_other _ _ (Ne.symm hb)).trans ((Heap.get?_update_other _ _ (Ne.symm hb)).trans e)
  · show s.heap.objs.size ≤ ((s.heap.update S _).update S _).objs.size
    rw [Heap.size_update, Heap.size_update]
    exact Nat.le_refl _
theorem call_list {Q : Value → Shared → Prop} (hh : A.handled = none) (Z : ZipSep2 z TI TO i1 i2 fp1 fp2) (D1 : ∀ B : Around, B.handled = none → Draws prog w B i1 fp1 n1 P1 St1) (D2 : ∀ B : Around, B.handled = none → Draws prog w B i2 fp2 n2 P2 St2)
    (hz : IsZip s.heap z TI TO .none) (hTI : IsTupOf2 s.heap TI (.ref i1) (.ref i2)) (hTO : IsTupOf2 s.heap TO a1 a2) (st1 : St1 0 s.heap) (st2 : St2 0 s.heap) (f1 : ∀ b ∈ fp1, b < s.heap.objs.size) (f2 : ∀ b ∈ fp2, b < s.heap.objs.size) (hn : n = min n1 n2) (hl : n ≤ sizeLine)
    (hQ : ∀ h' tk acc c as, (∀ b o, b ≠ z → b ≠ TO → b ≠ i1 → b ≠ i2 → s.heap.get? b = some o → h'.get? b = some o) → h'.get? s.heap.objs.size = some { cls := .type "list", dict := none, data := .seq acc c, slots := #[] } → as.length = n → ZG P1 P2 (s.heap.objs.size + 1) h' as →
      acc.toList = as.map Value.ref → Q (.ref s.heap.objs.size) { s with heap := h', toks := tk }) :
    wpAny (model prog w) A (call (.type "list") [.ref z]) Q E s := by
  refine callType_codes (Q₁ := fun obj s₁ => obj = .ref s.heap.objs.size ∧ s₁ = { s with heap := s.heap.push { cls := .type "list", data := .seq #[] } }) PySem.F.called_list (PySem.F.typeCall_list_1 _) PySem.F.entry_list_init
    (code_list_new _ ⟨rfl, rfl⟩) fun obj s₁ h₁ => ?_
  obtain ⟨rfl, rfl⟩ := h₁
  have hS : (s.heap.push { cls := .type "list", data := .seq #[] }).get? s.heap.objs.size = some { cls := .type "list", data := .seq #[] } := Heap.get?_push_size _ rfl
  refine ⟨⟨_, hS, rfl⟩, PySem.F.args_list_init_2 _ _, ?_⟩
  have up : ∀ b o, b ≠ s.heap.objs.size → s.heap.get? b = some o → ((s.heap.push { cls := .type "list", data := .seq #[] }).update s.heap.objs.size (Obj.mapSeq (fun _ => (#[] : Array Value)))).get? b = some o :=
    fun b o hb e => (Heap.get?_update_other _ _ (Ne.symm hb)).trans (Heap.get?_push_of_some _ e)
  have lo : ∀ {b o}, s.heap.get? b = some o → b ≠ s.heap.objs.size := fun e => Nat.ne_of_lt (Heap.lt_size e)
  show wpAny _ _ (do let old ← Builtin.List.listItems (.ref s.heap.objs.size); Builtin.List.listUpdate (.ref s.heap.objs.size) (fun _ => #[]); letGo old.toList.reverse; Builtin.List.listExtendWith (.ref s.heap.objs.size) (.ref z) .none) _ _ _
  refine wpAny_bind ?_
  unfold Builtin.List.listItems
  refine wpAny_bind (wpAny_seqItems hS rfl (wpAny_pure ?_))
  show wpAny _ _ (updateSeq s.heap.objs.size (fun _ => #[]) >>= fun _ => letGo (#[] : Array Value).toList.reverse >>= fun _ => Builtin.List.listExtendWith (.ref s.heap.objs.size) (.ref z) .none) _ _ _
  refine wpAny_bind (wpAny_updateSeq hS rfl ?_)
  have hS₂ := Heap.get?_update_self (Obj.mapSeq (fun _ => (#[] : Array Value))) hS rfl
  refine wpAny_bind (wpAny_letGo ?_)
  have hsz : ((s.heap.push { cls := .type "list", data := .seq #[] }).update s.heap.objs.size (Obj.mapSeq (fun _ => (#[] : Array Value)))).objs.size = s.heap.objs.size + 1 := by rw [Heap.size_update, Heap.size_push]
  have hh1 : A.in1.handled = none := hh
  refine extend (A := A.in1) (n := n) hh1 Z D1 D2 (up _ _ (lo hz) hz) (up _ _ (lo hTI) hTI) (up _ _ (lo hTO) hTO) ((D1 _ hh).frame _ _ _ st1 fun b hb o e => up b o (lo e) e) ((D2 _ hh).frame _ _ _ st2 fun b hb o e => up b o (lo e) e) hn hl s.heap.objs.size (lo hz) (lo hTI) (lo hTO)
    (fun hb => Nat.lt_irrefl _ (f1 _ hb)) (fun hb => Nat.lt_irrefl _ (f2 _ hb)) .none _ hS₂ (fun h' tk acc c as hk hS' hl' hG hacc => ?_)
  exact ⟨rfl, hQ h' tk acc c as (fun b o b1 b2 b3 b4 e => hk b o (lo e) b1 b2 b3 b4 (up b o (lo e) e)) hS' hl' (by rw [← hsz]; exact hG) hacc⟩
end
end ZL

/-! walks over the keys of a dict. -/
namespace DL
open PySem PySem.Spec L2
variable [HasW]
def ItXk (d : Addr) (o : Obj) (es : List Ent) : It :=
  ⟨fun i H => H d = some (.frz o (dxO d es)) ∧ i < es.length, fun i H v H' => H' = H ∧ ∃ e, es[i]? = some e ∧ v = .ref e.2.1, fun i H => H d = some (.frz o (dxO d es)) ∧ es.length ≤ i⟩
theorem jd_dkt {K : PySem.W.Frag} {F : Hp} {d : Addr} {o : Obj} {ks xs : List D} {es : List Ent} (h : F d = some (.frz o (dxO d es))) (l : ks.map kOf = es.map (fun e => some e.1)) (rk : Reps K F ks (es.map fun e => .ref e.2.1)) (r : Reps K F xs (es.map (·.2.2))) : JD K F (ItXk d o es) ks := fun H1 F1 s1 s2 => by
  have hd : H1 d = some (.frz o (dxO d es)) := s2 _ _ (s1 _ _ h)
  have rk1 := Reps.mono s1 _ _ rk
  have lw : ks.length = es.length := by have := congrArg List.length l; simpa using this
  refine ⟨fun i e he => ?_, ⟨hd, by rw [lw]; exact Nat.le_refl _⟩⟩
  have hi : i < es.length := by rw [← lw]; exact (List.getElem?_eq_some_iff.mp he).1
  refine ⟨⟨hd, hi⟩, fun x H2 y => ?_⟩
  obtain ⟨rfl, e1, he1, rfl⟩ := y
  obtain ⟨v, hv, rv⟩ := rk1.get he
  rw [List.getElem?_map, he1] at hv
  cases hv
  exact ⟨_, Ext.refl s2, rv⟩
section
variable {P : Program} {w : World} {K : PySem.W.Frag} {d : Addr} {o : Obj} {des : Array DictEntry} {ep : Nat}
theorem turn_keysX {es : List Ent} {tg : Expr} (it : Addr) (hod : o.data = .dict des ep) (hsz : des.size = es.length) :
    Turn P w K tg (ItXk d o es) [it] it (fun i h => h.IsKeyIter it d i es.length ep) where
  mem := by simp
  obj := fun i h st b hb => by
    have e : b = it := by simpa using hb
    subst e
    obtain ⟨oi, e, c, dd⟩ := st
    exact ⟨oi, e, fun v z => by rw [dd] at z; cases z⟩
  keep := fun i h h' st k => st.at fun oi e => k it (by simp) oi e
  item := by
    intro X hP hw hK hc i pins s σ H E I hf st hg
    subst hP hw hK
    obtain ⟨hd, hi⟩ := hg
    obtain ⟨f0, f1, f2, f3, f4, f5⟩ := hf it (by simp)
    obtain ⟨hs, hgd, hx, des', ep', us, hdt, rv, he0⟩ := frzX I hd
    obtain ⟨rfl, rfl⟩ := dict_ep hod hdt
    obtain ⟨e, hei⟩ : ∃ p, es[i]? = some p := ⟨es[i], List.getElem?_eq_getElem hi⟩
    obtain ⟨u, hu, ru⟩ := entsOf_get rv hei
    have hen : des'[i]? = some (entryH e.1 e.2.1 u) := by rw [← Array.getElem?_toList, he0, hu]
    refine next_key_item st hgd hdt hsz hen fun h' st' sb => ?_
    have I1 : Inv X pins σ H { s with heap := h' } := I.turned (t' := s.toks) (fun b ob hb e => (sb.2 b hb).trans e) f0 f1 f3 f4 f5
    obtain ⟨oi, e', c, dd⟩ := id st'
    exact ⟨.ref e.2.1, rfl, go_of (s := { s with heap := h' }) e' c dd (by decide) ⟨.ref e.2.1, H, I1, rfl, ⟨rfl, e, hei, rfl⟩, st', fun b hb => (hf b hb).1⟩⟩
  done := by
    intro X hP hw hK hc i pins s σ H E I hf st hg
    subst hP hw hK
    obtain ⟨hd, hi⟩ := hg
    obtain ⟨f0, f1, f2, f3, f4, f5⟩ := hf it (by simp)
    obtain ⟨hs, hgd, hx, des', ep', us, hdt, rv, he0⟩ := frzX I hd
    obtain ⟨rfl, rfl⟩ := dict_ep hod hdt
    exact next_key_end (I.ok.hd hc) st hgd hdt hsz hi fun h' eb => ⟨rfl, I.turned (t' := s.toks) (fun b ob hb e => eb b ob hb e) f0 f1 f3 f4 f5⟩
  self := fun A i s Q E st h => by
    refine wpAny_pyIter_slot st.typeIs PySem.F.slot_dict_keyiterator_iter (wpAny_call_entry PySem.F.slot_dict_keyiterator_iter st.typeIs PySem.F.entry_dict_keyiterator_iter ?_ (PySem.F.args_dict_keyiterator_iter_1 _))
    show wpAny _ _ (ret (.ref it)) _ _ s
    exact wpAny_pure ⟨_, rfl, "dict_keyiterator", _, st.typeIs, PySem.F.slot_dict_keyiterator_next.lookup, h⟩
end
def iKeysX (td : TE) : TI := fun σ H R => td σ H fun x H1 => ∃ d o es, x = .ref d ∧ H1 d = some (.frz o (dxO d es)) ∧ R (ItXk d o es) H1
theorem pi_keysX {X : Cx} {e tg : Expr} {td : TE} (he : PE X e td) : PI X tg e (iKeysX td) := by
  refine ⟨fun pins s σ H R I h => ?_⟩
  refine thn (he.run pins s σ H _ I h) fun u s1 ⟨x, H1, I1, rx, d, o, es, ex, hd, q⟩ => ?_
  subst ex
  obtain rfl : u = Value.ref d := rx
  obtain ⟨hs, hgd, hx, des, ep, us, hdt, rv, he0⟩ := frzX I1 hd
  have hl : des.size = es.length := by rw [← Array.length_toList, he0, entsOf_length rv]
  refine iter_keys hs hgd hx hdt (pi_one (tk := s1.toks) I1 _ (turn_keysX _ hdt hl) ⟨_, Heap.get?_push_size _ rfl, rfl, ?_⟩ q)
  rw [hl] <;> rfl
def iDkt (i : Nat) : Iv := fun ρ => match dctAt ρ i with
  | some (ks, xs, ρ1) => .ok ks ρ1
  | none => .no
def dLcK (i : Nat) (vs : List Nat) (ft : D → Env → Option Env) (gt ge : Ev) : Ev := fun ρ => offEx (dLc (iDkt i) vs ft gt ge ρ)
section
variable {K : PySem.W.Frag} {W : WX} {ft : D → Env → Option Env} {gt ge : Ev} {tch : List Nat} {vs : List Nat} {i : Nat}
/-- the walk, the dict being locked -/
theorem ec_walkK {α : Nat → Addr} {ρ : Env} {σ : L2.St} {H F G : Hp} {R : It → Hp → Prop} {d : Addr} {o : Obj} {ks xs : List D} {es : List Ent} (f : Fits K α ρ σ H F G) (hs : ρ[i]? = some (.val (.dct ks xs))) (hv : σ[i]? = some (some (.ref d))) (hF : F d = some (.frz o (dxO d es))) (l : ks.map kOf = es.map (fun e => some e.1)) (rk : Reps K F ks (es.map fun e => .ref e.2.1)) (r : Reps K F xs (es.map (·.2.2)))
    (h : IC K W0 α σ F G R (iDkt i ρ)) : iKeysX (tVar i) σ H R := by
  have e2 : iDkt i ρ = .ok (ks) ρ := by unfold iDkt dctAt; rw [hs]
  rw [e2] at h
  exact ⟨.ref d, hv, d, o, _, rfl, f.fh _ _ hF, h _ H F (Grow.refl _ _) f (jd_dkt hF l rk r)⟩
theorem ec_lcK_val {α : Nat → Addr} {ρ : Env} {σ : L2.St} {H F G : Hp} {Q : VK} {ks xs : List D} (ht : ∀ j ∈ tch, j ∈ vs) (f : Fits K α ρ σ H F G) (hs : ρ[i]? = some (.val (.dct ks xs))) (h : EC K W α σ F G Q (dLcK i vs ft gt ge ρ)) :
    tLockE (tLc (iKeysX (tVar i)) (tG K tch ft) (tT K W0 gt) (tE K W0 ge) vs) σ H Q ∨ tLc (iKeysX (tVar i)) (tG K tch ft) (tT K W0 gt) (tE K W0 ge) vs σ H Q := by
  obtain ⟨x, hx, v, rfl, d, es, rfl, rd, l, rk, r⟩ := f.slot i _ hs
  rcases rd with hF | ⟨o, hF⟩
  · refine .inl ⟨d, _, f.fh _ _ hF, trivial, fun od => ?_⟩
    let z : HO := .frz od (dxO d es)
    have hH : H d = some (dxO d es) := f.fh _ _ hF
    have al : Alike F (upd F d z) := alike_lockX hF
    have f0 : Fits K α ρ σ (upd H d z) (upd F d z) (updIf G d z) := f.told hF al (fun b => updIf_none) (fun b u e => by
      by_cases q : b = d
      · subst q
        rw [upd_same]
        have e' : (match G b with | some _ => some z | none => none) = some u := by
          have := e
          unfold updIf at this
          rw [if_pos rfl] at this
          exact this
        cases e2 : G b with
        | none => rw [e2] at e'; cases e'
        | some w => rw [e2] at e'; exact e'
      · rw [updIf_ne q] at e
        rw [upd_ne q]
        exact f.gh _ _ e)
    refine ec_lc_at (W := W0) ht f0 (fun R q => ec_walkK f0 hs hx upd_same l (Reps.alike al _ _ rk) (Reps.alike al _ _ r) q) ?_
    have key : ∀ {e : ER}, EC K W α σ F G Q (offEx e) → EC K W0 α σ (upd F d z) (updIf G d z) (fun v H' => H' d = some (.frz od (dxO d es)) ∧ Q v (upd H' d (dxO d es))) e := by
      intro e h
      cases e with
      | no => exact h
      | ex x ρ1 => exact h.elim
      | ok rv ρ1 =>
        intro v H' F' g1 f1 r1
        have hz : F' d = some z := g1.sub _ _ upd_same
        have hz2 : H' d = some z := f1.fh _ _ hz
        refine ⟨hz2, ?_⟩
        have al2 : Alike F' (upd F' d (dxO d es)) := alike_openX hz
        have f2 : Fits K α ρ1 σ (upd H' d (dxO d es)) (upd F' d (dxO d es)) G := f1.told hz al2 (fun b => updIf_none.symm) (fun b u e => by
          by_cases q : b = d
          · subst q
            have := f.gh _ _ e
            rw [hH] at this
            cases this
            exact upd_same
          · rw [upd_ne q]
            exact f1.gh _ _ (by rw [updIf_ne q]; exact e))
        have g2 : Grow G F (upd F' d (dxO d es)) := by
          refine ⟨fun a o e => ?_, fun a o e => ?_⟩
          · by_cases q : a = d
            · subst q
              rw [hF] at e
              cases e
              exact upd_same
            · rw [upd_ne q]
              exact g1.sub _ _ (by rw [upd_ne q]; exact e)
          · by_cases q : a = d
            · subst q
              rw [upd_same] at e
              cases e
              exact .inl hF
            · rw [upd_ne q] at e
              rcases g1.new a o e with w | ⟨w1, w2⟩
              · rw [upd_ne q] at w
                exact .inl w
              · exact .inr ⟨(upd_none hF).mp w1, updIf_none.mp w2⟩
        refine h v _ _ g2 f2 ?_
        cases rv with
        | val dd => exact Rep.alike al2 _ _ r1
        | loc j => exact r1
        | new dd =>
          obtain ⟨a, rfl, fa, ga, c, sp⟩ := r1
          have ne : a ≠ d := fun q => by rw [q, hz] at fa; cases fa
          exact ⟨a, rfl, by rw [upd_ne ne]; exact fa, updIf_none.mp ga, c.alike al2 fun w q => by rw [upd_ne ne]; exact q, sp⟩
    exact key h
  · exact .inr (ec_lc_at (W := W0) ht f (fun R q => ec_walkK f hs hx hF l rk r q) (EC.off h))
theorem dctAtK_own {ρ : Env} {i : Nat} {ks xs : List D} (h : ρ[i]? = some (.own (.dct ks xs))) : dLcK i vs ft gt ge ρ = dLcK i vs ft gt ge (ρ.set i (.val (.dct ks xs))) := by
  have hi : i < ρ.length := (List.getElem?_eq_some_iff.mp h).1
  have e : iDkt i ρ = iDkt i (ρ.set i (.val (.dct ks xs))) := by
    unfold iDkt dctAt
    rw [h, List.getElem?_set_self hi]
  unfold dLcK dLc
  rw [e]
theorem ec_lcK {σ : L2.St} {H : Hp} {Q : VK} (ht : ∀ j ∈ tch, j ∈ vs) (h : tE K W (dLcK i vs ft gt ge) σ H Q) :
    tLockE (tLc (iKeysX (tVar i)) (tG K tch ft) (tT K W0 gt) (tE K W0 ge) vs) σ H Q ∨ tLc (iKeysX (tVar i)) (tG K tch ft) (tT K W0 gt) (tE K W0 ge) vs σ H Q := by
  obtain ⟨α, ρ, F, G, f, h⟩ := h
  have no : dctAt ρ i = none → False := fun e => by
    have : dLcK i vs ft gt ge ρ = .no := by
      unfold dLcK dLc iDkt
      rw [e]
      rfl
    rw [this] at h
    exact h
  cases e : ρ[i]? with
  | none => exact (no (by unfold dctAt; rw [e])).elim
  | some s =>
    cases s with
    | non => exact (no (by unfold dctAt; rw [e])).elim
    | bor d => exact (no (by unfold dctAt; rw [e])).elim
    | val d =>
      cases d with
      | dct ks xs => exact ec_lcK_val ht f e h
      | _ => exact (no (by unfold dctAt; rw [e])).elim
    | own d =>
      cases d with
      | dct ks xs =>
        obtain ⟨x, hx, a, rfl, _⟩ := f.slot i _ e
        obtain ⟨F1, g1, f1, r1⟩ := f.freeze e hx
        have hi : i < ρ.length := (List.getElem?_eq_some_iff.mp e).1
        rw [dctAtK_own e] at h
        exact ec_lcK_val ht f1 (List.getElem?_set_self hi) (EC.mono g1 h)
      | _ => exact (no (by unfold dctAt; rw [e])).elim
end
section
variable {X : Cx} {W : WX} {elt e : Expr} {elts : List Expr} {kk : Nat} {tpos : Pos} {ifs : List Expr} {scope : Scope} {own : List (Str × Nat)} {ft : D → Env → Option Env} {gt ge : Ev} {tch : List Nat} {pos apos cpos : Pos} {i : Nat}
theorem ed_lcK {iter tg : Expr} (hc : X.calm = true) (hN : X.N.Nodup) (ok : BlkOk X.N X.env.scope scope own) (ht : ∀ j ∈ tch, j ∈ own.map (·.2)) (hi : PI X tg iter (iKeysX (tVar i)))
    (hg : ∀ (s : Shared) (H : Hp) (C : Addr) (cl : List (Str × Addr)) (fp : List Addr), PG (X.blk s H scope (compEnvC scope cl C X.env) fp) tg (tG X.K tch ft)) (hif : ∀ (s : Shared) (H : Hp) (C : Addr) (cl : List (Str × Addr)) (fp : List Addr), PTs (X.blk s H scope (compEnvC scope cl C X.env) fp) ifs (tT X.K W0 gt))
    (he : ∀ (s : Shared) (H : Hp) (C : Addr) (cl : List (Str × Addr)) (fp : List Addr), PE (X.blk s H scope (compEnvC scope cl C X.env) fp) elt (tE X.K W0 ge)) (hs : ∀ x, foldedSetIterable iter X.env x = pure x := by intro _; rfl) :
    PE X (.ListComp elt [⟨tg, iter, ifs, 0⟩] scope pos) (tE X.K W (dLcK i (own.map (·.2)) ft gt ge)) := by
  have p := pe_lc (pos := pos) hc hN hi ok hg hif he hs
  exact (PE.or (pe_lock p) p).weak fun σ H Q h => ec_lcK ht h
theorem iw_keysN {tg : Expr} (he : PE X e (tVar i)) : PI X tg e (iWalk .keys (tVar i)) := ⟨fun pins s σ H R I h => by
  obtain ⟨x, hx, d, o, kvs, ex, hd, q⟩ := h
  exact (pi_keys he).run pins s σ H R I ⟨x, hx, d, o, ex, .inl ⟨kvs, hd, q⟩⟩⟩
/-- [.. for a in d], whatever d is -/
theorem ed_lcN {iter tg : Expr} {gi : Iv} (hc : X.calm = true) (hN : X.N.Nodup) (ok : BlkOk X.N X.env.scope scope own) (ht : ∀ j ∈ tch, j ∈ own.map (·.2)) (hv : PE X iter (tVar i)) (hi : PI X tg iter (tI X.K W gi))
    (hg : ∀ (s : Shared) (H : Hp) (C : Addr) (cl : List (Str × Addr)) (fp : List Addr), PG (X.blk s H scope (compEnvC scope cl C X.env) fp) tg (tG X.K tch ft)) (hif : ∀ (s : Shared) (H : Hp) (C : Addr) (cl : List (Str × Addr)) (fp : List Addr), PTs (X.blk s H scope (compEnvC scope cl C X.env) fp) ifs (tT X.K W0 gt))
    (he : ∀ (s : Shared) (H : Hp) (C : Addr) (cl : List (Str × Addr)) (fp : List Addr), PE (X.blk s H scope (compEnvC scope cl C X.env) fp) elt (tE X.K W0 ge)) (hs : ∀ x, foldedSetIterable iter X.env x = pure x := by intro _; rfl) :
    PE X (.ListComp elt [⟨tg, iter, ifs, 0⟩] scope pos) (tE X.K W (orE (dLcK i (own.map (·.2)) ft gt ge) (orE (dLcD .keys i (own.map (·.2)) ft gt ge) (dLc gi (own.map (·.2)) ft gt ge)))) :=
  ed_orE (ed_lcK hc hN ok ht (pi_keysX hv) hg hif he hs) (ed_orE (ed_lcD hc hN ok ht (iw_keysN hv) hg hif he hs) (ed_lc hc hN ok ht hi hg hif he hs))
end
end DL

/-! slots that are not lent, sorting: for plain laws. -/
namespace DL
open PySem PySem.Spec L2 PySem.W PyProof.Rows
def NB (x : Slot) : Prop := ∀ d, x ≠ .bor d
theorem nb_non : NB .non := fun d h => by cases h
theorem nb_val (d : D) : NB (.val d) := fun e h => by cases h
theorem nb_own (d : D) : NB (.own d) := fun e h => by cases h
theorem setV_nb {ρ : Env} {i : Nat} {x s : Slot} (h : ρ[i]? = some x) (hx : NB x) : setV ρ i s = some (ρ.set i s) := by
  unfold setV
  rw [h]
  cases x with
  | bor d => exact absurd rfl (hx d)
  | _ => rfl
/-- holds nothing of its own -/
def NW (x : Slot) : Prop := x.owns = false
theorem nw_non : NW .non := rfl
theorem nw_val (d : D) : NW (.val d) := rfl
theorem NW.nb {x : Slot} (h : NW x) : NB x := fun d e => by subst e; cases h
theorem intsD_map : ∀ l : List Int, intsD (l.map .int) = some l
  | [] => rfl
  | x :: l => by
    show (intsD (l.map .int)).map (x :: ·) = _
    rw [intsD_map l]
    rfl
theorem sortD_perm {l l' : List D} (p : l.Perm l') (inj : ∀ a ∈ l, ∀ b ∈ l, keyToks (sortKey a) = keyToks (sortKey b) → a = b) : sortD l = sortD l' := by
  have T : TotalLe (dataLe false sortKey) := sortLe_total _ _ _
  have p1 : (sortD l).Perm l := List.mergeSort_perm l _
  have p2 : (sortD l').Perm l' := List.mergeSort_perm l' _
  have q : (sortD l).Perm (sortD l') := p1.trans (p.trans p2.symm)
  refine List.Perm.eq_of_pairwise (le := fun a b => dataLe false sortKey a b = true) ?_ (sort_pairwise T l) (sort_pairwise T l') q
  intro a b ha hb h1 h2
  have ha' : a ∈ l := p1.subset ha
  have hb' : b ∈ l := p.symm.subset (p2.subset hb)
  refine inj a ha' b hb' ?_
  have h1' : (!(listOrd itemOrd).blt (keyToks (sortKey b)) (keyToks (sortKey a))) = true := h1
  have h2' : (!(listOrd itemOrd).blt (keyToks (sortKey a)) (keyToks (sortKey b))) = true := h2
  rw [Bool.not_eq_true'] at h1' h2'
  exact (listOrd itemOrd).total _ _ h2' h1'
end DL

/-! tuple * n, n at most 1000, negative too. -/
namespace DL
open PySem PySem.Spec L2 PyProof.Rows
variable [HasW]
section
theorem tuple_mul1 (l : Addr) (items : Array Value) (n : Nat) (dd : Option Addr) (sl : Array (Option Value)) (u : Tok) :
    Meets (Builtin.«tuple.__mul__» ⟨[.ref l, .int 1 u], []⟩) (fun _ R s => s.heap.get? l = some { cls := .type "tuple", dict := dd, data := .seq items n, slots := sl } ∧
      R (.ok (.ret (Value.ref l))) s) :=
  .of_wp fun prog w A R s h => by
    obtain ⟨hp, g, d, tk, os⟩ := s
    obtain ⟨hl, h⟩ := h
    have f1 := AutoSeq1.idx_int
    have c0 : (decide ((1 : Int) < -(2 ^ 63)) || decide ((1 : Int) ≥ 2 ^ 63)) = false := by decide
    have c1 : (items.isEmpty || (1 : Int) == 1) = true := by simp
    wp_walk using wpAny_loadPart' hl
    repeat (first
      | (refine wpAny_ite_false (decide_eq_false (by rw [c0]; exact Bool.false_ne_true)) ?_; wp_walk using wpAny_loadPart' hl)
      | (refine wpAny_ite_true (decide_eq_true c1) ?_; wp_walk using wpAny_loadPart' hl))
    exact ⟨_, rfl, h⟩
theorem tuple_mul0 (l : Addr) (items : Array Value) (n : Nat) (dd : Option Addr) (sl : Array (Option Value)) (x : Int) (u : Tok) (c0 : (decide (x < -(2 ^ 63)) || decide (x ≥ 2 ^ 63)) = false) (c1 : (items.isEmpty || x == 1) = false) (c2 : (decide (x ≤ 0) || items.isEmpty) = true) :
    Meets (Builtin.«tuple.__mul__» ⟨[.ref l, .int x u], []⟩) (fun _ R s => s.heap.get? l = some { cls := .type "tuple", dict := dd, data := .seq items n, slots := sl } ∧
      R (.ok (.ret (Value.ref s.heap.objs.size))) { s with heap := s.heap.push { cls := Value.type "tuple", data := Data.seq #[] }, toks := s.toks }) :=
  .of_wp fun prog w A R s h => by
    obtain ⟨hp, g, d, tk, os⟩ := s
    obtain ⟨hl, h⟩ := h
    have f1 := AutoSeq1.idx_int
    wp_walk using wpAny_loadPart' hl
    repeat (first
      | (refine wpAny_ite_false (decide_eq_false (by rw [c0]; exact Bool.false_ne_true)) ?_; wp_walk using wpAny_loadPart' hl)
      | (refine wpAny_ite_false (decide_eq_false (by rw [c1]; exact Bool.false_ne_true)) ?_; wp_walk using wpAny_loadPart' hl)
      | (refine wpAny_ite_true (decide_eq_true c2) ?_; wp_walk using wpAny_loadPart' hl))
    exact ⟨_, rfl, h⟩
end
def rRepT1 (K : PySem.W.Frag) : R2 := fun x y H Q => ∃ l xs, x = .ref l ∧ y = .int 1 ∧ SqT K H l xs ∧ Q x H
def rRepT0 (K : PySem.W.Frag) : R2 := fun x y H Q => ∃ l k xs, x = .ref l ∧ y = .int k ∧ SqT K H l xs ∧ xs ≠ [] ∧ -(2 ^ 63) ≤ k ∧ k ≤ 0 ∧ ∀ p, H p = none → Q (.ref p) (upd H p (.tup []))
section
variable {X : Cx}
theorem op_repT1 : OpR X (binaryOp .Mult) (rRepT1 X.K) := by
  intro pins s σ H x y v u Q I rx ry h
  obtain ⟨l, xs, rfl, rfl, hT, q⟩ := h
  cases rx
  obtain ⟨t, rfl⟩ := ry
  obtain ⟨its, r, ⟨⟨cls, dd, data, sl⟩, ho, hc, n, hd⟩, hs⟩ := I.tuple hT
  simp only at hc hd
  subst hc hd
  exact wpAny_binaryOp_repeat_ref (T := "tuple") (U := "int") (by decide) ⟨_, ho, rfl⟩ (fun s' => typeIs_int s' 1 t) noFill_tuple_mul PySem.F.fills_int_mul PySem.F.slot_int_rmul repeat_tuple PySem.F.slot_int_index.lookup
    (call_meets PySem.F.slot_int_rmul (typeIs_int s 1 t) PySem.F.entry_int_rmul (PySem.F.args_int_rmul_2 _ _) (int_rmul_tuple 1 t l its.toArray n dd sl)
      ⟨ho, rfl, ⟨_, ho, rfl⟩, call_meets PySem.F.slot_tuple_mul ⟨_, ho, rfl⟩ PySem.F.entry_tuple_mul (PySem.F.args_tuple_mul_2 _ _) (tuple_mul1 l its.toArray n dd sl t) ⟨ho, ⟨.ref l, H, I, rfl, q⟩⟩⟩)
theorem op_repT0 : OpR X (binaryOp .Mult) (rRepT0 X.K) := by
  intro pins s σ H x y v u Q I rx ry h
  obtain ⟨l, k, xs, rfl, rfl, hT, hne, h1, h2, q⟩ := h
  cases rx
  obtain ⟨t, rfl⟩ := ry
  obtain ⟨its, r, ⟨⟨cls, dd, data, sl⟩, ho, hc, n, hd⟩, hs⟩ := I.tuple hT
  simp only at hc hd
  subst hc hd
  have hle : its.length = xs.length := r.length.symm
  have hn : its ≠ [] := fun e => hne (by
    rw [e] at hle
    exact List.eq_nil_of_length_eq_zero hle.symm)
  have hi : its.toArray.isEmpty = false := by
    cases its with
    | nil => exact absurd rfl hn
    | cons a b => rfl
  have c0 : (decide (k < -(2 ^ 63)) || decide (k ≥ 2 ^ 63)) = false := by
    rw [decide_eq_false (by omega), decide_eq_false (by omega)] <;> rfl
  have c1 : (its.toArray.isEmpty || k == 1) = false := by
    rw [hi, Bool.false_or]
    exact beq_eq_false_iff_ne.mpr (by omega)
  have c2 : (decide (k ≤ 0) || its.toArray.isEmpty) = true := by
    rw [decide_eq_true h2, Bool.true_or]
  refine wpAny_binaryOp_repeat_ref (T := "tuple") (U := "int") (by decide) ⟨_, ho, rfl⟩ (fun s' => typeIs_int s' k t) noFill_tuple_mul PySem.F.fills_int_mul PySem.F.slot_int_rmul repeat_tuple PySem.F.slot_int_index.lookup
    (call_meets PySem.F.slot_int_rmul (typeIs_int s k t) PySem.F.entry_int_rmul (PySem.F.args_int_rmul_2 _ _) (int_rmul_tuple k t l its.toArray n dd sl)
      ⟨ho, rfl, ⟨_, ho, rfl⟩, call_meets PySem.F.slot_tuple_mul ⟨_, ho, rfl⟩ PySem.F.entry_tuple_mul (PySem.F.args_tuple_mul_2 _ _) (tuple_mul0 l its.toArray n dd sl k t c0 c1 c2) ⟨ho, ?_⟩⟩)
  refine ⟨.ref s.heap.objs.size, _, I.laid (t' := s.toks) (o := .tup []) (fun b ob q => Heap.get?_push_of_some _ q) (Nat.le_refl _) ?_, rfl, q _ (I.hok.fresh (Nat.le_refl _))⟩
  exact ⟨Nat.zero_le _, [], .nil, IsTup.new _ _⟩
end
/-! ### over data -/
def opMulA (x y : D) : Option RV := match x, y with
  | .tup xs, .int k => if xs ≠ [] ∧ -(2 ^ 63) ≤ k ∧ k ≤ 0 then some (.val (.tup [])) else if k = 1 then some (.val (.tup xs)) else opMul (.tup xs) (.int k)
  | x, y => opMul x y
section
variable {K : PySem.W.Frag}
abbrev rMulA (K : PySem.W.Frag) : R2 := fun x y H Q => rMul K x y H Q ∨ rRepT1 K x y H Q ∨ rRepT0 K x y H Q
theorem o_mulAll : Op2 K (rMulA K) opMulA := by
  intro F H d e x y z Q s a b h q
  unfold opMulA at h
  split at h
  · rename_i xs k
    split at h
    · rename_i c
      cases h
      obtain ⟨p, vs, rfl, q1, r1⟩ := a
      cases b
      have ne : vs ≠ [] := fun e => by
        have := r1.length
        rw [e] at this
        exact c.1 (List.length_eq_zero_iff.mp this.symm)
      refine .inr (.inr ⟨p, k, vs, rfl, rfl, s.sqT q1, ne, c.2.1, c.2.2, fun pp hp => ?_⟩)
      exact q _ _ _ (Ext.alloc s hp) ⟨pp, _, rfl, SqT.of upd_same, .nil⟩
    · split at h
      · rename_i c1 c2
        cases h
        subst c2
        obtain ⟨p, vs, rfl, q1, r1⟩ := a
        cases b
        exact .inr (.inl ⟨p, vs, rfl, rfl, s.sqT q1, q _ _ _ (Ext.refl s) ⟨p, vs, rfl, q1, r1⟩⟩)
      · exact .inl (o_mul F H _ _ x y z Q s a b h q)
  · exact .inl (o_mul F H _ _ x y z Q s a b h q)
end
section
variable {X : Cx} {W : WX} {a b : Expr} {ga gb : Ev} {pos : Pos}
theorem ed_mulA (ha : PE X a (tE X.K W ga)) (hb : PE X b (tE X.K W gb)) : PE X (.BinOp a .Mult b pos) (tE X.K W (dOp2 opMulA ga gb)) := ed_bin (op_mulA.or (op_repT1.or op_repT0)) o_mulAll ha hb
end
omit [HasW] in
@[simp] theorem opMulA_int {i j : Int} : opMulA (.int i) (.int j) = if CMul i j then some (.val (.int (i * j))) else none := rfl
omit [HasW] in
theorem opMulA_tup {x : D} {xs : List D} (n : Nat) (h : n ≤ 1000) (hl : xs.length < 1000) : opMulA (.tup (x :: xs)) (.int n) = some (.val (.tup (List.replicate n (x :: xs)).flatten)) := by
  unfold opMulA
  dsimp only
  match n, h with
  | 0, _ => rfl
  | 1, _ => simp
  | n + 2, h =>
    rw [if_neg (by omega), if_neg (by omega)]
    unfold opMul
    dsimp only
    rw [if_pos ⟨by simp, by omega, by omega, by rw [List.length_cons]; omega⟩]
    simp only [Int.toNat_natCast]
omit [HasW] in
@[simp] theorem opMulA_one {d : D} (n : Nat) (h : n ≤ 1000) : opMulA (.tup [d]) (.int n) = some (.val (.tup (List.replicate n d))) := by
  rw [opMulA_tup n h (by decide)]
  congr 3
  induction n with
  | zero => rfl
  | succ n ih => rw [List.replicate_succ, List.replicate_succ, List.flatten_cons, ih (by omega)] <;> rfl
end DL

/-! dicts whose keys are tuples, over a list of pairs. -/
namespace DL
open PySem PySem.Spec L2
section
variable {α β : Type} [DecidableEq α]
def look : List (α × β) → α → Option β
  | [], _ => none
  | p :: m, a => if p.1 = a then some p.2 else look m a
theorem look_cons (p : α × β) (m : List (α × β)) (a : α) : look (p :: m) a = if p.1 = a then some p.2 else look m a := rfl
def tell (m : List (α × β)) (a : α) (b : β) : List (α × β) := m.map fun p => if p.1 = a then (p.1, b) else p
def put (m : List (α × β)) (a : α) (b : β) : List (α × β) := if (look m a).isSome then tell m a b else m ++ [(a, b)]
def dctD (kd : α → D) (vd : β → D) (m : List (α × β)) : D := match m with
  | [] => .dic [] []
  | p :: m => .dct ((p :: m).map fun p => kd p.1) ((p :: m).map fun p => vd p.2)
structure IsKey (kd : α → D) (kn : α → NestedKey) : Prop where
  of : ∀ a, kOf (kd a) = some (kn a)
  inj : ∀ a b, kn a = kn b → a = b
variable {kd : α → D} {kn : α → NestedKey} {vd : β → D}
theorem IsKey.iff (h : IsKey kd kn) (a b : α) : (kOf (kd a) = some (kn b)) ↔ a = b :=
  ⟨fun e => h.inj a b (by rw [h.of a] at e; exact Option.some.inj e), fun e => by rw [e]; exact h.of b⟩
theorem dctGet_look (h : IsKey kd kn) (a : α) : ∀ m : List (α × β), dctGet (m.map fun p => kd p.1) (m.map fun p => vd p.2) (kn a) = (look m a).map vd
  | [] => rfl
  | p :: m => by
    show (if kOf (kd p.1) = some (kn a) then some (vd p.2) else dctGet _ _ (kn a)) = (if p.1 = a then some p.2 else look m a).map vd
    by_cases e : p.1 = a
    · rw [if_pos ((h.iff p.1 a).mpr e), if_pos e]
      rfl
    · rw [if_neg (fun z => e ((h.iff p.1 a).mp z)), if_neg e]
      exact dctGet_look h a m
theorem dctHas_look (h : IsKey kd kn) (a : α) : ∀ m : List (α × β), dctHas (m.map fun p => kd p.1) (kn a) = (look m a).isSome
  | [] => rfl
  | p :: m => by
    have ih := dctHas_look h a m
    unfold dctHas at ih ⊢
    show _ = (if p.1 = a then some p.2 else look m a).isSome
    rw [List.map_cons, List.any_cons, ih]
    by_cases e : p.1 = a
    · rw [if_pos e, decide_eq_true ((h.iff p.1 a).mpr e)]
      rfl
    · rw [if_neg e, decide_eq_false (fun z => e ((h.iff p.1 a).mp z)), Bool.false_or]
theorem tell_ks (m : List (α × β)) (a : α) (b : β) : ((tell m a b).map fun p => kd p.1) = m.map fun p => kd p.1 := by
  unfold tell
  rw [List.map_map]
  refine List.map_congr_left fun p _ => ?_
  show kd (if p.1 = a then (p.1, b) else p).1 = kd p.1
  split <;> rfl
theorem tell_xs (h : IsKey kd kn) (a : α) (b : β) : ∀ m : List (α × β), dctPutXs (m.map fun p => kd p.1) (m.map fun p => vd p.2) (kn a) (vd b) = (tell m a b).map fun p => vd p.2
  | [] => rfl
  | p :: m => by
    have ih := tell_xs h a b m
    show (if kOf (kd p.1) = some (kn a) then vd b :: _ else vd p.2 :: _) = vd (if p.1 = a then (p.1, b) else p).2 :: _
    by_cases e : p.1 = a
    · rw [if_pos ((h.iff p.1 a).mpr e), if_pos e, ih]
      rfl
    · rw [if_neg (fun z => e ((h.iff p.1 a).mp z)), if_neg e, ih]
      rfl
theorem put_ne (m : List (α × β)) (a : α) (b : β) : put m a b ≠ [] := by
  unfold put
  cases m with
  | nil => intro e; cases e
  | cons p m =>
    split <;> (intro e; cases e)
theorem dctD_ne {m : List (α × β)} (h : m ≠ []) : dctD kd vd m = .dct (m.map fun p => kd p.1) (m.map fun p => vd p.2) := by
  cases m with
  | nil => exact absurd rfl h
  | cons p m => rfl
theorem dctPut_put (h : IsKey kd kn) (m : List (α × β)) (a : α) (b : β) : dctPut (m.map fun p => kd p.1) (m.map fun p => vd p.2) (kd a) (kn a) (vd b) = dctD kd vd (put m a b) := by
  rw [dctD_ne (put_ne m a b)]
  unfold dctPut put
  rw [dctHas_look h a m]
  cases (look m a).isSome with
  | true =>
    rw [if_pos rfl, if_pos rfl, tell_xs h a b m, tell_ks]
  | false =>
    rw [if_neg (by decide), if_neg (by decide), List.map_append, List.map_append]
    rfl
theorem stored_put (h : IsKey kd kn) (m : List (α × β)) (a : α) (b : β) (hl : m.length < 1000) : stored (dctD kd vd m) (kd a) (vd b) = some (dctD kd vd (put m a b)) := by
  have e := dctPut_put (vd := vd) h m a b
  have q : storedX (dctD kd vd m) (kd a) (vd b) = some (dctD kd vd (put m a b)) := by
    cases m with
    | nil =>
      rw [← e]
      show (if (List.isEmpty ([] : List Key)) = true then match kOf (kd a) with | some kk => some (dctPut [] [] (kd a) kk (vd b)) | none => none else none) = _
      rw [h.of a]
      rfl
    | cons p m =>
      have hl' : ((p :: m).map fun p => kd p.1).length < sizeLine := by rw [List.length_map, sizeLine_eq]; omega
      rw [← e]
      show (match kOf (kd a) with
        | some kk => if ((p :: m).map fun (p : α × β) => kd p.1).length < sizeLine then some (dctPut ((p :: m).map fun (p : α × β) => kd p.1) ((p :: m).map fun (p : α × β) => vd p.2) (kd a) kk (vd b)) else none
        | none => none) = _
      rw [h.of a]
      dsimp only
      rw [if_pos hl']
  unfold stored
  rw [q]
  rfl
theorem xdic_dctD (m : List (α × β)) : xdic (dctD kd vd m) = some (m.map (fun p => kd p.1), m.map fun p => vd p.2) := by
  cases m <;> rfl
theorem get_look (h : IsKey kd kn) (m : List (α × β)) (a : α) (d : D) : ((xdic (dctD kd vd m)).bind fun q => (kOf (kd a)).map fun k => (dctGet q.1 q.2 k).getD d) = some (((look m a).map vd).getD d) := by
  rw [xdic_dctD, h.of a]
  show some ((dctGet (m.map fun p => kd p.1) (m.map fun p => vd p.2) (kn a)).getD d) = _
  rw [dctGet_look h a m]
/-! what is in it -/
theorem look_mem {m : List (α × β)} {a : α} {b : β} (n : (m.map (·.1)).Nodup) : look m a = some b ↔ (a, b) ∈ m := by
  induction m with
  | nil => constructor <;> (intro e; cases e)
  | cons p m ih =>
    rw [List.map_cons, List.nodup_cons] at n
    unfold look
    rw [List.mem_cons]
    by_cases e : p.1 = a
    · rw [if_pos e]
      constructor
      · intro q
        cases q
        left
        rw [← e]
      · rintro (rfl | q)
        · rfl
        · exact absurd (List.mem_map.mpr ⟨_, q, e.symm⟩) n.1
    · rw [if_neg e, ih n.2]
      constructor
      · exact .inr
      · rintro (rfl | q)
        · exact absurd rfl e
        · exact q
theorem look_none {m : List (α × β)} {a : α} : look m a = none ↔ a ∉ m.map (·.1) := by
  induction m with
  | nil => simp [look]
  | cons p m ih =>
    unfold look
    rw [List.map_cons, List.mem_cons]
    by_cases e : p.1 = a
    · rw [if_pos e]; simp [e]
    · rw [if_neg e, ih]
      constructor
      · rintro q (z | z)
        · exact e z.symm
        · exact q z
      · exact fun q z => q (.inr z)
theorem tell_keys (m : List (α × β)) (a : α) (b : β) : (tell m a b).map (·.1) = m.map (·.1) := by
  unfold tell
  rw [List.map_map]
  refine List.map_congr_left fun p _ => ?_
  show (if p.1 = a then (p.1, b) else p).1 = p.1
  split <;> rfl
theorem put_nodup {m : List (α × β)} (n : (m.map (·.1)).Nodup) (a : α) (b : β) : ((put m a b).map (·.1)).Nodup := by
  unfold put
  split
  · rw [tell_keys]; exact n
  · rename_i h
    rw [List.map_append]
    have hn : look m a = none := by
      cases e : look m a with
      | none => rfl
      | some x => rw [e] at h; exact absurd rfl h
    refine List.nodup_append.mpr ⟨n, by simp, fun x hx y hy e => ?_⟩
    have : y = a := by simpa using hy
    subst this
    subst e
    exact look_none.mp hn hx
theorem look_tell (m : List (α × β)) (a c : α) (b : β) : look (tell m a b) c = if a = c ∧ (look m a).isSome then some b else look m c := by
  induction m with
  | nil => simp [look, tell]
  | cons p m ih =>
    show (if (if p.1 = a then (p.1, b) else p).1 = c then some (if p.1 = a then (p.1, b) else p).2 else look (tell m a b) c) = _
    rw [ih, look_cons, look_cons]
    by_cases e : p.1 = a
    · subst e
      by_cases q : p.1 = c
      · subst q; simp
      · simp [q]
    · by_cases q : p.1 = c
      · subst q
        simp [e, Ne.symm e]
      · simp [e, q]
theorem look_app (m : List (α × β)) (a c : α) (b : β) : look (m ++ [(a, b)]) c = match look m c with | some x => some x | none => if a = c then some b else none := by
  induction m with
  | nil => simp [look]
  | cons p m ih =>
    rw [List.cons_append]
    unfold look
    by_cases e : p.1 = c
    · simp [e]
    · simp [e, ih]
theorem look_put (m : List (α × β)) (a c : α) (b : β) : look (put m a b) c = if a = c then some b else look m c := by
  unfold put
  split
  · rename_i h
    rw [look_tell]
    simp [h]
  · rename_i h
    have hn : look m a = none := by
      cases e : look m a with
      | none => rfl
      | some x => rw [e] at h; exact absurd rfl h
    rw [look_app]
    by_cases e : a = c
    · subst e; simp [hn]
    · simp only [e, if_false]
      cases look m c <;> rfl
theorem put_length (m : List (α × β)) (a : α) (b : β) : (put m a b).length ≤ m.length + 1 := by
  unfold put
  split
  · unfold tell; rw [List.length_map]; omega
  · rw [List.length_append]; exact Nat.le_refl _
end
end DL

/-! dict(xs), xs a list of pairs. -/
namespace DL
open PySem PySem.Spec L2
variable [HasW]
/-! ### over data -/
def pairD : D → Option (D × D)
  | .tup [k, v] => some (k, v)
  | _ => none
theorem pairD_some {d k v : D} (h : pairD d = some (k, v)) : d = .tup [k, v] := by
  unfold pairD at h
  split at h
  · cases h; rfl
  · cases h
def flats : List D → Option (List (Key × D))
  | [] => some []
  | d :: ds => match pairD d with
    | some (k, v) => match keyOf k, flats ds with
      | some k, some r => some ((k, v) :: r)
      | _, _ => none
    | none => none
def tups : List D → Option (List (D × D))
  | [] => some []
  | d :: ds => match pairD d with
    | some (k, v) => match kOf k, tups ds with
      | some _, some r => some ((k, v) :: r)
      | _, _ => none
    | none => none
def putX (d : D) (p : D × D) : D := match d with
  | .dct ks xs => match kOf p.1 with
    | some k => dctPut ks xs p.1 k p.2
    | none => d
  | d => d
def mergeX (ps : List (D × D)) : D := ps.foldl putX (.dct [] [])
def fDictP : List D → Option RV
  | [.lst ds] => (flats ds).map fun ps => .new (mergeD ps)
  | [.scr ds] => (flats ds).map fun ps => .new (mergeD ps)
  | _ => none
def fDictX : List D → Option RV
  | [.lst ds] => (tups ds).map fun ps => .new (mergeX ps)
  | [.scr ds] => (tups ds).map fun ps => .new (mergeX ps)
  | _ => none
def fDict (ds : List D) : Option RV := fDictP ds <|> fDictX ds
/-! ### keys that are ints or texts -/
section
variable {K : PySem.W.Frag} {F : Hp}
theorem pair_rep {k v : D} {x : V} (r : Rep K F (.tup [k, v]) x) : ∃ p a b, x = .ref p ∧ SqT K F p [a, b] ∧ Rep K F k a ∧ Rep K F v b := by
  obtain ⟨p, vs, rfl, q, r⟩ := r
  obtain ⟨a, t, rfl, r1, r2⟩ := r
  obtain ⟨b, t2, rfl, r3, r4⟩ := r2
  cases r4
  exact ⟨p, a, b, rfl, q, r1, r3⟩
theorem flats_rep : ∀ {ds : List D} {prs : List (Key × D)} {vs : List V}, flats ds = some prs → Reps K F ds vs → ∃ (ps : List Addr) (kvs : List (Key × V)), vs = ps.map V.ref ∧ Paired (fun p kv => SqT K F p [kV kv.1, kv.2]) ps kvs ∧ prs.map (·.1) = kvs.map (·.1) ∧ Reps K F (prs.map (·.2)) (kvs.map (·.2))
  | [], prs, vs, h, r => by
    cases h
    cases r
    exact ⟨[], [], rfl, .nil, rfl, .nil⟩
  | d :: ds, prs, vs, h, r => by
    obtain ⟨x, t, rfl, r1, r2⟩ := r
    unfold flats at h
    cases ep : pairD d with
    | none => rw [ep] at h; cases h
    | some kv =>
      obtain ⟨k, v⟩ := kv
      have := pairD_some ep
      subst this
      rw [ep] at h
      dsimp only at h
      cases ek : keyOf k with
      | none => rw [ek] at h; cases h
      | some kk =>
        cases ef : flats ds with
        | none => rw [ek, ef] at h; cases h
        | some r =>
          rw [ek, ef] at h
          cases h
          obtain ⟨ps, kvs, rfl, h1, h2, h3⟩ := flats_rep ef r2
          obtain ⟨p, a, b, rfl, q, ra, rb⟩ := pair_rep r1
          have := key_rep ra ek
          subst this
          exact ⟨p :: ps, (kk, b) :: kvs, rfl, .cons q h1, by rw [List.map_cons, List.map_cons, h2], .cons rb h3⟩
theorem pairedT_mono {H : Hp} (s : Sub F H) : ∀ {ps : List Addr} {kvs : List (Key × V)}, Paired (fun p kv => SqT K F p [kV kv.1, kv.2]) ps kvs → Paired (fun p kv => SqT K H p [kV kv.1, kv.2]) ps kvs
  | _, _, .nil => .nil
  | _, _, .cons h t => .cons (s.sqT h) (pairedT_mono s t)
def rDictP (K : PySem.W.Frag) : List V → Hp → VK → Prop := fun xs H Q => ∃ (a : Addr) (ps : List Addr) (kvs : List (Key × V)), xs = [.ref a] ∧ SqL K H a (ps.map V.ref) ∧ Paired (fun p kv => SqT K H p [kV kv.1, kv.2]) ps kvs ∧
    ∀ p, H p = none → Q (.ref p) (upd H p (.dK (mergeK [] kvs)))
theorem on_dictP : OpN K (rDictP K) fDictP := by
  intro F H ds vs z Q s v h q
  have fin : ∀ (a : Addr) (ws : List V) (xs : List D), SqL K H a ws → Reps K F xs ws → (flats xs).map (fun ps => RV.new (mergeD ps)) = some z → rDictP K [.ref a] H Q := fun a ws xs q1 r e => by
    obtain ⟨prs, e1, rfl⟩ := Option.map_eq_some_iff.mp e
    obtain ⟨ps, kvs, rfl, h1, h2, h3⟩ := flats_rep e1 r
    refine ⟨a, ps, kvs, rfl, q1, pairedT_mono s h1, fun p hp => ?_⟩
    have rel : DicRel K F (mergeK [] kvs) (mergeD prs) := DicRel.merge (acc := []) (d := .dic [] []) ⟨[], rfl, rfl, List.nodup_nil, .nil⟩ h2 h3
    exact q _ _ _ (Ext.allocO s hp) ⟨p, rfl, hp, s.free hp, rel.cell⟩
  unfold fDictP at h
  split at h
  · obtain ⟨u, t, rfl, ⟨a, ws, rfl, q1, r⟩, rfl⟩ := v
    exact fin a ws _ (SqL.of q1) r h
  · obtain ⟨u, t, rfl, ⟨a, ws, rfl, q1, r⟩, rfl⟩ := v
    exact fin a ws _ (s.sqL q1) r h
  · cases h
/-! ### keys that are tuples -/
def mergeE (acc es : List Ent) : List Ent := es.foldl (fun m e => xPut m e.1 e.2.1 e.2.2) acc
def DctRel (K : PySem.W.Frag) (F : Hp) (es : List Ent) : D → Prop
  | .dct ks xs => ks.map kOf = es.map (fun e => some e.1) ∧ Reps K F ks (es.map fun e => .ref e.2.1) ∧ Reps K F xs (es.map (·.2.2))
  | _ => False
theorem DctRel.put {es : List Ent} {d kd e : D} {k : NestedKey} {b : Addr} {v : V} (r : DctRel K F es d) (hk : kOf kd = some k) (rb : Rep K F kd (.ref b)) (rv : Rep K F e v) : DctRel K F (xPut es k b v) (putX d (kd, e)) := by
  cases d with
  | dct ks xs =>
    obtain ⟨h, rk, rx⟩ := r
    show DctRel K F (xPut es k b v) (match kOf kd with | some k => dctPut ks xs kd k e | none => .dct ks xs)
    rw [hk]
    dsimp only
    have eh := (dctGet_rep (k := k) h rx).2.2
    unfold dctPut xPut
    rw [eh]
    cases hs : dctHas ks k with
    | true =>
      rw [if_pos rfl, if_pos rfl]
      refine ⟨?_, ?_, dctPut_rep rv h rx⟩
      · rw [map_keep (fun e => some e.1) (fun _ => rfl)]; exact h
      · rw [map_keep (fun e => V.ref e.2.1) (fun _ => rfl)]; exact rk
    | false =>
      rw [if_neg Bool.false_ne_true, if_neg Bool.false_ne_true]
      refine ⟨?_, ?_, ?_⟩
      · rw [List.map_append, List.map_append, h, List.map_cons, List.map_nil, hk]; rfl
      · rw [List.map_append]; exact rk.snoc rb
      · rw [List.map_append]; exact rx.snoc rv
  | _ => exact r.elim
/-- the pairs, as entries -/
structure PairEnts (K : PySem.W.Frag) (F : Hp) (prs : List (D × D)) (ps : List Addr) (es : List Ent) : Prop where
  sq : Paired (fun p (e : Ent) => SqT K F p [.ref e.2.1, e.2.2]) ps es
  keys : prs.map (fun p => kOf p.1) = es.map fun e => some e.1
  ks : Reps K F (prs.map (·.1)) (es.map fun e => .ref e.2.1)
  xs : Reps K F (prs.map (·.2)) (es.map (·.2.2))
theorem tups_rep : ∀ {ds : List D} {prs : List (D × D)} {vs : List V}, tups ds = some prs → Reps K F ds vs → ∃ (ps : List Addr) (es : List Ent), vs = ps.map V.ref ∧ PairEnts K F prs ps es
  | [], prs, vs, h, r => by
    cases h
    cases r
    exact ⟨[], [], rfl, .nil, rfl, .nil, .nil⟩
  | d :: ds, prs, vs, h, r => by
    obtain ⟨x, t, rfl, r1, r2⟩ := r
    unfold tups at h
    cases ep : pairD d with
    | none => rw [ep] at h; cases h
    | some kv =>
      obtain ⟨k, v⟩ := kv
      have := pairD_some ep
      subst this
      rw [ep] at h
      dsimp only at h
      cases ek : kOf k with
      | none => rw [ek] at h; cases h
      | some kk =>
        cases ef : tups ds with
        | none => rw [ek, ef] at h; cases h
        | some r =>
          rw [ek, ef] at h
          cases h
          obtain ⟨ps, es, rfl, h1, h2, h3, h4⟩ := tups_rep ef r2
          obtain ⟨p, a, b, rfl, q, ra, rb⟩ := pair_rep r1
          have hb : ∃ c, a = .ref c := by
            obtain ⟨_, ⟨ys, rfl⟩, _⟩ := kOf_some ek
            obtain ⟨c, ws, rfl, _⟩ := ra
            exact ⟨c, rfl⟩
          obtain ⟨c, rfl⟩ := hb
          exact ⟨p :: ps, (kk, c, b) :: es, rfl, .cons q h1, by rw [List.map_cons, List.map_cons, h2, ek], .cons ra h3, .cons rb h4⟩
theorem mergeX_rel : ∀ {prs : List (D × D)} {es acc : List Ent} {d : D}, prs.map (fun p => kOf p.1) = es.map (fun e => some e.1) → Reps K F (prs.map (·.1)) (es.map fun e => .ref e.2.1) → Reps K F (prs.map (·.2)) (es.map (·.2.2)) → DctRel K F acc d → DctRel K F (mergeE acc es) (prs.foldl putX d)
  | [], [], acc, d, _, _, _, r => r
  | [], _ :: _, _, _, h, _, _, _ => by cases h
  | _ :: _, [], _, _, h, _, _, _ => by cases h
  | (k, x) :: prs, e :: es, acc, d, h, rk, rx, r => by
    rw [List.map_cons, List.map_cons] at h
    injection h with h1 h2
    obtain ⟨a, t, q, ra, rb⟩ := rk
    injection q with q1 q2
    subst q1 q2
    obtain ⟨b, t, q, rc, rd⟩ := rx
    injection q with q1 q2
    subst q1 q2
    show DctRel K F (mergeE (xPut acc e.1 e.2.1 e.2.2) es) (prs.foldl putX (putX d (k, x)))
    exact mergeX_rel h2 rb rd (r.put h1 ra rc)
theorem pairedE_mono {H : Hp} (s : Sub F H) : ∀ {ps : List Addr} {es : List Ent}, Paired (fun p (e : Ent) => SqT K F p [.ref e.2.1, e.2.2]) ps es → Paired (fun p (e : Ent) => SqT K H p [.ref e.2.1, e.2.2]) ps es
  | _, _, .nil => .nil
  | _, _, .cons h t => .cons (s.sqT h) (pairedE_mono s t)
def rDictX (K : PySem.W.Frag) : List V → Hp → VK → Prop := fun xs H Q => ∃ (a : Addr) (ps : List Addr) (es : List Ent), xs = [.ref a] ∧ SqL K H a (ps.map V.ref) ∧ Paired (fun p (e : Ent) => SqT K H p [.ref e.2.1, e.2.2]) ps es ∧ KeysAt K H es ∧
    ∀ p, H p = none → Q (.ref p) (upd H p (dxO p (mergeE [] es)))
theorem on_dictX : OpN K (rDictX K) fDictX := by
  intro F H ds vs z Q s v h q
  have fin : ∀ (a : Addr) (ws : List V) (xs : List D), SqL K H a ws → Reps K F xs ws → (tups xs).map (fun ps => RV.new (mergeX ps)) = some z → rDictX K [.ref a] H Q := fun a ws xs q1 r e => by
    obtain ⟨prs, e1, rfl⟩ := Option.map_eq_some_iff.mp e
    obtain ⟨ps, es, rfl, pe⟩ := tups_rep e1 r
    refine ⟨a, ps, es, rfl, q1, pairedE_mono s pe.sq, keysAt_of s (ks := prs.map (·.1)) (by rw [List.map_map]; exact pe.keys) pe.ks, fun p hp => ?_⟩
    have rel : DctRel K F (mergeE [] es) (mergeX prs) := mergeX_rel pe.keys pe.ks pe.xs ⟨rfl, .nil, .nil⟩
    refine q _ _ _ (Ext.allocO s hp) ⟨p, rfl, hp, s.free hp, ?_⟩
    cases e2 : mergeX prs with
    | dct ks xs =>
      rw [e2] at rel
      exact ⟨_, upd_same, rel.1, rel.2.1, rel.2.2⟩
    | _ => rw [e2] at rel; exact rel.elim
  unfold fDictX at h
  split at h
  · obtain ⟨u, t, rfl, ⟨a, ws, rfl, q1, r⟩, rfl⟩ := v
    exact fin a ws _ (SqL.of q1) r h
  · obtain ⟨u, t, rfl, ⟨a, ws, rfl, q1, r⟩, rfl⟩ := v
    exact fin a ws _ (s.sqL q1) r h
  · cases h
end
section
variable {X : Cx} {pins : List (Addr × Obj)} {σ : L2.St} {H : Hp} {s : Shared}
theorem mergeE_zip : ∀ (es : List Ent) (us : List Value) (acc : List Ent) (ws : List Value), Vals (es.map (·.2.2)) us → Vals (acc.map (·.2.2)) ws → ∃ ws', Vals ((mergeE acc es).map (·.2.2)) ws' ∧ storedAllH (zip3 acc ws) (zip3 es us) = zip3 (mergeE acc es) ws'
  | [], us, acc, ws, h, g => by cases h; exact ⟨ws, g, rfl⟩
  | e :: es, _, acc, ws, h, g => by
    cases h with
    | @cons _ u _ us a b =>
      obtain ⟨ws1, g1, e1⟩ := xPut_zip (k := e.1) (b := e.2.1) a acc ws g
      obtain ⟨ws2, g2, e2⟩ := mergeE_zip es us (xPut acc e.1 e.2.1 e.2.2) ws1 b g1
      refine ⟨ws2, g2, ?_⟩
      show storedAllH (storedH (zip3 acc ws) e.1 e.2.1 u) (zip3 es us) = _
      rw [e1]
      exact e2
theorem mergeE_length : ∀ (es acc : List Ent), (mergeE acc es).length ≤ acc.length + es.length
  | [], acc => Nat.le_refl _
  | e :: es, acc => by
    have a := mergeE_length es (xPut acc e.1 e.2.1 e.2.2)
    have b := xPut_length acc e.1 e.2.1 e.2.2
    show (mergeE (xPut acc e.1 e.2.1 e.2.2) es).length ≤ _
    rw [List.length_cons]
    omega
theorem ents_of (I : Inv X pins σ H s) : ∀ {ps : List Addr} {es : List Ent}, Paired (fun p (e : Ent) => SqT X.K H p [.ref e.2.1, e.2.2]) ps es →
    ∃ us : List Value, Vals (es.map (·.2.2)) us ∧ us.length = es.length ∧ ps.length = es.length ∧ ∀ (j : Nat) (k v : Value), ((zip3 es us).map fun x => (Value.ref x.2.1, x.2.2))[j]? = some (k, v) → ∃ b, ps[j]? = some b ∧ s.heap.IsTuple b #[k, v]
  | _, _, .nil => ⟨[], .nil, rfl, rfl, fun j k v e => by simp [zip3] at e⟩
  | _, _, .cons (a := p) (b := e) h t => by
    obtain ⟨us, r, l1, l2, hp⟩ := ents_of I t
    obtain ⟨its, rv, ht, _⟩ := I.tuple h
    obtain ⟨u, y, ei, ru, ry⟩ := vals2 rv
    subst ei
    refine ⟨y :: us, .cons ry r, by rw [List.length_cons, List.length_cons, l1], by rw [List.length_cons, List.length_cons, l2], fun j k v ej => ?_⟩
    cases j with
    | zero =>
      have e' : (Value.ref e.2.1, y) = (k, v) := Option.some.inj ej
      injection e' with e1 e2
      subst e1 e2
      obtain rfl : u = Value.ref e.2.1 := ru
      exact ⟨p, rfl, ht⟩
    | succ j =>
      obtain ⟨b, e1, e2⟩ := hp j k v (by simpa [zip3] using ej)
      exact ⟨b, by simpa using e1, e2⟩
theorem call_dictX (hcalm : X.calm = true) (hu : X.A.units + 65 < cLine) (hw : X.w = HasW.w := by rfl) : CallR X (.type "dict") (rDictX X.K) := by
  intro pins s σ H xs us Q I r q
  obtain ⟨a, ps, es, ex, hq, hp, ka, q⟩ := q
  subst ex
  obtain ⟨u, eu, rx⟩ := vals1 r
  subst eu
  cases rx
  obtain ⟨its, rv, pl, hz⟩ := I.list hq
  have ei := refs_at rv
  subst ei
  rw [List.length_map] at hz
  obtain ⟨ws, rel, l1, l2, hpr⟩ := ents_of I hp
  obtain ⟨o, n, ho, hc, hd, hdat⟩ := pl
  have lz : (zip3 es ws).length = es.length := zip3_length es ws l1.symm
  let prs : List (Value × Value) := (zip3 es ws).map fun x => (Value.ref x.2.1, x.2.2)
  have lp : prs.length = es.length := by show (List.map _ _).length = _; rw [List.length_map, lz]
  have P := PySem.PairArg.list (prog := X.prog) (w := X.w) a (ps.map Value.ref).toArray (fun j => (ps[j]?).getD 0) prs
  refine call_dict_pairsH (knd := nestedKind X.prog X.w) (ps := zip3 es ws) P (I.ok.hd hcalm) ?_ ⟨⟨o, n, ho, hc, hd, hdat⟩, ?_, fun j k v ej => ?_⟩ ⟨by rw [lp, lz], fun i key v ek => ?_⟩ ?_ (by rw [lp, ← l2]; exact hz) fun h' tk hd' hk => ?_
  · show X.A.units + 1 + 1 + 8 < cLine
    omega
  · rw [lp, ← l2]; simp
  · obtain ⟨b, e1, e2⟩ := hpr j k v ej
    refine ⟨by simp [e1], .inl ?_⟩
    show s.heap.IsTuple ((ps[j]?).getD 0) #[k, v]
    rw [e1]
    exact e2
  · have ek' : ((zip3 es ws).map fun x => (Value.ref x.2.1, x.2.2))[i]? = some (key, v) := ek
    rw [List.getElem?_map] at ek'
    obtain ⟨x, hx, e⟩ := Option.map_eq_some_iff.mp ek'
    injection e with e1 e2
    subst e1 e2
    exact ⟨x.1, x.2.1, hx, rfl⟩
  · intro h' hk x hx
    obtain ⟨f, hf, q1, q2⟩ := zip3_mem es ws x hx
    obtain ⟨b, e1, e2, hi⟩ := (ka f hf).is I (u := .ref f.2.1) rfl
    injection e1 with e1
    subst e1
    rw [← q1, ← q2]
    refine PySem.nestedKind_stays.stays (fun b' o' vs n' e _ => hk b' o' (Nat.ne_of_lt (Heap.lt_size e)) (fun z => nomatch z) e) hi
  · obtain ⟨ws', g1, g2⟩ := mergeE_zip es ws [] [] rel .nil
    have hm : (s.heap.objs.size == sysModules) = false := beq_eq_false_iff_ne.mpr (Nat.ne_of_gt I.big)
    have hlen : (mergeE [] es).length ≤ sizeLine := by
      refine Nat.le_trans (mergeE_length es []) ?_
      rw [List.length_nil, Nat.zero_add, ← l2]
      exact hz
    have hd2 : h'.DictOfH (nestedKind X.prog X.w) s.heap.objs.size (zip3 (mergeE [] es) ws') := by rw [← g2]; exact hd'
    obtain ⟨o', des, ep, ho', hx', hdt', he', _, hn'⟩ := hd2
    have lw : (mergeE [] es).length = ws'.length := by have := g1.length; rwa [List.length_map] at this
    refine ⟨.ref s.heap.objs.size, upd H s.heap.objs.size (dxO s.heap.objs.size (mergeE [] es)), I.laid (t' := tk) (fun b o e => hk b o (fun z => nomatch z) e) (Nat.le_refl _) ?_, rfl, q _ (I.hok.fresh (Nat.le_refl _))⟩
    refine ⟨⟨hlen, hm, ?_, ws', g1, o', des, ep, ho', hx', hdt', ?_⟩, ⟨o', ho'⟩, ?_⟩
    · rw [← zip3_keys _ ws' lw]; exact hn'
    · rw [he', hw, zip3_entries]
    · rintro h1 h2 ⟨c1, c2, c3, us', c4, o2, des2, ep2, c5, c6⟩ hk2
      exact ⟨c1, c2, c3, us', c4, o2, des2, ep2, hk2 _ c5, c6⟩
abbrev rDict (K : PySem.W.Frag) : List V → Hp → VK → Prop := fun xs H Q => rDictP K xs H Q ∨ rDictX K xs H Q
theorem call_dict (hcalm : X.calm = true) (hu : X.A.units + 65 < cLine) (hw : X.w = HasW.w := by rfl) : CallR X (.type "dict") (rDict X.K) := (call_dictP hcalm).or (call_dictX hcalm hu hw)
theorem on_dict {K : PySem.W.Frag} : OpN K (rDict K) fDict := by
  intro F H ds vs z Q s v h q
  unfold fDict at h
  cases e : fDictP ds with
  | some r =>
    rw [e] at h
    cases h
    exact .inl (on_dictP F H ds vs z Q s v e q)
  | none =>
    rw [e] at h
    exact .inr (on_dictX F H ds vs z Q s v h q)
end
theorem bo_dict' : bootBuiltins "dict" = some (.type "dict") := by decide +kernel
end DL

/-! enumerate(x), x a list or a tuple. -/
namespace DL
open PySem PySem.Spec L2 PyProof.Rows
section
open AutoSeq1 (wpAny_loadPart')
theorem meets_enumT (l : Addr) (items : Array Value) (n : Nat) (dct : Option Addr) (sl : Array (Option Value)) :
    Meets (Builtin.«enumerate.__new__» ⟨[.type "enumerate", .ref l], []⟩) (fun _ R s => s.heap.get? l = some { cls := .type "tuple", dict := dct, data := .seq items n, slots := sl } ∧
      R (.ok (.ret (.ref (s.heap.push { cls := .type "tuple_iterator", data := .fields #[.ref l, .int 0 0] }).objs.size)))
        { s with heap := (s.heap.push { cls := .type "tuple_iterator", data := .fields #[.ref l, .int 0 0] }).push { cls := .type "enumerate", data := .fields #[.none, .bool false, .ref s.heap.objs.size, rawInt 0, .none, .none] } }) :=
  .of_wp fun prog w A R s h => by
    obtain ⟨hp, g, d, tk, os⟩ := s; obtain ⟨hl, h⟩ := h
    have hsub := sub_enumerate
    have hL : Heap.IsTuple (Shared.heap ⟨hp, g, d, tk, os⟩) l items := ⟨_, hl, rfl, n, rfl⟩
    wp_walk using wpAny_loadPart' hl
    refine wpAny_stack_any fun st => wpAny_pure ?_
    split
    · rename_i c _ _ _ _ _
      cases (c == Value.type "enumerate")
      · wp_walk using wpAny_loadPart' hl, wpAny_pyIter_tuple hL
        exact ⟨_, rfl, h⟩
      · wp_walk using wpAny_loadPart' hl, wpAny_pyIter_tuple hL
        exact ⟨_, rfl, h⟩
    · wp_walk using wpAny_loadPart' hl, wpAny_pyIter_tuple hL
      exact ⟨_, rfl, h⟩
end
section
variable {prog : Program} {w : World} {A : Around} {E : Value → Shared → Prop} {s : Shared}
theorem call_enumT {l : Addr} {items : Array Value} {Q : Value → Shared → Prop} (hL : s.heap.IsTuple l items)
    (h : ∀ h', IsEnum h' (s.heap.objs.size + 1) s.heap.objs.size 0 .none → h'.IsTupleIter s.heap.objs.size l 0 →
      (∀ b o, s.heap.get? b = some o → h'.get? b = some o) → Q (.ref (s.heap.objs.size + 1)) { s with heap := h' }) :
    wpAny (model prog w) A (call (.type "enumerate") [.ref l]) Q E s := by
  obtain ⟨⟨c, dct, dt, sl⟩, hl, hc, n, hd⟩ := hL
  replace hc : c = .type "tuple" := hc
  replace hd : dt = .seq items n := hd
  subst hc hd
  refine callType_new PySem.F.called_enumerate (by decide) (PySem.F.typeCall_enumerate_1 _) (PySem.F.newCall_enumerate_1 _) (fun obj => PySem.F.args_object_init_2 obj _) PySem.F.entry_enumerate_new
    (meets_enumT l items n dct sl) ⟨hl, ?_⟩
  have hz : (s.heap.push { cls := .type "tuple_iterator", data := .fields #[.ref l, .int 0 0] }).objs.size = s.heap.objs.size + 1 := Heap.size_push ..
  show _ ∧ _
  rw [hz]
  have he : IsEnum ((s.heap.push { cls := .type "tuple_iterator", data := .fields #[.ref l, .int 0 0] }).push
      { cls := .type "enumerate", data := .fields #[.none, .bool false, .ref s.heap.objs.size, rawInt 0, .none, .none] }) (s.heap.objs.size + 1) s.heap.objs.size 0 .none := by
    have := Heap.get?_push_size (s.heap.push { cls := .type "tuple_iterator", data := .fields #[.ref l, .int 0 0] })
      (o := { cls := .type "enumerate", data := .fields #[.none, .bool false, .ref s.heap.objs.size, rawInt 0, .none, .none] }) rfl
    rw [hz] at this; exact this
  exact ⟨⟨_, he, rfl⟩, h _ he ⟨_, Heap.get?_push_of_some _ (Heap.get?_push_size _ rfl), rfl, rfl⟩ fun b o x => Heap.get?_push_of_some _ (Heap.get?_push_of_some _ x)⟩
end
/-- a tuple's items, each in a new pair -/
def ItET (K : PySem.W.Frag) (a : Addr) : It :=
  ⟨fun i H => ∃ (xs : List V) (x : V), SqT K H a xs ∧ xs[i]? = some x, fun i H v H' => ∃ T x, v = .ref T ∧ H T = none ∧ H' = upd H T (.tup [.int (i : Nat), x]) ∧ ∀ xs, SqT K H a xs → xs[i]? = some x, fun i H => ∃ xs : List V, SqT K H a xs ∧ xs.length = i⟩
theorem turn_enumT {P : Program} {w : World} {K : PySem.W.Frag} {elts : List Expr} {kk : Nat} {tpos : Pos} (a e it : Addr) :
    Turn P w K (.Tuple elts kk tpos) (ItET K a) [e, it] e (fun i h => (∃ old, IsEnum h e it ((i : Nat) : Int) old) ∧ h.IsTupleIter it a i ∧ e ≠ it ∧ a ≠ e ∧ a ≠ it) where
  mem := by simp
  obj := fun i h st b hb => by
    obtain ⟨⟨old, he⟩, ⟨o, ho, hc, hd⟩, _⟩ := st
    have e' : b = e ∨ b = it := by simpa using hb
    rcases e' with z | z
    · rw [z]; exact ⟨_, he, fun v q => nomatch q⟩
    · rw [z]; exact ⟨o, ho, fun v q => by rw [hd] at q; cases q⟩
  keep := fun i h h' st k => let ⟨⟨old, he⟩, hi, hne⟩ := st; ⟨⟨old, k e (by simp) _ he⟩, hi.at fun o q => k it (by simp) o q, hne⟩
  item := by
    intro X hP hw hK hc i pins s σ H E I hf st hg
    subst hP hw hK
    obtain ⟨⟨old, he⟩, hit, hne, nae, nai⟩ := st
    obtain ⟨xs, x, hq, hx⟩ := hg
    obtain ⟨its, rv, p, hz⟩ := I.tuple hq
    obtain ⟨u, hu, ru⟩ := rv.get hx
    have hel : e < s.heap.objs.size := Heap.lt_size he
    have hil : it < s.heap.objs.size := by obtain ⟨_, q, _⟩ := hit; exact Heap.lt_size q
    have hd1 : X.A.in1.handled = none := I.ok.hd hc
    have D := PySem.Draws.tuple (prog := X.prog) (w := X.w) (A := X.A.in1) hd1 it a nai its.toArray
    have hlt : i < its.toArray.size := by
      obtain ⟨q, _⟩ := List.getElem?_eq_some_iff.mp hu
      simpa using q
    refine wpAny_pyNext_enum_itemD D he ⟨hit, p⟩ hlt hne (by simp [hne, Ne.symm nae]) fun y h' tk hy ho hst hT hsz hk => ?_
    have ey : y = u := by
      have : its.toArray[i]? = some u := by simpa using hu
      rw [this] at hy
      exact (Option.some.inj hy).symm
    subst ey
    refine ⟨_, rfl, wpAny_letOwnedTupleGo_enum (s := { s with heap := h', toks := tk + 1 }) ho fun h'' he' sb => ?_⟩
    have hT2 : h''.get? s.heap.objs.size = some { cls := .type "tuple", data := .seq #[.int i tk, y] } := (sb.2 _ (Nat.ne_of_gt hel)).trans hT
    have new : ObjOk X.prog X.w (upd H s.heap.objs.size (.tup [.int (i : Nat), x])) h'' s.heap.objs.size (.tup [.int (i : Nat), x]) :=
      ⟨by show 2 ≤ sizeLine; decide, [.int i tk, y], .cons ⟨_, rfl⟩ (.cons ru .nil), ⟨_, hT2, rfl, _, rfl⟩⟩
    have I1 : Inv X pins σ (upd H s.heap.objs.size (.tup [.int (i : Nat), x])) { s with heap := h'', toks := tk + 1 } :=
      I.turnedNew (ch := [e, it]) (fun b ob hb q => (sb.2 b (fun z => hb (by simp [z]))).trans (hk b ob (fun z => hb (by simp [z])) (fun z => hb (by simp [z])) q)) hf (Nat.le_refl _) new
    refine ⟨.ref s.heap.objs.size, _, I1, rfl, ⟨_, x, rfl, I.hok.fresh (Nat.le_refl _), rfl, fun ys hy' => by rw [I.tuple_inj hy' hq]; exact hx⟩, ⟨⟨y, ?_⟩, hst.1.at fun o q => (sb.2 it (Ne.symm hne)).trans q, hne, nae, nai⟩, fun b hb => ?_⟩
    · have e1 : ((i + 1 : Nat) : Int) = (i : Int) + 1 := by omega
      rw [e1]; exact he'
    · have hb' : b < s.heap.objs.size := by
        have e' : b = e ∨ b = it := by simpa using hb
        rcases e' with z | z
        · rw [z]; exact hel
        · rw [z]; exact hil
      rw [upd_ne (Nat.ne_of_lt hb')]
      exact (hf b hb).1
  done := by
    intro X hP hw hK hc i pins s σ H E I hf st hg
    subst hP hw hK
    obtain ⟨⟨old, he⟩, hit, hne, nae, nai⟩ := st
    obtain ⟨xs, hq, hx⟩ := hg
    obtain ⟨its, rv, p, hz⟩ := I.tuple hq
    obtain ⟨f0, f1, f2, f3, f4, f5⟩ := hf it (by simp)
    have hl := rv.length
    have hd1 : X.A.in1.handled = none := I.ok.hd hc
    have D := PySem.Draws.tuple (prog := X.prog) (w := X.w) (A := X.A.in1) hd1 it a nai its.toArray
    have hn : its.toArray.size = i := by rw [List.size_toArray, ← hl]; exact hx
    subst hn
    exact wpAny_pyNext_enum_endD D he ⟨hit, p⟩ fun h' eb => ⟨rfl, I.turned (t' := s.toks) (fun b o hb q => eb b o hb q) f0 f1 f3 f4 f5⟩
  self := fun A i s Q E st h => let ⟨⟨_, he⟩, _⟩ := st; wpAny_pyIter_enum he h
def iEnumA (K : PySem.W.Frag) (ta : TA) : TI := fun σ H R => ta σ H fun vs H1 => ∃ a xs, vs = [.ref a] ∧ ((SqL K H1 a xs ∧ R (Ite K a) H1) ∨ (SqT K H1 a xs ∧ R (ItET K a) H1))
theorem pi_enumA {X : Cx} {e : Expr} {ta : TA} {p pos tpos : Pos} {elts : List Expr} {kk : Nat} (hg : Gl X "enumerate") (hm : X.mg "enumerate" = none) (ha : PA X [e] ta) (hs : starEach [e] X.env = [(false, eval e X.env)] := by rfl) :
    PI X (.Tuple elts kk tpos) (.Call (.Name "enumerate" p) [e] [] pos) (iEnumA X.K ta) := by
  refine ⟨fun pins s σ H R I h => ?_⟩
  refine Call_ (ld_blt I hg hm boot_enumerate (PyProof.Rows.callWith_type1 (thn (ha.run pos pins s σ H _ I h) fun us s1 ⟨vs, H1, I1, r1, q1⟩ => ?_) hs rfl))
  obtain ⟨a, xs, ex, q1⟩ := q1
  subst ex
  have fresh : ∀ b, b = s1.heap.objs.size + 1 ∨ b = s1.heap.objs.size → FpOk X pins H1 b := fun b e' => by
    have hle : s1.heap.objs.size ≤ b := by
      rcases e' with z | z
      · rw [z]; exact Nat.le_add_right _ _
      · rw [z]; exact Nat.le_refl _
    exact I1.fpOk hle (I1.hok.fresh hle)
  cases r1 with
  | cons r rr =>
    cases rr
    cases r
    rcases q1 with ⟨hq, q⟩ | ⟨hq, q⟩
    · obtain ⟨its, rv, p', hz⟩ := I1.list hq
      refine call_enumerate_list p'.isList fun h' he hit hsz hk => wpAny_pyIter_enum he ?_
      have I2 : Inv X pins σ H1 { s1 with heap := h' } := I1.kept (t' := s1.toks) hk
      exact ⟨s1.heap.objs.size + 1, [s1.heap.objs.size + 1, s1.heap.objs.size], _, _, H1, rfl, I2, turn_enum a (s1.heap.objs.size + 1) s1.heap.objs.size, ⟨⟨.none, he⟩, hit, Nat.succ_ne_self _⟩, fun b hb => fresh b (by simpa using hb), q⟩
    · obtain ⟨its, rv, p', hz⟩ := I1.tuple hq
      have lt : a < s1.heap.objs.size := by obtain ⟨o, ho, _⟩ := p'; exact Heap.lt_size ho
      refine call_enumT p' fun h' he hit hk => wpAny_pyIter_enum he ?_
      have I2 : Inv X pins σ H1 { s1 with heap := h' } := I1.kept (t' := s1.toks) hk
      exact ⟨s1.heap.objs.size + 1, [s1.heap.objs.size + 1, s1.heap.objs.size], _, _, H1, rfl, I2, turn_enumT a (s1.heap.objs.size + 1) s1.heap.objs.size, ⟨⟨.none, he⟩, hit, Nat.succ_ne_self _, Nat.ne_of_lt (Nat.lt_succ_of_lt lt), Nat.ne_of_lt lt⟩, fun b hb => fresh b (by simpa using hb), q⟩
variable [HasW]
def kEnumA : List D → Option (List D)
  | [.lst xs] => some (enumD 0 xs)
  | [.tup xs] => some (enumD 0 xs)
  | _ => none
theorem jd_enumT {K : PySem.W.Frag} {F : Hp} {a : Addr} {xs : List D} {vs : List V} (q1 : SqT K F a vs) (r1 : Reps K F xs vs) : JD K F (ItET K a) (enumD 0 xs) := fun H1 F1 s1 s2 => by
  have p1 : SqT K H1 a vs := s2.sqT (s1.sqT q1)
  have t1 := Reps.mono s1 _ _ r1
  refine ⟨fun i d hd => ?_, ⟨vs, p1, by rw [t1.length, enumD_length]⟩⟩
  obtain ⟨x, hx, rfl⟩ := enumD_get 0 xs i d hd
  obtain ⟨v, hv, rv⟩ := t1.get hx
  refine ⟨⟨vs, v, p1, hv⟩, fun z H2 yy => ?_⟩
  obtain ⟨T, x', rfl, hT, rfl, e1⟩ := yy
  have e1 := e1 vs p1
  rw [hv] at e1
  cases e1
  refine ⟨_, Ext.alloc s2 hT, ?_⟩
  have := rep_pair (K := K) (d := .int ((0 + i : Nat) : Int)) (x := .int ((i : Nat) : Int)) (s2.free hT) (by show V.int _ = V.int _; simp) rv
  exact this
section
variable {X : Cx} {W : WX} {gs : Av} {p pos : Pos}
theorem id_enumA {a : Expr} {tpos : Pos} {elts : List Expr} {kk : Nat} (hm : X.mg "enumerate" = none) (ha : PA X [a] (tA X.K W gs)) (hg : Gl X "enumerate" := by rfl) (hs : starEach [a] X.env = [(false, eval a X.env)] := by rfl) :
    PI X (.Tuple elts kk tpos) (.Call (.Name "enumerate" p) [a] [] pos) (tI X.K W (iArgs kEnumA gs)) := by
  have h2 := pi_enumA (p := p) (pos := pos) (tpos := tpos) (elts := elts) (kk := kk) hg hm ha hs
  refine h2.weak fun σ H R h => ac_args h fun F H1 ds vs xs s r e k => ?_
  unfold kEnumA at e
  split at e
  · cases e
    obtain ⟨v, t, rfl, ⟨a, vs, rfl, q1, r1⟩, rfl⟩ := r
    exact ⟨a, vs, rfl, .inl ⟨s.sqL (SqL.of q1), k _ (jd_enum (SqL.of q1) r1)⟩⟩
  · cases e
    obtain ⟨v, t, rfl, ⟨a, vs, rfl, q1, r1⟩, rfl⟩ := r
    exact ⟨a, vs, rfl, .inr ⟨s.sqT q1, k _ (jd_enumT q1 r1)⟩⟩
  · cases e
end
end DL

/-! {k: v for .. in .. if ..}, the keys tuples (or ints and texts): the store left open. -/
namespace DL
open PySem PySem.Spec L2 PyProof.Rows
variable [HasW]
/-- what one store into the new dict at D asks of the heap, and what must be so behind it -/
abbrev StR := Addr → V → V → Hp → (Hp → Prop) → Prop
/-- the store does what St says -/
def Stores (X : Cx) (St : StR) : Prop := ∀ (Y : Cx), Y.prog = X.prog → Y.w = X.w → Y.K = X.K → Y.A = X.A → ∀ (pins : List (Addr × Obj)) (s : Shared) (σ : L2.St) (H : Hp) (D : Addr) (y z : V) (u r : Value) (Nx : Hp → Prop) (Q : Unit → Shared → Prop) (E : Value → Shared → Prop), Inv Y pins σ H s → RelV y u → RelV z r → St D y z H Nx →
  (∀ s' H', Inv Y pins σ H' s' → Nx H' → Q () s') → wpAny (model Y.prog Y.w) Y.A (dictSet D u r) Q E s
/-- the laps of the comprehension, D the dict -/
def Laps (St : StR) (J : It) (D : Addr) (g : TG) (tt : TT) (tk tv : TE) (vs : List Nat) (σ : L2.St) (H1 : Hp) (Q : VK) : Prop := ∃ At : Nat → Nat → Hp → Prop, (∃ m, At 0 m (upd H1 D (.dK []))) ∧ ∀ i m H, At i m H →
  (J.stop i H ∧ Q (.ref D) H) ∨ (J.go i H ∧ ∃ Nx : Hp → Prop, (∀ H', Nx H' → ∃ m', m' < m ∧ At (i + 1) m' H') ∧ ∀ x H', J.yld i H x H' → g x (wipe σ vs) H' fun σ2 H2 => wipe σ2 vs = wipe σ vs ∧ tt σ2 H2 fun b H3 =>
    if b = true then tk σ2 H3 fun y H4 => tv σ2 H4 fun z H5 => St D y z H5 Nx else Nx H3)
def tDcG (St : StR) (wi : TI) (g : TG) (tt : TT) (tk tv : TE) (vs : List Nat) : TE := fun σ H Q => wi σ H fun J H1 => ∀ D, H1 D = none → Laps St J D g tt tk tv vs σ H1 Q
section
variable {Y : Cx} {pins : List (Addr × Obj)} {s : Shared} {σ : L2.St} {H : Hp} {kx vx tg : Expr} {ifs : List Expr} {g : TG} {tt : TT} {tk tv : TE} {St : StR} {vs : List Nat} {D : Addr} {x : V} {u : Value} {Nx : Hp → Prop} {End : Shared → Prop}
theorem off {α : Type} {M : Model} {A : Around} {t : Sem α} {Q Q' : α → Shared → Prop} {E E' : Value → Shared → Prop} {s : Shared} (hE : ∀ e s, ¬ E e s) (h : wpAny M A t Q E s) (k : ∀ a s, Q a s → Q' a s) : wpAny M A t Q' E' s := wpAny_mono h k fun e s z => absurd z (hE e s)
/-- one lap, from the thing that is there to the dict told it -/
theorem lap_run {E : Value → Shared → Prop} (hE : ∀ e s, ¬ Y.xe e s) (pg : PG Y tg g) (pt : PTs Y ifs tt) (pk : PE Y kx tk) (pv : PE Y vx tv) (st : Stores Y St) (I : Inv Y pins σ H s) (rx : RelV x u) {τ : L2.St} (h : g x σ H fun σ2 H2 => wipe σ2 vs = τ ∧ tt σ2 H2 fun b H3 => if b = true then tk σ2 H3 fun y H4 => tv σ2 H4 fun z H5 => St D y z H5 Nx else Nx H3)
    (fin : ∀ (σ2 : L2.St) (H' : Hp) (s' : Shared), wipe σ2 vs = τ → Inv Y pins σ2 H' s' → Nx H' → End s') :
    wpAny (model Y.prog Y.w) Y.A (assign tg Y.env u) (fun _ s1 => wpAny (model Y.prog Y.w) Y.A (forIn ifs true fun c r => if r = true then do let ok ← isTrue c Y.env (eval c Y.env); pure (ForInStep.yield ok) else pure (ForInStep.yield r)) (fun ok s2 =>
      if ok = true then wpAny (model Y.prog Y.w) Y.A (eval kx Y.env) (fun kv s3 => wpAny (model Y.prog Y.w) Y.A (eval vx Y.env) (fun vv s4 => wpAny (model Y.prog Y.w) Y.A (dictSet D kv vv) (fun _ s5 => End s5) E s4) E s3) E s2 else End s2) E s1) E s := by
  refine off hE (pg.run pins s σ H x u _ I rx h) fun _ s1 ⟨σ2, H2, I2, w, h2⟩ => ?_
  refine off hE (pt.run pins s1 σ2 H2 _ I2 h2) fun b s2 ⟨H3, I3, h3⟩ => ?_
  cases b with
  | false => exact fin σ2 H3 s2 w I3 h3
  | true =>
    refine off hE (pk.run pins s2 σ2 H3 _ I3 h3) fun kv s3 ⟨y, H4, I4, ry, h4⟩ => ?_
    refine off hE (pv.run pins s3 σ2 H4 _ I4 h4) fun vv s4 ⟨z, H5, I5, rz, h5⟩ => ?_
    exact st Y rfl rfl rfl rfl pins s4 σ2 H5 D y z kv vv Nx _ E I5 ry rz h5 fun s5 H6 I6 nx => fin σ2 H6 s5 w I6 nx
end
section
variable {X : Cx} {St : StR} {kx vx tg iter : Expr} {ifs : List Expr} {scope : Scope} {own : List (Str × Nat)} {pos : Pos} {wi : TI} {g : TG} {tt : TT} {tk tv : TE}
theorem pe_dcG (st : Stores X St) (hc : X.calm = true) (hN : X.N.Nodup) (hi : PI X tg iter wi) (ok : BlkOk X.N X.env.scope scope own)
    (hg : ∀ (s : Shared) (H : Hp) (C : Addr) (cl : List (Str × Addr)) (fp : List Addr), PG (X.blk s H scope (compEnvC scope cl C X.env) fp) tg g) (ht : ∀ (s : Shared) (H : Hp) (C : Addr) (cl : List (Str × Addr)) (fp : List Addr), PTs (X.blk s H scope (compEnvC scope cl C X.env) fp) ifs tt)
    (hk : ∀ (s : Shared) (H : Hp) (C : Addr) (cl : List (Str × Addr)) (fp : List Addr), PE (X.blk s H scope (compEnvC scope cl C X.env) fp) kx tk)
    (hv : ∀ (s : Shared) (H : Hp) (C : Addr) (cl : List (Str × Addr)) (fp : List Addr), PE (X.blk s H scope (compEnvC scope cl C X.env) fp) vx tv) (hs : ∀ x, foldedSetIterable iter X.env x = pure x := by intro _; rfl) :
    PE X (.DictComp kx vx [⟨tg, iter, ifs, 0⟩] scope pos) (tDcG St wi g tt tk tv (own.map (·.2))) := by
  refine ⟨fun pins s σ H Q I h => ?_⟩
  rw [arm_eval_DictComp]
  have frees : ∀ y ∈ scope.names, y.2 = .free → ∃ c, X.env.cells.lookup y.1 = some c := fun y hy e => I.ok.has _ (ok.free y hy e)
  refine wpAny_comprehension_free rfl hs (closure_ok frees) ok.kind (fun y hy e => by rw [ok.uniq y hy, e]) (thn (hi.run pins s σ H _ I h) fun _ s1 a1 => thn a1 fun _ s2 a2 => ?_)
  obtain ⟨it, fp, tn, J, H2, rfl, I2, T, t2, fo, q⟩ := a2
  refine wpAny_newObj_type (newEnv_comp ?_)
  -- the dict's place, the state with it
  generalize eD : s2.heap.objs.size = D at q ⊢
  obtain ⟨At, ⟨m0, at0⟩, laps⟩ := q D (I2.hok.fresh (Nat.le_of_eq eD))
  let s3 : Shared := { s2 with heap := s2.heap.push { cls := .type "dict", data := .dict #[] } }
  let H3 : Hp := upd H2 D (.dK [])
  have I3 : Inv X pins σ H3 s3 := I2.laid (t' := s2.toks) (fun b o e => Heap.get?_push_of_some _ e) (Nat.le_of_eq eD) (by rw [← eD]; exact dk_empty s2.heap I2.big)
  have low : ∀ b ∈ fp, b < D := fun b hb => by
    obtain ⟨o, e, _⟩ := T.obj _ _ t2 b hb
    rw [← eD]
    exact Heap.lt_size e
  have up3 : ∀ {b : Addr} {o : Obj}, s2.heap.get? b = some o → s3.heap.get? b = some o := fun e => Heap.get?_push_of_some _ e
  have fo3 : ∀ b ∈ fp, FpOk X pins H3 b ∧ b < s3.heap.objs.size := fun b hb => by
    refine ⟨⟨?_, (fo b hb).2⟩, ?_⟩
    · show upd H2 D (.dK []) b = none
      rw [upd_ne (Nat.ne_of_lt (low b hb))]
      exact (fo b hb).1
    · have : s3.heap.objs.size = D + 1 := by rw [← eD]; exact Heap.size_push ..
      rw [this]
      exact Nat.lt_succ_of_lt (low b hb)
  have I4 := block_start I3 ok hN fo3
  have t3 : tn 0 s3.heap := T.keep _ _ _ t2 fun b _ o e => up3 e
  let ce := compEnvC scope (cellsFrom (s3.heap.objs.size + 1) scope.names (cloFrom X.env.cells scope.names [])) s3.heap.objs.size X.env
  let Y : Cx := X.blk s3 H3 scope ce fp
  let s4 : Shared := { s3 with heap := pushCells (s3.heap.push { cls := .type "dict", data := .dict #[] }) scope.names }
  have t4 : tn 0 s4.heap := T.keep _ _ _ t3 fun b _ o e => pushCells_keeps _ _ _ _ (Heap.get?_push_of_some _ e)
  have noX : ∀ e s, ¬ Y.xe e s := fun e s z => z
  have fpY : ∀ {σ' : L2.St} {H' : Hp} {s' : Shared}, Inv Y [] σ' H' s' → (∀ b ∈ fp, H' b = none) → ∀ b ∈ fp, FpOk Y [] H' b := fun {σ' H' s'} I' n b hb =>
    ⟨n b hb, (I'.ok.exf b hb).1, I'.ok.exfs b hb, .inl hb, fun x c e => (I'.ok.exf b hb).2 x c e, fun p hp => absurd (show p ∈ ([] : List (Addr × Obj)) ++ [] from hp) (by simp)⟩
  have loop : codeAny (model X.prog X.w) X.A (.compLoop (.DictComp kx vx [⟨tg, iter, ifs, 0⟩] scope pos) 0 (.ref it) (.ref D) ce) (compPost (model X.prog X.w) X.A X.xe none (EP X pins σ Q) (.ref D) s3.heap.objs.size) s4 := by
    let Lap : Nat → Shared → Prop := fun n s' => ∃ i H', Inv Y [] (wipe σ (own.map (·.2))) H' s' ∧ tn i s'.heap ∧ (∀ b ∈ fp, H' b = none) ∧ At i n H'
    refine compLoop_anyD Lap ?_ m0 ⟨0, H3, I4, t4, fun b hb => (fo3 b hb).1.1, at0⟩
    rintro n s5 ⟨i, H5, I5, t5, n5, a5⟩
    rcases laps i n H5 a5 with ⟨stop, fin⟩ | ⟨go, Nx, next, step⟩
    · refine off (fun _ _ z => z) (T.done Y rfl rfl rfl hc i [] s5 _ H5 (fun _ _ => False) I5 (fpY I5 n5) t5 stop) fun r s6 ⟨er, I6⟩ => ?_
      subst er
      have back : Inv X pins σ H5 s6 := I3.call' (ch := fp) I6.os I6.base I6.hok I6.bare fun b hb => let z := (fo3 b hb).1; ⟨z.2.2.2.1, z.2.1, z.2.2.2.2.1, z.2.2.2.2.2⟩
      have nC : H5 s3.heap.objs.size = none := I6.free
      obtain ⟨m, hn, _⟩ := I6.loc
      obtain ⟨f0, f1, f2, f3, f4, f5⟩ := I3.fpOk (Nat.le_refl _) nC
      exact ⟨m, hn, fun h'' sb => ⟨.ref D, H5, back.turned (t' := s6.toks) (fun b o hb e => (sb.2 b hb).trans e) f0 f1 f3 f4 f5, rfl, fin⟩⟩
    · refine off (fun _ _ z => z) (T.item Y rfl rfl rfl hc i [] s5 _ H5 (fun _ _ => False) I5 (fpY I5 n5) t5 go) fun r s6 ⟨u, er, h6⟩ => ?_
      subst er
      refine off (fun _ _ z => z) h6 fun _ s7 ⟨x, H7, I7, rx, y7, t7, n7⟩ => ?_
      have I7p := I7.pinned (fpY I7 n7) (T.obj _ _ t7)
      refine lap_run (End := fun s' => ∃ m, m < n ∧ Lap m s') noX (hg _ _ _ _ _) (ht _ _ _ _ _) (hk _ _ _ _ _) (hv _ _ _ _ _) (fun Z e1 e2 e3 e4 => st Z e1 e2 e3 e4) I7p rx (step x H7 y7) fun σ8 H' s' w8 I' nx => ?_
      obtain ⟨m', lt, am⟩ := next H' nx
      have pin : ∀ b ∈ fp, ∀ o, s7.heap.get? b = some o → s'.heap.get? b = some o ∧ H' b = none := fun b hb o e =>
        let z := I'.pin (b, o) (List.mem_append_right _ (List.mem_append_right _ (mem_pinsAt hb e)))
        ⟨z.1, z.2.1⟩
      have w9 : wipe σ8 (own.map (·.2)) = wipe σ (own.map (·.2)) := w8
      refine ⟨m', lt, i + 1, H', (I'.unpinned (pins := [])).weak (by rw [← w9, wipe_length]) (fun j v e => ?_), T.keep _ _ _ t7 fun b hb o e => (pin b hb o e).1, fun b hb => ?_, am⟩
      · rw [← w9] at e
        exact (wipe_some e).1
      · obtain ⟨o, e, _⟩ := T.obj _ _ t7 b hb
        exact (pin b hb o e).2
  exact codeAny_compStart_dict loop (T.self X.A 0 _ _ _ t4 loop)
end
end DL

/-! {k: v for .. in .. if ..}, over data. -/
namespace DL
open PySem PySem.Spec L2
variable [HasW]
def compGoD (vs : List Nat) (ft : D → Env → Option Env) (gt gk gv : Ev) : List D → D → Env → Option (D × Env)
  | [], acc, ρ => some (acc, ρ)
  | d :: ds, acc, ρ => match ft d ρ with
    | some ρ1 => match gt ρ1 with
      | .ok (.val (.bl true)) ρ2 => match (gk ρ2).settle with
        | .ok r ρ3 => match frz r ρ3 with
          | some (k, ρ4) => match (gv ρ4).settle with
            | .ok r2 ρ5 => match frz r2 ρ5 with
              | some (v, ρ6) => match stored acc k v with
                | some acc' => compGoD vs ft gt gk gv ds acc' (wipeE ρ6 vs)
                | none => none
              | none => none
            | _ => none
          | none => none
        | _ => none
      | .ok (.val (.bl false)) ρ2 => compGoD vs ft gt gk gv ds acc (wipeE ρ2 vs)
      | _ => none
    | none => none
def dDc (gi : Iv) (vs : List Nat) (ft : D → Env → Option Env) (gt gk gv : Ev) : Ev := fun ρ => match gi ρ with
  | .ok ds ρ1 => if idle ρ1 vs = true ∧ ds.length ≤ 1000000 then match compGoD vs ft gt gk gv ds (.dic [] []) (wipeE ρ1 vs) with
      | some (acc, ρ2) => .ok (.new acc) (restE ρ2 ρ1 vs)
      | none => .no
    else .no
  | .ex x ρ1 => .ex x ρ1
  | .no => .no
/-- a dict -/
def IsDc (d : D) : Prop := (∃ ks xs, d = .dic ks xs) ∨ ∃ ks xs, d = .dct ks xs
def stR (K : PySem.W.Frag) : StR := fun P y z H Nx => (∃ kvs k, y = kV k ∧ H P = some (.dK kvs) ∧ kvs.length < sizeLine ∧ Nx (upd H P (.dK (putK kvs k z)))) ∨
  ∃ es k b, y = .ref b ∧ XMut H P es ∧ KeysAt K H es ∧ KeyAt K H y k ∧ es.length < sizeLine ∧ Nx (upd H P (dxO P (xPut es k b z)))
theorem stores_st {X : Cx} (hu : X.A.units + 65 < cLine) (hw : X.w = HasW.w := by rfl) : Stores X (stR X.K) := by
  intro Y hp hw' hK hA pins s σ H P y z u r Nx Q E I ry rz h q
  rcases h with ⟨kvs, k, rfl, hP, hl, nx⟩ | ⟨es, k, b, rfl, xm, ka, kat, hl, nx⟩
  · obtain ⟨z', hd, vs, rel, dd⟩ := dk_of I.hok hP
    have hzv : vs.length ≤ sizeLine := by rw [← rel.length]; exact z'
    refine wpAny_dictSet_pairs (hsz := hzv) (kV_is ry) dd fun h' dd' hs => q _ _ ?_ nx
    have he : ∃ q, h'.get? P = some q := let ⟨q, _, _, hq, _⟩ := dd'; ⟨q, hq⟩
    have hl' : (putK kvs k z).length ≤ sizeLine := by have := length_putK kvs k z; omega
    exact d_write I (by rw [hP]; exact True.intro) hs he (dk_new hl' hd (rel.put k rz) dd')
  · have hwY : Y.w = HasW.w := hw'.trans hw
    rw [← hK] at ka kat
    cases ry
    obtain ⟨z', hd, us, rvs, dd⟩ := xm.at.facts hwY I ka
    obtain ⟨b', e1, e2, hk⟩ := kat.is I (u := .ref b) rfl
    injection e1 with e1
    subst e1
    have lz : (zip3 es us).length = es.length := zip3_length es us (by have := rvs.length; rwa [List.length_map] at this)
    refine wpAny_dictSet_heap (knd := nestedKind Y.prog Y.w) (hsz := by omega) (by show Y.A.units + 8 < cLine; rw [hA]; omega) hk dd fun h' dd' hs => q _ _ ?_ nx
    obtain ⟨ws, r1, r2⟩ := xPut_zip (k := k) (b := b) rz es us rvs
    rw [r2] at dd'
    obtain ⟨o, des, ep, ho, hx, hdt, he, _, hn⟩ := dd'
    have lw : (xPut es k b z).length = ws.length := by have := r1.length; rwa [List.length_map] at this
    have mu : Mut (H P) := by
      rcases xm with x | ⟨_, x⟩ <;> rw [x] <;> exact True.intro
    refine d_write I mu hs ⟨o, ho⟩ ⟨?_, ⟨o, ho⟩, ?_⟩
    · refine ⟨by have := xPut_length es k b z; omega, hd, by rw [← zip3_keys _ ws lw]; exact hn, ws, r1, o, des, ep, ho, hx, hdt, ?_⟩
      rw [he, hwY, zip3_entries]
    · rintro h1 h2 ⟨c1, c2, c3, us', c4, o', des', ep', c5, c6⟩ hk'
      exact ⟨c1, c2, c3, us', c4, o', des', ep', hk' _ c5, c6⟩
theorem cell_stored {K : PySem.W.Frag} {F H : Hp} {P : Addr} {acc acc' kd vd : D} {y z : V} {Nx : Hp → Prop} (s : Sub F H) (c : Cell K F H P acc) (la : IsDc acc) (rk : Rep K F kd y) (rv : Rep K F vd z) (e : stored acc kd vd = some acc')
    (fin : ∀ o, Cell K F (upd H P o) P acc' → IsDc acc' → Nx (upd H P o)) : stR K P y z H Nx := by
  cases eX : storedX acc kd vd with
  | some x2 =>
    have e2' : (storedX acc kd vd <|> stored1 acc kd vd) = some acc' := e
    rw [eX] at e2'
    cases e2'
    obtain ⟨kk, hkk, hx⟩ := storedX_some eX
    have hk := Rep.view s rk
    obtain ⟨rk', b, rfl⟩ := kOf_rep hk hkk
    have ka := View.keyAt s hk hkk
    have dcp : ∀ ks xs, IsDc (dctPut ks xs kd kk vd) := fun ks xs => .inr (by unfold dctPut; split <;> exact ⟨_, _, rfl⟩)
    rcases hx with ⟨ks, xs, rfl, hl, rfl⟩ | ⟨xs, rfl, rfl⟩
    · obtain ⟨es, hH, hm, rks, rxs⟩ := c
      have le : ks.length = es.length := by have := congrArg List.length hm; simpa using this
      exact .inr ⟨es, kk, b, rfl, .inl hH, keysAt_of s hm rks, ka, by omega, fin _ (cell_dct hm rks rxs hkk rk rv) (dcp _ _)⟩
    · obtain ⟨ws, hH, l, n, rxs⟩ := c
      exact .inr ⟨[], kk, b, rfl, .inr ⟨rfl, hH⟩, (fun e h => nomatch h), ka, by rw [sizeLine_eq]; decide, fin _ (cell_dct (ks := []) (xs := []) (es := []) rfl .nil .nil hkk rk rv) (dcp _ _)⟩
  | none =>
    replace e : stored1 acc kd vd = some acc' := by
      have e2' : (storedX acc kd vd <|> stored1 acc kd vd) = some acc' := e
      rw [eX] at e2'
      exact e2'
    rcases la with ⟨ks, xs, rfl⟩ | ⟨ks, xs, rfl⟩
    · have e3 : (match keyOf kd with | some k => if ks.length < sizeLine then some (dicPut ks xs k vd) else none | none => none) = some acc' := e
      cases e4 : keyOf kd with
      | none => rw [e4] at e3; cases e3
      | some kk =>
        rw [e4] at e3
        by_cases hl : ks.length < sizeLine
        · simp only [if_pos hl] at e3
          cases e3
          obtain ⟨ws, hw, l, n, rw'⟩ := c
          have := key_rep rk e4
          subst this
          refine .inl ⟨_, kk, rfl, hw, ?_, fin _ (cell_put rw' l n rv) (.inl (by unfold dicPut; split <;> exact ⟨_, _, rfl⟩))⟩
          rw [List.length_zip, rw'.length, l, Nat.min_self, ← l]
          exact hl
        · simp only [if_neg hl] at e3
          cases e3
    · cases e
section
variable {X : Cx} {W : WX} {kx vx tg iter : Expr} {ifs : List Expr} {scope : Scope} {own : List (Str × Nat)} {pos : Pos} {gi : Iv} {ft : D → Env → Option Env} {gt gk gv : Ev} {tch : List Nat}
theorem settled_srep {K : PySem.W.Frag} {g : ER} {r : RV} {ρ ρ' : Env} {σ : L2.St} {F H : Hp} {G : Hp} {v : V} (e : g.settle = .ok r ρ) (h : RRep K F G H σ ρ' r v) : SRep K F σ r v := by
  have rs : r.settle = r := by
    cases g with
    | no => cases e
    | ex x ρ => cases e
    | ok r0 ρ0 =>
      have e6 : r0.settle = r := by cases e; rfl
      rw [← e6]
      cases r0 <;> rfl
  rw [← rs] at h ⊢
  exact settle_srep h
theorem ec_dc_at {K : PySem.W.Frag} {vs : List Nat} {ti : TI} (ht : ∀ j ∈ tch, j ∈ vs) {α : Nat → Addr} {ρ : Env} {F G : Hp} {σ : L2.St} {H : Hp} {Q : VK} (f : Fits K α ρ σ H F G) (hti : ∀ R, IC K W α σ F G R (gi ρ) → ti σ H R) (h : EC K W α σ F G Q (dDc gi vs ft gt gk gv ρ)) :
    tDcG (stR K) ti (tG K tch ft) (tT K W0 gt) (tE K W0 gk) (tE K W0 gv) vs σ H Q := by
  refine hti _ ?_
  unfold dDc at h
  cases e1 : gi ρ with
  | no => simp [e1, EC] at h
  | ex x ρ1 => simp only [e1] at h; exact h
  | ok ds ρ1 =>
    simp only [e1] at h
    by_cases hc : idle ρ1 vs = true ∧ ds.length ≤ 1000000
    · rw [if_pos hc] at h
      obtain ⟨hid, hsz⟩ := hc
      cases e2 : compGoD vs ft gt gk gv ds (.dic [] []) (wipeE ρ1 vs) with
      | none => simp [e2, EC] at h
      | some w =>
        obtain ⟨accE, ρe⟩ := w
        simp only [e2] at h
        intro J H1 F1 g1 f1 jd P hP
        have fP : F1 P = none := f1.fh.free hP
        have gP : G P = none := f1.gh.free hP
        have ap : ∀ (j : Nat) (s : Slot), ρ1[j]? = some s → s.owns = true → σ[j]? ≠ some (some (.ref P)) := fun j s q o z => by
          have so : ∃ d, ρ1[j]? = some (.own d) ∨ ρ1[j]? = some (.bor d) := by
            cases s with
            | non => cases o
            | val d => cases o
            | own d => exact ⟨d, .inl q⟩
            | bor d => exact ⟨d, .inr q⟩
          obtain ⟨d, so⟩ := so
          obtain ⟨u, hu⟩ := (f1.owner so z).2.2.there
          rw [hP] at hu
          cases hu
        have fx := f1.ext (Ext.allocO (o := .dK []) f1.fh hP)
        have fh := (fx.hold upd_same ap).wiped vs
        refine ⟨fun i m H => m = ds.length - i ∧ i ≤ ds.length ∧ ∃ (ρ : Env) (F : Hp) (acc : D) (o : HO), Fits K α ρ (wipe σ vs) H F (upd G P o) ∧ F P = none ∧ Grow G F1 F ∧ Cell K F H P acc ∧ IsDc acc ∧ compGoD vs ft gt gk gv (ds.drop i) acc ρ = some (accE, ρe),
          ⟨ds.length, rfl, Nat.zero_le _, wipeE ρ1 vs, F1, .dic [] [], .dK [], fh, fP, Grow.refl _ _, ⟨[], upd_same, rfl, List.nodup_nil, .nil⟩, .inl ⟨_, _, rfl⟩, by simpa using e2⟩, ?_⟩
        rintro i m H2 ⟨rfl, hi, ρ, F2, acc, o, f2, n2, g2, ra, la, eg⟩
        have hP2 : H2 P = some o := f2.gh P _ upd_same
        have cm : ∀ {F' H' : Hp}, Sub F2 F' → H' P = some o → Cell K F' H' P acc := fun s e => ra.mono s fun o' e' => by rw [hP2] at e'; cases e'; exact e
        have gsub : Sub G H2 := fun b u q => f2.gh b u (by rw [upd_ne (ne_of_none q gP)]; exact q)
        obtain ⟨j1, j2⟩ := jd H2 F2 g2.sub f2.fh
        by_cases hlt : i < ds.length
        · obtain ⟨d, hd, hdr⟩ := drop_cons hlt
          obtain ⟨go, yl⟩ := j1 i d hd
          rw [hdr] at eg
          refine .inr ⟨go, fun H' => i + 1 ≤ ds.length ∧ ∃ (ρ : Env) (F : Hp) (acc : D) (o : HO), Fits K α ρ (wipe σ vs) H' F (upd G P o) ∧ F P = none ∧ Grow G F1 F ∧ Cell K F H' P acc ∧ IsDc acc ∧ compGoD vs ft gt gk gv (ds.drop (i + 1)) acc ρ = some (accE, ρe),
            fun H' ⟨a, b⟩ => ⟨ds.length - (i + 1), by omega, rfl, a, b⟩, fun x H' y => ?_⟩
          obtain ⟨F3, ex, r3⟩ := yl x H' y
          have f3 := f2.ext ex
          have g3 := f2.grow ex
          unfold compGoD at eg
          cases e3 : ft d ρ with
          | none => simp [e3] at eg
          | some ρ2 =>
            simp only [e3] at eg
            refine ⟨α, ρ, F3, _, d, f3, r3, ρ2, e3, fun σ4 H4 F4 g4 f4 sb4 l4 k4 => ?_⟩
            have ws : wipe σ4 vs = wipe σ vs := wipe_same l4 k4 ht
            refine ⟨ws, α, ρ2, F4, _, f4, ?_⟩
            have bad : ∀ {q : ER}, gt ρ2 = q → (∀ b ρ', q ≠ .ok (.val (.bl b)) ρ') → False := fun {q} e n => by
              subst e
              cases e4 : gt ρ2 with
              | no => simp [e4] at eg
              | ex x ρ' => simp [e4] at eg
              | ok r ρ' =>
                cases r with
                | loc i => simp [e4] at eg
                | new d => simp [e4] at eg
                | val d =>
                  cases d with
                  | bl b => exact n b ρ' e4
                  | _ => simp [e4] at eg
            cases e4 : gt ρ2 with
            | no => exact (bad e4 fun b ρ' z => by cases z).elim
            | ex x ρ' => exact (bad e4 fun b ρ' z => by cases z).elim
            | ok r ρ3 =>
              cases r with
              | loc i => exact (bad e4 fun b ρ' z => by cases z).elim
              | new d => exact (bad e4 fun b ρ' z => by cases z).elim
              | val dd =>
                by_cases hb : ∃ b, dd = .bl b
                · obtain ⟨b, rfl⟩ := hb
                  intro H5 F5 g5 f5
                  cases b with
                  | false =>
                    simp only [e4] at eg
                    refine iteF ⟨hlt, wipeE ρ3 vs, F5, acc, o, by rw [← ws]; exact f5.wiped vs, g5.apart (g4.apart (g3.apart n2)), ((g2.trans g3.loose).trans g4.loose).trans g5.loose, cm ((g3.sub.trans g4.sub).trans g5.sub) (f5.gh P _ upd_same), la, eg⟩
                  | true =>
                    simp only [e4] at eg
                    refine iteT ⟨α, ρ3, F5, _, f5, EC.settle ?_⟩
                    cases e5 : (gk ρ3).settle with
                    | no => simp [e5] at eg
                    | ex x ρ' => simp [e5] at eg
                    | ok r4 ρ4 =>
                      simp only [e5] at eg
                      intro y H6 F6 g6 f6 r6
                      have s6 : SRep K F6 σ4 r4 y := settled_srep e5 r6
                      cases e6 : frz r4 ρ4 with
                      | none => simp [e6] at eg
                      | some w =>
                        obtain ⟨kd, ρ5⟩ := w
                        simp only [e6] at eg
                        obtain ⟨F7, g7, f7, r7⟩ := f6.frz s6 e6
                        refine ⟨α, ρ5, F7, _, f7, EC.settle ?_⟩
                        cases e7 : (gv ρ5).settle with
                        | no => simp [e7] at eg
                        | ex x ρ' => simp [e7] at eg
                        | ok rr8 ρ8 =>
                          simp only [e7] at eg
                          intro z H8 F8 g8 f8 r8
                          have s8 : SRep K F8 σ4 rr8 z := settled_srep e7 r8
                          cases e8 : frz rr8 ρ8 with
                          | none => simp [e8] at eg
                          | some w =>
                            obtain ⟨vd, ρ9⟩ := w
                            simp only [e8] at eg
                            obtain ⟨F9, g9, f9, r9⟩ := f8.frz s8 e8
                            cases e9 : stored acc kd vd with
                            | none => simp [e9] at eg
                            | some acc' =>
                              simp only [e9] at eg
                              have ac : F9 P = none := g9.apart (g8.apart (g7.apart (g6.apart (g5.apart (g4.apart (g3.apart n2))))))
                              have hP9 : H8 P = some o := f9.gh P _ upd_same
                              have c9 : Cell K F9 H8 P acc := cm ((((((g3.sub.trans g4.sub).trans g5.sub).trans g6.sub).trans g7.sub).trans g8.sub).trans g9.sub) hP9
                              have rk : Rep K F9 kd y := Rep.mono (g8.sub.trans g9.sub) _ _ r7
                              refine cell_stored f9.fh c9 la rk r9 e9 fun o' c' la' => ⟨hlt, wipeE ρ9 vs, F9, acc', o', ?_, ac, (((((((g2.trans g3.loose).trans g4.loose).trans g5.loose).trans g6.loose).trans g7.loose).trans g8.loose).trans g9.loose), c', la', eg⟩
                              rw [← ws]
                              exact (f9.turn ac gP f9).wiped vs
                · exact (bad e4 fun b ρ' z => hb ⟨b, by cases z; rfl⟩).elim
        · have e : i = ds.length := by omega
          subst e
          rw [List.drop_length] at eg
          unfold compGoD at eg
          cases eg
          refine .inl ⟨j2, ?_⟩
          obtain ⟨f5, ap5⟩ := f2.loose gP
          have f6 := f1.restored hid f5 g2.sub
          refine h _ H2 F2 (g1.trans g2) f6 ⟨P, rfl, n2, gP, ?_, fun j s q o z => ?_⟩
          · exact ra
          · have hl : ρ1.length = ρe.length := by
              have a := f1.len
              have b := f5.len
              rw [wipe_length] at b
              omega
            rcases restE_get hl q with ⟨n, e⟩ | ⟨m, e⟩
            · exact ap5 j s e o (by rw [(wipe_get (σ := σ)).1 n]; exact z)
            · rw [idle_get hid m e] at o
              cases o
    · rw [if_neg hc] at h
      exact h.elim
theorem ec_dc {K : PySem.W.Frag} {vs : List Nat} (ht : ∀ j ∈ tch, j ∈ vs) {σ : L2.St} {H : Hp} {Q : VK} (h : tE K W (dDc gi vs ft gt gk gv) σ H Q) :
    tDcG (stR K) (tI K W gi) (tG K tch ft) (tT K W0 gt) (tE K W0 gk) (tE K W0 gv) vs σ H Q := by
  obtain ⟨α, ρ, F, G, f, h⟩ := h
  exact ec_dc_at ht f (fun R q => ⟨α, ρ, F, G, f, q⟩) h
theorem ed_dc {k : Nat} (hr : RoomG k X.A) (hc : X.calm = true) (hN : X.N.Nodup) (ok : BlkOk X.N X.env.scope scope own) (ht : ∀ j ∈ tch, j ∈ own.map (·.2)) (hi : PI X tg iter (tI X.K W gi))
    (hg : ∀ (s : Shared) (H : Hp) (C : Addr) (cl : List (Str × Addr)) (fp : List Addr), PG (X.blk s H scope (compEnvC scope cl C X.env) fp) tg (tG X.K tch ft)) (hif : ∀ (s : Shared) (H : Hp) (C : Addr) (cl : List (Str × Addr)) (fp : List Addr), PTs (X.blk s H scope (compEnvC scope cl C X.env) fp) ifs (tT X.K W0 gt))
    (hk : ∀ (s : Shared) (H : Hp) (C : Addr) (cl : List (Str × Addr)) (fp : List Addr), PE (X.blk s H scope (compEnvC scope cl C X.env) fp) kx (tE X.K W0 gk))
    (hv : ∀ (s : Shared) (H : Hp) (C : Addr) (cl : List (Str × Addr)) (fp : List Addr), PE (X.blk s H scope (compEnvC scope cl C X.env) fp) vx (tE X.K W0 gv)) (hs : ∀ x, foldedSetIterable iter X.env x = pure x := by intro _; rfl) (hw : X.w = HasW.w := by rfl) :
    PE X (.DictComp kx vx [⟨tg, iter, ifs, 0⟩] scope pos) (tE X.K W (dDc gi (own.map (·.2)) ft gt gk gv)) :=
  (pe_dcG (stores_st (u65 hr) hw) hc hN hi ok hg hif hk hv hs).weak fun σ H Q h => ec_dc ht h
end
end DL

/-! sum(x), x a list or a tuple of whole numbers. -/
namespace DL
open PySem PySem.Spec L2 PyProof.Rows PyProof.V PySem.W
section
variable {X : Cx}
def rSumA (K : PySem.W.Frag) : List V → Hp → VK → Prop := fun vs H Q => ∃ (a : Addr) (ns : List Int), vs = [V.ref a] ∧ (SqL K H a (ns.map V.int) ∨ SqT K H a (ns.map V.int)) ∧ Q (.int ns.sum) H
theorem call_sumA (hc : X.calm = true) : CallR X (.builtin "sum") (rSumA X.K) := by
  intro pins s σ H vs us Q I r h
  obtain ⟨a, ns, rfl, hs, q⟩ := h
  rcases hs with hs | hs
  · exact cr_sum hc pins s σ H _ us Q I r ⟨a, ns, rfl, hs, q⟩
  · obtain ⟨its, rv, ht, _⟩ := I.tuple hs
    rw [Vals.ref1 r]
    have hi := rv.ints
    obtain ⟨xs, e⟩ := hi.allInts.items
    have hn : numsOf (intItems xs).toList = ns := by rw [← e]; exact hi.numsOf
    rw [nums_intItems] at hn
    have ht' : s.heap.IsTuple a (intItems xs) := by rw [← e]; exact ht
    refine ktm_sumG (I.ok.hd hc) ht' fun h' tk t' hk => ?_
    rw [preSum_eq, List.take_of_length_le (by simp), hn]
    exact ⟨.int _, H, I.kept hk, ⟨_, rfl⟩, q⟩
end
variable [HasW]
def fSumA : List D → Option RV
  | [d] => (intsOf d).map fun ns => .val (.int ns.sum)
  | _ => none
theorem on_sumA {K : PySem.W.Frag} : OpN K (rSumA K) fSumA := by
  intro F H ds vs z Q s v h q
  unfold fSumA at h
  split at h
  · rename_i d
    obtain ⟨ns, e, rfl⟩ := Option.map_eq_some_iff.mp h
    obtain ⟨u, t, rfl, a, rfl⟩ := v
    obtain ⟨p, rfl, hp⟩ := intsOf_view s a e
    exact ⟨p, ns, rfl, hp, q _ H F (Ext.refl s) rfl⟩
  · cases h
end DL

/-! statements that are never reached, list(range(n)). -/
namespace DL
open PySem PySem.Spec L2
variable [HasW]
/-- a statement that is never reached -/
theorem sd_no {X : Cx} {W : WX} {st : Stmt} : PS X st (tS X.K W fun _ => .no) := ⟨fun pins s σ H D I h => by
  obtain ⟨α, ρ, F, G, f, h⟩ := h
  exact h.elim⟩
section
variable {X : Cx} {W : WX} {a : Expr} {ga : Ev} {p p2 pos pos2 : Pos}
def rangeL (n : Int) : List D := (List.range n.toNat).map fun (k : Nat) => D.int (k : Int)
def dListRg (ga : Ev) : Ev := fun ρ => (ga ρ).settle.bind fun r ρ1 => match peek r ρ1 with
  | some (.int n) => if 0 ≤ n ∧ n ≤ 1000000 then .ok (.new (.lst (rangeL n))) ρ1 else .no
  | _ => .no
theorem reps_range {K : PySem.W.Frag} {F : Hp} : ∀ (l : List Nat), Reps K F (l.map fun (k : Nat) => D.int (k : Int)) (l.map fun (k : Nat) => V.int (0 + (k : Int)))
  | [] => .nil
  | k :: l => .cons (show V.int _ = V.int _ by simp) (reps_range l)
theorem ed_listRg (hc : X.calm = true) (hm : X.mg "list" = none) (hm2 : X.mg "range" = none) (ha : PE X a (tE X.K W ga)) (hg : Gl X "list" := by rfl) (hg2 : Gl X "range" := by rfl)
    (na : starEach [a] X.env = (false, eval a X.env) :: starEach [] X.env := by rfl) (nb : starEach [.Call (.Name "range" p2) [a] [] pos2] X.env = (false, eval (.Call (.Name "range" p2) [a] [] pos2) X.env) :: starEach [] X.env := by rfl) :
    PE X (.Call (.Name "list" p) [.Call (.Name "range" p2) [a] [] pos2] [] pos) (tE X.K W (dListRg ga)) := by
  refine (pe_listRg hc hg hm (prg_1 hg2 hm2 ha na) nb).weak fun σ H Q ⟨α, ρ, F, G, ft, h⟩ => ⟨α, ρ, F, G, ft, EC.bindS (fun r ρ1 v H1 F1 g1 f1 s1 h1 => ?_) h⟩
  cases e1 : peek r ρ1 with
  | none => simp [e1, EC] at h1
  | some d =>
    cases d with
    | int n =>
      simp only [e1] at h1
      by_cases hl : 0 ≤ n ∧ n ≤ 1000000
      · rw [if_pos hl] at h1
        have hv := f1.peek s1 e1
        cases hv
        refine ⟨n, rfl, RgOk.of_le (by omega) (by omega) (by omega) hl.1, fun q hq => ?_⟩
        refine EC.op f1 h1 _ _ _ (Ext.allocO f1.fh hq) ⟨q, rfl, hq, f1.fh.free hq, _, upd_same, ?_⟩
        have : (n - 0).toNat = n.toNat := by omega
        show Reps _ _ (rangeL n) (rgV 0 n)
        unfold rangeL rgV
        rw [this]
        exact reps_range _
      · rw [if_neg hl] at h1
        exact h1.elim
    | _ => simp [e1, EC] at h1
end
end DL

/-! <, <=, >, >= of tuples and lists, too. -/
namespace DL
open PySem PySem.Spec L2 PySem.W
variable [HasW]
def isNonP : PyData → Bool
  | .none => true
  | _ => false
theorem isNonP_ne {p : PyData} (h : isNonP p = false) : p ≠ .none := fun e => by rw [e] at h; cases h
/-- x < y, by the kit's data -/
def ordD (x y : D) : Option Bool := match py x, py y with
  | some p, some q => if PySem.W.alike p q = true ∧ isNonP p = false ∧ p.depth ≤ 60 then some (dataLt p q) else none
  | _, _ => none
def opLtA (x y : D) : Option RV := opLt x y <|> (ordD x y).map fun b => .val (.bl b)
def opGtA (x y : D) : Option RV := opGt x y <|> (ordD' x y).map fun b => .val (.bl b)
where ordD' (x y : D) : Option Bool := match py x, py y with
  | some p, some q => if PySem.W.alike p q = true ∧ isNonP p = false ∧ p.depth ≤ 60 then some (dataLt q p) else none
  | _, _ => none
def rOrd (K : PySem.W.Frag) (f : PyData → PyData → Bool) : R2 := fun x y H Q => ∃ p q, Dp K H x p ∧ Dp K H y q ∧ PySem.W.alike p q = true ∧ p ≠ .none ∧ p.depth ≤ 60 ∧ Q (.bl (f p q)) H
section
variable {X : Cx}
theorem op_ltD (hu : X.A.units + 65 < cLine) : OpR X (compareOp .Lt) (rOrd X.K dataLt) := by
  intro pins s σ H x y v u Q I rx ry h
  obtain ⟨p, q, hp, hq, al, nn, dp, k⟩ := h
  obtain ⟨as, r1⟩ := Dp.reads I p x v hp rx
  obtain ⟨bs, r2⟩ := Dp.reads I q y u hq ry
  exact lt_data r1 r2 al nn (by have := Nat.min_le_left p.depth q.depth; omega) ⟨.bl _, H, I, rfl, k⟩
theorem op_gtD (hu : X.A.units + 65 < cLine) : OpR X (compareOp .Gt) (rOrd X.K fun p q => dataLt q p) := by
  intro pins s σ H x y v u Q I rx ry h
  obtain ⟨p, q, hp, hq, al, nn, dp, k⟩ := h
  obtain ⟨as, r1⟩ := Dp.reads I p x v hp rx
  obtain ⟨bs, r2⟩ := Dp.reads I q y u hq ry
  exact gt_data r1 r2 al nn (by have := Nat.min_le_left p.depth q.depth; omega) ⟨.bl _, H, I, rfl, k⟩
end
section
variable {K : PySem.W.Frag}
theorem o_ltA : Op2 K (fun x y H Q => rI0 (fun i j => .bl (decide (i < j))) x y H Q ∨ rOrd K dataLt x y H Q) opLtA := by
  intro F H d e x y z Q s a b h q
  unfold opLtA at h
  cases e1 : opLt d e with
  | some r =>
    rw [e1] at h
    cases h
    exact .inl (o_lt F H d e x y z Q s a b e1 q)
  | none =>
    rw [e1] at h
    have h' : (ordD d e).map (fun b => RV.val (.bl b)) = some z := h
    obtain ⟨c, hc, rfl⟩ := Option.map_eq_some_iff.mp h'
    unfold ordD at hc
    split at hc
    · rename_i p r hp hr
      split at hc
      · rename_i hh
        cases hc
        exact .inr ⟨p, r, a.dp s hp, b.dp s hr, hh.1, isNonP_ne hh.2.1, hh.2.2, q _ H F (Ext.refl s) rfl⟩
      · cases hc
    · cases hc
theorem o_gtA : Op2 K (fun x y H Q => rI0 (fun i j => .bl (decide (i > j))) x y H Q ∨ rOrd K (fun p q => dataLt q p) x y H Q) opGtA := by
  intro F H d e x y z Q s a b h q
  unfold opGtA at h
  cases e1 : opGt d e with
  | some r =>
    rw [e1] at h
    cases h
    exact .inl (o_gt F H d e x y z Q s a b e1 q)
  | none =>
    rw [e1] at h
    have h' : (opGtA.ordD' d e).map (fun b => RV.val (.bl b)) = some z := h
    obtain ⟨c, hc, rfl⟩ := Option.map_eq_some_iff.mp h'
    unfold opGtA.ordD' at hc
    split at hc
    · rename_i p r hp hr
      split at hc
      · rename_i hh
        cases hc
        exact .inr ⟨p, r, a.dp s hp, b.dp s hr, hh.1, isNonP_ne hh.2.1, hh.2.2, q _ H F (Ext.refl s) rfl⟩
      · cases hc
    · cases hc
end
section
variable {X : Cx} {W : WX} {a b : Expr} {ga gb : Ev} {k : Nat}
theorem cd_ltA (hr : RoomG k X.A) (ha : PE X a (tE X.K W ga)) (hb : PE X b (tE X.K W gb)) : PC X .Lt a b (tE X.K W (dOp2 opLtA ga gb)) := cd_op (op_lt.or (op_ltD (u65 hr))) o_ltA ha hb
theorem cd_gtA (hr : RoomG k X.A) (ha : PE X a (tE X.K W ga)) (hb : PE X b (tE X.K W gb)) : PC X .Gt a b (tE X.K W (dOp2 opGtA ga gb)) := cd_op (op_gt.or (op_gtD (u65 hr))) o_gtA ha hb
theorem bf_ltA : BoolF opLtA := fun x y z h => by
  unfold opLtA at h
  cases e1 : opLt x y with
  | some r => rw [e1] at h; cases h; exact bf_lt x y _ e1
  | none =>
    rw [e1] at h
    obtain ⟨c, _, rfl⟩ := Option.map_eq_some_iff.mp (show (ordD x y).map (fun b => RV.val (.bl b)) = some z from h)
    exact ⟨_, rfl⟩
theorem bf_gtA : BoolF opGtA := fun x y z h => by
  unfold opGtA at h
  cases e1 : opGt x y with
  | some r => rw [e1] at h; cases h; exact bf_gt x y _ e1
  | none =>
    rw [e1] at h
    obtain ⟨c, _, rfl⟩ := Option.map_eq_some_iff.mp (show (opGtA.ordD' x y).map (fun b => RV.val (.bl b)) = some z from h)
    exact ⟨_, rfl⟩
end
end DL

/-! list(zip(x, y)), list(d.items()) at the hand layer and over data. -/
namespace DL
open PySem PySem.Spec PyProof.Rows L2
/-- the tuples at their addresses -/
def putP : Hp → List Addr → List (V × V) → Hp
  | H, a :: as, p :: ps => putP (upd H a (.tup [p.1, p.2])) as ps
  | H, _, _ => H
theorem putP_off {b : Addr} : ∀ (as : List Addr) (ps : List (V × V)) (H : Hp), b ∉ as → putP H as ps b = H b
  | [], _, _, _ => rfl
  | _ :: _, [], _, _ => rfl
  | a :: as, p :: ps, H, h => by
    show putP (upd H a (.tup [p.1, p.2])) as ps b = H b
    rw [putP_off as ps _ (fun z => h (List.mem_cons_of_mem _ z)), upd_ne (fun z => h (by rw [z]; exact List.mem_cons_self))]
theorem putP_at : ∀ (as : List Addr) (ps : List (V × V)) (H : Hp), as.length = ps.length → as.Nodup → ∀ (j : Nat) (a : Addr) (p : V × V), as[j]? = some a → ps[j]? = some p → putP H as ps a = some (.tup [p.1, p.2])
  | [], _, _, _, _, j, a, p, h, _ => by simp at h
  | _ :: _, [], _, h, _, _, _, _, _, _ => by cases h
  | a :: as, p :: ps, H, h, hn, 0, b, q, e1, e2 => by
    simp at e1 e2
    subst e1 e2
    show putP (upd H a (.tup [p.1, p.2])) as ps a = some (.tup [p.1, p.2])
    rw [putP_off as ps _ (List.nodup_cons.mp hn).1, upd_same]
  | a :: as, p :: ps, H, h, hn, j + 1, b, q, e1, e2 => putP_at as ps _ (Nat.succ.inj h) (List.nodup_cons.mp hn).2 j b q (by simpa using e1) (by simpa using e2)
section
variable {X : Cx} {pins : List (Addr × Obj)} {σ : L2.St} {H : Hp} {s : Shared} {h' : Heap} {tk c : Nat} {ps : List (V × V)} {acc : Array Value} {as : List Addr} {S : Addr}
theorem pairs_laid (I : Inv X pins σ H s) (hz : ps.length ≤ sizeLine) (hk : ∀ b o, s.heap.get? b = some o → h'.get? b = some o) (hSge : s.heap.objs.size ≤ S)
    (hS : h'.get? S = some { cls := .type "list", dict := none, data := .seq acc c, slots := #[] }) (hl : as.length = ps.length) (rise : as.Pairwise (· < ·)) (above : ∀ a ∈ as, S < a)
    (hp : ∀ (j : Nat) (a : Addr), as[j]? = some a → ∃ p u1 u2, ps[j]? = some p ∧ RelV p.1 u1 ∧ RelV p.2 u2 ∧ IsTupOf2 h' a u1 u2) (hacc : acc.toList = as.map Value.ref) :
    H S = none ∧ (∀ t ∈ as, H t = none) ∧ as.Nodup ∧ S ∉ as ∧ Inv X pins σ (putP (upd H S (.lst (as.map V.ref))) as ps) { s with heap := h', toks := tk } := by
  have hSn : S ∉ as := fun z => Nat.lt_irrefl _ (above _ z)
  have nd : as.Nodup := List.Pairwise.imp (fun {a b} (h : a < b) => Nat.ne_of_lt h) rise
  have new : ∀ t ∈ as, H t = none := fun t ht => I.hok.fresh (Nat.le_of_lt (Nat.lt_of_le_of_lt hSge (above t ht)))
  have newS : H S = none := I.hok.fresh hSge
  have atP := putP_at as ps (upd H S (.lst (as.map V.ref))) hl nd
  have off : ∀ b, b ∉ as → b ≠ S → putP (upd H S (.lst (as.map V.ref))) as ps b = H b := fun b h1 h2 => by rw [putP_off as ps _ h1, upd_ne h2]
  have low : ∀ b o, s.heap.get? b = some o → b ∉ as ∧ b ≠ S := fun b o e => ⟨fun z => absurd (Heap.lt_size e) (Nat.not_lt.mpr (Nat.le_of_lt (Nat.lt_of_le_of_lt hSge (above b z)))), Nat.ne_of_lt (Nat.lt_of_lt_of_le (Heap.lt_size e) hSge)⟩
  have kp : ∀ b u, H b = some u → (putP (upd H S (.lst (as.map V.ref))) as ps) b = some u := fun b u e => by
    rw [off b (fun z => by rw [new b z] at e; cases e) (fun z => by rw [z, newS] at e; cases e)]
    exact e
  have eS : putP (upd H S (.lst (as.map V.ref))) as ps S = some (.lst (as.map V.ref)) := by rw [putP_off as ps _ hSn, upd_same]
  refine ⟨newS, new, nd, hSn, ?_⟩
  refine I.call' (ch := []) rfl ⟨fun b o q _ _ _ => hk b o q, fun b o q _ _ _ => ⟨o.slots, hk b o q⟩, fun b o q n _ => ?_, fun b o q _ => ⟨o, hk b o q⟩, fun b xs q => kp b _ q, fun b o u q => kp b _ q, fun b ps q => ⟨#[], by rw [kp b _ q]; simp⟩⟩ (fun b u q => ?_) I.bare fun b z => by simp at z
  · obtain ⟨z1, z2⟩ := low b o q
    rw [off b z1 z2]
    exact n
  · by_cases hb : b ∈ as
    · obtain ⟨j, e1⟩ := List.mem_iff_getElem?.mp hb
      obtain ⟨p, u1, u2, f1, f2, f3, f4⟩ := hp j b e1
      rw [atP j b p e1 f1] at q
      cases q
      exact ⟨by show 2 ≤ sizeLine; decide, [u1, u2], .cons f2 (.cons f3 .nil), ⟨_, f4, rfl, _, rfl⟩⟩
    · by_cases hb2 : b = S
      · rw [hb2] at q ⊢
        rw [eS] at q
        cases q
        refine ⟨by rw [List.length_map]; omega, acc.toList, c, by rw [hacc]; exact LiI.vals_refs as, ?_⟩
        rw [Array.toArray_toList]
        exact hS
      · rw [off b hb hb2] at q
        exact (I.hok b u q).stay (fun d v _ y => hk d v y) (fun d y => kp d _ y) fun d xs y => kp d _ y
end
theorem vals_back : ∀ {xs : List V} {us : List Value} {i : Nat} {u : Value}, Vals xs us → us[i]? = some u → ∃ x, xs[i]? = some x ∧ RelV x u
  | _, _, i, u, .nil, h => by simp at h
  | _, _, 0, u, .cons r t, h => by
    simp at h
    subst h
    exact ⟨_, rfl, r⟩
  | _, _, i + 1, u, .cons r t, h => by
    obtain ⟨x, e, q⟩ := vals_back t (i := i) (by simpa using h)
    exact ⟨x, by simpa using e, q⟩
/-- what can be zipped: how it is drawn -/
structure ZSrc (prog : Program) (w : World) (v : Value) (xs : List V) (h : Heap) : Prop where
  ex : ∃ (o : Obj) (B : Heap → Prop) (n : Nat) (P : Nat → Value → Prop) (fp : List Addr) (St : Addr → Nat → Heap → Prop), Begins v o B ∧ B h ∧ n = xs.length ∧ (∀ b ∈ fp, b < h.objs.size) ∧
    (∀ (A : Around) (it : Addr), A.handled = none → it ∉ fp → Draws prog w A it (it :: fp) n P (St it)) ∧ (∀ (h' : Heap) (it : Addr), h'.get? it = some o → B h' → St it 0 h') ∧ ∀ i u, P i u → ∃ x, xs[i]? = some x ∧ RelV x u
/-- the items of a list, a tuple, a text -/
def ZV (K : PySem.W.Frag) (H : Hp) (v : V) (xs : List V) : Prop := (∃ a, v = .ref a ∧ SqL K H a xs) ∨ (∃ a, v = .ref a ∧ SqT K H a xs) ∨ ∃ t : Str, v = .str t ∧ xs = t.cps.toList.map fun c => V.str ⟨#[c]⟩
theorem zsrc_of {X : Cx} {pins : List (Addr × Obj)} {σ : L2.St} {H : Hp} {s : Shared} (I : Inv X pins σ H s) {x : V} {v : Value} {xs : List V} (r : RelV x v) (h : ZV X.K H x xs) : ZSrc X.prog X.w v xs s.heap := by
  rcases h with ⟨a, rfl, hs⟩ | ⟨a, rfl, hs⟩ | ⟨t, rfl, rfl⟩
  · cases r
    obtain ⟨its, rv, pl, hz⟩ := I.list hs
    have hl : s.heap.IsList a its.toArray := pl.isList
    refine ⟨_, _, its.toArray.size, fun i v => its.toArray[i]? = some v, [a], fun it i h => h.IsListIter it a i ∧ h.IsList a its.toArray, begins_list a its.toArray, hl, by simp [rv.length], fun b hb => by
      rw [List.mem_singleton.mp hb]; obtain ⟨o, e, _⟩ := hl; exact Heap.lt_size e, fun A it hh ni => Draws.list hh it a (fun z => ni (by simp [z])) _, fun h' it e b => ⟨⟨_, e, rfl, rfl⟩, b⟩, fun i u hu => ?_⟩
    exact vals_back rv (by simpa using hu)
  · cases r
    obtain ⟨its, rv, pl, hz⟩ := I.tuple hs
    have hl : s.heap.IsTuple a its.toArray := pl
    refine ⟨_, _, its.toArray.size, fun i v => its.toArray[i]? = some v, [a], fun it i h => h.IsTupleIter it a i ∧ h.IsTuple a its.toArray, begins_tuple a its.toArray, hl, by simp [rv.length], fun b hb => by
      rw [List.mem_singleton.mp hb]; obtain ⟨o, e, _⟩ := hl; exact Heap.lt_size e, fun A it hh ni => Draws.tuple hh it a (fun z => ni (by simp [z])) _, fun h' it e b => ⟨⟨_, e, rfl, rfl⟩, b⟩, fun i u hu => ?_⟩
    exact vals_back rv (by simpa using hu)
  · obtain ⟨k, rfl⟩ := r
    refine ⟨_, _, t.cps.size, _, [], fun it i h => h.IsStrIter it (strIterType t) t k i, begins_text t k, trivial, by simp, fun b hb => (by cases hb), fun A it hh ni => Draws.text hh it t k, fun h' it e b => ⟨_, e, rfl, rfl⟩, fun i u hu => ?_⟩
    obtain ⟨cc, k2, e1, rfl⟩ := hu
    exact ⟨V.str ⟨#[cc]⟩, by simp [List.getElem?_map, Array.getElem?_toList, e1], ⟨k2, rfl⟩⟩
def tListZip (K : PySem.W.Frag) (ta : TA) : TE := fun σ H Q => ta σ H fun vs H1 => ∃ v1 v2 xs ys, vs = [v1, v2] ∧ ZV K H1 v1 xs ∧ ZV K H1 v2 ys ∧ min xs.length ys.length ≤ sizeLine ∧
  ∀ (p : Addr) (ts : List Addr), H1 p = none → (∀ t ∈ ts, H1 t = none) → ts.Nodup → p ∉ ts → ts.length = (xs.zip ys).length → Q (.ref p) (putP (upd H1 p (.lst (ts.map V.ref))) ts (xs.zip ys))
theorem pe_listZip {X : Cx} {e e2 : Expr} {ta : TA} {p p2 pos pos2 : Pos} (hc : X.calm = true) (hgl : Gl X "list") (hml : X.mg "list" = none) (hg : Gl X "zip") (hm : X.mg "zip" = none) (ha : PA X [e, e2] ta)
    (hs : starEach [e, e2] X.env = (false, eval e X.env) :: starEach [e2] X.env := by rfl) (hpl : (backTo pos2 (starEach [e2] X.env)).any (·.1) = false := by rfl)
    (nb : starEach [.Call (.Name "zip" p2) [e, e2] [] pos2] X.env = (false, eval (.Call (.Name "zip" p2) [e, e2] [] pos2) X.env) :: starEach [] X.env := by rfl) :
    PE X (.Call (.Name "list" p) [.Call (.Name "zip" p2) [e, e2] [] pos2] [] pos) (tListZip X.K ta) := by
  refine ⟨fun pins s σ H Q I h => ?_⟩
  refine Call_ (ld_blt I hgl hml boot_list (PyProof.Rows.callWith_type1 (args_cons ?_ nb) nb))
  refine Call_ (ld_blt I hg hm PyProof.Rows.boot_zip (PyProof.Rows.callWith_type1 (thn (ha.run pos2 pins s σ H _ I h) fun us s1 ⟨vs, H1, I1, r1, q1⟩ => ?_) hs hpl))
  obtain ⟨x1, x2, xs, ys, rfl, z1, z2, hz, q⟩ := q1
  cases r1 with
  | cons r rr =>
    cases rr with
    | cons r' rr =>
      cases rr
      obtain ⟨o1, B1, n1, P1, fp1, St1, b1, c1, l1, f1, d1, e1, g1⟩ := (zsrc_of I1 r z1).ex
      obtain ⟨o2, B2, n2, P2, fp2, St2, b2, c2, l2, f2, d2, e2', g2⟩ := (zsrc_of I1 r' z2).ex
      refine zip_begins2 b1 b2 c1 c2 fun h' hzz hTI hTO k1 k2 hsz hk => args_nil ?_
      have hh := I1.ok.hd hc
      have n1' : s1.heap.objs.size ∉ fp1 := fun z => Nat.lt_irrefl _ (f1 _ z)
      have n2' : s1.heap.objs.size + 1 ∉ fp2 := fun z => absurd (f2 _ z) (Nat.not_lt.mpr (Nat.le_succ _))
      have lt : ∀ {b : Nat} {o}, s1.heap.get? b = some o → b < s1.heap.objs.size := fun e => Heap.lt_size e
      refine ZL.call_list (s := { s1 with heap := h' }) hh (zip_sep2 f1 f2) (fun B hB => d1 B _ hB n1') (fun B hB => d2 B _ hB n2') hzz hTI hTO (e1 h' _ k1 (b1.keeps _ _ c1 hk)) (e2' h' _ k2 (b2.keeps _ _ c2 hk)) ?_ ?_ rfl (by rw [l1, l2]; exact hz) fun h'' tk acc c as hk2 hS hl hG hacc => ?_
      · intro b hb
        show b < h'.objs.size
        rw [hsz]
        rcases List.mem_cons.mp hb with rfl | hb
        · exact Nat.lt_add_of_pos_right (by decide)
        · exact Nat.lt_of_lt_of_le (f1 b hb) (Nat.le_add_right _ _)
      · intro b hb
        show b < h'.objs.size
        rw [hsz]
        rcases List.mem_cons.mp hb with rfl | hb
        · exact Nat.add_lt_add_left (by decide) _
        · exact Nat.lt_of_lt_of_le (f2 b hb) (Nat.le_add_right _ _)
      · dsimp only at hk2 hS hG ⊢
        have hkk : ∀ b o, s1.heap.get? b = some o → h''.get? b = some o := fun b o e => by
          have hb := lt e
          have ne : ∀ k : Nat, b ≠ s1.heap.objs.size + k := fun k => Nat.ne_of_lt (Nat.lt_of_lt_of_le hb (Nat.le_add_right _ _))
          exact hk2 b o (ne 4) (ne 3) (ne 0) (ne 1) (hk b o e)
        obtain ⟨m1, m2, m3, m4, m5⟩ := pairs_laid (tk := tk) (ps := xs.zip ys) I1 (by rw [List.length_zip]; omega) hkk (show s1.heap.objs.size ≤ h'.objs.size by rw [hsz]; exact Nat.le_add_right _ _) hS (by rw [List.length_zip, hl, l1, l2]) hG.rise (fun a ha => hG.above a ha) (fun j a hj => by
          obtain ⟨u1, u2, w1, w2, w3⟩ := hG.pairs j a hj
          obtain ⟨y1, t1, t2⟩ := g1 j u1 w1
          obtain ⟨y2, t3, t4⟩ := g2 j u2 w2
          exact ⟨(y1, y2), u1, u2, List.getElem?_zip_eq_some.mpr ⟨t1, t3⟩, t2, t4, w3⟩) hacc
        exact ⟨.ref _, _, m5, rfl, q _ as m1 m2 m3 m4 (by rw [List.length_zip, hl, l1, l2])⟩
end DL

/-! list(zip(x, y)), list(d.items()) over data. -/
namespace DL
open PySem PySem.Spec PyProof.Rows L2
variable [HasW]
section
variable {K : PySem.W.Frag} {F H : Hp}
theorem reps_of_at : ∀ {ds : List D} {vs : List V}, ds.length = vs.length → (∀ (i : Nat) (d : D) (v : V), ds[i]? = some d → vs[i]? = some v → Rep K F d v) → Reps K F ds vs
  | [], [], _, _ => .nil
  | [], _ :: _, h, _ => by cases h
  | _ :: _, [], h, _ => by cases h
  | d :: ds, v :: vs, h, k => .cons (k 0 d v rfl rfl) (reps_of_at (Nat.succ.inj h) fun i x u e1 e2 => k (i + 1) x u (by simpa using e1) (by simpa using e2))
theorem putP_in {a : Addr} : ∀ (as : List Addr) (ps : List (V × V)) (H : Hp), as.length = ps.length → as.Nodup → a ∈ as → ∃ p, p ∈ ps ∧ ∀ G : Hp, putP G as ps a = some (.tup [p.1, p.2]) := fun as ps H hl nd ha => by
  obtain ⟨j, e1⟩ := List.mem_iff_getElem?.mp ha
  have hj : j < ps.length := by rw [← hl]; exact (List.getElem?_eq_some_iff.mp e1).1
  exact ⟨ps[j], List.getElem_mem hj, fun G => putP_at as ps G hl nd j a _ e1 (List.getElem?_eq_getElem hj)⟩
theorem ext_putP {p : Addr} {ts : List Addr} {ps : List (V × V)} (s : Sub F H) (hp : H p = none) (ht : ∀ t ∈ ts, H t = none) (nd : ts.Nodup) (hn : p ∉ ts) (hl : ts.length = ps.length) :
    Ext H F (putP (upd H p (.lst (ts.map V.ref))) ts ps) (putP F ts ps) := by
  refine ⟨fun a o e => ?_, fun a o e => ?_, fun a o e => ?_, fun a o e => ?_⟩
  · rw [putP_off ts ps _ (fun z => by rw [ht a z] at e; cases e), upd_ne (fun z => by rw [z, hp] at e; cases e)]
    exact e
  · rw [putP_off ts ps _ (fun z => by rw [s.free (ht a z)] at e; cases e)]
    exact e
  · by_cases ha : a ∈ ts
    · obtain ⟨q, _, h⟩ := putP_in ts ps H hl nd ha
      rw [h] at e ⊢
      exact e
    · rw [putP_off ts ps _ ha] at e ⊢
      rw [upd_ne (fun z => by rw [z, s.free hp] at e; cases e)]
      exact s _ _ e
  · by_cases ha : a ∈ ts
    · exact .inr (ht a ha)
    · rw [putP_off ts ps _ ha] at e
      exact .inl e
theorem cell_putP {p : Addr} {ts : List Addr} {xs ys : List D} {us ws : List V} (s : Sub F H) (hp : H p = none) (ht : ∀ t ∈ ts, H t = none) (nd : ts.Nodup) (hn : p ∉ ts) (hl : ts.length = (us.zip ws).length)
    (r1 : Reps K F xs us) (r2 : Reps K F ys ws) : ORep K H (putP F ts (us.zip ws)) (putP (upd H p (.lst (ts.map V.ref))) ts (us.zip ws)) (.new (.lst (List.zipWith (fun x y => .tup [x, y]) xs ys))) (.ref p) := by
  have ex := ext_putP s hp ht nd hn hl
  refine ⟨p, rfl, hp, by rw [putP_off _ _ _ hn]; exact s.free hp, ts.map V.ref, by rw [putP_off _ _ _ hn, upd_same], reps_of_at ?_ fun i d v e1 e2 => ?_⟩
  · rw [List.length_zipWith, List.length_map, hl, List.length_zip, r1.length, r2.length]
  · rw [List.getElem?_map] at e2
    cases e3 : ts[i]? with
    | none => rw [e3] at e2; cases e2
    | some t =>
      rw [e3] at e2
      cases e2
      obtain ⟨x, y, h1, h2, rfl⟩ : ∃ x y, xs[i]? = some x ∧ ys[i]? = some y ∧ d = .tup [x, y] := by
        rw [List.getElem?_zipWith] at e1
        cases h1 : xs[i]? with
        | none => rw [h1] at e1; cases e1
        | some x =>
          cases h2 : ys[i]? with
          | none => rw [h1, h2] at e1; cases e1
          | some y => rw [h1, h2] at e1; exact ⟨x, y, rfl, rfl, (Option.some.inj e1).symm⟩
      obtain ⟨u, hu, ru⟩ := r1.get h1
      obtain ⟨w, hw, rw'⟩ := r2.get h2
      refine ⟨t, [u, w], rfl, SqT.of (putP_at ts (us.zip ws) F hl nd i t (u, w) e3 (List.getElem?_zip_eq_some.mpr ⟨hu, hw⟩)), .cons (Rep.mono ex.ff _ _ ru) (.cons (Rep.mono ex.ff _ _ rw') .nil)⟩
end
/-! ### list(zip(x, y)) -/
def zitems : D → Option (List D)
  | .lst xs => some xs
  | .scr xs => some xs
  | .tup xs => some xs
  | .str t => some (t.cps.toList.map fun c => .str ⟨#[c]⟩)
  | _ => none
def fListZip : List D → Option RV
  | [a, b] => match zitems a, zitems b with
    | some xs, some ys => if min xs.length ys.length ≤ 1000000 then some (.new (.lst (List.zipWith (fun x y => .tup [x, y]) xs ys))) else none
    | _, _ => none
  | _ => none
def rLZ (K : PySem.W.Frag) : List V → Hp → VK → Prop := fun vs H1 Q => ∃ v1 v2 xs ys, vs = [v1, v2] ∧ ZV K H1 v1 xs ∧ ZV K H1 v2 ys ∧ min xs.length ys.length ≤ sizeLine ∧
  ∀ (p : Addr) (ts : List Addr), H1 p = none → (∀ t ∈ ts, H1 t = none) → ts.Nodup → p ∉ ts → ts.length = (xs.zip ys).length → Q (.ref p) (putP (upd H1 p (.lst (ts.map V.ref))) ts (xs.zip ys))
section
variable {K : PySem.W.Frag} {F H : Hp}
theorem chars_rep (l : List Nat) : Reps K F (l.map fun c => D.str ⟨#[c]⟩) (l.map fun c => V.str ⟨#[c]⟩) := by
  induction l with
  | nil => exact .nil
  | cons c l ih => exact .cons rfl ih
theorem zitems_view {d : D} {v : V} {xs : List D} (s : Sub F H) (h : View K F H d v) (e : zitems d = some xs) : ∃ us, ZV K H v us ∧ Reps K F xs us := by
  unfold zitems at e
  split at e
  · cases e
    obtain ⟨a, us, rfl, q, r⟩ := h
    exact ⟨us, .inl ⟨a, rfl, SqL.of q⟩, r⟩
  · cases e
    obtain ⟨a, us, rfl, q, r⟩ := h
    exact ⟨us, .inl ⟨a, rfl, s.sqL q⟩, r⟩
  · cases e
    obtain ⟨a, us, rfl, q, r⟩ := h
    exact ⟨us, .inr (.inl ⟨a, rfl, s.sqT q⟩), r⟩
  · cases e
    cases h
    exact ⟨_, .inr (.inr ⟨_, rfl, rfl⟩), chars_rep _⟩
  · cases e
theorem on_listZip : OpN K (rLZ K) fListZip := by
  intro F H ds vs z Q s v h q
  unfold fListZip at h
  split at h
  · rename_i a b
    split at h
    · rename_i xs ys e1 e2
      split at h
      · rename_i hl
        cases h
        obtain ⟨v1, t1, rfl, w1, v2, t2, rfl, w2, rfl⟩ := v
        obtain ⟨us, z1, r1⟩ := zitems_view s w1 e1
        obtain ⟨ws, z2, r2⟩ := zitems_view s w2 e2
        refine ⟨v1, v2, us, ws, rfl, z1, z2, ?_, fun p ts hp ht nd hn hlt => ?_⟩
        · rw [r1.length, r2.length, sizeLine_eq]; omega
        · exact q _ _ _ (ext_putP s hp ht nd hn hlt) (cell_putP s hp ht nd hn hlt r1 r2)
      · cases h
    · cases h
  · cases h
end
section
variable {X : Cx} {W : WX} {e e2 : Expr} {gs : Av} {p p2 pos pos2 : Pos}
theorem ed_listZip (hc : X.calm = true) (hml : X.mg "list" = none) (hm : X.mg "zip" = none) (ha : PA X [e, e2] (tA X.K W gs)) (hgl : Gl X "list" := by rfl) (hg : Gl X "zip" := by rfl)
    (hs : starEach [e, e2] X.env = (false, eval e X.env) :: starEach [e2] X.env := by rfl) (hpl : (backTo pos2 (starEach [e2] X.env)).any (·.1) = false := by rfl)
    (nb : starEach [.Call (.Name "zip" p2) [e, e2] [] pos2] X.env = (false, eval (.Call (.Name "zip" p2) [e, e2] [] pos2) X.env) :: starEach [] X.env := by rfl) :
    PE X (.Call (.Name "list" p) [.Call (.Name "zip" p2) [e, e2] [] pos2] [] pos) (tE X.K W (dB fListZip gs)) :=
  (pe_listZip hc hgl hml hg hm ha hs hpl nb).weak fun _ _ _ h => ec_b on_listZip h
end
/-! ### list(d.items()) -/
def rItemsR : V → Hp → VK → Prop := fun x H Q => ∃ (d : Addr) (kvs : List (Key × V)), x = .ref d ∧ Rd H d (.dK kvs) ∧
  ∀ (p : Addr) (ts : List Addr), H p = none → (∀ t ∈ ts, H t = none) → ts.Nodup → p ∉ ts → ts.length = ((kvs.map fun kv => kV kv.1).zip (kvs.map (·.2))).length → Q (.ref p) (putP (upd H p (.lst (ts.map V.ref))) ts ((kvs.map fun kv => kV kv.1).zip (kvs.map (·.2))))
def tItemsR (te : TE) : TE := fun σ H Q => te σ H fun x H1 => rItemsR x H1 Q
omit [HasW] in
theorem zip_kv (kvs : List (Key × V)) : (kvs.map fun kv => kV kv.1).zip (kvs.map (·.2)) = kvs.map fun kv => (kV kv.1, kv.2) := by
  induction kvs with
  | nil => rfl
  | cons p r ih => simp only [List.map_cons, List.zip_cons_cons, ih]
theorem pe_listItemsR {X : Cx} {e : Expr} {te : TE} {p apos cpos pos : Pos} (hc : X.calm = true) (he : PE X e te) (hg : Gl X "list") (hm : X.mg "list" = none) (hv : bootBuiltins "list" = some (.type "list")) (hbase : attributeBase e "items" X.env (eval e X.env) = eval e X.env := by rfl) (hline : (apos.endLine == cpos.line) = true := by rfl)
    (hs : starEach [.Call (.Attribute e "items" apos) [] [] cpos] X.env = (false, eval (.Call (.Attribute e "items" apos) [] [] cpos) X.env) :: starEach [] X.env := by rfl) :
    PE X (.Call (.Name "list" p) [.Call (.Attribute e "items" apos) [] [] cpos] [] pos) (tItemsR te) := by
  refine ⟨fun pins s σ H Q I hq => ?_⟩
  refine wpAny_Call_Name_kw (ld_blt I hg hm hv ?_)
  refine PyProof.Rows.callWith_type1 ?_ hs rfl
  rw [hs]
  show wpAny _ _ (spliced ((false, eval (.Call (.Attribute e "items" apos) [] [] cpos) X.env) :: backTo pos (starEach [] X.env))) _ _ s
  refine Calls.spliced_cons ?_
  refine wpAny_Call_method (T := "dict") (id := "dict.items") hbase rfl hline PySem.F.plainAttrs_dict PySem.F.slot_dict_items PySem.F.type_dict_items (thn (he.run pins s σ H _ I hq) fun u s1 ⟨x, H1, I1, rx, d, kvs, ex, hd, q⟩ => ?_)
  subst ex
  obtain rfl : u = Value.ref d := rx
  obtain ⟨hz, hs0, vs, kv, hdo⟩ := (show ObjOk X.prog X.w H1 s1.heap d (.dK kvs) from hd.ok I1.hok)
  obtain ⟨ep, hat⟩ := hdo.dictAt
  have lk : kvs.length = vs.length := Paired.length kv
  have I2 : Inv X pins σ H1 { s1 with heap := s1.heap.push { cls := .type "dict_items", data := .fields #[.ref d] } } := I1.kept (t' := s1.toks) fun b ob q => Heap.get?_push_of_some _ q
  refine ⟨hdo.typeIs, hdo.mapOf.noDict, ?_⟩
  show wpAny _ _ (callWith cpos (.builtin "dict.items") [.ref d] [] []) _ X.xe s1
  refine method_meetsIn PySem.F.slot_dict_items PySem.F.entry_dict_items rfl (PySem.evalArgs_none ⟨rfl, hdo.typeIs, PySem.F.args_dict_items_1 _, _, meets_dict_items (mixKind X.prog X.w) d hs0, ⟨vs, hdo⟩, ?_⟩)
  refine Calls.spliced_nil ?_
  refine PySem.W.kdx_call (knd := mixKind X.prog X.w) (kvs := vs) (ep := ep) (I1.ok.hd hc) ⟨_, Heap.get?_push_size _ rfl, rfl, rfl⟩ (hat.push _) (by omega) fun h' tk acc c as hk hS hl hG hacc => ?_
  have hzp : (kvs.map fun kv => (kV kv.1, kv.2)).length ≤ sizeLine := by rw [List.length_map]; exact hz
  obtain ⟨m1, m2, m3, m4, m5⟩ := pairs_laid (tk := tk) (ps := kvs.map fun kv => (kV kv.1, kv.2)) I2 hzp hk (Nat.le_refl _) hS (by rw [List.length_map]; omega) hG.rise hG.above (fun j a hj => by
    obtain ⟨key, k, x, f1, f2, f3⟩ := hG.pairs j a hj
    have hj2 : j < kvs.length := by rw [lk]; exact (List.getElem?_eq_some_iff.mp f1).1
    obtain ⟨qv, g1, g2, g3⟩ := LiI.paired_get kv (List.getElem?_eq_getElem hj2)
    rw [f1] at g1
    cases g1
    refine ⟨(kV kvs[j].1, kvs[j].2), key, x, by rw [List.getElem?_map, List.getElem?_eq_getElem hj2]; rfl, ?_, g3, f3⟩
    show RelV (kV kvs[j].1) key
    rw [g2]
    exact relV_key (show keyIs k key = true from f2)) hacc
  refine ⟨.ref _, _, m5, rfl, ?_⟩
  rw [← zip_kv]
  exact q _ as m1 m2 m3 m4 (by rw [List.length_zip, List.length_map, List.length_map]; omega)
def opItemsL : D → Option RV
  | .dic ks xs => some (.new (.lst (List.zipWith (fun k x => .tup [keyD k, x]) ks xs)))
  | _ => none
theorem o_itemsL {K : PySem.W.Frag} : Op1 K rItemsR opItemsL := by
  intro F H d v z Q s a h q
  unfold opItemsL at h
  split at h
  · rename_i ks xs
    cases h
    obtain ⟨b, us, rfl, hr, l, nd, r⟩ := a
    have e1 : ((ks.zip us).map fun kv => kV kv.1) = ks.map kV := keys_zip (by rw [r.length]; exact l)
    have e2 : (ks.zip us).map (·.2) = us := List.map_snd_zip (by rw [r.length]; omega)
    refine ⟨b, ks.zip us, rfl, hr, fun p ts hp ht nd' hn hl => ?_⟩
    rw [e1, e2] at hl ⊢
    have hz : List.zipWith (fun k x => D.tup [keyD k, x]) ks xs = List.zipWith (fun x y => D.tup [x, y]) (ks.map keyD) xs := by rw [List.zipWith_map_left]
    rw [hz] at q
    exact q _ _ _ (ext_putP s hp ht nd' hn hl) (cell_putP s hp ht nd' hn hl (reps_keys ks) r)
  · cases h
section
variable {X : Cx} {W : WX} {e : Expr} {g : Ev} {p apos cpos pos : Pos}
theorem ed_listItems (hc : X.calm = true) (hm : X.mg "list" = none) (he : PE X e (tE X.K W g)) (hg : Gl X "list" := by rfl) (hbase : attributeBase e "items" X.env (eval e X.env) = eval e X.env := by rfl) (hline : (apos.endLine == cpos.line) = true := by rfl)
    (hs : starEach [.Call (.Attribute e "items" apos) [] [] cpos] X.env = (false, eval (.Call (.Attribute e "items" apos) [] [] cpos) X.env) :: starEach [] X.env := by rfl) :
    PE X (.Call (.Name "list" p) [.Call (.Attribute e "items" apos) [] [] cpos] [] pos) (tE X.K W (dOp1 opItemsL g)) :=
  (pe_listItemsR hc he hg hm bo_list hbase hline hs).weak fun _ _ _ h => ec_op1 o_itemsL h
end
omit [HasW] in
@[simp] theorem s_fListZip {a b : D} : fListZip [a, b] = match zitems a, zitems b with
    | some xs, some ys => if min xs.length ys.length ≤ 1000000 then some (.new (.lst (List.zipWith (fun x y => .tup [x, y]) xs ys))) else none
    | _, _ => none := rfl
omit [HasW] in
@[simp] theorem s_opItemsL {ks : List Key} {xs : List D} : opItemsL (.dic ks xs) = some (.new (.lst (List.zipWith (fun k x => .tup [keyD k, x]) ks xs))) := rfl
end DL

/-! x.m(..) that changes nothing, of a list or a text; l.index(x). -/
namespace DL
open PySem PySem.Spec PyProof.Rows L2
variable [HasW]
def dMeth (T : String) (f : D → List D → Option RV) (go : Ev) (gs : Av) : Ev := fun ρ => (go ρ).settle.bind fun r ρ1 => if (peek r ρ1).bind tyName = some T then (match gs ρ1 with
    | .ok rs ρ2 => match peek r ρ2, peeks rs ρ2 with
      | some d, some ds => ER.of (f d ds) ρ2
      | _, _ => .no
    | .ex x ρ2 => .ex x ρ2
    | .no => .no)
  else .no
/-- soundness of such a method -/
def OpM (K : PySem.W.Frag) (r : V → List V → Hp → VK → Prop) (f : D → List D → Option RV) : Prop :=
  ∀ (F H : Hp) (d : D) (ds : List D) (v : V) (vs : List V) (z : RV) (Q : VK), Sub F H → View K F H d v → Views K F H ds vs → f d ds = some z → (∀ w H' F', Ext H F H' F' → ORep K H F' H' z w → Q w H') → r v vs H Q
theorem view_tyV {K : PySem.W.Frag} {F H : Hp} {d : D} {v : V} {T : String} (s : Sub F H) (a : View K F H d v) (h : tyName d = some T) (hT : T = "list" ∨ T = "str") : tyV K T v H := by
  cases d with
  | lst xs => cases h; obtain ⟨p, vs, rfl, q, r⟩ := a; exact .inl ⟨rfl, vs, SqL.of q⟩
  | scr xs => cases h; obtain ⟨p, vs, rfl, q, r⟩ := a; exact .inl ⟨rfl, vs, s.sqL q⟩
  | str x => cases h; cases a; exact rfl
  | non => cases h; rcases hT with h | h <;> exact absurd h (by decide)
  | bl b => cases h; rcases hT with h | h <;> exact absurd h (by decide)
  | int b => cases h; rcases hT with h | h <;> exact absurd h (by decide)
  | tup b => cases h; rcases hT with h | h <;> exact absurd h (by decide)
  | dic ks xs => cases h; rcases hT with h | h <;> exact absurd h (by decide)
  | dct ks xs => cases h
  | raw b => cases h
section
variable {X : Cx} {W : WX} {e o : Expr} {es : List Expr} {go : Ev} {gs : Av} {pos p cpos apos : Pos}
theorem ec_meth {K : PySem.W.Frag} {T : String} {r : V → List V → Hp → VK → Prop} {f : D → List D → Option RV} (m : OpM K r f) (hT : T = "list" ∨ T = "str") {σ : L2.St} {H : Hp} {Q : VK} (h : tE K W (dMeth T f go gs) σ H Q) :
    tE K W go σ H fun x H1 => tyV K T x H1 ∧ tA K W gs σ H1 fun xs H2 => r x xs H2 Q := by
  obtain ⟨α, ρ, F, G, ft, h⟩ := h
  refine ⟨α, ρ, F, G, ft, EC.bindS (fun r1 ρ1 v H1 F1 g1 f1 s1 h1 => ?_) h⟩
  by_cases hc : (peek r1 ρ1).bind tyName = some T
  · rw [if_pos hc] at h1
    obtain ⟨d0, e0, t0⟩ := Option.bind_eq_some_iff.mp hc
    refine ⟨view_tyV f1.fh (f1.peek s1 e0) t0 hT, α, ρ1, F1, G, f1, ?_⟩
    cases e1 : gs ρ1 with
    | no => simp [e1, EC] at h1
    | ex x ρ2 => simp only [e1] at h1; exact h1
    | ok rs ρ2 =>
      simp only [e1] at h1
      intro vs H2 F2 g2 f2 s2
      cases e2 : peek r1 ρ2 with
      | none => simp [e2, EC] at h1
      | some d =>
        cases e3 : peeks rs ρ2 with
        | none => simp [e2, e3, EC] at h1
        | some ds =>
          simp only [e2, e3] at h1
          cases e4 : f d ds with
          | none => simp [e4, ER.of, EC] at h1
          | some z =>
            simp only [e4, ER.of] at h1
            exact m F2 H2 d ds v vs z Q f2.fh (f2.peek (s1.mono g2.sub) e2) (f2.peeks s2 e3) e4 (EC.op f2 (EC.mono g2 h1))
  · rw [if_neg hc] at h1
    exact h1.elim
theorem ed_meth {T name id : String} {r : V → List V → Hp → VK → Prop} {f : D → List D → Option RV} (pa : PlainAttrs T) (slot : PySem.Slot T name id) (hty : typeOf (.builtin id) = pure (.type "method_descriptor")) (hm : MtR X id r) (m : OpM X.K r f) (hT : T = "list" ∨ T = "str")
    (ho : PE X o (tE X.K W go)) (ha : PA X (e :: es) (tA X.K W gs)) (hbase : attributeBase o name X.env (eval o X.env) = eval o X.env := by rfl)
    (hfew : ((backTo cpos (starEach (e :: es) X.env)).all (fun x => !x.1) && (backToKw cpos (keywordEach [] X.env)).all (fun x => x.1.isSome)
      && decide ((e :: es).length + ([] : List Keyword).length + (if ([] : List Keyword).isEmpty then 0 else 1) < 30)) = true := by rfl)
    (hline : (apos.endLine == cpos.line) = true := by rfl) (hs : starEach (e :: es) X.env = (false, eval e X.env) :: starEach es X.env := by rfl) (hplain : (backTo cpos (starEach es X.env)).any (·.1) = false := by rfl) :
    PE X (.Call (.Attribute o name apos) (e :: es) [] cpos) (tE X.K W (dMeth T f go gs)) :=
  (pe_bm pa slot hty hm ho ha hbase hfew hline hs hplain).weak fun _ _ _ h => ec_meth m hT h
end
/-! ### l.index(x) -/
def mIndex : D → List D → Option RV
  | d, [x] => match listOf [d], py x with
    | some xs, some p => match pys xs with
      | some ps => if SeqAt.shaped p = true ∧ SeqAt.shaped (.list ps) = true then (ps.findIdx? fun z => PyData.eqv z p).map fun (j : Nat) => .val (.int (j : Int)) else none
      | none => none
    | _, _ => none
  | _, _ => none
theorem m_index {K : PySem.W.Frag} : OpM K (rIndexD K) mIndex := by
  intro F H d ds v vs z Q s vw vws h q
  unfold mIndex at h
  split at h
  · rename_i x
    split at h
    · rename_i xs p e1 e2
      split at h
      · rename_i ps e3
        split at h
        · rename_i hs
          obtain ⟨j, e4, rfl⟩ := Option.map_eq_some_iff.mp h
          obtain ⟨y, t, rfl, vy, rfl⟩ := vws
          obtain ⟨h1, h2, h3⟩ := List.findIdx?_eq_some_iff_getElem.mp e4
          have hpl : py d = some (.list ps) := by
            unfold listOf at e1
            split at e1
            · rename_i ys hd
              cases e1
              cases hd
              show (pys xs).map PyData.list = _
              rw [e3]; rfl
            · rename_i ys hd
              cases e1
              cases hd
              show (pys xs).map PyData.list = _
              rw [e3]; rfl
            · cases e1
          have dl := View.dp s vw hpl
          have va : ∃ a, v = .ref a := by
            cases dl with
            | lst hs _ => exact ⟨_, rfl⟩
          obtain ⟨a, rfl⟩ := va
          refine ⟨a, y, p, ps, j, ps[j], rfl, rfl, dl, View.dp s vy e2, hs.2, hs.1, List.getElem?_eq_getElem h1, h2, fun m z' hm hz => ?_, q _ H F (Ext.refl s) rfl⟩
          obtain ⟨hm2, rfl⟩ := List.getElem?_eq_some_iff.mp hz
          have := h3 m hm
          simpa using this
        · cases h
      · cases h
    · cases h
  · cases h
section
variable {X : Cx} {W : WX} {e o : Expr} {go : Ev} {gs : Av} {cpos apos : Pos} {k : Nat}
theorem ed_index (hr : RoomG k X.A) (ho : PE X o (tE X.K W go)) (ha : PA X [e] (tA X.K W gs)) (hbase : attributeBase o "index" X.env (eval o X.env) = eval o X.env := by rfl) (hfew : ((backTo cpos (starEach [e] X.env)).all (fun x => !x.1) && (backToKw cpos (keywordEach [] X.env)).all (fun x => x.1.isSome)
      && decide ([e].length + ([] : List Keyword).length + (if ([] : List Keyword).isEmpty then 0 else 1) < 30)) = true := by rfl) (hline : (apos.endLine == cpos.line) = true := by rfl) (hs : starEach [e] X.env = (false, eval e X.env) :: starEach [] X.env := by rfl) (hplain : (backTo cpos (starEach [] X.env)).any (·.1) = false := by rfl) :
    PE X (.Call (.Attribute o "index" apos) [e] [] cpos) (tE X.K W (dMeth "list" mIndex go gs)) := ed_meth PySem.F.plainAttrs_list PySem.F.slot_list_index PySem.F.type_list_index (mt_indexD (u65 hr)) m_index (.inl rfl) ho ha hbase hfew hline hs hplain
end
@[simp] theorem dMeth_ap {T : String} {f : D → List D → Option RV} {go : Ev} {gs : Av} {ρ : Env} : dMeth T f go gs ρ = (go ρ).settle.bind fun r ρ1 => if (peek r ρ1).bind tyName = some T then (match gs ρ1 with
    | .ok rs ρ2 => match peek r ρ2, peeks rs ρ2 with
      | some d, some ds => ER.of (f d ds) ρ2
      | _, _ => .no
    | .ex x ρ2 => .ex x ρ2
    | .no => .no)
  else .no := rfl
end DL

/-! what the defs of law_k09_orders_of_keys compute (printed by gen.py). -/
namespace K09
open PySem PySem.Spec L2 DL
/-! lot_of: 0 order 1 name 2 at 3 lot -/
def d_lot_of : List D → DR := dDef 4 [false, false]
    (dSeq (dFor (iArgs kEnumA (dCons (dVar 0) dNil)) (gtTup 2 (gtCons (gtName 2) (gtCons (gtName 3) gtNil)))
      (dIfS (dOp2 opIn (dVar 1) (dVar 3))
      (dRet (dVar 2))
      (fun ρ => .nx ρ)))
    (dRet (dC .non)))
/-! without: 0 order 1 name 2 lots 3 lot 4 one -/
def d_without : List D → DR := dDef 5 [false, false]
    (dSeq (dSet 2 (dLc (iSeq (dVar 0)) [3] (gtName 3) dYes (dB fTuple (dCons (dLc (iSeq (dVar 3)) [4] (gtName 4) (dOp2 opNe (dVar 4) (dVar 1)) (dVar 4)) dNil))))
    (dRet (dB fTuple (dCons (dLc (iSeq (dVar 2)) [3] (gtName 3) (dOp2 opNe (dVar 3) (dTup dNil)) (dVar 3)) dNil))))
/-! put_within: 0 order 1 name 2 at -/
def d_put_within : List D → DR := dDef 3 [false, false, false]
    (dRet (dOp2 opAdd (dOp2 opAdd (dSl opSl (dVar 0) none (some (dVar 2))) (dTup (dCons (dB fTuple (dCons (dB fSorted (dCons (dOp2 opAdd (dOp2 opIx (dVar 0) (dVar 2)) (dTup (dCons (dVar 1) dNil))) dNil)) dNil)) dNil))) (dSl opSl (dVar 0) (some (dOp2 opAdd (dVar 2) (dC (.int 1)))) none)))
/-! put_ahead: 0 order 1 name 2 at -/
def d_put_ahead : List D → DR := dDef 3 [false, false, false]
    (dRet (dOp2 opAdd (dOp2 opAdd (dSl opSl (dVar 0) none (some (dVar 2))) (dTup (dCons (dTup (dCons (dVar 1) dNil)) dNil))) (dSl opSl (dVar 0) (some (dVar 2)) none)))
/-! from_lot: 0 order 1 name 2 at 3 found 4 here -/
def d_from_lot : List D → DR := dDef 5 [false, false, false]
    (dSeq (dSet 3 (dLst dNil))
    (dSeq (dFor (iArgs kRange2 (dCons (dVar 2) (dCons (dB fLen (dCons (dVar 0) dNil)) dNil))) (gtName 4)
      (dExpr (dMut "list" 3 mExtend (dCons (dLst (dCons (dCall [false, false, false] d_put_within (dCons (dVar 0) (dCons (dVar 1) (dCons (dVar 4) dNil)))) (dCons (dCall [false, false, false] d_put_ahead (dCons (dVar 0) (dCons (dVar 1) (dCons (dOp2 opAdd (dVar 4) (dC (.int 1))) dNil)))) dNil))) dNil))))
    (dRet (dVar 3))))
/-! anywhere: 0 order 1 name -/
def d_anywhere : List D → DR := dDef 2 [false, false]
    (dRet (dOp2 opAdd (dLst (dCons (dCall [false, false, false] d_put_ahead (dCons (dVar 0) (dCons (dVar 1) (dCons (dC (.int 0)) dNil)))) dNil)) (dCall [false, false, false] d_from_lot (dCons (dVar 0) (dCons (dVar 1) (dCons (dC (.int 0)) dNil))))))
/-! led_on: 0 order 1 name 2 at 3 left -/
def d_led_on : List D → DR := dDef 4 [false, false]
    (dSeq (dSet 2 (dCall [false, false] d_lot_of (dCons (dVar 0) (dCons (dVar 1) dNil))))
    (dSeq (dSet 3 (dCall [false, false] d_without (dCons (dVar 0) (dCons (dVar 1) dNil))))
    (dSeq (dIfS (dOp2 opLt (dB fLen (dCons (dVar 3) dNil)) (dB fLen (dCons (dVar 0) dNil)))
      (dRet (dOp2 opAdd (dLst (dCons (dCall [false, false, false] d_put_ahead (dCons (dVar 3) (dCons (dVar 1) (dCons (dVar 2) dNil)))) dNil)) (dCall [false, false, false] d_from_lot (dCons (dVar 3) (dCons (dVar 1) (dCons (dVar 2) dNil))))))
      (fun ρ => .nx ρ))
    (dRet (dCall [false, false, false] d_from_lot (dCons (dVar 3) (dCons (dVar 1) (dCons (dVar 2) dNil))))))))
/-! all_orders: 0 names 1 found 2 name 3 longer 4 order -/
def d_all_orders : List D → DR := dDef 5 [false]
    (dSeq (dSet 1 (dLst (dCons (dTup dNil) dNil)))
    (dSeq (dFor (iSeq (dVar 0)) (gtName 2)
      (dSeq (dSet 3 (dLst dNil))
    (dSeq (dFor (iSeq (dVar 1)) (gtName 4)
      (dExpr (dMut "list" 3 mExtend (dCons (dCall [false, false] d_anywhere (dCons (dVar 4) (dCons (dVar 2) dNil))) dNil))))
    (dSet 1 (dVar 3)))))
    (dRet (dVar 1))))
/-! same_as: 0 order 1 name 2 other 3 left -/
def d_same_as : List D → DR := dDef 4 [false, false, false]
    (dSeq (dIfS (dOp2 opEq (dVar 1) (dVar 2))
      (dRet (dVar 0))
      (fun ρ => .nx ρ))
    (dSeq (dSet 3 (dCall [false, false] d_without (dCons (dVar 0) (dCons (dVar 1) dNil))))
    (dRet (dCall [false, false, false] d_put_within (dCons (dVar 3) (dCons (dVar 1) (dCons (dCall [false, false] d_lot_of (dCons (dVar 3) (dCons (dVar 2) dNil))) dNil)))))))
/-! _law_bag: 0 script 1 cell -/
def d__law_bag : List D → DR := dDef 2 [false]
    (dRet (dLst (dCons (dC (.int 0)) (dCons (dC (.int 1234567891)) (dCons (dC (.int 0)) (dCons (dLc (iSeq (dSl opSl (dVar 0) none (some (dC (.int 63))))) [1] (gtName 1) dYes (dB fAbs (dCons (dVar 1) dNil))) dNil))))))
/-! _law_take: 0 bag 1 many 2 cell 3 stirred 4 drawn 5 begin 6 second -/
def d__law_take : List D → DR := dDef 7 [true, false]
    (dSeq (dIfS (dOp2 opEq (dOp2 opIx (dVar 0) (dC (.int 0))) (dC (.int 0)))
      (dSeq (dSet 2 (dOp2 opIx (dOp2 opAdd (dSl opSl (dOp2 opIx (dVar 0) (dC (.int 3))) (some (dOp2 opIx (dVar 0) (dC (.int 2)))) none) (dLst (dCons (dC (.int 0)) dNil))) (dC (.int 0))))
    (dSeq (dAugS 0 (dC (.int 2)) (dC (.int 1)) opAddI)
    (dSeq (dIfS (dOp2 opGe (dVar 2) (dOp2 opPow (dC (.int 10)) (dC (.int 18))))
      (dStore 0 (dC (.int 0)) (dVar 2))
      (fun ρ => .nx ρ))
    (dSeq (dSet 3 (dOp2 opAdd (dOp2 opAdd (dOp2 opMulA (dOp2 opIx (dVar 0) (dC (.int 1))) (dC (.int 48271))) (dOp2 opMod (dB fInt (dCons (dVar 2) dNil)) (dC (.int 2147483647)))) (dOp2 opMulA (dC (.int 7919)) (dOp2 opIx (dVar 0) (dC (.int 2))))))
    (dStore 0 (dC (.int 1)) (dOp2 opMod (dB fInt (dCons (dVar 3) dNil)) (dC (.int 2147483647))))))))
      (fun ρ => .nx ρ))
    (dSeq (dIfS (dOp2 opGt (dOp2 opIx (dVar 0) (dC (.int 0))) (dC (.int 0)))
      (dSeq (dSet 4 (dOp2 opMod (dB fInt (dCons (dOp2 opIx (dVar 0) (dC (.int 0))) dNil)) (dVar 1)))
    (dSeq (dStore 0 (dC (.int 0)) (dOp2 opFdiv (dB fInt (dCons (dOp2 opIx (dVar 0) (dC (.int 0))) dNil)) (dVar 1)))
    (dRet (dVar 4))))
      (fun ρ => .nx ρ))
    (dSeq (dSet 5 (dOp2 opMod (dB fInt (dCons (dOp2 opMulA (dOp2 opAdd (dOp2 opIx (dVar 0) (dC (.int 1))) (dC (.int 1))) (dC (.int 39373))) dNil)) (dC (.int 1000000007))))
    (dSeq (dSet 6 (dOp2 opMod (dB fInt (dCons (dOp2 opMulA (dOp2 opMod (dB fInt (dCons (dOp2 opMulA (dVar 5) (dVar 5)) dNil)) (dC (.int 998244353))) (dC (.int 30011))) dNil)) (dC (.int 998244353))))
    (dRet (dOp2 opMod (dB fInt (dCons (dOp2 opFdiv (dVar 6) (dC (.int 7))) dNil)) (dVar 1)))))))
/-! _law_some: 0 bag 1 things -/
def d__law_some : List D → DR := dDef 2 [true, false]
    (dRet (dOp2 opIx (dVar 1) (dCall [true, false] d__law_take (dCons (dVar 0) (dCons (dB fLen (dCons (dVar 1) dNil)) dNil)))))
/-! _law_mixed: 0 bag 1 things 2 found 3 thing -/
def d__law_mixed : List D → DR := dDef 4 [true, false]
    (dSeq (dSet 2 (dLst dNil))
    (dSeq (dFor (iSeq (dVar 1)) (gtName 3)
      (dExpr (dMut "list" 2 mInsert (dCons (dCall [true, false] d__law_take (dCons (dVar 0) (dCons (dOp2 opAdd (dB fLen (dCons (dVar 2) dNil)) (dC (.int 1))) dNil))) (dCons (dVar 3) dNil)))))
    (dRet (dVar 2))))
/-! _law_alike: 0 found 1 due -/
def d__law_alike : List D → DR := dDef 2 [false, false]
    (dRet (dAndV (dOp2 opEq (dB fRepr (dCons (dVar 0) dNil)) (dB fRepr (dCons (dVar 1) dNil))) (dOp2 opEq (dVar 0) (dVar 1))))
/-! _law_order: 0 keys 1 key 2 name -/
def d__law_order : List D → DR := dDef 3 [false]
    (dRet (dB fTuple (dCons (dLc (iSeq (dB fSorted (dCons (dB fDict (dCons (orE (dLcK 0 [2] (gtName 2) dYes (dTup (dCons (dOp2 opIx (dVar 0) (dVar 2)) (dCons (dC (.bl true)) dNil)))) (orE (dLcD .keys 0 [2] (gtName 2) dYes (dTup (dCons (dOp2 opIx (dVar 0) (dVar 2)) (dCons (dC (.bl true)) dNil)))) (dLc (iSeq (dVar 0)) [2] (gtName 2) dYes (dTup (dCons (dOp2 opIx (dVar 0) (dVar 2)) (dCons (dC (.bl true)) dNil)))))) dNil)) dNil))) [1] (gtName 1) dYes (dB fTuple (dCons (dB fSorted (dCons (orE (dLcK 0 [2] (gtName 2) (dOp2 opEq (dOp2 opIx (dVar 0) (dVar 2)) (dVar 1)) (dVar 2)) (orE (dLcD .keys 0 [2] (gtName 2) (dOp2 opEq (dOp2 opIx (dVar 0) (dVar 2)) (dVar 1)) (dVar 2)) (dLc (iSeq (dVar 0)) [2] (gtName 2) (dOp2 opEq (dOp2 opIx (dVar 0) (dVar 2)) (dVar 1)) (dVar 2)))) dNil)) dNil))) dNil)))
/-! _law_all_tuples: 0 many 1 size 2 found 3 lap 4 one 5 number -/
def d__law_all_tuples : List D → DR := dDef 6 [false, false]
    (dSeq (dSet 2 (dLst (dCons (dTup dNil) dNil)))
    (dSeq (dFor (iArgs kRange1 (dCons (dVar 0) dNil)) (gtName 3)
      (dSet 2 (dSumL (dCons (dLc (iSeq (dVar 2)) [4] (gtName 4) dYes (dLc (iArgs kRange1 (dCons (dVar 1) dNil)) [5] (gtName 5) dYes (dOp2 opAdd (dVar 4) (dTup (dCons (dVar 5) dNil))))) (dCons (dLst dNil) dNil)))))
    (dRet (dVar 2))))
/-! law: 0 script 1 bag 2 lap 3 names 4 keys 5 order 6 name 7 other 8 places 9 left 10 led 11 spread 12 due 13 told 14 later 15 every 16 one 17 key 18 x 19 y 20 z -/
def d_law : List D → DR := dDef 21 [false]
    (dSeq (dSet 1 (dCall [false] d__law_bag (dCons (dVar 0) dNil)))
    (dSeq (dFor (iArgs kRange1 (dCons (dC (.int 12)) dNil)) (gtName 2)
      (dSeq (dSet 3 (dSl opSl (dCall [true, false] d__law_mixed (dCons (dVar 1) (dCons (dLst (dCons (dC (.str "a")) (dCons (dC (.str "b")) (dCons (dC (.str "c")) (dCons (dC (.str "r")) (dCons (dC (.str "")) (dCons (dC (.str "o")) dNil))))))) dNil))) none (some (dOp2 opAdd (dC (.int 1)) (dCall [true, false] d__law_take (dCons (dVar 1) (dCons (dC (.int 5)) dNil)))))))
    (dSeq (dSet 4 (dB fDict (dCons (dLc (iSeq (dVar 3)) [6] (gtName 6) dYes (dTup (dCons (dVar 6) (dCons (dCall [true, false] d__law_take (dCons (dVar 1) (dCons (dC (.int 4)) dNil))) dNil)))) dNil)))
    (dSeq (dAsg (gtTup 3 (gtCons (gtName 5) (gtCons (gtName 6) (gtCons (gtName 7) gtNil)))) (dTup (dCons (dCall [false] d__law_order (dCons (dVar 4) dNil)) (dCons (dCall [true, false] d__law_some (dCons (dVar 1) (dCons (dVar 3) dNil))) (dCons (dCall [true, false] d__law_some (dCons (dVar 1) (dCons (dVar 3) dNil))) dNil)))))
    (dSeq (dSet 8 (dB fDict (dCons (dLc (iSeq (dVar 3)) [16] (gtName 16) dYes (dTup (dCons (dVar 16) (dCons (dMeth "list" mIndex (dB fSorted (dCons (dB fDict (dCons (dLcD .vals 4 [17] (gtName 17) dYes (dTup (dCons (dVar 17) (dCons (dC (.bl true)) dNil)))) dNil)) dNil)) (dCons (dOp2 opIx (dVar 4) (dVar 16)) dNil)) dNil)))) dNil)))
    (dSeq (dIfS (dOrT (dOp2 opNe (dLc (iSeq (dVar 3)) [16] (gtName 16) dYes (dCall [false, false] d_lot_of (dCons (dVar 5) (dCons (dVar 16) dNil)))) (dLc (iSeq (dVar 3)) [16] (gtName 16) dYes (dOp2 opIx (dVar 8) (dVar 16)))) (dOp1 opNotN (dCall [false, false] d_lot_of (dCons (dVar 5) (dCons (dC (.str "zz")) dNil)))))
      (dRet (dC (.bl false)))
      (fun ρ => .nx ρ))
    (dSeq (dSet 9 (dB fDict (dCons (dLc (iSeq (dVar 3)) [16] (gtName 16) (dOp2 opNe (dVar 16) (dVar 6)) (dTup (dCons (dVar 16) (dCons (dOp2 opIx (dVar 4) (dVar 16)) dNil)))) dNil)))
    (dSeq (dIfS (dNot (dTru (dCall [false, false] d__law_alike (dCons (dLst (dCons (dCall [false, false] d_without (dCons (dVar 5) (dCons (dVar 6) dNil))) (dCons (dCall [false, false] d_without (dCons (dVar 5) (dCons (dC (.str "zz")) dNil))) dNil))) (dCons (dLst (dCons (dCall [false] d__law_order (dCons (dVar 9) dNil)) (dCons (dVar 5) dNil))) dNil)))))
      (dRet (dC (.bl false)))
      (fun ρ => .nx ρ))
    (dSeq (dSet 10 (dB fDict (dCons (dOp2 opAdd (dOp1 opItemsL (dVar 9)) (dLst (dCons (dTup (dCons (dVar 6) (dCons (dOp2 opIx (dVar 4) (dVar 7)) dNil))) dNil))) dNil)))
    (dSeq (dIfS (dNot (dTru (dCall [false, false] d__law_alike (dCons (dCall [false, false, false] d_same_as (dCons (dVar 5) (dCons (dVar 6) (dCons (dVar 7) dNil)))) (dCons (dCall [false] d__law_order (dCons (dVar 10) dNil)) dNil)))))
      (dRet (dC (.bl false)))
      (fun ρ => .nx ρ))
    (dSeq (dSet 11 (dB fDict (dCons (orE (dLcK 9 [16] (gtName 16) dYes (dTup (dCons (dVar 16) (dCons (dOp2 opMulA (dC (.int 2)) (dOp2 opIx (dVar 9) (dVar 16))) dNil)))) (orE (dLcD .keys 9 [16] (gtName 16) dYes (dTup (dCons (dVar 16) (dCons (dOp2 opMulA (dC (.int 2)) (dOp2 opIx (dVar 9) (dVar 16))) dNil)))) (dLc (iSeq (dVar 9)) [16] (gtName 16) dYes (dTup (dCons (dVar 16) (dCons (dOp2 opMulA (dC (.int 2)) (dOp2 opIx (dVar 9) (dVar 16))) dNil)))))) dNil)))
    (dSeq (dSet 12 (dLc (iArgs kRange2 (dCons (dOp1 opNeg (dC (.int 1))) (dCons (dC (.int 9)) dNil))) [17] (gtName 17) dYes (dCall [false] d__law_order (dCons (dB fDict (dCons (dOp2 opAdd (dOp1 opItemsL (dVar 11)) (dLst (dCons (dTup (dCons (dVar 6) (dCons (dVar 17) dNil))) dNil))) dNil)) dNil))))
    (dSeq (dSet 13 (dCall [false, false] d_anywhere (dCons (dCall [false] d__law_order (dCons (dVar 9) dNil)) (dCons (dVar 6) dNil))))
    (dSeq (dIfS (dOrT (dOp2 opNe (dB fSorted (dCons (dVar 13) dNil)) (dB fSorted (dCons (dB fDict (dCons (dLc (iSeq (dVar 12)) [16] (gtName 16) dYes (dTup (dCons (dVar 16) (dCons (dC (.bl true)) dNil)))) dNil)) dNil))) (dOp2 opNe (dB fLen (dCons (dVar 13) dNil)) (dOp2 opAdd (dOp2 opMulA (dC (.int 2)) (dB fLen (dCons (dCall [false] d__law_order (dCons (dVar 9) dNil)) dNil))) (dC (.int 1)))))
      (dRet (dC (.bl false)))
      (fun ρ => .nx ρ))
    (dSeq (dSet 14 (dLc (iArgs kRange2 (dCons (dOp2 opMulA (dC (.int 2)) (dOp2 opIx (dVar 4) (dVar 6))) (dCons (dC (.int 9)) dNil))) [17] (gtName 17) dYes (dCall [false] d__law_order (dCons (dB fDict (dCons (dOp2 opAdd (dOp1 opItemsL (dVar 11)) (dLst (dCons (dTup (dCons (dVar 6) (dCons (dVar 17) dNil))) dNil))) dNil)) dNil))))
    (dIfS (dOp2 opNe (dB fSorted (dCons (dCall [false, false] d_led_on (dCons (dVar 5) (dCons (dVar 6) dNil))) dNil)) (dB fSorted (dCons (dB fDict (dCons (dLc (iSeq (dVar 14)) [16] (gtName 16) dYes (dTup (dCons (dVar 16) (dCons (dC (.bl true)) dNil)))) dNil)) dNil)))
      (dRet (dC (.bl false)))
      (fun ρ => .nx ρ)))))))))))))))))
    (dSeq (dSet 15 (dLc (iSeq (dCall [false, false] d__law_all_tuples (dCons (dC (.int 3)) (dCons (dC (.int 3)) dNil)))) [18, 19, 20] (gtTup 3 (gtCons (gtName 18) (gtCons (gtName 19) (gtCons (gtName 20) gtNil)))) dYes (dCall [false] d__law_order (dCons (dB fDict (dCons (dB fListZip (dCons (dC (.str "abc")) (dCons (dTup (dCons (dVar 18) (dCons (dVar 19) (dCons (dVar 20) dNil)))) dNil))) dNil)) dNil))))
    (dRet (dAndV (dOp2 opEq (dB fSorted (dCons (dCall [false] d_all_orders (dCons (dTup (dCons (dC (.str "a")) (dCons (dC (.str "b")) (dCons (dC (.str "c")) dNil)))) dNil)) dNil)) (dB fSorted (dCons (dB fDict (dCons (dLc (iSeq (dVar 15)) [16] (gtName 16) dYes (dTup (dCons (dVar 16) (dCons (dC (.bl true)) dNil)))) dNil)) dNil))) (dOp2 opEq (dCall [false] d_all_orders (dCons (dTup dNil) dNil)) (dLst (dCons (dTup dNil) dNil))))))))
end K09

/-! the walk through law_k09_orders_of_keys (printed by gen.py). -/
namespace K09
open PySem PySem.Spec L2 DL
def top (i : Nat) : Stmt := PySem.Challenge.pw_mergewright_k09_orders_of_keys.main.body.getD i (.Pass ⟨0, 0, 0, 0⟩)
section
variable [HasW] {P : Program} {K : PySem.W.Frag} {mg : Str → Option Value} {base : Heap}
/-! ### lot_of -/
abbrev st_lot_of : Stmt := top 1
abbrev n_lot_of : List Str := ["order", "name", "at", "lot"]
theorem sc_lot_of : FnScope ["order", "name", "at", "lot"] ["order", "name"] (defScope st_lot_of) := ⟨rfl, rfl, rfl, by decide +kernel, rfl, by decide +kernel, by decide +kernel⟩
theorem ok_lot_of (df : DefAt K mg "lot_of" st_lot_of ["order", "name"]) (z_enumerate : mg "enumerate" = none) :
    FnC P HasW.w K mg base 1 "lot_of" [false, false] d_lot_of :=
  fnC_of df sc_lot_of rfl fun f0 cdv A outer s H E hr =>
    (sd_cons (sd_for (passes_of rfl) rfl (id_enumA z_enumerate (ad_cons (ed_var 0) ad_nil)) (gd_tup rfl (gd_cons (gd_name sc_lot_of.nd (i := 2)) (gd_cons (gd_name sc_lot_of.nd (i := 3)) gd_nil)))
      (sd_one (sd_if (td_ofC (cd_in hr (ed_var 1) (ed_var 3)) bf_in)
      (sd_one (sd_ret (ed_var 2)))
      sd_nil)))
    (sd_one (sd_ret ed_non)))
/-! ### without -/
abbrev st_without : Stmt := top 2
abbrev n_without : List Str := ["order", "name", "lots", "lot", "one"]
theorem sc_without : FnScope ["order", "name", "lots", "lot", "one"] ["order", "name"] (defScope st_without) := ⟨rfl, rfl, rfl, by decide +kernel, rfl, by decide +kernel, by decide +kernel⟩
theorem ok_without (df : DefAt K mg "without" st_without ["order", "name"]) (z_tuple : mg "tuple" = none) :
    FnC P HasW.w K mg base 1 "without" [false, false] d_without :=
  fnC_of df sc_without rfl fun f0 cdv A outer s H E hr =>
    (sd_cons (sd_setLc rfl sc_without.nd (blkOk_by (own := [("lot", 3)]) (show blkC n_without (defScope st_without) _ _ = true from by decide +kernel)) (by decide) (id_seq (ed_var 0)) (fun _ _ _ _ _ => (gd_name sc_without.nd (i := 3))) (fun _ _ _ _ _ => id_yes) (fun _ _ _ _ _ => (ed_bt call_tuple_of on_tuple z_tuple bo_tuple (ad_cons (ed_lc rfl sc_without.nd (blkOk_by (own := [("one", 4)]) (by kernel_rfl)) (by decide) (id_seq (ed_var 3)) (fun _ _ _ _ _ => (gd_name sc_without.nd (i := 4))) (fun _ _ _ _ _ => (id_test (td_ofC (cd_ne hr (ed_var 4) (ed_var 1)) bf_ne))) (fun _ _ _ _ _ => (ed_var 4))) ad_nil))) (i := 2))
    (sd_one (sd_ret (ed_bt call_tuple_of on_tuple z_tuple bo_tuple (ad_cons (ed_lc rfl sc_without.nd (blkOk_by (own := [("lot", 3)]) (show blkC n_without (defScope st_without) _ _ = true from by decide +kernel)) (by decide) (id_seq (ed_var 2)) (fun _ _ _ _ _ => (gd_name sc_without.nd (i := 3))) (fun _ _ _ _ _ => (id_test (td_ofC (cd_ne hr (ed_var 3) (ed_tup ad_nil)) bf_ne))) (fun _ _ _ _ _ => (ed_var 3))) ad_nil)))))
/-! ### put_within -/
abbrev st_put_within : Stmt := top 3
abbrev n_put_within : List Str := ["order", "name", "at"]
theorem sc_put_within : FnScope ["order", "name", "at"] ["order", "name", "at"] (defScope st_put_within) := ⟨rfl, rfl, rfl, by decide +kernel, rfl, by decide +kernel, by decide +kernel⟩
theorem ok_put_within (df : DefAt K mg "put_within" st_put_within ["order", "name", "at"]) (z_tuple : mg "tuple" = none) (z_sorted : mg "sorted" = none) :
    FnC P HasW.w K mg base 1 "put_within" [false, false, false] d_put_within :=
  fnC_of df sc_put_within rfl fun f0 cdv A outer s H E hr =>
    (sd_one (sd_ret (ed_add (ed_add (ed_slice (ed_var 0) od_none (od_some (ed_var 2))) (ed_tup (ad_cons (ed_bt call_tuple_of on_tuple z_tuple bo_tuple (ad_cons (ed_bi (call_sortedAny rfl (u65 hr) rfl) on_sorted z_sorted bo_sorted (ad_cons (ed_add (ed_ixA hr (ed_var 0) (ed_var 2)) (ed_tup (ad_cons (ed_var 1) ad_nil))) ad_nil)) ad_nil)) ad_nil))) (ed_slice (ed_var 0) (od_some (ed_add (ed_var 2) ed_int)) od_none))))
/-! ### put_ahead -/
abbrev st_put_ahead : Stmt := top 4
abbrev n_put_ahead : List Str := ["order", "name", "at"]
theorem sc_put_ahead : FnScope ["order", "name", "at"] ["order", "name", "at"] (defScope st_put_ahead) := ⟨rfl, rfl, rfl, by decide +kernel, rfl, by decide +kernel, by decide +kernel⟩
theorem ok_put_ahead (df : DefAt K mg "put_ahead" st_put_ahead ["order", "name", "at"]) :
    FnC P HasW.w K mg base 1 "put_ahead" [false, false, false] d_put_ahead :=
  fnC_of df sc_put_ahead rfl fun f0 cdv A outer s H E hr =>
    (sd_one (sd_ret (ed_add (ed_add (ed_slice (ed_var 0) od_none (od_some (ed_var 2))) (ed_tup (ad_cons (ed_tup (ad_cons (ed_var 1) ad_nil)) ad_nil))) (ed_slice (ed_var 0) (od_some (ed_var 2)) od_none))))
/-! ### from_lot -/
abbrev st_from_lot : Stmt := top 5
abbrev n_from_lot : List Str := ["order", "name", "at", "found", "here"]
theorem sc_from_lot : FnScope ["order", "name", "at", "found", "here"] ["order", "name", "at"] (defScope st_from_lot) := ⟨rfl, rfl, rfl, by decide +kernel, rfl, by decide +kernel, by decide +kernel⟩
theorem ok_from_lot (df : DefAt K mg "from_lot" st_from_lot ["order", "name", "at"]) (c_put_within : FnC P HasW.w K mg base 1 "put_within" [false, false, false] d_put_within) (c_put_ahead : FnC P HasW.w K mg base 1 "put_ahead" [false, false, false] d_put_ahead) (z_range : mg "range" = none) (z_len : mg "len" = none) :
    FnC P HasW.w K mg base 2 "from_lot" [false, false, false] d_from_lot :=
  fnC_of df sc_from_lot rfl fun f0 cdv A outer s H E hr =>
    (sd_cons (sd_set sc_from_lot.nd (ed_lst ad_nil) (i := 3))
    (sd_cons (sd_for (passes_of rfl) rfl (id_range2 z_range (ad_cons (ed_var 2) (ad_cons (ed_bi call_lenA on_len z_len bo_len (ad_cons (ed_var 0) ad_nil)) ad_nil))) (gd_name sc_from_lot.nd (i := 4))
      (sd_one (sd_expr (ed_extend (ed_var 3) (ad_cons (ed_lst (ad_cons (ed_callF c_put_within hr (takes_of rfl rfl rfl rfl) (ad_cons (ed_var 0) (ad_cons (ed_var 1) (ad_cons (ed_var 4) ad_nil)))) (ad_cons (ed_callF c_put_ahead hr (takes_of rfl rfl rfl rfl) (ad_cons (ed_var 0) (ad_cons (ed_var 1) (ad_cons (ed_add (ed_var 4) ed_int) ad_nil)))) ad_nil))) ad_nil)))))
    (sd_one (sd_ret (ed_var 3)))))
/-! ### anywhere -/
abbrev st_anywhere : Stmt := top 6
abbrev n_anywhere : List Str := ["order", "name"]
theorem sc_anywhere : FnScope ["order", "name"] ["order", "name"] (defScope st_anywhere) := ⟨rfl, rfl, rfl, by decide +kernel, rfl, by decide +kernel, by decide +kernel⟩
theorem ok_anywhere (df : DefAt K mg "anywhere" st_anywhere ["order", "name"]) (c_put_ahead : FnC P HasW.w K mg base 1 "put_ahead" [false, false, false] d_put_ahead) (c_from_lot : FnC P HasW.w K mg base 2 "from_lot" [false, false, false] d_from_lot) :
    FnC P HasW.w K mg base 3 "anywhere" [false, false] d_anywhere :=
  fnC_of df sc_anywhere rfl fun f0 cdv A outer s H E hr =>
    (sd_one (sd_ret (ed_add (ed_lst (ad_cons (ed_callF c_put_ahead hr (takes_of rfl rfl rfl rfl) (ad_cons (ed_var 0) (ad_cons (ed_var 1) (ad_cons ed_int ad_nil)))) ad_nil)) (ed_callF c_from_lot hr (takes_of rfl rfl rfl rfl) (ad_cons (ed_var 0) (ad_cons (ed_var 1) (ad_cons ed_int ad_nil)))))))
/-! ### led_on -/
abbrev st_led_on : Stmt := top 7
abbrev n_led_on : List Str := ["order", "name", "at", "left"]
theorem sc_led_on : FnScope ["order", "name", "at", "left"] ["order", "name"] (defScope st_led_on) := ⟨rfl, rfl, rfl, by decide +kernel, rfl, by decide +kernel, by decide +kernel⟩
theorem ok_led_on (df : DefAt K mg "led_on" st_led_on ["order", "name"]) (c_lot_of : FnC P HasW.w K mg base 1 "lot_of" [false, false] d_lot_of) (c_without : FnC P HasW.w K mg base 1 "without" [false, false] d_without) (c_put_ahead : FnC P HasW.w K mg base 1 "put_ahead" [false, false, false] d_put_ahead) (c_from_lot : FnC P HasW.w K mg base 2 "from_lot" [false, false, false] d_from_lot) (z_len : mg "len" = none) :
    FnC P HasW.w K mg base 3 "led_on" [false, false] d_led_on :=
  fnC_of df sc_led_on rfl fun f0 cdv A outer s H E hr =>
    (sd_cons (sd_set sc_led_on.nd (ed_callF c_lot_of hr (takes_of rfl rfl rfl rfl) (ad_cons (ed_var 0) (ad_cons (ed_var 1) ad_nil))) (i := 2))
    (sd_cons (sd_set sc_led_on.nd (ed_callF c_without hr (takes_of rfl rfl rfl rfl) (ad_cons (ed_var 0) (ad_cons (ed_var 1) ad_nil))) (i := 3))
    (sd_cons (sd_if (td_ofC (cd_lt (ed_bi call_lenA on_len z_len bo_len (ad_cons (ed_var 3) ad_nil)) (ed_bi call_lenA on_len z_len bo_len (ad_cons (ed_var 0) ad_nil))) bf_lt)
      (sd_one (sd_ret (ed_add (ed_lst (ad_cons (ed_callF c_put_ahead hr (takes_of rfl rfl rfl rfl) (ad_cons (ed_var 3) (ad_cons (ed_var 1) (ad_cons (ed_var 2) ad_nil)))) ad_nil)) (ed_callF c_from_lot hr (takes_of rfl rfl rfl rfl) (ad_cons (ed_var 3) (ad_cons (ed_var 1) (ad_cons (ed_var 2) ad_nil)))))))
      sd_nil)
    (sd_one (sd_ret (ed_callF c_from_lot hr (takes_of rfl rfl rfl rfl) (ad_cons (ed_var 3) (ad_cons (ed_var 1) (ad_cons (ed_var 2) ad_nil)))))))))
/-! ### all_orders -/
abbrev st_all_orders : Stmt := top 8
abbrev n_all_orders : List Str := ["names", "found", "name", "longer", "order"]
theorem sc_all_orders : FnScope ["names", "found", "name", "longer", "order"] ["names"] (defScope st_all_orders) := ⟨rfl, rfl, rfl, by decide +kernel, rfl, by decide +kernel, by decide +kernel⟩
theorem ok_all_orders (df : DefAt K mg "all_orders" st_all_orders ["names"]) (c_anywhere : FnC P HasW.w K mg base 3 "anywhere" [false, false] d_anywhere) :
    FnC P HasW.w K mg base 4 "all_orders" [false] d_all_orders :=
  fnC_of df sc_all_orders rfl fun f0 cdv A outer s H E hr =>
    (sd_cons (sd_set sc_all_orders.nd (ed_lst (ad_cons (ed_tup ad_nil) ad_nil)) (i := 1))
    (sd_cons (sd_for (passes_of rfl) rfl (id_seq (ed_var 0)) (gd_name sc_all_orders.nd (i := 2))
      (sd_cons (sd_set sc_all_orders.nd (ed_lst ad_nil) (i := 3))
    (sd_cons (sd_for (passes_of rfl) rfl (id_seq (ed_var 1)) (gd_name sc_all_orders.nd (i := 4))
      (sd_one (sd_expr (ed_extend (ed_var 3) (ad_cons (ed_callF c_anywhere hr (takes_of rfl rfl rfl rfl) (ad_cons (ed_var 4) (ad_cons (ed_var 2) ad_nil))) ad_nil)))))
    (sd_one (sd_set sc_all_orders.nd (ed_var 3) (i := 1))))))
    (sd_one (sd_ret (ed_var 1)))))
/-! ### same_as -/
abbrev st_same_as : Stmt := top 9
abbrev n_same_as : List Str := ["order", "name", "other", "left"]
theorem sc_same_as : FnScope ["order", "name", "other", "left"] ["order", "name", "other"] (defScope st_same_as) := ⟨rfl, rfl, rfl, by decide +kernel, rfl, by decide +kernel, by decide +kernel⟩
theorem ok_same_as (df : DefAt K mg "same_as" st_same_as ["order", "name", "other"]) (c_without : FnC P HasW.w K mg base 1 "without" [false, false] d_without) (c_put_within : FnC P HasW.w K mg base 1 "put_within" [false, false, false] d_put_within) (c_lot_of : FnC P HasW.w K mg base 1 "lot_of" [false, false] d_lot_of) :
    FnC P HasW.w K mg base 2 "same_as" [false, false, false] d_same_as :=
  fnC_of df sc_same_as rfl fun f0 cdv A outer s H E hr =>
    (sd_cons (sd_if (td_ofC (cd_eq hr (ed_var 1) (ed_var 2)) bf_eq)
      (sd_one (sd_ret (ed_var 0)))
      sd_nil)
    (sd_cons (sd_set sc_same_as.nd (ed_callF c_without hr (takes_of rfl rfl rfl rfl) (ad_cons (ed_var 0) (ad_cons (ed_var 1) ad_nil))) (i := 3))
    (sd_one (sd_ret (ed_callF c_put_within hr (takes_of rfl rfl rfl rfl) (ad_cons (ed_var 3) (ad_cons (ed_var 1) (ad_cons (ed_callF c_lot_of hr (takes_of rfl rfl rfl rfl) (ad_cons (ed_var 3) (ad_cons (ed_var 2) ad_nil))) ad_nil))))))))
/-! ### _law_bag -/
abbrev st__law_bag : Stmt := top 11
abbrev n__law_bag : List Str := ["script", "cell"]
theorem sc__law_bag : FnScope ["script", "cell"] ["script"] (defScope st__law_bag) := ⟨rfl, rfl, rfl, by decide +kernel, rfl, by decide +kernel, by decide +kernel⟩
theorem ok__law_bag (df : DefAt K mg "_law_bag" st__law_bag ["script"]) (z_abs : mg "abs" = none) :
    FnC P HasW.w K mg base 1 "_law_bag" [false] d__law_bag :=
  fnC_of df sc__law_bag rfl fun f0 cdv A outer s H E hr =>
    (sd_one (sd_ret (ed_lst (ad_cons ed_int (ad_cons ed_int (ad_cons ed_int (ad_cons (ed_lc rfl sc__law_bag.nd (blkOk_by (own := [("cell", 1)]) (show blkC n__law_bag (defScope st__law_bag) _ _ = true from by decide +kernel)) (by decide) (id_seq (ed_slice (ed_var 0) od_none (od_some ed_int))) (fun _ _ _ _ _ => (gd_name sc__law_bag.nd (i := 1))) (fun _ _ _ _ _ => id_yes) (fun _ _ _ _ _ => (ed_bi call_abs on_abs z_abs bo_abs (ad_cons (ed_var 1) ad_nil)))) ad_nil)))))))
/-! ### _law_take -/
abbrev st__law_take : Stmt := top 12
abbrev n__law_take : List Str := ["bag", "many", "cell", "stirred", "drawn", "begin", "second"]
theorem sc__law_take : FnScope ["bag", "many", "cell", "stirred", "drawn", "begin", "second"] ["bag", "many"] (defScope st__law_take) := ⟨rfl, rfl, rfl, by decide +kernel, rfl, by decide +kernel, by decide +kernel⟩
theorem ok__law_take (df : DefAt K mg "_law_take" st__law_take ["bag", "many"]) (z_int : mg "int" = none) :
    FnC P HasW.w K mg base 1 "_law_take" [true, false] d__law_take :=
  fnC_of df sc__law_take rfl fun f0 cdv A outer s H E hr =>
    (sd_cons (sd_if (td_ofC (cd_eq hr (ed_ixA hr (ed_var 0) ed_int) ed_int) bf_eq)
      (sd_cons (sd_set sc__law_take.nd (ed_ixA hr (ed_add (ed_slice (ed_ixA hr (ed_var 0) ed_int) (od_some (ed_ixA hr (ed_var 0) ed_int)) od_none) (ed_lst (ad_cons ed_int ad_nil))) ed_int) (i := 2))
    (sd_cons (sd_augS hr iop_add o_addI (ed_var 0) ed_int ed_int)
    (sd_cons (sd_if (td_ofC (cd_ge (ed_var 2) (ed_pow ed_int ed_int)) bf_ge)
      (sd_one (sd_store hr (ed_var 0) ed_int (ed_var 2)))
      sd_nil)
    (sd_cons (sd_set sc__law_take.nd (ed_add (ed_add (ed_mulA (ed_ixA hr (ed_var 0) ed_int) ed_int) (ed_mod (ed_bt call_int1 on_int z_int bo_int (ad_cons (ed_var 2) ad_nil)) ed_int)) (ed_mulA ed_int (ed_ixA hr (ed_var 0) ed_int))) (i := 3))
    (sd_one (sd_store hr (ed_var 0) ed_int (ed_mod (ed_bt call_int1 on_int z_int bo_int (ad_cons (ed_var 3) ad_nil)) ed_int)))))))
      sd_nil)
    (sd_cons (sd_if (td_ofC (cd_gt (ed_ixA hr (ed_var 0) ed_int) ed_int) bf_gt)
      (sd_cons (sd_set sc__law_take.nd (ed_mod (ed_bt call_int1 on_int z_int bo_int (ad_cons (ed_ixA hr (ed_var 0) ed_int) ad_nil)) (ed_var 1)) (i := 4))
    (sd_cons (sd_store hr (ed_var 0) ed_int (ed_fdiv (ed_bt call_int1 on_int z_int bo_int (ad_cons (ed_ixA hr (ed_var 0) ed_int) ad_nil)) (ed_var 1)))
    (sd_one (sd_ret (ed_var 4)))))
      sd_nil)
    (sd_cons (sd_set sc__law_take.nd (ed_mod (ed_bt call_int1 on_int z_int bo_int (ad_cons (ed_mulA (ed_add (ed_ixA hr (ed_var 0) ed_int) ed_int) ed_int) ad_nil)) ed_int) (i := 5))
    (sd_cons (sd_set sc__law_take.nd (ed_mod (ed_bt call_int1 on_int z_int bo_int (ad_cons (ed_mulA (ed_mod (ed_bt call_int1 on_int z_int bo_int (ad_cons (ed_mulA (ed_var 5) (ed_var 5)) ad_nil)) ed_int) ed_int) ad_nil)) ed_int) (i := 6))
    (sd_one (sd_ret (ed_mod (ed_bt call_int1 on_int z_int bo_int (ad_cons (ed_fdiv (ed_var 6) ed_int) ad_nil)) (ed_var 1))))))))
/-! ### _law_some -/
abbrev st__law_some : Stmt := top 13
abbrev n__law_some : List Str := ["bag", "things"]
theorem sc__law_some : FnScope ["bag", "things"] ["bag", "things"] (defScope st__law_some) := ⟨rfl, rfl, rfl, by decide +kernel, rfl, by decide +kernel, by decide +kernel⟩
theorem ok__law_some (df : DefAt K mg "_law_some" st__law_some ["bag", "things"]) (c__law_take : FnC P HasW.w K mg base 1 "_law_take" [true, false] d__law_take) (z_len : mg "len" = none) :
    FnC P HasW.w K mg base 2 "_law_some" [true, false] d__law_some :=
  fnC_of df sc__law_some rfl fun f0 cdv A outer s H E hr =>
    (sd_one (sd_ret (ed_ixA hr (ed_var 1) (ed_callF c__law_take hr (takes_of rfl rfl rfl rfl) (ad_cons (ed_var 0) (ad_cons (ed_bi call_lenA on_len z_len bo_len (ad_cons (ed_var 1) ad_nil)) ad_nil))))))
/-! ### _law_mixed -/
abbrev st__law_mixed : Stmt := top 14
abbrev n__law_mixed : List Str := ["bag", "things", "found", "thing"]
theorem sc__law_mixed : FnScope ["bag", "things", "found", "thing"] ["bag", "things"] (defScope st__law_mixed) := ⟨rfl, rfl, rfl, by decide +kernel, rfl, by decide +kernel, by decide +kernel⟩
theorem ok__law_mixed (df : DefAt K mg "_law_mixed" st__law_mixed ["bag", "things"]) (c__law_take : FnC P HasW.w K mg base 1 "_law_take" [true, false] d__law_take) (z_len : mg "len" = none) :
    FnC P HasW.w K mg base 2 "_law_mixed" [true, false] d__law_mixed :=
  fnC_of df sc__law_mixed rfl fun f0 cdv A outer s H E hr =>
    (sd_cons (sd_set sc__law_mixed.nd (ed_lst ad_nil) (i := 2))
    (sd_cons (sd_for (passes_of rfl) rfl (id_seq (ed_var 1)) (gd_name sc__law_mixed.nd (i := 3))
      (sd_one (sd_expr (ed_insert (ed_var 2) (ad_cons (ed_callF c__law_take hr (takes_of rfl rfl rfl rfl) (ad_cons (ed_var 0) (ad_cons (ed_add (ed_bi call_lenA on_len z_len bo_len (ad_cons (ed_var 2) ad_nil)) ed_int) ad_nil))) (ad_cons (ed_var 3) ad_nil))))))
    (sd_one (sd_ret (ed_var 2)))))
/-! ### _law_alike -/
abbrev st__law_alike : Stmt := top 15
abbrev n__law_alike : List Str := ["found", "due"]
theorem sc__law_alike : FnScope ["found", "due"] ["found", "due"] (defScope st__law_alike) := ⟨rfl, rfl, rfl, by decide +kernel, rfl, by decide +kernel, by decide +kernel⟩
theorem ok__law_alike (df : DefAt K mg "_law_alike" st__law_alike ["found", "due"]) (z_repr : mg "repr" = none) :
    FnC P HasW.w K mg base 1 "_law_alike" [false, false] d__law_alike :=
  fnC_of df sc__law_alike rfl fun f0 cdv A outer s H E hr =>
    (sd_one (sd_ret (ed_and (ed_ofC (cd_eq hr (ed_bi (call_repr hr) on_repr z_repr bo_repr (ad_cons (ed_var 0) ad_nil)) (ed_bi (call_repr hr) on_repr z_repr bo_repr (ad_cons (ed_var 1) ad_nil)))) (ed_one (ed_ofC (cd_eq hr (ed_var 0) (ed_var 1)))))))
/-! ### _law_order -/
abbrev st__law_order : Stmt := top 16
abbrev n__law_order : List Str := ["keys", "key", "name"]
theorem sc__law_order : FnScope ["keys", "key", "name"] ["keys"] (defScope st__law_order) := ⟨rfl, rfl, rfl, by decide +kernel, rfl, by decide +kernel, by decide +kernel⟩
theorem ok__law_order (df : DefAt K mg "_law_order" st__law_order ["keys"]) (z_tuple : mg "tuple" = none) (z_sorted : mg "sorted" = none) (z_dict : mg "dict" = none) :
    FnC P HasW.w K mg base 1 "_law_order" [false] d__law_order :=
  fnC_of df sc__law_order rfl fun f0 cdv A outer s H E hr =>
    (sd_one (sd_ret (ed_bt call_tuple_of on_tuple z_tuple bo_tuple (ad_cons (ed_lc rfl sc__law_order.nd (blkOk_by (own := [("key", 1)]) (show blkC n__law_order (defScope st__law_order) _ _ = true from by decide +kernel)) (by decide) (id_seq (ed_bi (call_sortedAny rfl (u65 hr) rfl) on_sorted z_sorted bo_sorted (ad_cons (ed_bt (call_dict rfl (u65 hr)) on_dict z_dict bo_dict (ad_cons (ed_lcN rfl sc__law_order.nd (blkOk_by (own := [("name", 2)]) (show blkC n__law_order (defScope st__law_order) _ _ = true from by decide +kernel)) (by decide) (pv 0) (id_seq (ed_var 0)) (fun _ _ _ _ _ => (gd_name sc__law_order.nd (i := 2))) (fun _ _ _ _ _ => id_yes) (fun _ _ _ _ _ => (ed_tup (ad_cons (ed_ixA hr (ed_var 0) (ed_var 2)) (ad_cons ed_bl ad_nil))))) ad_nil)) ad_nil))) (fun _ _ _ _ _ => (gd_name sc__law_order.nd (i := 1))) (fun _ _ _ _ _ => id_yes) (fun _ _ _ _ _ => (ed_bt call_tuple_of on_tuple z_tuple bo_tuple (ad_cons (ed_bi (call_sortedAny rfl (u65 hr) rfl) on_sorted z_sorted bo_sorted (ad_cons (ed_lcN rfl sc__law_order.nd (blkOk_by (own := [("name", 2)]) (by kernel_rfl)) (by decide) (pv 0) (id_seq (ed_var 0)) (fun _ _ _ _ _ => (gd_name sc__law_order.nd (i := 2))) (fun _ _ _ _ _ => (id_test (td_ofC (cd_eq hr (ed_ixA hr (ed_var 0) (ed_var 2)) (ed_var 1)) bf_eq))) (fun _ _ _ _ _ => (ed_var 2))) ad_nil)) ad_nil)))) ad_nil))))
/-! ### _law_all_tuples -/
abbrev st__law_all_tuples : Stmt := top 17
abbrev n__law_all_tuples : List Str := ["many", "size", "found", "lap", "one", "number"]
theorem sc__law_all_tuples : FnScope ["many", "size", "found", "lap", "one", "number"] ["many", "size"] (defScope st__law_all_tuples) := ⟨rfl, rfl, rfl, by decide +kernel, rfl, by decide +kernel, by decide +kernel⟩
theorem ok__law_all_tuples (df : DefAt K mg "_law_all_tuples" st__law_all_tuples ["many", "size"]) (z_range : mg "range" = none) (z_sum : mg "sum" = none) :
    FnC P HasW.w K mg base 1 "_law_all_tuples" [false, false] d__law_all_tuples :=
  fnC_of df sc__law_all_tuples rfl fun f0 cdv A outer s H E hr =>
    (sd_cons (sd_set sc__law_all_tuples.nd (ed_lst (ad_cons (ed_tup ad_nil) ad_nil)) (i := 2))
    (sd_cons (sd_for (passes_of rfl) rfl (id_range1 z_range (ad_cons (ed_var 0) ad_nil)) (gd_name sc__law_all_tuples.nd (i := 3))
      (sd_one (sd_set sc__law_all_tuples.nd (ed_sumL rfl z_sum (ad_cons (ed_lc rfl sc__law_all_tuples.nd (blkOk_by (own := [("one", 4)]) (show blkC n__law_all_tuples (defScope st__law_all_tuples) _ _ = true from by decide +kernel)) (by decide) (id_seq (ed_var 2)) (fun _ _ _ _ _ => (gd_name sc__law_all_tuples.nd (i := 4))) (fun _ _ _ _ _ => id_yes) (fun _ _ _ _ _ => (ed_lc rfl sc__law_all_tuples.nd (blkOk_by (own := [("number", 5)]) (by kernel_rfl)) (by decide) (id_range1 z_range (ad_cons (ed_var 1) ad_nil)) (fun _ _ _ _ _ => (gd_name sc__law_all_tuples.nd (i := 5))) (fun _ _ _ _ _ => id_yes) (fun _ _ _ _ _ => (ed_add (ed_var 4) (ed_tup (ad_cons (ed_var 5) ad_nil))))))) (ad_cons (ed_lst ad_nil) ad_nil))) (i := 2))))
    (sd_one (sd_ret (ed_var 2)))))
/-! ### law -/
abbrev st_law : Stmt := top 18
abbrev n_law : List Str := ["script", "bag", "lap", "names", "keys", "order", "name", "other", "places", "left", "led", "spread", "due", "told", "later", "every", "one", "key", "x", "y", "z"]
theorem sc_law : FnScope ["script", "bag", "lap", "names", "keys", "order", "name", "other", "places", "left", "led", "spread", "due", "told", "later", "every", "one", "key", "x", "y", "z"] ["script"] (defScope st_law) := ⟨rfl, rfl, rfl, by decide +kernel, rfl, by decide +kernel, by decide +kernel⟩
theorem ok_law {f : Addr} {fd : FuncData} (F : Fun K "law" "law" st_law f fd) (c__law_bag : FnC P HasW.w K mg base 1 "_law_bag" [false] d__law_bag) (c__law_mixed : FnC P HasW.w K mg base 2 "_law_mixed" [true, false] d__law_mixed) (c__law_take : FnC P HasW.w K mg base 1 "_law_take" [true, false] d__law_take) (c__law_order : FnC P HasW.w K mg base 1 "_law_order" [false] d__law_order) (c__law_some : FnC P HasW.w K mg base 2 "_law_some" [true, false] d__law_some) (c_lot_of : FnC P HasW.w K mg base 1 "lot_of" [false, false] d_lot_of) (c__law_alike : FnC P HasW.w K mg base 1 "_law_alike" [false, false] d__law_alike) (c_without : FnC P HasW.w K mg base 1 "without" [false, false] d_without) (c_same_as : FnC P HasW.w K mg base 2 "same_as" [false, false, false] d_same_as) (c_anywhere : FnC P HasW.w K mg base 3 "anywhere" [false, false] d_anywhere) (c_led_on : FnC P HasW.w K mg base 3 "led_on" [false, false] d_led_on) (c__law_all_tuples : FnC P HasW.w K mg base 1 "_law_all_tuples" [false, false] d__law_all_tuples) (c_all_orders : FnC P HasW.w K mg base 4 "all_orders" [false] d_all_orders) (z_range : mg "range" = none) (z_dict : mg "dict" = none) (z_sorted : mg "sorted" = none) (z_list : mg "list" = none) (z_len : mg "len" = none) (z_zip : mg "zip" = none) :
    FnG P HasW.w K mg base 5 f fd ["script"] (spD K [false] d_law) :=
  def_okG F sc_law rfl fun cdv A outer s H E hr =>
    (sd_cons (sd_set sc_law.nd (ed_callF c__law_bag hr (takes_of rfl rfl rfl rfl) (ad_cons (ed_var 0) ad_nil)) (i := 1))
    (sd_cons (sd_for (passes_of rfl) rfl (id_range1 z_range (ad_cons ed_int ad_nil)) (gd_name sc_law.nd (i := 2))
      (sd_cons (sd_set sc_law.nd (ed_slice (ed_callF c__law_mixed hr (takes_of rfl rfl rfl rfl) (ad_cons (ed_var 1) (ad_cons (ed_lst (ad_cons ed_str (ad_cons ed_str (ad_cons ed_str (ad_cons ed_str (ad_cons ed_str (ad_cons ed_str ad_nil))))))) ad_nil))) od_none (od_some (ed_add ed_int (ed_callF c__law_take hr (takes_of rfl rfl rfl rfl) (ad_cons (ed_var 1) (ad_cons ed_int ad_nil)))))) (i := 3))
    (sd_cons (sd_set sc_law.nd (ed_bt (call_dict rfl (u65 hr)) on_dict z_dict bo_dict (ad_cons (ed_lc rfl sc_law.nd (blkOk_by (own := [("name", 6)]) (show blkC n_law (defScope st_law) _ _ = true from by decide +kernel)) (by decide) (id_seq (ed_var 3)) (fun _ _ _ _ _ => (gd_name sc_law.nd (i := 6))) (fun _ _ _ _ _ => id_yes) (fun _ _ _ _ _ => (ed_tup (ad_cons (ed_var 6) (ad_cons (ed_callF c__law_take hr takes0 (ad_cons (ed_var 1) (ad_cons ed_int ad_nil))) ad_nil))))) ad_nil)) (i := 4))
    (sd_cons (sd_asg (ed_tup (ad_cons (ed_callF c__law_order hr (takes_of rfl rfl rfl rfl) (ad_cons (ed_var 4) ad_nil)) (ad_cons (ed_callF c__law_some hr (takes_of rfl rfl rfl rfl) (ad_cons (ed_var 1) (ad_cons (ed_var 3) ad_nil))) (ad_cons (ed_callF c__law_some hr (takes_of rfl rfl rfl rfl) (ad_cons (ed_var 1) (ad_cons (ed_var 3) ad_nil))) ad_nil)))) (gd_tup rfl (gd_cons (gd_name sc_law.nd (i := 5)) (gd_cons (gd_name sc_law.nd (i := 6)) (gd_cons (gd_name sc_law.nd (i := 7)) gd_nil)))))
    (sd_cons (sd_set sc_law.nd (ed_bt (call_dict rfl (u65 hr)) on_dict z_dict bo_dict (ad_cons (ed_lc rfl sc_law.nd (blkOk_by (own := [("one", 16)]) (show blkC n_law (defScope st_law) _ _ = true from by decide +kernel)) (by decide) (id_seq (ed_var 3)) (fun _ _ _ _ _ => (gd_name sc_law.nd (i := 16))) (fun _ _ _ _ _ => id_yes) (fun _ _ _ _ _ => (ed_tup (ad_cons (ed_var 16) (ad_cons (ed_index hr (ed_bi (call_sortedAny rfl (u65 hr) rfl) on_sorted z_sorted bo_sorted (ad_cons (ed_bt (call_dict rfl (u65 hr)) on_dict z_dict bo_dict (ad_cons (ed_lcD rfl sc_law.nd (blkOk_by (own := [("key", 17)]) (by kernel_rfl)) (by decide) (iw_values (pv 4)) (fun _ _ _ _ _ => (gd_name sc_law.nd (i := 17))) (fun _ _ _ _ _ => id_yes) (fun _ _ _ _ _ => (ed_tup (ad_cons (ed_var 17) (ad_cons ed_bl ad_nil))))) ad_nil)) ad_nil)) (ad_cons (ed_ixA hr (ed_var 4) (ed_var 16)) ad_nil)) ad_nil))))) ad_nil)) (i := 8))
    (sd_cons (sd_if (tw_or (td_ofC (cd_ne hr (ed_lc rfl sc_law.nd (blkOk_by (own := [("one", 16)]) (show blkC n_law (defScope st_law) _ _ = true from by decide +kernel)) (by decide) (id_seq (ed_var 3)) (fun _ _ _ _ _ => (gd_name sc_law.nd (i := 16))) (fun _ _ _ _ _ => id_yes) (fun _ _ _ _ _ => (ed_callF c_lot_of hr takes0 (ad_cons (ed_var 5) (ad_cons (ed_var 16) ad_nil))))) (ed_lc rfl sc_law.nd (blkOk_by (own := [("one", 16)]) (show blkC n_law (defScope st_law) _ _ = true from by decide +kernel)) (by decide) (id_seq (ed_var 3)) (fun _ _ _ _ _ => (gd_name sc_law.nd (i := 16))) (fun _ _ _ _ _ => id_yes) (fun _ _ _ _ _ => (ed_ixA hr (ed_var 8) (ed_var 16))))) bf_ne) (tw_or1 (td_ofC1 (cd_notN (ed_callF c_lot_of hr (takes_of rfl rfl rfl rfl) (ad_cons (ed_var 5) (ad_cons ed_str ad_nil)))) bf_notN))).pt
      (sd_one (sd_ret ed_bl))
      sd_nil)
    (sd_cons (sd_set sc_law.nd (ed_bt (call_dict rfl (u65 hr)) on_dict z_dict bo_dict (ad_cons (ed_lc rfl sc_law.nd (blkOk_by (own := [("one", 16)]) (show blkC n_law (defScope st_law) _ _ = true from by decide +kernel)) (by decide) (id_seq (ed_var 3)) (fun _ _ _ _ _ => (gd_name sc_law.nd (i := 16))) (fun _ _ _ _ _ => (id_test (td_ofC (cd_ne hr (ed_var 16) (ed_var 6)) bf_ne))) (fun _ _ _ _ _ => (ed_tup (ad_cons (ed_var 16) (ad_cons (ed_ixA hr (ed_var 4) (ed_var 16)) ad_nil))))) ad_nil)) (i := 9))
    (sd_cons (sd_if (td_not (td_truth (ed_callF c__law_alike hr (takes_of rfl rfl rfl rfl) (ad_cons (ed_lst (ad_cons (ed_callF c_without hr (takes_of rfl rfl rfl rfl) (ad_cons (ed_var 5) (ad_cons (ed_var 6) ad_nil))) (ad_cons (ed_callF c_without hr (takes_of rfl rfl rfl rfl) (ad_cons (ed_var 5) (ad_cons ed_str ad_nil))) ad_nil))) (ad_cons (ed_lst (ad_cons (ed_callF c__law_order hr (takes_of rfl rfl rfl rfl) (ad_cons (ed_var 9) ad_nil)) (ad_cons (ed_var 5) ad_nil))) ad_nil)))))
      (sd_one (sd_ret ed_bl))
      sd_nil)
    (sd_cons (sd_set sc_law.nd (ed_bt (call_dict rfl (u65 hr)) on_dict z_dict bo_dict (ad_cons (ed_add (ed_listItems rfl z_list (ed_var 9)) (ed_lst (ad_cons (ed_tup (ad_cons (ed_var 6) (ad_cons (ed_ixA hr (ed_var 4) (ed_var 7)) ad_nil))) ad_nil))) ad_nil)) (i := 10))
    (sd_cons (sd_if (td_not (td_truth (ed_callF c__law_alike hr (takes_of rfl rfl rfl rfl) (ad_cons (ed_callF c_same_as hr (takes_of rfl rfl rfl rfl) (ad_cons (ed_var 5) (ad_cons (ed_var 6) (ad_cons (ed_var 7) ad_nil)))) (ad_cons (ed_callF c__law_order hr (takes_of rfl rfl rfl rfl) (ad_cons (ed_var 10) ad_nil)) ad_nil)))))
      (sd_one (sd_ret ed_bl))
      sd_nil)
    (sd_cons (sd_set sc_law.nd (ed_bt (call_dict rfl (u65 hr)) on_dict z_dict bo_dict (ad_cons (ed_lcN rfl sc_law.nd (blkOk_by (own := [("one", 16)]) (show blkC n_law (defScope st_law) _ _ = true from by decide +kernel)) (by decide) (pv 9) (id_seq (ed_var 9)) (fun _ _ _ _ _ => (gd_name sc_law.nd (i := 16))) (fun _ _ _ _ _ => id_yes) (fun _ _ _ _ _ => (ed_tup (ad_cons (ed_var 16) (ad_cons (ed_mulA ed_int (ed_ixA hr (ed_var 9) (ed_var 16))) ad_nil))))) ad_nil)) (i := 11))
    (sd_cons (sd_setLc rfl sc_law.nd (blkOk_by (own := [("key", 17)]) (show blkC n_law (defScope st_law) _ _ = true from by decide +kernel)) (by decide) (id_range2 z_range (ad_cons (ed_neg ed_int) (ad_cons ed_int ad_nil))) (fun _ _ _ _ _ => (gd_name sc_law.nd (i := 17))) (fun _ _ _ _ _ => id_yes) (fun _ _ _ _ _ => (ed_callF c__law_order hr takes0 (ad_cons (ed_bt (call_dict rfl (u65 hr)) on_dict z_dict bo_dict (ad_cons (ed_add (ed_listItems rfl z_list (ed_var 11)) (ed_lst (ad_cons (ed_tup (ad_cons (ed_var 6) (ad_cons (ed_var 17) ad_nil))) ad_nil))) ad_nil)) ad_nil))) (i := 12))
    (sd_cons (sd_set sc_law.nd (ed_callF c_anywhere hr (takes_of rfl rfl rfl rfl) (ad_cons (ed_callF c__law_order hr (takes_of rfl rfl rfl rfl) (ad_cons (ed_var 9) ad_nil)) (ad_cons (ed_var 6) ad_nil))) (i := 13))
    (sd_cons (sd_if (tw_or (td_ofC (cd_ne hr (ed_bi (call_sortedAny rfl (u65 hr) rfl) on_sorted z_sorted bo_sorted (ad_cons (ed_var 13) ad_nil)) (ed_bi (call_sortedAny rfl (u65 hr) rfl) on_sorted z_sorted bo_sorted (ad_cons (ed_bt (call_dict rfl (u65 hr)) on_dict z_dict bo_dict (ad_cons (ed_lc rfl sc_law.nd (blkOk_by (own := [("one", 16)]) (show blkC n_law (defScope st_law) _ _ = true from by decide +kernel)) (by decide) (id_seq (ed_var 12)) (fun _ _ _ _ _ => (gd_name sc_law.nd (i := 16))) (fun _ _ _ _ _ => id_yes) (fun _ _ _ _ _ => (ed_tup (ad_cons (ed_var 16) (ad_cons ed_bl ad_nil))))) ad_nil)) ad_nil))) bf_ne) (tw_or1 (td_ofC (cd_ne hr (ed_bi call_lenA on_len z_len bo_len (ad_cons (ed_var 13) ad_nil)) (ed_add (ed_mulA ed_int (ed_bi call_lenA on_len z_len bo_len (ad_cons (ed_callF c__law_order hr (takes_of rfl rfl rfl rfl) (ad_cons (ed_var 9) ad_nil)) ad_nil))) ed_int)) bf_ne))).pt
      (sd_one (sd_ret ed_bl))
      sd_nil)
    (sd_cons (sd_setLc rfl sc_law.nd (blkOk_by (own := [("key", 17)]) (show blkC n_law (defScope st_law) _ _ = true from by decide +kernel)) (by decide) (id_range2 z_range (ad_cons (ed_mulA ed_int (ed_ixA hr (ed_var 4) (ed_var 6))) (ad_cons ed_int ad_nil))) (fun _ _ _ _ _ => (gd_name sc_law.nd (i := 17))) (fun _ _ _ _ _ => id_yes) (fun _ _ _ _ _ => (ed_callF c__law_order hr takes0 (ad_cons (ed_bt (call_dict rfl (u65 hr)) on_dict z_dict bo_dict (ad_cons (ed_add (ed_listItems rfl z_list (ed_var 11)) (ed_lst (ad_cons (ed_tup (ad_cons (ed_var 6) (ad_cons (ed_var 17) ad_nil))) ad_nil))) ad_nil)) ad_nil))) (i := 14))
    (sd_one (sd_if (td_ofC (cd_ne hr (ed_bi (call_sortedAny rfl (u65 hr) rfl) on_sorted z_sorted bo_sorted (ad_cons (ed_callF c_led_on hr (takes_of rfl rfl rfl rfl) (ad_cons (ed_var 5) (ad_cons (ed_var 6) ad_nil))) ad_nil)) (ed_bi (call_sortedAny rfl (u65 hr) rfl) on_sorted z_sorted bo_sorted (ad_cons (ed_bt (call_dict rfl (u65 hr)) on_dict z_dict bo_dict (ad_cons (ed_lc rfl sc_law.nd (blkOk_by (own := [("one", 16)]) (show blkC n_law (defScope st_law) _ _ = true from by decide +kernel)) (by decide) (id_seq (ed_var 14)) (fun _ _ _ _ _ => (gd_name sc_law.nd (i := 16))) (fun _ _ _ _ _ => id_yes) (fun _ _ _ _ _ => (ed_tup (ad_cons (ed_var 16) (ad_cons ed_bl ad_nil))))) ad_nil)) ad_nil))) bf_ne)
      (sd_one (sd_ret ed_bl))
      sd_nil)))))))))))))))))
    (sd_cons (sd_setLc rfl sc_law.nd (blkOk_by (own := [("x", 18), ("y", 19), ("z", 20)]) (show blkC n_law (defScope st_law) _ _ = true from by decide +kernel)) (by decide) (id_seq (ed_callF c__law_all_tuples hr (takes_of rfl rfl rfl rfl) (ad_cons ed_int (ad_cons ed_int ad_nil)))) (fun _ _ _ _ _ => (gd_tup rfl (gd_cons (gd_name sc_law.nd (i := 18)) (gd_cons (gd_name sc_law.nd (i := 19)) (gd_cons (gd_name sc_law.nd (i := 20)) gd_nil))))) (fun _ _ _ _ _ => id_yes) (fun _ _ _ _ _ => (ed_callF c__law_order hr takes0 (ad_cons (ed_bt (call_dict rfl (u65 hr)) on_dict z_dict bo_dict (ad_cons (ed_listZip rfl z_list z_zip (ad_cons ed_str (ad_cons (ed_tup (ad_cons (ed_var 18) (ad_cons (ed_var 19) (ad_cons (ed_var 20) ad_nil)))) ad_nil))) ad_nil)) ad_nil))) (i := 15))
    (sd_one (sd_ret (ed_and (ed_ofC (cd_eq hr (ed_bi (call_sortedAny rfl (u65 hr) rfl) on_sorted z_sorted bo_sorted (ad_cons (ed_callF c_all_orders hr (takes_of rfl rfl rfl rfl) (ad_cons (ed_tup (ad_cons ed_str (ad_cons ed_str (ad_cons ed_str ad_nil)))) ad_nil)) ad_nil)) (ed_bi (call_sortedAny rfl (u65 hr) rfl) on_sorted z_sorted bo_sorted (ad_cons (ed_bt (call_dict rfl (u65 hr)) on_dict z_dict bo_dict (ad_cons (ed_lc rfl sc_law.nd (blkOk_by (own := [("one", 16)]) (show blkC n_law (defScope st_law) _ _ = true from by decide +kernel)) (by decide) (id_seq (ed_var 15)) (fun _ _ _ _ _ => (gd_name sc_law.nd (i := 16))) (fun _ _ _ _ _ => id_yes) (fun _ _ _ _ _ => (ed_tup (ad_cons (ed_var 16) (ad_cons ed_bl ad_nil))))) ad_nil)) ad_nil)))) (ed_one (ed_ofC (cd_eq hr (ed_callF c_all_orders hr (takes_of rfl rfl rfl rfl) (ad_cons (ed_tup ad_nil) ad_nil)) (ed_lst (ad_cons (ed_tup ad_nil) ad_nil)))))))))))
end
end K09

/-! types of values as data: compared, sorted, shown. -/
namespace DL
open PySem PySem.Spec L2 PySem.W PyProof.Rows
inductive PTy where | int | str | seq (t : PTy) | prod (ts : List PTy)
mutual
def PTy.deep : PTy → Nat
  | .int => 0
  | .str => 0
  | .seq t => t.deep + 1
  | .prod ts => PTy.deepAll ts + 1
def PTy.deepAll : List PTy → Nat
  | [] => 0
  | t :: ts => max t.deep (PTy.deepAll ts)
end
mutual
def fits : PTy → PyData → Bool
  | .int, .int _ => true
  | .str, .str _ => true
  | .seq t, .tuple ps => fitsAll t ps
  | .prod ts, .tuple ps => fitsEach ts ps
  | _, _ => false
def fitsAll : PTy → List PyData → Bool
  | _, [] => true
  | t, p :: ps => fits t p && fitsAll t ps
def fitsEach : List PTy → List PyData → Bool
  | [], [] => true
  | t :: ts, p :: ps => fits t p && fitsEach ts ps
  | _, _ => false
end
mutual
theorem fits_alike : ∀ (p q : PyData) (t : PTy), fits t p = true → fits t q = true → alike p q = true
  | .int _, q, t, h, k => by
    cases t with
    | int => cases q with
      | int _ => simp [alike]
      | _ => simp [fits] at k
    | _ => simp [fits] at h
  | .str _, q, t, h, k => by
    cases t with
    | str => cases q with
      | str _ => simp [alike]
      | _ => simp [fits] at k
    | _ => simp [fits] at h
  | .tuple ps, q, t, h, k => by
    cases t with
    | seq t => cases q with
      | tuple qs =>
        simp only [fits] at h k
        simp only [alike]
        exact fits_alikeAll ps qs t h k
      | _ => simp [fits] at k
    | prod ts => cases q with
      | tuple qs =>
        simp only [fits] at h k
        simp only [alike]
        exact fits_alikeEach ps qs ts h k
      | _ => simp [fits] at k
    | _ => simp [fits] at h
  | .none, q, t, h, k => by cases t <;> simp [fits] at h
  | .bool _, q, t, h, k => by cases t <;> simp [fits] at h
  | .list _, q, t, h, k => by cases t <;> simp [fits] at h
  | .dict _, q, t, h, k => by cases t <;> simp [fits] at h
theorem fits_alikeAll : ∀ (ps qs : List PyData) (t : PTy), fitsAll t ps = true → fitsAll t qs = true → alikeAll ps qs = true
  | [], qs, t, h, k => by simp [alikeAll]
  | p :: ps, [], t, h, k => by simp [alikeAll]
  | p :: ps, q :: qs, t, h, k => by
    simp only [fitsAll, Bool.and_eq_true] at h k
    simp only [alikeAll, Bool.and_eq_true]
    exact ⟨fits_alike p q t h.1 k.1, fits_alikeAll ps qs t h.2 k.2⟩
theorem fits_alikeEach : ∀ (ps qs : List PyData) (ts : List PTy), fitsEach ts ps = true → fitsEach ts qs = true → alikeAll ps qs = true
  | [], qs, ts, h, k => by simp [alikeAll]
  | p :: ps, [], ts, h, k => by simp [alikeAll]
  | p :: ps, q :: qs, [], h, k => by simp [fitsEach] at h
  | p :: ps, q :: qs, t :: ts, h, k => by
    simp only [fitsEach, Bool.and_eq_true] at h k
    simp only [alikeAll, Bool.and_eq_true]
    exact ⟨fits_alike p q t h.1 k.1, fits_alikeEach ps qs ts h.2 k.2⟩
end
mutual
theorem fits_deep : ∀ (p : PyData) (t : PTy), fits t p = true → p.depth ≤ t.deep
  | .int _, t, h => by simp [PyData.depth]
  | .str _, t, h => by simp [PyData.depth]
  | .none, t, h => by simp [PyData.depth]
  | .bool _, t, h => by simp [PyData.depth]
  | .list _, t, h => by cases t <;> simp [fits] at h
  | .dict _, t, h => by cases t <;> simp [fits] at h
  | .tuple ps, t, h => by
    cases t with
    | seq t =>
      simp only [fits] at h
      have := fits_deepAll ps t h
      simp only [PyData.depth, PTy.deep]
      omega
    | prod ts =>
      simp only [fits] at h
      have := fits_deepEach ps ts h
      simp only [PyData.depth, PTy.deep]
      omega
    | _ => simp [fits] at h
theorem fits_deepAll : ∀ (ps : List PyData) (t : PTy), fitsAll t ps = true → PyData.depthAll ps ≤ t.deep
  | [], t, h => by simp [PyData.depthAll]
  | p :: ps, t, h => by
    simp only [fitsAll, Bool.and_eq_true] at h
    have h1 := fits_deep p t h.1
    have h2 := fits_deepAll ps t h.2
    simp only [PyData.depthAll]
    omega
theorem fits_deepEach : ∀ (ps : List PyData) (ts : List PTy), fitsEach ts ps = true → PyData.depthAll ps ≤ PTy.deepAll ts
  | [], ts, h => by simp [PyData.depthAll]
  | p :: ps, [], h => by simp [fitsEach] at h
  | p :: ps, t :: ts, h => by
    simp only [fitsEach, Bool.and_eq_true] at h
    have h1 := fits_deep p t h.1
    have h2 := fits_deepEach ps ts h.2
    simp only [PyData.depthAll, PTy.deepAll]
    omega
end
mutual
theorem eqv_eq : ∀ (p q : PyData) (t : PTy), fits t p = true → fits t q = true → PyData.eqv p q = true → p = q
  | .int _, q, t, h, k, e => by
    cases t with
    | int => cases q with
      | int _ => simp [PyData.eqv] at e; rw [e]
      | _ => simp [fits] at k
    | _ => simp [fits] at h
  | .str _, q, t, h, k, e => by
    cases t with
    | str => cases q with
      | str _ => simp [PyData.eqv] at e; rw [e]
      | _ => simp [fits] at k
    | _ => simp [fits] at h
  | .tuple ps, q, t, h, k, e => by
    cases t with
    | seq t => cases q with
      | tuple qs =>
        simp only [fits] at h k
        simp only [PyData.eqv] at e
        rw [eqvAll_eq ps qs t h k e]
      | _ => simp [fits] at k
    | prod ts => cases q with
      | tuple qs =>
        simp only [fits] at h k
        simp only [PyData.eqv] at e
        rw [eqvEach_eq ps qs ts h k e]
      | _ => simp [fits] at k
    | _ => simp [fits] at h
  | .none, q, t, h, k, e => by cases t <;> simp [fits] at h
  | .bool _, q, t, h, k, e => by cases t <;> simp [fits] at h
  | .list _, q, t, h, k, e => by cases t <;> simp [fits] at h
  | .dict _, q, t, h, k, e => by cases t <;> simp [fits] at h
theorem eqvAll_eq : ∀ (ps qs : List PyData) (t : PTy), fitsAll t ps = true → fitsAll t qs = true → PyData.eqvAll ps qs = true → ps = qs
  | [], [], t, h, k, e => rfl
  | [], _ :: _, t, h, k, e => by simp [PyData.eqvAll] at e
  | _ :: _, [], t, h, k, e => by simp [PyData.eqvAll] at e
  | p :: ps, q :: qs, t, h, k, e => by
    simp only [fitsAll, Bool.and_eq_true] at h k
    simp only [PyData.eqvAll, Bool.and_eq_true] at e
    rw [eqv_eq p q t h.1 k.1 e.1, eqvAll_eq ps qs t h.2 k.2 e.2]
theorem eqvEach_eq : ∀ (ps qs : List PyData) (ts : List PTy), fitsEach ts ps = true → fitsEach ts qs = true → PyData.eqvAll ps qs = true → ps = qs
  | [], [], t, h, k, e => rfl
  | [], _ :: _, t, h, k, e => by simp [PyData.eqvAll] at e
  | _ :: _, [], t, h, k, e => by simp [PyData.eqvAll] at e
  | p :: ps, q :: qs, [], h, k, e => by simp [fitsEach] at h
  | p :: ps, q :: qs, t :: ts, h, k, e => by
    simp only [fitsEach, Bool.and_eq_true] at h k
    simp only [PyData.eqvAll, Bool.and_eq_true] at e
    rw [eqv_eq p q t h.1 k.1 e.1, eqvEach_eq ps qs ts h.2 k.2 e.2]
end
theorem eqv_dec [DecidableEq PyData] {p q : PyData} {t : PTy} (h : fits t p = true) (k : fits t q = true) (l : p.canLay0 = true) : PyData.eqv p q = decide (p = q) := by
  by_cases e : p = q
  · subst e; rw [eqv_refl p l]; simp
  · rw [decide_eq_false e]
    cases z : PyData.eqv p q with
    | false => rfl
    | true => exact absurd (eqv_eq p q t h k z) e
theorem toks_inj {p q : PyData} {t : PTy} (h : fits t p = true) (k : fits t q = true) (e : keyToks p = keyToks q) : p = q := by
  cases z : PyData.eqv p q with
  | true => exact eqv_eq p q t h k z
  | false =>
    have w := (toks_eqv p q (fits_alike p q t h k)).2 z
    have w1 := w [] []
    have w2 := w [] [.inl 0]
    rw [e, lex_pre] at w1 w2
    have x1 : PyProof.Rows.lexLt itemOrd ([] : List (Int ⊕ List Nat)) [] = false := rfl
    have x2 : PyProof.Rows.lexLt itemOrd ([] : List (Int ⊕ List Nat)) [.inl 0] = true := rfl
    rw [x1] at w1
    rw [x2, ← w1] at w2
    cases w2
/-- values of a type as data -/
structure Enc (α : Type) where
  d : α → D
  p : α → PyData
  t : PTy
  good : α → Prop
  wt : α → Nat
  py : ∀ a, DL.py (d a) = some (p a)
  fit : ∀ a, fits t (p a) = true
  inj : ∀ a b, p a = p b → a = b
  nice : ∀ a, good a → (p a).canLay0 = true ∧ (p a).showable = true ∧ (p a).intsShort 13 = true ∧ (p a).weight ≤ wt a
namespace Enc
def int : Enc Int where
  d := .int
  p := .int
  t := .int
  good i := i.natAbs < 10 ^ 12
  wt _ := 41
  py _ := rfl
  fit _ := rfl
  inj _ _ h := by cases h; rfl
  nice i h := ⟨rfl, (Nice.int h).show', (Nice.int h).short, (Nice.int h).wt⟩
def str : Enc Str where
  d := .str
  p := .str
  t := .str
  good x := PyData.strOk x = true
  wt x := x.cps.size
  py _ := rfl
  fit _ := rfl
  inj _ _ h := by cases h; rfl
  nice x h := ⟨h, rfl, rfl, Nat.le_refl _⟩
section
variable {α β : Type} (e : Enc α)
def wts : List α → Nat
  | [] => 0
  | a :: l => e.wt a + 1 + wts l
theorem pys_map : ∀ l : List α, pys (l.map e.d) = some (l.map e.p)
  | [] => rfl
  | a :: l => by
    show (match DL.py (e.d a), pys (l.map e.d) with | some p, some ps => some (p :: ps) | _, _ => none) = _
    rw [pys_map l, e.py a]
    rfl
theorem fit_map : ∀ l : List α, fitsAll e.t (l.map e.p) = true
  | [] => rfl
  | a :: l => by
    show (fits e.t (e.p a) && fitsAll e.t (l.map e.p)) = true
    rw [e.fit a, fit_map l]
    rfl
theorem nice_map : ∀ l : List α, (∀ a ∈ l, e.good a) → PyData.canLayAll0 (l.map e.p) = true ∧ PyData.showableAll (l.map e.p) = true ∧ PyData.intsShortAll 13 (l.map e.p) = true ∧ PyData.weightAll (l.map e.p) ≤ e.wts l
  | [], _ => ⟨rfl, rfl, rfl, Nat.le_refl 0⟩
  | a :: l, h => by
    obtain ⟨a1, a2, a3, a4⟩ := e.nice a (h a List.mem_cons_self)
    obtain ⟨b1, b2, b3, b4⟩ := nice_map l fun x hx => h x (List.mem_cons_of_mem _ hx)
    rw [List.map_cons]
    refine ⟨?_, ?_, ?_, ?_⟩
    · simp only [PyData.canLayAll0, a1, b1, Bool.and_self]
    · simp only [PyData.showableAll, a2, b2, Bool.and_self]
    · simp only [PyData.intsShortAll, a3, b3, Bool.and_self]
    · simp only [PyData.weightAll, wts]
      omega
theorem inj_map : ∀ l l' : List α, l.map e.p = l'.map e.p → l = l'
  | [], [], _ => rfl
  | [], _ :: _, h => by cases h
  | _ :: _, [], h => by cases h
  | a :: l, b :: l', h => by
    rw [List.map_cons, List.map_cons] at h
    injection h with h1 h2
    rw [e.inj _ _ h1, inj_map l l' h2]
def seq : Enc (List α) where
  d l := .tup (l.map e.d)
  p l := .tuple (l.map e.p)
  t := .seq e.t
  good l := ∀ a ∈ l, e.good a
  wt l := e.wts l
  py l := by
    show (pys (l.map e.d)).map PyData.tuple = _
    rw [e.pys_map l]
    rfl
  fit l := e.fit_map l
  inj l l' h := by injection h with h; exact e.inj_map l l' h
  nice l h := e.nice_map l h
def pair (f : Enc β) : Enc (α × β) where
  d x := .tup [e.d x.1, f.d x.2]
  p x := .tuple [e.p x.1, f.p x.2]
  t := .prod [e.t, f.t]
  good x := e.good x.1 ∧ f.good x.2
  wt x := e.wt x.1 + 1 + (f.wt x.2 + 1)
  py x := by
    show (pys [e.d x.1, f.d x.2]).map PyData.tuple = _
    unfold pys pys pys
    rw [e.py, f.py]
    rfl
  fit x := by
    simp only [fits, fitsEach, e.fit, f.fit, Bool.and_self]
  inj x y h := by
    injection h with h
    injection h with h1 h2
    injection h2 with h2 _
    exact Prod.ext (e.inj _ _ h1) (f.inj _ _ h2)
  nice x h := by
    obtain ⟨a1, a2, a3, a4⟩ := e.nice x.1 h.1
    obtain ⟨b1, b2, b3, b4⟩ := f.nice x.2 h.2
    refine ⟨?_, ?_, ?_, ?_⟩
    · simp only [PyData.canLay0, PyData.canLayAll0, a1, b1, Bool.and_self]
    · simp only [PyData.showable, PyData.showableAll, a2, b2, Bool.and_self]
    · simp only [PyData.intsShort, PyData.intsShortAll, a3, b3, Bool.and_self]
    · simp only [PyData.weight, PyData.weightAll]
      omega
variable {e}
theorem toNice {a : α} (h : e.good a) : Nice (e.d a) (e.p a) e.t.deep (e.wt a) :=
  ⟨e.py a, (e.nice a h).1, (e.nice a h).2.1, (e.nice a h).2.2.1, fits_deep _ _ (e.fit a), (e.nice a h).2.2.2⟩
theorem toNiceL {l : List α} (h : ∀ a ∈ l, e.good a) : NiceL (l.map e.d) (l.map e.p) e.t.deep (e.wts l) :=
  ⟨e.pys_map l, (e.nice_map l h).1, (e.nice_map l h).2.1, (e.nice_map l h).2.2.1, fits_deepAll _ _ (e.fit_map l), (e.nice_map l h).2.2.2⟩
theorem eqv [DecidableEq α] {a b : α} (h : e.good a) : PyData.eqv (e.p a) (e.p b) = decide (a = b) := by
  by_cases z : a = b
  · subst z; rw [eqv_refl _ (e.nice a h).1]; simp
  · rw [decide_eq_false z]
    cases y : PyData.eqv (e.p a) (e.p b) with
    | false => rfl
    | true => exact absurd (e.inj _ _ (eqv_eq _ _ _ (e.fit a) (e.fit b) y)) z
theorem deep_eq [DecidableEq α] {a b : α} (hd : e.t.deep ≤ 60) (h : e.good a) (k : e.good b) : eqDeep (e.d a) (e.d b) = some (decide (a = b)) := by
  rw [eqDeep_nice (toNice h) (toNice k) hd hd, eqv h]
theorem eqD [DecidableEq α] {a b : α} (hd : e.t.deep ≤ 60) (h : e.good a) (k : e.good b) : DL.eqD (e.d a) (e.d b) = some (decide (a = b)) := by
  have z := deep_eq hd h k
  have dec : ∀ {P : Prop} [Decidable P], (P ↔ a = b) → some (decide P) = some (decide (a = b)) := fun i => by rw [decide_eq_decide.mpr i]
  have ij : e.d a = e.d b ↔ a = b := ⟨fun y => e.inj _ _ (by have h1 := e.py a; rw [y, e.py b] at h1; exact (Option.some.inj h1).symm), fun y => by rw [y]⟩
  unfold DL.eqD
  split
  · rename_i i j h1 h2
    rw [h1, h2] at ij
    exact dec (by rw [← ij]; exact ⟨fun y => by rw [y], fun y => by injection y⟩)
  · rename_i i j h1 h2
    rw [h1, h2] at ij
    exact dec (by rw [← ij]; exact ⟨fun y => by rw [y], fun y => by injection y⟩)
  · rename_i i j h1 h2
    rw [h1, h2] at ij
    exact dec (by rw [← ij]; exact ⟨fun y => by rw [y], fun y => by injection y⟩)
  · exact z
theorem opEq [DecidableEq α] {a b : α} (hd : e.t.deep ≤ 60) (h : e.good a) (k : e.good b) : DL.opEq (e.d a) (e.d b) = some (.val (.bl (decide (a = b)))) := by
  unfold DL.opEq; rw [eqD hd h k]; rfl
theorem opNe [DecidableEq α] {a b : α} (hd : e.t.deep ≤ 60) (h : e.good a) (k : e.good b) : DL.opNe (e.d a) (e.d b) = some (.val (.bl (!decide (a = b)))) := by
  unfold DL.opNe; rw [eqD hd h k]; rfl
theorem eqvAll [DecidableEq α] {l l' : List α} (h : ∀ a ∈ l, e.good a) : PyData.eqvAll (l.map e.p) (l'.map e.p) = decide (l = l') := by
  have := eqv (e := e.seq) (a := l) (b := l') h
  simp only [seq, PyData.eqv] at this
  exact this
theorem eqDL [DecidableEq α] {l l' : List α} (hd : e.t.deep ≤ 59) (h : ∀ a ∈ l, e.good a) (k : ∀ a ∈ l', e.good a) : DL.eqD (.lst (l.map e.d)) (.lst (l'.map e.d)) = some (decide (l = l')) := by
  show eqDeep _ _ = _
  rw [eqDeep_nice (Nice.lst (toNiceL h)) (Nice.lst (toNiceL k)) (by omega) (by omega)]
  simp only [PyData.eqv]
  rw [eqvAll h]
theorem opEqL [DecidableEq α] {l l' : List α} (hd : e.t.deep ≤ 59) (h : ∀ a ∈ l, e.good a) (k : ∀ a ∈ l', e.good a) : DL.opEq (.lst (l.map e.d)) (.lst (l'.map e.d)) = some (.val (.bl (decide (l = l')))) := by
  unfold DL.opEq; rw [eqDL hd h k]; rfl
theorem opNeL [DecidableEq α] {l l' : List α} (hd : e.t.deep ≤ 59) (h : ∀ a ∈ l, e.good a) (k : ∀ a ∈ l', e.good a) : DL.opNe (.lst (l.map e.d)) (.lst (l'.map e.d)) = some (.val (.bl (!decide (l = l')))) := by
  unfold DL.opNe; rw [eqDL hd h k]; rfl
theorem any_mem [DecidableEq α] {a : α} : ∀ {l : List α}, (∀ b ∈ l, e.good b) → ((l.map e.p).any fun z => PyData.eqv z (e.p a)) = decide (a ∈ l)
  | [], _ => by simp
  | b :: l, h => by
    rw [List.map_cons, List.any_cons, any_mem fun x hx => h x (List.mem_cons_of_mem _ hx), eqv (h b List.mem_cons_self)]
    by_cases e : b = a
    · subst e; simp
    · have : a ≠ b := fun z => e z.symm
      simp [e, this]
theorem inT [DecidableEq α] {a : α} {l : List α} (hd : e.t.deep ≤ 59) (h : e.good a) (k : ∀ b ∈ l, e.good b) : opIn (e.d a) (.tup (l.map e.d)) = some (.val (.bl (decide (a ∈ l)))) := by
  have m : among (e.d a) (l.map e.d) .tuple = some (decide (a ∈ l)) := by
    unfold among
    rw [e.py, e.pys_map]
    dsimp only
    rw [if_pos ⟨(toNice h).shaped (by omega), (Nice.tup (toNiceL k)).shaped (by omega)⟩, any_mem k]
  show ((none : Option Bool) <|> among (e.d a) (l.map e.d) .tuple).map _ = _
  rw [m]; rfl
theorem inL [DecidableEq α] {a : α} {l : List α} (hd : e.t.deep ≤ 59) (h : e.good a) (k : ∀ b ∈ l, e.good b) : opIn (e.d a) (.lst (l.map e.d)) = some (.val (.bl (decide (a ∈ l)))) := by
  have m : among (e.d a) (l.map e.d) .list = some (decide (a ∈ l)) := by
    unfold among
    rw [e.py, e.pys_map]
    dsimp only
    rw [if_pos ⟨(toNice h).shaped (by omega), (Nice.lst (toNiceL k)).shaped (by omega)⟩, any_mem k]
  show ((none : Option Bool) <|> among (e.d a) (l.map e.d) .list).map _ = _
  rw [m]; rfl
theorem index [DecidableEq α] {a : α} {l : List α} (hd : e.t.deep ≤ 59) (h : e.good a) (k : ∀ b ∈ l, e.good b) (m : a ∈ l) : mIndex (.lst (l.map e.d)) [e.d a] = some (.val (.int (l.idxOf a : Nat))) := by
  have f : ∀ {l : List α}, (∀ b ∈ l, e.good b) → a ∈ l → (l.map e.p).findIdx? (fun z => PyData.eqv z (e.p a)) = some (l.idxOf a) := by
    intro l
    induction l with
    | nil => intro _ m; cases m
    | cons b l ih =>
      intro k m
      rw [List.map_cons, List.findIdx?_cons, eqv (k b List.mem_cons_self), List.idxOf_cons]
      by_cases z : b = a
      · subst z; simp
      · have m' : a ∈ l := (List.mem_cons.mp m).resolve_left fun y => z y.symm
        rw [decide_eq_false z, ih (fun x hx => k x (List.mem_cons_of_mem _ hx)) m']
        have : (b == a) = false := by simpa using z
        simp [this]
  unfold mIndex
  show (match some (l.map e.d), DL.py (e.d a) with | some xs, some p => _ | _, _ => none) = _
  rw [e.py]
  dsimp only
  rw [e.pys_map]
  dsimp only
  rw [if_pos ⟨(toNice h).shaped (by omega), (Nice.lst (toNiceL k)).shaped (by omega)⟩, f k m]
  rfl
/-! ### sorting -/
variable (e)
def le (a b : α) : Bool := dataLe false sortKey (e.d a) (e.d b)
def sort (l : List α) : List α := l.mergeSort e.le
theorem sortD_map (l : List α) : sortD (l.map e.d) = (e.sort l).map e.d := (sort_maps e.d (fun _ _ _ _ => rfl)).symm
theorem key (a : α) : sortKey (e.d a) = e.p a := by unfold sortKey; rw [e.py]; rfl
theorem le_total : TotalLe e.le := ⟨fun a b c h k => (sortLe_total _ _ _ : TotalLe (dataLe false sortKey)).trans (e.d a) (e.d b) (e.d c) h k, fun a b => (sortLe_total _ _ _ : TotalLe (dataLe false sortKey)).total (e.d a) (e.d b)⟩
theorem le_anti {a b : α} (h1 : e.le a b = true) (h2 : e.le b a = true) : a = b := by
  have h1' : (!(listOrd itemOrd).blt (keyToks (sortKey (e.d b))) (keyToks (sortKey (e.d a)))) = true := h1
  have h2' : (!(listOrd itemOrd).blt (keyToks (sortKey (e.d a))) (keyToks (sortKey (e.d b)))) = true := h2
  rw [Bool.not_eq_true'] at h1' h2'
  have := (listOrd itemOrd).total _ _ h2' h1'
  rw [e.key, e.key] at this
  exact e.inj _ _ (toks_inj (e.fit a) (e.fit b) this)
theorem sort_perm (l : List α) : (e.sort l).Perm l := List.mergeSort_perm l _
theorem mem_sort {a : α} {l : List α} : a ∈ e.sort l ↔ a ∈ l := (e.sort_perm l).mem_iff
theorem sorted (l : List α) : (e.sort l).Pairwise fun a b => e.le a b = true := sort_pairwise e.le_total l
theorem sort_eq {l l' : List α} (p : l.Perm l') (s : l'.Pairwise fun a b => e.le a b = true) : e.sort l = l' :=
  List.Perm.eq_of_pairwise (le := fun a b => e.le a b = true) (fun a b _ _ h1 h2 => e.le_anti h1 h2) (e.sorted l) s ((e.sort_perm l).trans p)
theorem sort_of_perm {l l' : List α} (p : l.Perm l') : e.sort l = e.sort l' := e.sort_eq (p.trans (e.sort_perm l').symm) (e.sorted l')
theorem sort_filter (l : List α) (q : α → Bool) : (e.sort l).filter q = e.sort (l.filter q) := (e.sort_eq ((e.sort_perm l).filter q).symm ((e.sorted l).filter q)).symm
theorem sort_nil : e.sort [] = [] := List.mergeSort_nil
theorem sort_one (a : α) : e.sort [a] = [a] := e.sort_eq (List.Perm.refl _) (List.pairwise_singleton _ _)
theorem sort_length (l : List α) : (e.sort l).length = l.length := (e.sort_perm l).length_eq
/-- the same by insertion: the kernel can reckon it -/
def ins (a : α) : List α → List α
  | [] => [a]
  | b :: l => if e.le a b then a :: b :: l else b :: ins a l
def isort : List α → List α
  | [] => []
  | a :: l => e.ins a (isort l)
theorem ins_perm (a : α) : ∀ l : List α, (e.ins a l).Perm (a :: l)
  | [] => List.Perm.refl _
  | b :: l => by
    unfold ins
    split
    · exact List.Perm.refl _
    · exact ((ins_perm a l).cons b).trans (List.Perm.swap a b l)
theorem ins_sorted (a : α) : ∀ l : List α, (l.Pairwise fun a b => e.le a b = true) → (e.ins a l).Pairwise fun a b => e.le a b = true
  | [], _ => List.pairwise_singleton _ _
  | b :: l, h => by
    have h' := List.pairwise_cons.mp h
    unfold ins
    split
    · rename_i c
      refine List.pairwise_cons.mpr ⟨fun x hx => ?_, h⟩
      rcases List.mem_cons.mp hx with rfl | hx
      · exact c
      · exact e.le_total.trans _ _ _ c (h'.1 x hx)
    · rename_i c
      have c' : e.le b a = true := by
        rcases e.le_total.total b a with w | w
        · exact w
        · exact absurd w c
      refine List.pairwise_cons.mpr ⟨fun x hx => ?_, ins_sorted a l h'.2⟩
      rcases List.mem_cons.mp ((e.ins_perm a l).mem_iff.mp hx) with rfl | hx
      · exact c'
      · exact h'.1 x hx
theorem isort_perm : ∀ l : List α, (e.isort l).Perm l
  | [] => List.Perm.refl _
  | a :: l => (e.ins_perm a _).trans ((isort_perm l).cons a)
theorem isort_sorted : ∀ l : List α, (e.isort l).Pairwise fun a b => e.le a b = true
  | [] => List.Pairwise.nil
  | a :: l => e.ins_sorted a _ (isort_sorted l)
theorem sort_isort (l : List α) : e.sort l = e.isort l := e.sort_eq (e.isort_perm l).symm (e.isort_sorted l)
variable {e}
theorem sortsOk {l : List α} (hd : e.t.deep ≤ 60) (hl : l.length ≤ 1000000) (hk : (∀ a ∈ l, tupKey (e.p a) = true) ∨ ∀ a ∈ l, othKey (e.p a) = true) : DL.sortsOk (l.map e.d) = true := by
  unfold DL.sortsOk
  rw [e.pys_map]
  dsimp only
  have h1 : ((l.map e.p).all fun p => (l.map e.p).all fun q => alike p q) = true := by
    rw [List.all_eq_true]
    intro p hp
    rw [List.all_eq_true]
    intro q hq
    obtain ⟨a, _, rfl⟩ := List.mem_map.mp hp
    obtain ⟨b, _, rfl⟩ := List.mem_map.mp hq
    exact fits_alike _ _ _ (e.fit a) (e.fit b)
  have h2 : ((l.map e.p).all tupKey || (l.map e.p).all othKey) = true := by
    rw [Bool.or_eq_true, List.all_eq_true, List.all_eq_true]
    rcases hk with h | h
    · exact .inl fun p hp => by obtain ⟨a, ha, rfl⟩ := List.mem_map.mp hp; exact h a ha
    · exact .inr fun p hp => by obtain ⟨a, ha, rfl⟩ := List.mem_map.mp hp; exact h a ha
  have h3 := fits_deepAll _ _ (e.fit_map l)
  rw [h1, h2, decide_eq_true (show PyData.depthAll (l.map e.p) ≤ 60 by omega), decide_eq_true (show (l.map e.p).length ≤ sizeLine by rw [List.length_map, sizeLine_eq]; omega)]
  rfl
theorem fSort {l : List α} {s : D} (hs : srcOf s = some (l.map e.d)) (hd : e.t.deep ≤ 60) (hl : l.length ≤ 1000000) (hk : (∀ a ∈ l, tupKey (e.p a) = true) ∨ ∀ a ∈ l, othKey (e.p a) = true) : fSorted [s] = some (.new (.lst ((e.sort l).map e.d))) := by
  unfold fSorted
  dsimp only
  rw [hs]
  dsimp only
  rw [if_pos (sortsOk hd hl hk), e.sortD_map]
theorem alike_spec {a : α} (h : e.good a) (hd : e.t.deep ≤ 60) (hw : e.wt a ≤ 2 ^ 20) : alikeD [e.d a, e.d a] = .ok (.val (.bl true)) [e.d a, e.d a] := alike_nice (toNice h) hd hw
end
end Enc
end DL

/-! one statement after another. -/
namespace DL
open PySem PySem.Spec L2
theorem seq_nx {s1 s2 : Sv} {ρ ρ1 : Env} (h : s1 ρ = .nx ρ1) : dSeq s1 s2 ρ = s2 ρ1 := by rw [dSeq_ap, h]; rfl
theorem seq_rt {s1 s2 : Sv} {ρ ρ1 : Env} {r : RV} (h : s1 ρ = .rt r ρ1) : dSeq s1 s2 ρ = .rt r ρ1 := by rw [dSeq_ap, h]; rfl
theorem for_it {gi : Iv} {ft : D → Env → Option Env} {gb : Sv} {ρ ρ1 : Env} {ds : List D} (h : gi ρ = .ok ds ρ1) : dFor gi ft gb ρ = forGo ft gb ds ρ1 := by unfold dFor; rw [h]
theorem go_nx {ft : D → Env → Option Env} {gb : Sv} {d : D} {ds : List D} {ρ ρ1 ρ2 : Env} (h : ft d ρ = some ρ1) (k : gb ρ1 = .nx ρ2) : forGo ft gb (d :: ds) ρ = forGo ft gb ds ρ2 := by
  show (match ft d ρ with | some ρ1 => _ | none => _) = _
  rw [h]
  dsimp only
  rw [k]
theorem go_rt {ft : D → Env → Option Env} {gb : Sv} {d : D} {ds : List D} {ρ ρ1 ρ2 : Env} {r : RV} (h : ft d ρ = some ρ1) (k : gb ρ1 = .rt r ρ2) : forGo ft gb (d :: ds) ρ = .rt r ρ2 := by
  show (match ft d ρ with | some ρ1 => _ | none => _) = _
  rw [h]
  dsimp only
  rw [k]
theorem def_rt {N : Nat} {ms : List Bool} {s : Sv} {ds os : List D} {ρ : Env} {r : RV} (hl : ds.length = ms.length) (h : s (argEnv ms ds ++ List.replicate (N - ms.length) .non) = .rt r ρ) (hr : ∀ i, r ≠ .loc i) (ho : outsOf ms ds ρ = some os) : dDef N ms s ds = .ok r os := by
  unfold dDef
  rw [if_pos hl, h]
  dsimp only
  cases r with
  | loc i => exact absurd rfl (hr i)
  | val d => dsimp only; rw [ho]
  | new d => dsimp only; rw [ho]
theorem lc_fm {gi : Iv} {ρ0 ρ : Env} {vs : List Nat} {ft : D → Env → Option Env} {gt ge : Ev} {β : Type} {l : List β} {f g : β → D} {p : β → Bool} (hi : gi ρ0 = .ok (l.map f) ρ) (hd : idle ρ vs = true) (hl : l.length ≤ 1000000) (hw : wipeE ρ vs = ρ) (hr : restE ρ ρ vs = ρ)
    (h : ∀ b ∈ l, ∃ ρ1, ft (f b) ρ = some ρ1 ∧ gt ρ1 = .ok (.val (.bl (p b))) ρ1 ∧ (p b = true → ∃ r, (ge ρ1).settle = .ok r ρ1 ∧ frz r ρ1 = some (g b, ρ1)) ∧ wipeE ρ1 vs = ρ) : dLc gi vs ft gt ge ρ0 = .ok (.new (.lst ((l.filter p).map g))) ρ := by
  unfold dLc
  rw [hi]
  dsimp only
  rw [if_pos ⟨hd, by rw [List.length_map]; exact hl⟩, hw, compGo_fm l h]
  dsimp only
  rw [hr]
theorem lc_m {gi : Iv} {ρ0 ρ : Env} {vs : List Nat} {ft : D → Env → Option Env} {ge : Ev} {β : Type} {l : List β} {f g : β → D} (hi : gi ρ0 = .ok (l.map f) ρ) (hd : idle ρ vs = true) (hl : l.length ≤ 1000000) (hw : wipeE ρ vs = ρ) (hr : restE ρ ρ vs = ρ)
    (h : ∀ b ∈ l, ∃ ρ1, ft (f b) ρ = some ρ1 ∧ (∃ r, (ge ρ1).settle = .ok r ρ1 ∧ frz r ρ1 = some (g b, ρ1)) ∧ wipeE ρ1 vs = ρ) : dLc gi vs ft dYes ge ρ0 = .ok (.new (.lst (l.map g))) ρ := by
  unfold dLc
  rw [hi]
  dsimp only
  rw [if_pos ⟨hd, by rw [List.length_map]; exact hl⟩, hw, compGo_m l h]
  dsimp only
  rw [hr]
theorem lc_go {gi : Iv} {ρ0 ρ ρ2 : Env} {vs : List Nat} {ft : D → Env → Option Env} {gt ge : Ev} {ds ys : List D} (hi : gi ρ0 = .ok ds ρ) (e : compGo vs ft gt ge ds ρ = some (ys, ρ2)) (hd : idle ρ vs = true) (hl : ds.length ≤ 1000000) (hw : wipeE ρ vs = ρ) (hr : restE ρ2 ρ vs = ρ2) : dLc gi vs ft gt ge ρ0 = .ok (.new (.lst ys)) ρ2 := by
  unfold dLc
  rw [hi]
  dsimp only
  rw [if_pos ⟨hd, hl⟩, hw, e]
  dsimp only
  rw [hr]
theorem lc_goW {gi : Iv} {ρ0 ρ ρw ρ2 ρ3 : Env} {vs : List Nat} {ft : D → Env → Option Env} {gt ge : Ev} {ds ys : List D} (hi : gi ρ0 = .ok ds ρ) (e : compGo vs ft gt ge ds ρw = some (ys, ρ2)) (hd : idle ρ vs = true) (hl : ds.length ≤ 1000000) (hw : wipeE ρ vs = ρw) (hr : restE ρ2 ρ vs = ρ3) : dLc gi vs ft gt ge ρ0 = .ok (.new (.lst ys)) ρ3 := by
  unfold dLc
  rw [hi]
  dsimp only
  rw [if_pos ⟨hd, hl⟩, hw, e]
  dsimp only
  rw [hr]
theorem dB1 {f : List D → Option RV} {g : Ev} {ρ ρ1 : Env} {r z : RV} {d : D} (hg : g ρ = .ok r ρ1) (hp : peek r.settle ρ1 = some d) (hf : f [d] = some z) : dB f (dCons g dNil) ρ = .ok z ρ1 := by
  unfold dB dCons dNil
  rw [hg]
  dsimp only [ER.settle]
  simp only [peeks, hp, hf, ER.of]
theorem op2_ok {f : D → D → Option RV} {ga gb : Ev} {ρ ρ1 ρ2 : Env} {r1 r2 z : RV} {x y : D} (h1 : ga ρ = .ok r1 ρ1) (h2 : gb ρ1 = .ok r2 ρ2) (p1 : peek r1.settle ρ2 = some x) (p2 : peek r2.settle ρ2 = some y) (h : f x y = some z) : dOp2 f ga gb ρ = .ok z ρ2 := by
  unfold dOp2
  rw [h1]
  dsimp only [ER.settle, ER.bind]
  rw [h2]
  dsimp only [ER.settle, ER.bind]
  rw [p1, p2]
  dsimp only
  rw [h]
  rfl
theorem orT_no {t1 t2 : Ev} {ρ ρ1 : Env} (h : t1 ρ = .ok (.val (.bl false)) ρ1) : dOrT t1 t2 ρ = t2 ρ1 := by
  unfold dOrT
  rw [h]
  rfl
theorem andT_yes {t1 t2 : Ev} {ρ ρ1 : Env} (h : t1 ρ = .ok (.val (.bl true)) ρ1) : dAndT t1 t2 ρ = t2 ρ1 := by
  unfold dAndT
  rw [h]
  rfl
theorem iSeq_new {g : Ev} {ρ ρ1 : Env} {d : D} {xs : List D} (hg : g ρ = .ok (.new d) ρ1) (hs : seqOf d = some xs) : iSeq g ρ = .ok xs ρ1 := by
  unfold iSeq
  rw [hg]
  dsimp only [ER.settle, RV.settle]
  simp only [frz, hs]
theorem iSeq_val {g : Ev} {ρ ρ1 : Env} {d : D} {xs : List D} (hg : g ρ = .ok (.val d) ρ1) (hs : seqOf d = some xs) : iSeq g ρ = .ok xs ρ1 := by
  unfold iSeq
  rw [hg]
  dsimp only [ER.settle, RV.settle]
  simp only [frz, hs]
theorem set_own {g : Ev} {ρ ρ1 ρ2 : Env} {d : D} {i : Nat} (hg : g ρ = .ok (.new d) ρ1) (hs : setV ρ1 i (.own d) = some ρ2) : dSet i g ρ = .nx ρ2 := by
  unfold dSet
  rw [hg]
  simp [hs, -s_setV]
theorem set_val {g : Ev} {ρ ρ1 ρ2 : Env} {d : D} {i : Nat} (hg : g ρ = .ok (.val d) ρ1) (hs : setV ρ1 i (.val d) = some ρ2) : dSet i g ρ = .nx ρ2 := by
  unfold dSet
  rw [hg]
  simp [hs, -s_setV]
theorem ret_val {g : Ev} {ρ ρ1 : Env} {d : D} (hg : g ρ = .ok (.val d) ρ1) : dRet g ρ = .rt (.val d) ρ1 := by
  unfold dRet
  rw [hg]
  simp
theorem ret_new {g : Ev} {ρ ρ1 : Env} {d : D} (hg : g ρ = .ok (.new d) ρ1) : dRet g ρ = .rt (.new d) ρ1 := by
  unfold dRet
  rw [hg]
  simp
theorem cut_back (ds : List D) (c : Nat) : cutD ds (some (c : Int)) none = ds.drop c := by
  show (ds.drop (HT.sIx ds.length 0 (some (c : Int)))).take (ds.length - HT.sIx ds.length 0 (some (c : Int))) = ds.drop c
  rw [List.take_of_length_le (by rw [List.length_drop]; exact Nat.le_refl _), HT.sIx_nat]
  by_cases h : c ≤ ds.length
  · rw [Nat.min_eq_left h]
  · rw [List.drop_of_length_le (by omega), List.drop_of_length_le (by omega)]
end DL

/-! law_k09: what is drawn. -/
namespace K09
open PySem PySem.Spec L2 DL
/-- a bag -/
def bagD (a b c : Int) (cs : List Int) : D := .lst [.int a, .int b, .int c, .lst (cs.map .int)]
theorem head_of (cs : List Int) (n : Nat) : ∃ x : Int, ∀ h, ((cs.map D.int).drop n ++ [D.int 0])[0]'h = .int x := by
  cases h : (cs.map D.int).drop n with
  | nil => exact ⟨0, fun _ => rfl⟩
  | cons d r =>
    have : d ∈ cs.map D.int := List.mem_of_mem_drop (by rw [h]; exact List.mem_cons_self)
    obtain ⟨x, _, rfl⟩ := List.mem_map.mp this
    exact ⟨x, fun _ => rfl⟩
theorem take_spec (a b c : Int) (cs : List Int) (m : Int) (hc : cs.length ≤ 1000) (h0 : 0 < m) (h1 : m < 1073741824) :
    ∃ r a' b' c', 0 ≤ r ∧ r < m ∧ d__law_take [bagD a b c cs, .int m] = .ok (.val (.int r)) [bagD a' b' c' cs, .int m] := by
  obtain ⟨n, hn⟩ := cut_from (cs.map D.int) c
  obtain ⟨x, hx⟩ := head_of cs n
  have hl : cs.length - n + 1 ≤ sizeLine := by rw [sizeLine_eq]; omega
  have p1 : ∀ z : Int, 0 ≤ z % m := fun z => Int.emod_nonneg _ (by omega)
  have p2 : ∀ z : Int, z % m < m := fun z => Int.emod_lt_of_pos _ h0
  have p3 : ∀ z : Int, (-18446744073709551616 < z % 1000000007 ∧ z % 1000000007 < 18446744073709551616) = True := fun z => by
    have := Int.emod_nonneg z (b := 1000000007) (by decide)
    have := Int.emod_lt_of_pos z (b := 1000000007) (by decide)
    simp only [eq_iff_iff, iff_true]
    omega
  unfold d__law_take dDef bagD
  by_cases e1 : a = 0
  · subst e1
    by_cases e2 : 1000000000000000000 ≤ x
    · have e3 : 0 < x := by omega
      simp [argEnv, dVar_ap, peek_loc, frz_loc, setV_ap, atI_zero, atI_one, atI_two, atI_three, hn, hl, hx, ownAt, stAt_ap, ixN, setO, CPow_ap, CMul_ap, CDiv_ap, e2, e3, h0, h1, outsOf]
      exact ⟨p1 _, p2 _⟩
    · simp [argEnv, dVar_ap, peek_loc, frz_loc, setV_ap, atI_zero, atI_one, atI_two, atI_three, hn, hl, hx, ownAt, stAt_ap, ixN, setO, CPow_ap, CMul_ap, CDiv_ap, e2, h0, h1, outsOf, p3]
      exact ⟨p1 _, p2 _⟩
  · by_cases e2 : 0 < a
    · simp [argEnv, dVar_ap, peek_loc, frz_loc, setV_ap, atI_zero, atI_one, atI_two, atI_three, ownAt, stAt_ap, ixN, setO, CPow_ap, CMul_ap, CDiv_ap, e1, e2, h0, h1, outsOf]
      exact ⟨p1 _, p2 _⟩
    · simp [argEnv, dVar_ap, peek_loc, frz_loc, setV_ap, atI_zero, atI_one, atI_two, atI_three, ownAt, stAt_ap, ixN, setO, CPow_ap, CMul_ap, CDiv_ap, e1, e2, h0, h1, outsOf, p3]
      exact ⟨p1 _, p2 _⟩
/-- a thing of a list, drawn -/
theorem some_spec (a b c : Int) (cs : List Int) (ds : List D) (hc : cs.length ≤ 1000) (h0 : 0 < ds.length) (h1 : ds.length < 1000000) :
    ∃ d a' b' c', d ∈ ds ∧ d__law_some [bagD a b c cs, .lst ds] = .ok (.val d) [bagD a' b' c' cs, .lst ds] := by
  obtain ⟨r, a', b', c', r0, r1, e⟩ := take_spec a b c cs (ds.length : Int) hc (by omega) (by omega)
  have hr : r.toNat < ds.length := by omega
  refine ⟨ds[r.toNat], a', b', c', List.getElem_mem hr, ?_⟩
  unfold d__law_some dDef
  simp [argEnv, dVar_ap, peek_loc, frz_loc, passes, lents, backs, setO, e, atI_of _ _ r0, List.getElem?_eq_getElem hr, outsOf]
theorem bag_spec (cs : List Int) (h : cs.length ≤ 63) : ∃ ds : List Int, ds.length ≤ 63 ∧ d__law_bag [.scr (cs.map .int)] = .ok (.new (bagD 0 1234567891 0 ds)) [.scr (cs.map .int)] := by
  refine ⟨cs.map fun i => if i < 0 then -i else i, by rw [List.length_map]; exact h, ?_⟩
  have cut : cutD (cs.map D.int) none (some 63) = cs.map D.int := by
    rw [show (63 : Int) = ((63 : Nat) : Int) from rfl, cut_front, List.take_of_length_le (by rw [List.length_map]; exact h)]
  have hl : cs.length ≤ 1000000 := by omega
  have e1 : compGo [1] (gtName 1) dYes (dB fAbs (dCons (dVar 1) dNil)) (cs.map D.int) [.val (.scr (cs.map D.int)), .non] = some (cs.map (fun i => D.int (if i < 0 then -i else i)), [.val (.scr (cs.map D.int)), .non]) :=
    compGo_m cs fun i _ => ⟨_, rfl, ⟨_, rfl, rfl⟩, rfl⟩
  unfold d__law_bag dDef
  simp [cut, hl, e1, bagD, -s_setV]
/-! ### _law_mixed -/
section
variable {cs : List Int} (hc : cs.length ≤ 1000)
include hc
abbrev mB : Sv := (dExpr (dMut "list" 2 mInsert (dCons (dCall [true, false] d__law_take (dCons (dVar 0) (dCons (dOp2 opAdd (dB fLen (dCons (dVar 2) dNil)) (dC (.int 1))) dNil))) (dCons (dVar 3) dNil))))
theorem mixed_go (t : D) : ∀ (l F : List D) (x3 : Slot) (a b c : Int), F.length + l.length < 1000 → NB x3 → ∃ (F' : List D) (x3' : Slot) (a' b' c' : Int), F'.Perm (F ++ l) ∧
    forGo (gtName 3) mB l [.bor (bagD a b c cs), .val t, .own (.lst F), x3] = .nx [.bor (bagD a' b' c' cs), .val t, .own (.lst F'), x3']
  | [], F, x3, a, b, c, _, _ => ⟨F, x3, a, b, c, by rw [List.append_nil], rfl⟩
  | r :: l, F, x3, a, b, c, hl, h3 => by
    rw [List.length_cons] at hl
    obtain ⟨z, a1, b1, c1, z0, z1, e1⟩ := take_spec a b c cs ((F.length : Int) + 1) hc (by omega) (by omega)
    obtain ⟨F', x3', a2, b2, c2, f1, e2⟩ := mixed_go t l (F.take z.toNat ++ [r] ++ F.drop z.toNat) (.val r) a1 b1 c1 (by simp; omega) (nb_val _)
    refine ⟨F', x3', a2, b2, c2, f1.trans ?_, ?_⟩
    · have p1 : (F.take z.toNat ++ [r] ++ F.drop z.toNat).Perm (F ++ [r]) := by
        rw [List.append_assoc]
        have : (F.take z.toNat ++ ([r] ++ F.drop z.toNat)).Perm (F.take z.toNat ++ (F.drop z.toNat ++ [r])) := List.Perm.append_left _ List.perm_append_comm
        have e : F.take z.toNat ++ (F.drop z.toNat ++ [r]) = F ++ [r] := by rw [← List.append_assoc, List.take_append_drop]
        rwa [e] at this
      have p2 := p1.append_right l
      rwa [List.append_assoc F [r] l] at p2
    · have e0 : gtName 3 r [.bor (bagD a b c cs), .val t, .own (.lst F), x3] = some [.bor (bagD a b c cs), .val t, .own (.lst F), .val r] := setV_nb rfl h3
      unfold forGo
      rw [e0]
      dsimp only
      have zl' : F.length < sizeLine := by rw [sizeLine_eq]; omega
      have z2 : z < 9223372036854775808 := by omega
      have st : mB [.bor (bagD a b c cs), .val t, .own (.lst F), .val r] = .nx [.bor (bagD a1 b1 c1 cs), .val t, .own (.lst (F.take z.toNat ++ [r] ++ F.drop z.toNat)), .val r] := by
        unfold mB
        simp [e1, zl', z0, z2]
      rw [st]
      exact e2
theorem mixed_spec (l : List D) (a b c : Int) (hl : l.length < 900) : ∃ (l' : List D) (a' b' c' : Int), l'.Perm l ∧
    d__law_mixed [bagD a b c cs, .lst l] = .ok (.new (.lst l')) [bagD a' b' c' cs, .lst l] := by
  obtain ⟨F', x3', a1, b1, c1, f1, e⟩ := mixed_go hc (.lst l) l [] .non a b c (by simp; omega) nb_non
  refine ⟨F', a1, b1, c1, by simpa using f1, ?_⟩
  unfold d__law_mixed dDef
  unfold mB at e
  simp [-s_gtName, -s_dMut]
  rw [show forGo (gtName 3) _ l [.bor (bagD a b c cs), .val (.lst l), .own (.lst []), .non] = _ from e]
  simp
end
end K09

/-! law_k09: orders, as the program makes them. -/
namespace K09
open PySem PySem.Spec L2 DL
abbrev Lot := List Str
abbrev Ord := List Lot
abbrev eL : Enc Lot := Enc.seq Enc.str
abbrev eO : Enc Ord := Enc.seq eL
def Good (o : Ord) : Prop := o.length ≤ 100 ∧ ∀ l ∈ o, l.length ≤ 100 ∧ ∀ n ∈ l, PyData.strOk n = true
theorem in_lot {n : Str} {l : Lot} (hn : PyData.strOk n = true) (h : ∀ m ∈ l, PyData.strOk m = true) : opIn (.str n) (eL.d l) = some (.val (.bl (decide (n ∈ l)))) := Enc.inT (e := Enc.str) (by decide) hn h
def lotOf (o : Ord) (n : Str) : Option Nat := o.findIdx? fun l => decide (n ∈ l)
def optD : Option Nat → D
  | some j => .int (j : Int)
  | none => .non
abbrev lB : Sv := (dIfS (dOp2 opIn (dVar 1) (dVar 3))
      (dRet (dVar 2))
      (fun ρ => .nx ρ))
abbrev lT : D → DL.Env → Option DL.Env := (gtTup 2 (gtCons (gtName 2) (gtCons (gtName 3) gtNil)))
theorem lot_go (d : D) (n : Str) (hn : PyData.strOk n = true) : ∀ (o : Ord) (k : Nat) (x2 x3 : Slot), (∀ l ∈ o, ∀ m ∈ l, PyData.strOk m = true) → NB x2 → NB x3 → ∃ x2' x3', forGo lT lB (enumD k (o.map eL.d)) [.val d, .val (.str n), x2, x3] =
    match lotOf o n with
    | some j => .rt (.val (.int ((k + j : Nat) : Int))) [.val d, .val (.str n), x2', x3']
    | none => .nx [.val d, .val (.str n), x2', x3']
  | [], k, x2, x3, _, _, _ => ⟨x2, x3, rfl⟩
  | l :: o, k, x2, x3, hg, h2, h3 => by
    obtain ⟨x2', x3', ih⟩ := lot_go d n hn o (k + 1) (.val (.int k)) (.val (eL.d l)) (fun m hm => hg m (List.mem_cons_of_mem _ hm)) (nb_val _) (nb_val _)
    have e0 : lT (.tup [.int (k : Int), eL.d l]) [.val d, .val (.str n), x2, x3] = some [.val d, .val (.str n), .val (.int k), .val (eL.d l)] := by
      have s1 : setV [.val d, .val (.str n), x2, x3] 2 (.val (.int (k : Int))) = some [.val d, .val (.str n), .val (.int k), x3] := setV_nb rfl h2
      have s2 : setV [.val d, .val (.str n), .val (.int k), x3] 3 (.val (eL.d l)) = some [.val d, .val (.str n), .val (.int k), .val (eL.d l)] := setV_nb rfl h3
      simp [-s_setV, s1, s2]
    have hi := in_lot hn (hg l List.mem_cons_self)
    rw [List.map_cons]
    unfold enumD forGo
    rw [e0]
    dsimp only
    by_cases hm : n ∈ l
    · refine ⟨.val (.int k), .val (eL.d l), ?_⟩
      have : lotOf (l :: o) n = some 0 := by unfold lotOf; rw [List.findIdx?_cons]; simp [hm]
      rw [this]
      simp [hi, hm]
    · refine ⟨x2', x3', ?_⟩
      have : lotOf (l :: o) n = (lotOf o n).map (· + 1) := by unfold lotOf; rw [List.findIdx?_cons]; simp [hm]
      rw [this]
      have e1 : lB [.val d, .val (.str n), .val (.int k), .val (eL.d l)] = .nx [.val d, .val (.str n), .val (.int k), .val (eL.d l)] := by
        simp [hi, hm]
      rw [e1]
      dsimp only
      rw [ih]
      cases lotOf o n with
      | none => rfl
      | some j =>
        show SR.rt _ _ = SR.rt _ _
        rw [show k + 1 + j = k + (j + 1) by omega]
theorem lot_of_spec {o : Ord} {n : Str} (hn : PyData.strOk n = true) (hg : Good o) : d_lot_of [eO.d o, .str n] = .ok (.val (optD (lotOf o n))) [eO.d o, .str n] := by
  obtain ⟨x2', x3', e⟩ := lot_go (eO.d o) n hn o 0 .non .non (fun l hl => (hg.2 l hl).2) nb_non nb_non
  unfold d_lot_of dDef
  have k : kEnumA [eO.d o] = some (enumD 0 (o.map eL.d)) := rfl
  simp [k, -s_gtTup]
  rw [e]
  cases lotOf o n with
  | none => simp [optD]
  | some j => simp [optD]
end K09

/-! law_k09: orders, as the program makes them: without, put. -/
namespace K09
open PySem PySem.Spec L2 DL
theorem eLd (l : Lot) : eL.d l = .tup (l.map .str) := rfl
theorem eOd (o : Ord) : eO.d o = .tup (o.map eL.d) := rfl
def wo (l : Lot) (n : Str) : Lot := l.filter fun m => !decide (m = n)
def without (o : Ord) (n : Str) : Ord := (o.map fun l => wo l n).filter fun l => !decide (l = [])
theorem Good.without {o : Ord} {n : Str} (h : Good o) : Good (without o n) := by
  refine ⟨Nat.le_trans (List.length_filter_le _ _) (by rw [List.length_map]; exact h.1), fun l hl => ?_⟩
  obtain ⟨l0, h0, rfl⟩ := List.mem_map.mp (List.mem_filter.mp hl).1
  have := h.2 l0 h0
  exact ⟨Nat.le_trans (List.length_filter_le _ _) this.1, fun m hm => this.2 m (List.mem_filter.mp hm).1⟩
theorem without_spec {o : Ord} {n : Str} (hg : Good o) : d_without [eO.d o, .str n] = .ok (.val (eO.d (without o n))) [eO.d o, .str n] := by
  have in1 : ∀ l : Lot, l.length ≤ 100 → dLc (iSeq (dVar 3)) [4] (gtName 4) (dOp2 opNe (dVar 4) (dVar 1)) (dVar 4) [.val (eO.d o), .val (.str n), .non, .val (eL.d l), .non] = .ok (.new (.lst ((wo l n).map .str))) [.val (eO.d o), .val (.str n), .non, .val (eL.d l), .non] := fun l hl =>
    lc_fm (f := D.str) (l := l) (by simp [eLd]) rfl (by omega) rfl rfl fun b hb => ⟨[.val (eO.d o), .val (.str n), .non, .val (eL.d l), .val (.str b)], by simp, by simp, fun _ => ⟨_, by simp; rfl, by simp⟩, rfl⟩
  have e1 : dLc (iSeq (dVar 0)) [3] (gtName 3) dYes (dB fTuple (dCons (dLc (iSeq (dVar 3)) [4] (gtName 4) (dOp2 opNe (dVar 4) (dVar 1)) (dVar 4)) dNil)) [.val (eO.d o), .val (.str n), .non, .non, .non] = .ok (.new (.lst ((o.map fun l => wo l n).map eL.d))) [.val (eO.d o), .val (.str n), .non, .non, .non] := by
    rw [List.map_map]
    refine lc_m (f := eL.d) (l := o) (by simp [eOd]) rfl (by have := hg.1; omega) rfl rfl fun l hl => ⟨[.val (eO.d o), .val (.str n), .non, .val (eL.d l), .non], by simp, ?_, rfl⟩
    exact ⟨.val (eL.d (wo l n)), by simp [in1 l (hg.2 l hl).1, -s_dLc]; rfl, by simp⟩
  have e2 : dLc (iSeq (dVar 2)) [3] (gtName 3) (dOp2 opNe (dVar 3) (dTup dNil)) (dVar 3) [.val (eO.d o), .val (.str n), .own (.lst ((o.map fun l => wo l n).map eL.d)), .non, .non] = .ok (.new (.lst ((without o n).map eL.d))) [.val (eO.d o), .val (.str n), .val (.lst ((o.map fun l => wo l n).map eL.d)), .non, .non] := by
    refine lc_fm (f := eL.d) (l := o.map fun l => wo l n) (by simp) rfl (by rw [List.length_map]; have := hg.1; omega) rfl rfl fun l hl => ⟨[.val (eO.d o), .val (.str n), .val (.lst ((o.map fun l => wo l n).map eL.d)), .val (eL.d l), .non], by simp, ?_, fun _ => ⟨_, by simp; rfl, by simp⟩, rfl⟩
    have gl : eL.good l := by
      obtain ⟨l0, h0, rfl⟩ := List.mem_map.mp hl
      exact fun m hm => (hg.2 l0 h0).2 m (List.mem_filter.mp hm).1
    have := Enc.opNe (e := eL) (a := l) (b := []) (by decide) gl (fun _ h => nomatch h)
    have t : eL.d [] = .tup [] := rfl
    rw [t] at this
    simp [this]
  unfold d_without dDef
  simp [e1, e2, -s_dLc, -List.map_map]
  rfl
def eS (l : Lot) : Lot := Enc.str.isort l
theorem eS_sort (l : Lot) : eS l = Enc.str.sort l := (Enc.sort_isort Enc.str l).symm
theorem eS_good {l : Lot} (h : ∀ m ∈ l, PyData.strOk m = true) : ∀ m ∈ eS l, PyData.strOk m = true := fun m hm => h m ((Enc.mem_sort Enc.str).mp (by rw [← eS_sort]; exact hm))
/-- with n in the lot at -/
def within (o : Ord) (n : Str) (at' : Nat) : Ord := o.take at' ++ [eS ((o[at']?.getD []) ++ [n])] ++ o.drop (at' + 1)
def ahead (o : Ord) (n : Str) (at' : Nat) : Ord := o.take at' ++ [[n]] ++ o.drop at'
theorem within_spec {o : Ord} {n : Str} {k : Nat} (hg : Good o) (hk : k < o.length) : d_put_within [eO.d o, .str n, .int (k : Int)] = .ok (.val (eO.d (within o n k))) [eO.d o, .str n, .int (k : Int)] := by
  have c1 := cut_front (o.map eL.d) k
  have c2 : cutD (o.map eL.d) (some ((k : Int) + 1)) none = (o.map eL.d).drop (k + 1) := cut_back (o.map eL.d) (k + 1)
  have a1 : L2.atI (o.map eL.d) (k : Int) = some (eL.d o[k]) := by rw [atI_of _ _ (by omega)]; simp [hk]
  have hl := hg.2 _ (List.getElem_mem hk)
  have sl : fSorted [.tup (o[k].map D.str ++ [.str n])] = some (.new (.lst ((eS (o[k] ++ [n])).map .str))) := by
    rw [eS_sort]
    have := Enc.fSort (e := Enc.str) (l := o[k] ++ [n]) (s := .tup (o[k].map D.str ++ [.str n])) (by show some _ = some _; rw [List.map_append]; rfl) (by decide) (by rw [List.length_append]; have := hl.1; simp; omega) (.inr fun a _ => rfl)
    exact this
  have hw : within o n k = o.take k ++ [eS (o[k] ++ [n])] ++ o.drop (k + 1) := by unfold within; rw [List.getElem?_eq_getElem hk]; rfl
  have s1 : (o[k].length + 1) ≤ sizeLine := by rw [sizeLine_eq]; have := hl.1; omega
  have s2 : (o.take k).length + 1 ≤ sizeLine := by rw [sizeLine_eq, List.length_take]; have := hg.1; omega
  have s3 : min k o.length + 1 + (o.length - (k + 1)) ≤ sizeLine := by rw [sizeLine_eq]; have := hg.1; omega
  have s4 : min k o.length + 1 ≤ sizeLine := by rw [sizeLine_eq]; have := hg.1; omega
  unfold d_put_within dDef
  rw [hw]
  simp [eOd, eLd, c1, c2, a1, sl, s1, s2, s3, s4, -List.map_take, -List.map_drop]
  rw [List.map_take, List.map_drop]
theorem ahead_spec {o : Ord} {n : Str} {k : Nat} (hg : Good o) : d_put_ahead [eO.d o, .str n, .int (k : Int)] = .ok (.val (eO.d (ahead o n k))) [eO.d o, .str n, .int (k : Int)] := by
  have c1 := cut_front (o.map eL.d) k
  have c2 := cut_back (o.map eL.d) k
  have s3 : min k o.length + 1 + (o.length - k) ≤ sizeLine := by rw [sizeLine_eq]; have := hg.1; omega
  have s4 : min k o.length + 1 ≤ sizeLine := by rw [sizeLine_eq]; have := hg.1; omega
  unfold d_put_ahead dDef ahead
  simp [eOd, c1, c2, s3, s4, -List.map_take, -List.map_drop]
  rw [List.map_take, List.map_drop]
  rfl
/-! ### from a lot on -/
def fromLot (o : Ord) (n : Str) (k : Nat) : List Ord := (List.range' k (o.length - k)).flatMap fun h => [within o n h, ahead o n (h + 1)]
theorem good_within {o : Ord} {n : Str} {k : Nat} (hg : Good o) (hn : PyData.strOk n = true) : eO.good (within o n k) := by
  intro l hl
  unfold within at hl
  rcases List.mem_append.mp hl with hl | hl
  · rcases List.mem_append.mp hl with hl | hl
    · exact fun m hm => (hg.2 l (List.mem_of_mem_take hl)).2 m hm
    · rw [List.mem_singleton.mp hl]
      refine eS_good fun m hm => ?_
      rcases List.mem_append.mp hm with hm | hm
      · cases e : o[k]? with
        | none => rw [e] at hm; cases hm
        | some l0 =>
          rw [e] at hm
          exact (hg.2 l0 (List.mem_of_getElem? e)).2 m hm
      · rw [List.mem_singleton.mp hm]; exact hn
  · exact fun m hm => (hg.2 l (List.mem_of_mem_drop hl)).2 m hm
theorem good_ahead {o : Ord} {n : Str} {k : Nat} (hg : Good o) (hn : PyData.strOk n = true) : eO.good (ahead o n k) := by
  intro l hl
  unfold ahead at hl
  rcases List.mem_append.mp hl with hl | hl
  · rcases List.mem_append.mp hl with hl | hl
    · exact fun m hm => (hg.2 l (List.mem_of_mem_take hl)).2 m hm
    · rw [List.mem_singleton.mp hl]
      intro m hm
      rw [List.mem_singleton.mp hm]; exact hn
  · exact fun m hm => (hg.2 l (List.mem_of_mem_drop hl)).2 m hm
abbrev fB : Sv := (dExpr (dMut "list" 3 mExtend (dCons (dLst (dCons (dCall [false, false, false] d_put_within (dCons (dVar 0) (dCons (dVar 1) (dCons (dVar 4) dNil)))) (dCons (dCall [false, false, false] d_put_ahead (dCons (dVar 0) (dCons (dVar 1) (dCons (dOp2 opAdd (dVar 4) (dC (.int 1))) dNil)))) dNil))) dNil)))
theorem from_go {o : Ord} {n : Str} (z : D) (hg : Good o) : ∀ (m k : Nat) (F : List Ord) (x : Slot), k + m ≤ o.length → F.length + 2 * m ≤ 1000 → NB x → ∃ x', forGo (gtName 4) fB ((List.range' k m).map fun (i : Nat) => D.int (i : Int)) [.val (eO.d o), .val (.str n), .val z, .own (.lst (F.map eO.d)), x] =
    .nx [.val (eO.d o), .val (.str n), .val z, .own (.lst ((F ++ (List.range' k m).flatMap fun h => [within o n h, ahead o n (h + 1)]).map eO.d)), x']
  | 0, k, F, x, _, _, _ => ⟨x, by simp [forGo]⟩
  | m + 1, k, F, x, hk, hF, hx => by
    obtain ⟨x', ih⟩ := from_go z hg m (k + 1) (F ++ [within o n k, ahead o n (k + 1)]) (.val (.int k)) (by omega) (by simp; omega) (nb_val _)
    refine ⟨x', ?_⟩
    have e0 : gtName 4 (.int (k : Int)) [.val (eO.d o), .val (.str n), .val z, .own (.lst (F.map eO.d)), x] = some [.val (eO.d o), .val (.str n), .val z, .own (.lst (F.map eO.d)), .val (.int k)] := setV_nb rfl hx
    have w := within_spec (n := n) hg (show k < o.length by omega)
    have a := ahead_spec (n := n) (k := k + 1) hg
    have a' : d_put_ahead [eO.d o, .str n, .int ((k : Int) + 1)] = .ok (.val (eO.d (ahead o n (k + 1)))) [eO.d o, .str n, .int ((k : Int) + 1)] := a
    have sz : F.length + 2 ≤ sizeLine := by rw [sizeLine_eq]; omega
    rw [List.range'_succ, List.map_cons]
    unfold forGo
    rw [e0]
    dsimp only
    have st : fB [.val (eO.d o), .val (.str n), .val z, .own (.lst (F.map eO.d)), .val (.int k)] = .nx [.val (eO.d o), .val (.str n), .val z, .own (.lst ((F ++ [within o n k, ahead o n (k + 1)]).map eO.d)), .val (.int k)] := by
      simp [w, a', sz]
    rw [st]
    dsimp only
    rw [ih, List.flatMap_cons, List.append_assoc]
theorem range2 (k l : Nat) (h : l ≤ 1000) (h2 : k ≤ 1000) : kRange2 [.int (k : Int), .int (l : Int)] = some ((List.range' k (l - k)).map fun (i : Nat) => D.int (i : Int)) := by
  show (if ((l : Int) ≤ 1000000 ∧ -1000000 ≤ (l : Int)) ∧ ((k : Int) ≤ 1000000 ∧ -1000000 ≤ (k : Int)) then some ((List.range ((l : Int) - k).toNat).map fun (j : Nat) => D.int (k + (j : Int))) else none) = _
  rw [if_pos (by omega), List.range'_eq_map_range, List.map_map, show ((l : Int) - k).toNat = l - k by omega]
  rfl
theorem from_spec {o : Ord} {n : Str} {k : Nat} (hg : Good o) (hk0 : k ≤ 1000) : d_from_lot [eO.d o, .str n, .int (k : Int)] = .ok (.new (.lst ((fromLot o n k).map eO.d))) [eO.d o, .str n, .int (k : Int)] := by
  have hl := hg.1
  have r := range2 k o.length (by omega) hk0
  unfold d_from_lot dDef
  have le : fLen [eO.d o] = some (.val (.int (o.length : Int))) := by simp [eOd]
  by_cases hk : k ≤ o.length
  · obtain ⟨x', e⟩ := from_go (n := n) (.int k) hg (o.length - k) k [] .non (by omega) (by simp; omega) nb_non
    simp [le, r, -s_gtName]
    rw [List.map_nil] at e
    rw [e]
    simp [fromLot]
  · have h0 : o.length - k = 0 := by omega
    rw [h0] at r
    simp [le, r, -s_gtName, fromLot, h0, forGo]
def anyw (o : Ord) (n : Str) : List Ord := [ahead o n 0] ++ fromLot o n 0
theorem any_spec {o : Ord} {n : Str} (hg : Good o) : d_anywhere [eO.d o, .str n] = .ok (.new (.lst ((anyw o n).map eO.d))) [eO.d o, .str n] := by
  have a : d_put_ahead [eO.d o, .str n, .int 0] = .ok (.val (eO.d (ahead o n 0))) [eO.d o, .str n, .int 0] := ahead_spec (k := 0) hg
  have f : d_from_lot [eO.d o, .str n, .int 0] = .ok (.new (.lst ((fromLot o n 0).map eO.d))) [eO.d o, .str n, .int 0] := from_spec (k := 0) hg (by omega)
  have len : ∀ (m k : Nat), ((List.range' k m).flatMap fun h => [within o n h, ahead o n (h + 1)]).length = 2 * m := by
    intro m
    induction m with
    | zero => intro k; rfl
    | succ m ih => intro k; rw [List.range'_succ, List.flatMap_cons, List.length_append, ih]; simp; omega
  have sz : (fromLot o n 0).length + 1 ≤ sizeLine := by
    rw [sizeLine_eq]; unfold fromLot; rw [len]; have := hg.1; omega
  have sz' : 1 + (fromLot o n 0).length ≤ sizeLine := by omega
  unfold d_anywhere dDef
  simp [a, f, sz, sz', anyw]
def ledOn (o : Ord) (n : Str) (k : Nat) : List Ord := if (without o n).length < o.length then [ahead (without o n) n k] ++ fromLot (without o n) n k else fromLot (without o n) n k
theorem led_spec {o : Ord} {n : Str} {k : Nat} (hn : PyData.strOk n = true) (hg : Good o) (hk : lotOf o n = some k) (hk0 : k ≤ 1000) : d_led_on [eO.d o, .str n] = .ok (.new (.lst ((ledOn o n k).map eO.d))) [eO.d o, .str n] := by
  have l := lot_of_spec hn hg
  rw [hk] at l
  have l' : d_lot_of [eO.d o, .str n] = .ok (.val (.int (k : Int))) [eO.d o, .str n] := l
  have w := without_spec (n := n) hg
  have a := ahead_spec (o := without o n) (n := n) (k := k) hg.without
  have f := from_spec (o := without o n) (n := n) (k := k) hg.without hk0
  have len : ∀ (m k : Nat), ((List.range' k m).flatMap fun h => [within (without o n) n h, ahead (without o n) n (h + 1)]).length = 2 * m := by
    intro m
    induction m with
    | zero => intro k; rfl
    | succ m ih => intro k; rw [List.range'_succ, List.flatMap_cons, List.length_append, ih]; simp; omega
  have sz : 1 + (fromLot (without o n) n k).length ≤ sizeLine := by
    rw [sizeLine_eq]; unfold fromLot; rw [len]; have := (hg.without (n := n)).1; omega
  have sz' : (fromLot (without o n) n k).length + 1 ≤ sizeLine := by omega
  have le1 : fLen [eO.d o] = some (.val (.int (o.length : Int))) := by simp [eOd]
  have le2 : fLen [eO.d (without o n)] = some (.val (.int ((without o n).length : Int))) := by simp [eOd]
  unfold d_led_on dDef ledOn
  by_cases h : (without o n).length < o.length
  · simp [l', w, a, f, sz, sz', le1, le2, h]
  · simp [l', w, a, f, sz, sz', le1, le2, h]
def sameAs (o : Ord) (n m : Str) : Ord := if n = m then o else within (without o n) n ((lotOf (without o n) m).getD 0)
theorem same_spec {o : Ord} {n m : Str} (hn : PyData.strOk m = true) (hg : Good o) (hm : n ≠ m → ∃ k, lotOf (without o n) m = some k) : d_same_as [eO.d o, .str n, .str m] = .ok (.val (eO.d (sameAs o n m))) [eO.d o, .str n, .str m] := by
  have w := without_spec (n := n) hg
  unfold d_same_as dDef sameAs
  by_cases h : n = m
  · simp [h]
  · obtain ⟨k, hk⟩ := hm h
    have l := lot_of_spec (n := m) hn hg.without (o := without o n)
    rw [hk] at l
    have l' : d_lot_of [eO.d (without o n), .str m] = .ok (.val (.int (k : Int))) [eO.d (without o n), .str m] := l
    have hk2 : k < (without o n).length := by
      unfold lotOf at hk
      exact (List.findIdx?_eq_some_iff_getElem.mp hk).1
    have p := within_spec (n := n) hg.without hk2
    simp [h, w, l', p, hk]
end K09

/-! law_k09: all orders. -/
namespace K09
open PySem PySem.Spec L2 DL
def allStep (F : List Ord) (n : Str) : List Ord := F.flatMap fun o => anyw o n
def goodB (o : Ord) : Bool := decide (o.length ≤ 100) && o.all fun l => decide (l.length ≤ 100) && l.all fun n => PyData.strOk n
theorem good_of {o : Ord} (h : goodB o = true) : Good o := by
  unfold goodB at h
  simp only [Bool.and_eq_true, decide_eq_true_eq, List.all_eq_true] at h
  exact ⟨h.1, fun l hl => ⟨(h.2 l hl).1, (h.2 l hl).2⟩⟩
def okAll : List Ord → List Str → Bool
  | _, [] => true
  | F, n :: l => F.all goodB && decide ((allStep F n).length ≤ 1000) && okAll (allStep F n) l
abbrev iB : Sv := (dExpr (dMut "list" 3 mExtend (dCons (dCall [false, false] d_anywhere (dCons (dVar 4) (dCons (dVar 2) dNil))) dNil)))
theorem in_go (z y : D) (n : Str) : ∀ (l acc : List Ord) (x : Slot), (∀ o ∈ l, Good o) → (acc ++ l.flatMap fun o => anyw o n).length ≤ 1000 → NB x → ∃ x', NB x' ∧ forGo (gtName 4) iB (l.map eO.d) [.val z, .val y, .val (.str n), .own (.lst (acc.map eO.d)), x] =
    .nx [.val z, .val y, .val (.str n), .own (.lst ((acc ++ l.flatMap fun o => anyw o n).map eO.d)), x']
  | [], acc, x, _, _, hx => ⟨x, hx, by simp [forGo]⟩
  | o :: l, acc, x, hg, hl, hx => by
    rw [List.flatMap_cons, ← List.append_assoc] at hl
    obtain ⟨x', n', ih⟩ := in_go z y n l (acc ++ anyw o n) (.val (eO.d o)) (fun p hp => hg p (List.mem_cons_of_mem _ hp)) hl (nb_val _)
    refine ⟨x', n', ?_⟩
    have e0 : gtName 4 (eO.d o) [.val z, .val y, .val (.str n), .own (.lst (acc.map eO.d)), x] = some [.val z, .val y, .val (.str n), .own (.lst (acc.map eO.d)), .val (eO.d o)] := setV_nb rfl hx
    have a := any_spec (n := n) (hg o List.mem_cons_self)
    have sz : acc.length + (anyw o n).length ≤ sizeLine := by
      rw [sizeLine_eq]; rw [List.length_append, List.length_append] at hl; omega
    rw [List.map_cons]
    unfold forGo
    rw [e0]
    dsimp only
    have st : iB [.val z, .val y, .val (.str n), .own (.lst (acc.map eO.d)), .val (eO.d o)] = .nx [.val z, .val y, .val (.str n), .own (.lst ((acc ++ anyw o n).map eO.d)), .val (eO.d o)] := by
      simp [a, sz]
    rw [st]
    dsimp only
    rw [ih, List.flatMap_cons, ← List.append_assoc]
abbrev oB : Sv := (dSeq (dSet 3 (dLst dNil))
    (dSeq (dFor (iSeq (dVar 1)) (gtName 4)
      iB)
    (dSet 1 (dVar 3))))
/-- what found holds: new, or from a turn -/
def held (b : Bool) (d : D) : Slot := if b then .own d else .val d
theorem out_go (z : D) : ∀ (l : List Str) (F : List Ord) (b : Bool) (x2 x3 x4 : Slot), okAll F l = true → NB x2 → NW x3 → NB x4 → ∃ x2' x3' x4', forGo (gtName 2) oB (l.map .str) [.val z, held b (.lst (F.map eO.d)), x2, x3, x4] =
    .nx [.val z, held (b && l.isEmpty) (.lst ((l.foldl allStep F).map eO.d)), x2', x3', x4']
  | [], F, b, x2, x3, x4, _, _, _, _ => ⟨x2, x3, x4, by simp [forGo]⟩
  | n :: l, F, b, x2, x3, x4, h, h2, h3, h4 => by
    unfold okAll at h
    simp only [Bool.and_eq_true, decide_eq_true_eq, List.all_eq_true] at h
    obtain ⟨x4a, n4, e⟩ := in_go z (.lst (F.map eO.d)) n F [] x4 (fun o ho => good_of (h.1.1 o ho)) (by rw [List.nil_append]; exact h.1.2) h4
    obtain ⟨x2', x3', x4', ih⟩ := out_go z l (allStep F n) false (.val (.str n)) (.val (.lst ((allStep F n).map eO.d))) x4a h.2 (nb_val _) (nw_val _) n4
    refine ⟨x2', x3', x4', ?_⟩
    have e0 : gtName 2 (.str n) [.val z, held b (.lst (F.map eO.d)), x2, x3, x4] = some [.val z, held b (.lst (F.map eO.d)), .val (.str n), x3, x4] := setV_nb rfl h2
    have s3 : setV [.val z, held b (.lst (F.map eO.d)), .val (.str n), x3, x4] 3 (.own (.lst [])) = some [.val z, held b (.lst (F.map eO.d)), .val (.str n), .own (.lst []), x4] := setV_nb rfl h3.nb
    have it : iSeq (dVar 1) [.val z, held b (.lst (F.map eO.d)), .val (.str n), .own (.lst []), x4] = .ok (F.map eO.d) [.val z, .val (.lst (F.map eO.d)), .val (.str n), .own (.lst []), x4] := by
      cases b <;> simp [held]
    rw [List.map_cons]
    unfold forGo
    rw [e0]
    dsimp only
    have st : oB [.val z, held b (.lst (F.map eO.d)), .val (.str n), x3, x4] = .nx [.val z, .val (.lst ((allStep F n).map eO.d)), .val (.str n), .val (.lst ((allStep F n).map eO.d)), x4a] := by
      have f1 : dSet 3 (dLst dNil) [.val z, held b (.lst (F.map eO.d)), .val (.str n), x3, x4] = .nx [.val z, held b (.lst (F.map eO.d)), .val (.str n), .own (.lst []), x4] := by simp [s3, -s_setV]
      have f2 : dFor (iSeq (dVar 1)) (gtName 4) iB [.val z, held b (.lst (F.map eO.d)), .val (.str n), .own (.lst []), x4] = .nx [.val z, .val (.lst (F.map eO.d)), .val (.str n), .own (.lst ((allStep F n).map eO.d)), x4a] := by
        unfold dFor
        rw [it]
        exact e
      have f3 : dSet 1 (dVar 3) [.val z, .val (.lst (F.map eO.d)), .val (.str n), .own (.lst ((allStep F n).map eO.d)), x4a] = .nx [.val z, .val (.lst ((allStep F n).map eO.d)), .val (.str n), .val (.lst ((allStep F n).map eO.d)), x4a] := by simp
      exact (seq_nx f1).trans ((seq_nx f2).trans f3)
    rw [st]
    dsimp only
    have := ih
    simp only [held, Bool.false_and, Bool.false_eq_true, if_false] at this
    rw [this]
    simp [held]
def allOrders (l : List Str) : List Ord := l.foldl allStep [[]]
theorem all_spec {l : List Str} (h : okAll [[]] l = true) : d_all_orders [.tup (l.map .str)] = .ok (if l.isEmpty then .new (.lst ((allOrders l).map eO.d)) else .val (.lst ((allOrders l).map eO.d))) [.tup (l.map .str)] := by
  obtain ⟨x2', x3', x4', e⟩ := out_go (.tup (l.map .str)) l [[]] true .non .non .non h nb_non nw_non nb_non
  have f0 : dSet 1 (dLst (dCons (dTup dNil) dNil)) [.val (.tup (l.map .str)), .non, .non, .non, .non] = .nx [.val (.tup (l.map .str)), .own (.lst [.tup []]), .non, .non, .non] := by simp
  have f1 := for_it (ft := gtName 2) (gb := oB) (show iSeq (dVar 0) [.val (.tup (l.map .str)), .own (.lst [.tup []]), .non, .non, .non] = .ok (l.map .str) [.val (.tup (l.map .str)), .own (.lst [.tup []]), .non, .non, .non] by simp)
  have f2 := f1.trans e
  have f3 : dRet (dVar 1) [.val (.tup (l.map .str)), held (true && l.isEmpty) (.lst ((allOrders l).map eO.d)), x2', x3', x4'] = .rt (if l.isEmpty then .new (.lst ((allOrders l).map eO.d)) else .val (.lst ((allOrders l).map eO.d))) (if l.isEmpty then [.val (.tup (l.map .str)), .non, x2', x3', x4'] else [.val (.tup (l.map .str)), .val (.lst ((allOrders l).map eO.d)), x2', x3', x4']) := by
    cases l with
    | nil => simp [held]
    | cons n l => simp [held]
  refine def_rt rfl ((seq_nx f0).trans ((seq_nx f2).trans f3)) (fun i => by split <;> (intro h; cases h)) ?_
  split <;> rfl
end K09

/-! dicts over lists of pairs. -/
namespace DL
open PySem PySem.Spec L2
section
variable {κ β : Type} [DecidableEq κ]
/-- one pair after another is put -/
def puts (l : List (κ × β)) : List (κ × β) := l.foldl (fun m p => put m p.1 p.2) []
theorem look_isSome {m : List (κ × β)} {a : κ} : (look m a).isSome = true ↔ a ∈ m.map (·.1) := by
  cases e : look m a with
  | none => simp [look_none.mp e]
  | some b =>
    have : a ∈ m.map (·.1) := Decidable.byContradiction fun h => by rw [look_none.mpr h] at e; cases e
    simp [this]
theorem put_keys {m : List (κ × β)} {a c : κ} {b : β} : c ∈ (put m a b).map (·.1) ↔ c ∈ m.map (·.1) ∨ c = a := by
  rw [← look_isSome, ← look_isSome, look_put]
  by_cases e : a = c
  · subst e; simp
  · have : c ≠ a := fun z => e z.symm
    simp [e, this]
theorem put_new {m : List (κ × β)} {a : κ} {b : β} (h : a ∉ m.map (·.1)) : put m a b = m ++ [(a, b)] := by
  unfold put
  rw [look_none.mpr h]
  rfl
theorem puts_go (l m : List (κ × β)) : (∀ c, c ∈ (l.foldl (fun m p => put m p.1 p.2) m).map (·.1) ↔ c ∈ m.map (·.1) ∨ c ∈ l.map (·.1)) ∧ ((m.map (·.1)).Nodup → ((l.foldl (fun m p => put m p.1 p.2) m).map (·.1)).Nodup) ∧ ((m.map (·.1) ++ l.map (·.1)).Nodup → l.foldl (fun m p => put m p.1 p.2) m = m ++ l) ∧ (l.foldl (fun m p => put m p.1 p.2) m).length ≤ m.length + l.length := by
  induction l generalizing m with
  | nil => exact ⟨fun c => by simp, fun h => h, fun _ => (List.append_nil _).symm, by simp⟩
  | cons p l ih =>
    obtain ⟨i1, i2, i3, i4⟩ := ih (put m p.1 p.2)
    refine ⟨fun c => ?_, fun h => i2 (put_nodup h _ _), fun h => ?_, ?_⟩
    · rw [List.foldl_cons, i1 c, put_keys, List.map_cons, List.mem_cons, or_assoc]
    · have hp : p.1 ∉ m.map (·.1) := fun z => by
        rw [List.map_cons] at h
        exact (List.nodup_append.mp h).2.2 p.1 z p.1 List.mem_cons_self rfl
      rw [List.foldl_cons]
      rw [put_new hp] at i3
      rw [put_new hp, i3 (by rw [List.map_append, List.append_assoc]; exact h), List.append_assoc]
      rfl
    · rw [List.foldl_cons, List.length_cons]
      have := put_length m p.1 p.2
      omega
theorem puts_keys {l : List (κ × β)} {c : κ} : c ∈ (puts l).map (·.1) ↔ c ∈ l.map (·.1) := by
  have := (puts_go l ([] : List (κ × β))).1 c
  simpa [puts] using this
theorem puts_nodup (l : List (κ × β)) : ((puts l).map (·.1)).Nodup := (puts_go l []).2.1 List.nodup_nil
theorem puts_self {l : List (κ × β)} (h : (l.map (·.1)).Nodup) : puts l = l := by
  have := (puts_go l ([] : List (κ × β))).2.2.1 (by simpa using h)
  simpa [puts] using this
theorem puts_length (l : List (κ × β)) : (puts l).length ≤ l.length := by
  have := (puts_go l ([] : List (κ × β))).2.2.2
  simpa [puts] using this
variable {kf : κ → Key} {vd : β → D}
def dicM (kf : κ → Key) (vd : β → D) (m : List (κ × β)) : D := .dic (m.map fun p => kf p.1) (m.map fun p => vd p.2)
theorem dGet_look (inj : ∀ a b, kf a = kf b → a = b) (a : κ) : ∀ m : List (κ × β), dGet (m.map fun p => kf p.1) (m.map fun p => vd p.2) (kf a) = (look m a).map vd
  | [] => rfl
  | p :: m => by
    show (if kf p.1 = kf a then some (vd p.2) else dGet _ _ (kf a)) = (if p.1 = a then some p.2 else look m a).map vd
    by_cases e : p.1 = a
    · rw [if_pos (by rw [e]), if_pos e]; rfl
    · rw [if_neg (fun z => e (inj _ _ z)), if_neg e]
      exact dGet_look inj a m
theorem hasKey_look (inj : ∀ a b, kf a = kf b → a = b) (a : κ) : ∀ m : List (κ × β), hasKey (m.map fun p => kf p.1) (kf a) = (look m a).isSome
  | [] => rfl
  | p :: m => by
    have ih := hasKey_look inj a m
    unfold hasKey at ih ⊢
    show _ = (if p.1 = a then some p.2 else look m a).isSome
    rw [List.map_cons, List.any_cons, ih]
    by_cases e : p.1 = a
    · rw [if_pos e, decide_eq_true (by rw [e])]; rfl
    · rw [if_neg e, decide_eq_false (fun z => e (inj _ _ z)), Bool.false_or]
theorem tell_ks' (m : List (κ × β)) (a : κ) (b : β) : ((tell m a b).map fun p => kf p.1) = m.map fun p => kf p.1 := by
  unfold tell
  rw [List.map_map]
  refine List.map_congr_left fun p _ => ?_
  show kf (if p.1 = a then (p.1, b) else p).1 = kf p.1
  split <;> rfl
theorem tell_miss (a : κ) (b : β) : ∀ m : List (κ × β), a ∉ m.map (·.1) → tell m a b = m
  | [], _ => rfl
  | q :: r, h => by
    have h1 : q.1 ≠ a := fun z => h (by rw [List.map_cons, z]; exact List.mem_cons_self)
    have ih := tell_miss a b r fun z => h (by rw [List.map_cons]; exact List.mem_cons_of_mem _ z)
    unfold tell at ih ⊢
    rw [List.map_cons, ih, if_neg h1]
theorem putXs_tell (inj : ∀ a b, kf a = kf b → a = b) (a : κ) (b : β) : ∀ m : List (κ × β), (m.map (·.1)).Nodup → putXs (m.map fun p => kf p.1) (m.map fun p => vd p.2) (kf a) (vd b) = (tell m a b).map fun p => vd p.2
  | [], _ => rfl
  | p :: m, h => by
    have h' := List.nodup_cons.mp (by simpa using h : (p.1 :: m.map (·.1)).Nodup)
    show (if kf p.1 = kf a then vd b :: (m.map fun p => vd p.2) else vd p.2 :: putXs _ _ (kf a) (vd b)) = vd (if p.1 = a then (p.1, b) else p).2 :: (tell m a b).map fun p => vd p.2
    by_cases e : p.1 = a
    · rw [if_pos (by rw [e]), if_pos e, tell_miss a b m (e ▸ h'.1)]
    · rw [if_neg (fun z => e (inj _ _ z)), if_neg e, putXs_tell inj a b m h'.2]
theorem dicPut_put (inj : ∀ a b, kf a = kf b → a = b) (m : List (κ × β)) (hm : (m.map (·.1)).Nodup) (a : κ) (b : β) : dicPut (m.map fun p => kf p.1) (m.map fun p => vd p.2) (kf a) (vd b) = dicM kf vd (put m a b) := by
  unfold dicPut put dicM
  rw [hasKey_look inj a m]
  cases (look m a).isSome with
  | true => rw [if_pos rfl, if_pos rfl, putXs_tell inj a b m hm, tell_ks']
  | false =>
    rw [if_neg (by decide), if_neg (by decide), List.map_append, List.map_append]
    rfl
theorem merge_go (inj : ∀ a b, kf a = kf b → a = b) : ∀ (l m : List (κ × β)), (m.map (·.1)).Nodup → (l.map fun p => (kf p.1, vd p.2)).foldl putD (dicM kf vd m) = dicM kf vd (l.foldl (fun m p => put m p.1 p.2) m)
  | [], m, _ => rfl
  | p :: l, m, h => by
    rw [List.map_cons, List.foldl_cons, List.foldl_cons]
    have e : putD (dicM kf vd m) (kf p.1, vd p.2) = dicM kf vd (put m p.1 p.2) := dicPut_put inj m h _ _
    rw [e]
    exact merge_go inj l _ (put_nodup h _ _)
theorem key_of (k : Key) : keyOf (keyD k) = some k := by cases k <;> rfl
theorem flats_map : ∀ l : List (κ × β), flats (l.map fun p => .tup [keyD (kf p.1), vd p.2]) = some (l.map fun p => (kf p.1, vd p.2))
  | [] => rfl
  | p :: l => by
    rw [List.map_cons, List.map_cons]
    show (match keyOf (keyD (kf p.1)), flats (l.map fun p => .tup [keyD (kf p.1), vd p.2]) with | some k, some r => some ((k, vd p.2) :: r) | _, _ => none) = _
    rw [key_of, flats_map l]
/-- dict(..) of pairs with flat keys -/
theorem fDict_flat (inj : ∀ a b, kf a = kf b → a = b) (l : List (κ × β)) : fDict [.lst (l.map fun p => .tup [keyD (kf p.1), vd p.2])] = some (.new (dicM kf vd (puts l))) := by
  unfold fDict
  have e : fDictP [.lst (l.map fun p => .tup [keyD (kf p.1), vd p.2])] = some (.new (dicM kf vd (puts l))) := by
    show (flats _).map _ = _
    rw [flats_map l]
    show some (RV.new (mergeD _)) = _
    unfold mergeD puts
    have := merge_go (kf := kf) (vd := vd) inj l [] List.nodup_nil
    rw [show (D.dic [] [] : D) = dicM kf vd ([] : List (κ × β)) from rfl, this]
  rw [e]; rfl
theorem ix_flat (inj : ∀ a b, kf a = kf b → a = b) (m : List (κ × β)) (a : κ) : opIx (dicM kf vd m) (keyD (kf a)) = (look m a).map fun b => .val (vd b) := by
  have e1 : kOf (keyD (kf a)) = none := by cases kf a <;> rfl
  have e2 : ixD (dicM kf vd m) (keyD (kf a)) = (look m a).map vd := by
    rw [← dGet_look inj a m]
    show (match keyOf (keyD (kf a)) with | some k => dGet _ _ k | none => none) = _
    rw [key_of]
  have e3 : ixX (dicM kf vd m) (keyD (kf a)) = none := by
    show _ = _
    unfold ixX dicM
    simp [e1]
  unfold opIx
  rw [e3, e2]
  cases look m a <;> rfl
theorem in_flat (inj : ∀ a b, kf a = kf b → a = b) (m : List (κ × β)) (a : κ) : opIn (keyD (kf a)) (dicM kf vd m) = some (.val (.bl (decide (a ∈ m.map (·.1))))) := by
  have e1 : kOf (keyD (kf a)) = none := by cases kf a <;> rfl
  have e2 : memD (keyD (kf a)) (dicM kf vd m) = some (decide (a ∈ m.map (·.1))) := by
    show (match keyOf (keyD (kf a)) with | some k => some (hasKey _ k) | none => none) = _
    rw [key_of]
    dsimp only
    rw [hasKey_look inj]
    congr 1
    exact Bool.eq_iff_iff.mpr (by rw [look_isSome, decide_eq_true_iff])
  have e3 : memX (keyD (kf a)) (dicM kf vd m) = none := by
    unfold memX dicM
    simp [e1]
  unfold opIn
  rw [e3, e2]
  rfl
/-! ### keys that are tuples -/
variable {kd : κ → D} {kn : κ → NestedKey}
theorem keyOf_none {d : D} {n : NestedKey} (h : kOf d = some n) : keyOf d = none := by
  cases d with
  | tup xs => rfl
  | _ => cases h
theorem flats_none (h : IsKey kd kn) (p : κ × β) (l : List (κ × β)) : flats ((p :: l).map fun p => .tup [kd p.1, vd p.2]) = none := by
  rw [List.map_cons]
  show (match keyOf (kd p.1), flats (l.map fun p => .tup [kd p.1, vd p.2]) with | some k, some r => some ((k, vd p.2) :: r) | _, _ => none) = _
  rw [keyOf_none (h.of p.1)]
theorem tups_map (h : IsKey kd kn) : ∀ l : List (κ × β), tups (l.map fun p => .tup [kd p.1, vd p.2]) = some (l.map fun p => (kd p.1, vd p.2))
  | [] => rfl
  | p :: l => by
    rw [List.map_cons, List.map_cons]
    show (match kOf (kd p.1), tups (l.map fun p => .tup [kd p.1, vd p.2]) with | some _, some r => some ((kd p.1, vd p.2) :: r) | _, _ => none) = _
    rw [h.of, tups_map h l]
theorem mergeX_go (h : IsKey kd kn) : ∀ (l m : List (κ × β)), (l.map fun p => (kd p.1, vd p.2)).foldl putX (.dct (m.map fun p => kd p.1) (m.map fun p => vd p.2)) = .dct ((l.foldl (fun m p => put m p.1 p.2) m).map fun p => kd p.1) ((l.foldl (fun m p => put m p.1 p.2) m).map fun p => vd p.2)
  | [], m => rfl
  | p :: l, m => by
    rw [List.map_cons, List.foldl_cons, List.foldl_cons]
    have e : putX (.dct (m.map fun p => kd p.1) (m.map fun p => vd p.2)) (kd p.1, vd p.2) = .dct ((put m p.1 p.2).map fun p => kd p.1) ((put m p.1 p.2).map fun p => vd p.2) := by
      show (match kOf (kd p.1) with | some k => dctPut _ _ (kd p.1) k (vd p.2) | none => _) = _
      rw [h.of]
      dsimp only
      rw [DL.dctPut_put h, dctD_ne (put_ne _ _ _)]
    rw [e]
    exact mergeX_go h l _
theorem puts_ne {p : κ × β} {l : List (κ × β)} : puts (p :: l) ≠ [] := fun e => by
  have : p.1 ∈ (puts (p :: l)).map (·.1) := puts_keys.mpr (by simp)
  rw [e] at this
  cases this
/-- dict(..) of pairs whose keys are tuples -/
theorem fDict_tup (h : IsKey kd kn) (l : List (κ × β)) : fDict [.lst (l.map fun p => .tup [kd p.1, vd p.2])] = some (.new (dctD kd vd (puts l))) := by
  cases l with
  | nil => rfl
  | cons p l =>
    unfold fDict
    have e1 : fDictP [.lst ((p :: l).map fun p => .tup [kd p.1, vd p.2])] = none := by
      show (flats _).map _ = _
      rw [flats_none h p l]
      rfl
    have e2 : fDictX [.lst ((p :: l).map fun p => .tup [kd p.1, vd p.2])] = some (.new (dctD kd vd (puts (p :: l)))) := by
      show (tups _).map _ = _
      rw [tups_map h]
      show some (RV.new (mergeX _)) = _
      unfold mergeX
      have := mergeX_go (vd := vd) h (p :: l) []
      rw [dctD_ne puts_ne]
      exact congrArg (fun x => some (RV.new x)) this
    rw [e1, e2]; rfl
end
end DL

/-! law_k09: _law_order. -/
namespace K09
open PySem PySem.Spec L2 DL
abbrev M := List (Str × Int)
def kS : Str → Key := Sum.inr
theorem kS_inj : ∀ a b, kS a = kS b → a = b := fun a b h => by cases h; rfl
theorem kI_inj : ∀ a b : Int, (Sum.inl a : Key) = Sum.inl b → a = b := fun a b h => by cases h; rfl
abbrev mD (m : M) : D := dicM kS D.int m
section
variable {κ β : Type} [DecidableEq κ] {kf : κ → Key} {vd : β → D} {m : List (κ × β)} {i : Nat} {vs : List Nat} {ft : D → DL.Env → Option DL.Env} {gt ge X : Ev} {ρ : DL.Env}
theorem names_fm {g : κ × β → D} {p : κ × β → Bool} (hs : ρ[i]? = some (.val (dicM kf vd m))) (hd : idle ρ vs = true) (hl : m.length ≤ 1000000) (hw : wipeE ρ vs = ρ) (hr : restE ρ ρ vs = ρ)
    (h : ∀ b ∈ m, ∃ ρ1, ft (keyD (kf b.1)) ρ = some ρ1 ∧ gt ρ1 = .ok (.val (.bl (p b))) ρ1 ∧ (p b = true → ∃ r, (ge ρ1).settle = .ok r ρ1 ∧ frz r ρ1 = some (g b, ρ1)) ∧ wipeE ρ1 vs = ρ) : orE (dLcK i vs ft gt ge) (orE (dLcD .keys i vs ft gt ge) X) ρ = .ok (.new (.lst ((m.filter p).map g))) ρ := by
  have e1 : dLcK i vs ft gt ge ρ = .no := by
    unfold dLcK
    rw [s_dLc]
    have : iDkt i ρ = .no := by unfold iDkt dctAt; rw [hs]; rfl
    rw [this]; rfl
  have it : iDic .keys i ρ = .ok (m.map fun b => keyD (kf b.1)) ρ := by
    unfold iDic dicAt
    rw [hs]
    show IR.ok (walked .keys (m.map fun p => kf p.1) _) ρ = _
    show IR.ok ((m.map fun p => kf p.1).map keyD) ρ = _
    rw [List.map_map]
    rfl
  have e2 : dLcD .keys i vs ft gt ge ρ = .ok (.new (.lst ((m.filter p).map g))) ρ := by
    unfold dLcD
    rw [lc_fm (f := fun b : κ × β => keyD (kf b.1)) it hd hl hw hr h]
    rfl
  rw [s_orE, e1]
  dsimp only
  rw [s_orE, e2]
theorem names_m {g : κ × β → D} (hs : ρ[i]? = some (.val (dicM kf vd m))) (hd : idle ρ vs = true) (hl : m.length ≤ 1000000) (hw : wipeE ρ vs = ρ) (hr : restE ρ ρ vs = ρ)
    (h : ∀ b ∈ m, ∃ ρ1, ft (keyD (kf b.1)) ρ = some ρ1 ∧ (∃ r, (ge ρ1).settle = .ok r ρ1 ∧ frz r ρ1 = some (g b, ρ1)) ∧ wipeE ρ1 vs = ρ) : orE (dLcK i vs ft dYes ge) (orE (dLcD .keys i vs ft dYes ge) X) ρ = .ok (.new (.lst (m.map g))) ρ := by
  have := names_fm (g := g) (p := fun _ => true) (gt := dYes) (X := X) hs hd hl hw hr fun b hb => by
    obtain ⟨ρ1, h1, h2, h3⟩ := h b hb
    exact ⟨ρ1, h1, rfl, fun _ => h2, h3⟩
  rw [this, List.filter_eq_self.mpr fun _ _ => rfl]
end
def vals (m : M) : List Int := Enc.int.sort ((puts (m.map fun p => (p.2, true))).map (·.1))
def lotK (m : M) (k : Int) : Lot := eS ((m.filter fun p => decide (p.2 = k)).map (·.1))
def ordK (m : M) : Ord := (vals m).map (lotK m)
theorem look_of {m : M} (hn : (m.map (·.1)).Nodup) {p : Str × Int} (hp : p ∈ m) : look m p.1 = some p.2 := (look_mem hn).mpr hp
abbrev gK : Ev := (dTup (dCons (dOp2 opIx (dVar 0) (dVar 2)) (dCons (dC (.bl true)) dNil)))
theorem order_spec {m : M} (hn : (m.map (·.1)).Nodup) (hl : m.length ≤ 100) : d__law_order [mD m] = .ok (.val (eO.d (ordK m))) [mD m] := by
  have ix : ∀ p ∈ m, opIx (mD m) (.str p.1) = some (.val (.int p.2)) := fun p hp => by
    have := ix_flat (vd := D.int) kS_inj m p.1
    rw [look_of hn hp] at this
    exact this
  have c1 : ∀ X : Ev, orE (dLcK 0 [2] (gtName 2) dYes gK) (orE (dLcD .keys 0 [2] (gtName 2) dYes gK) X) [.val (mD m), .non, .non] = .ok (.new (.lst ((m.map fun p => (p.2, true)).map fun q => .tup [keyD (.inl q.1), .bl q.2]))) [.val (mD m), .non, .non] := fun X => by
    rw [List.map_map]
    refine names_m (g := fun p : Str × Int => .tup [.int p.2, .bl true]) rfl rfl (by omega) rfl rfl fun p hp => ⟨[.val (mD m), .non, .val (.str p.1)], by simp [kS, keyD], ⟨.val (.tup [.int p.2, .bl true]), by simp [ix p hp], by simp⟩, rfl⟩
  have f1 := fDict_flat (kf := Sum.inl) (vd := D.bl) kI_inj (m.map fun p => (p.2, true))
  have pl := puts_length (m.map fun p => (p.2, true))
  rw [List.length_map] at pl
  have s1 : fSorted [dicM Sum.inl D.bl (puts (m.map fun p => (p.2, true)))] = some (.new (.lst ((vals m).map .int))) :=
    Enc.fSort (e := Enc.int) (l := (puts (m.map fun p => (p.2, true))).map (·.1)) (by
      show some (((puts (m.map fun p => (p.2, true))).map fun p => (Sum.inl p.1 : Key)).map keyD) = _
      rw [List.map_map, List.map_map]
      rfl) (by decide) (by rw [List.length_map]; omega) (.inr fun a _ => rfl)
  have vl : (vals m).length ≤ 100 := by
    unfold vals
    rw [Enc.sort_length, List.length_map]
    omega
  have c2 : ∀ (k : Int) (X : Ev), orE (dLcK 0 [2] (gtName 2) (dOp2 opEq (dOp2 opIx (dVar 0) (dVar 2)) (dVar 1)) (dVar 2)) (orE (dLcD .keys 0 [2] (gtName 2) (dOp2 opEq (dOp2 opIx (dVar 0) (dVar 2)) (dVar 1)) (dVar 2)) X) [.val (mD m), .val (.int k), .non] = .ok (.new (.lst ((m.filter fun p => decide (p.2 = k)).map fun p => .str p.1))) [.val (mD m), .val (.int k), .non] := fun k X =>
    names_fm (g := fun p : Str × Int => .str p.1) rfl rfl (by omega) rfl rfl fun p hp => ⟨[.val (mD m), .val (.int k), .val (.str p.1)], by simp [kS, keyD], by simp [ix p hp], fun _ => ⟨.val (.str p.1), by simp, by simp⟩, rfl⟩
  have s2 : ∀ k : Int, fSorted [.lst ((m.filter fun p => decide (p.2 = k)).map fun p => .str p.1)] = some (.new (.lst ((lotK m k).map .str))) := fun k => by
    unfold lotK
    rw [eS_sort]
    exact Enc.fSort (e := Enc.str) (l := (m.filter fun p => decide (p.2 = k)).map (·.1)) (s := .lst ((m.filter fun p => decide (p.2 = k)).map fun p => .str p.1)) (by show some _ = _; rw [List.map_map]; rfl) (by decide) (by rw [List.length_map]; have := List.length_filter_le (fun p : Str × Int => decide (p.2 = k)) m; omega) (.inr fun a _ => rfl)
  have e3 : dLc (iSeq (dB fSorted (dCons (dB fDict (dCons (orE (dLcK 0 [2] (gtName 2) dYes gK) (orE (dLcD .keys 0 [2] (gtName 2) dYes gK) (dLc (iSeq (dVar 0)) [2] (gtName 2) dYes gK))) dNil)) dNil))) [1] (gtName 1) dYes (dB fTuple (dCons (dB fSorted (dCons (orE (dLcK 0 [2] (gtName 2) (dOp2 opEq (dOp2 opIx (dVar 0) (dVar 2)) (dVar 1)) (dVar 2)) (orE (dLcD .keys 0 [2] (gtName 2) (dOp2 opEq (dOp2 opIx (dVar 0) (dVar 2)) (dVar 1)) (dVar 2)) (dLc (iSeq (dVar 0)) [2] (gtName 2) (dOp2 opEq (dOp2 opIx (dVar 0) (dVar 2)) (dVar 1)) (dVar 2)))) dNil)) dNil)) [.val (mD m), .non, .non] = .ok (.new (.lst ((ordK m).map eL.d))) [.val (mD m), .non, .non] := by
    have it := iSeq_new (xs := (vals m).map .int) (dB1 (dB1 (c1 (dLc (iSeq (dVar 0)) [2] (gtName 2) dYes gK)) rfl f1) rfl s1) rfl
    unfold ordK
    rw [List.map_map]
    refine lc_m (g := fun k => eL.d (lotK m k)) it rfl (by omega) rfl rfl fun k hk => ⟨[.val (mD m), .val (.int k), .non], by simp, ⟨.val (eL.d (lotK m k)), ?_, by simp⟩, rfl⟩
    rw [dB1 (dB1 (c2 k _) rfl (s2 k)) rfl (show fTuple [.lst ((lotK m k).map .str)] = some (.val (eL.d (lotK m k))) from rfl)]
    rfl
  exact def_rt rfl (ret_val (dB1 e3 rfl rfl)) (fun i h => by cases h) rfl
end K09

/-! numbers in order, without repeats. -/
namespace DL
open PySem PySem.Spec L2 PySem.W PyProof.Rows
theorem Enc.le_int (a b : Int) : Enc.int.le a b = decide (a ≤ b) := by
  show (!(listOrd itemOrd).blt (keyToks (sortKey (.int b))) (keyToks (sortKey (.int a)))) = _
  have : (listOrd itemOrd).blt (keyToks (sortKey (.int b))) (keyToks (sortKey (.int a))) = decide (b < a) := by
    show lexLt itemOrd [Sum.inl b] [Sum.inl a] = _
    rw [lex_cons]
    show (decide (b < a) || (!decide (a < b) && false)) = _
    simp
  rw [this]
  by_cases h : a ≤ b
  · simp [h]
  · simp [h]; omega
def sd (l : List Int) : List Int := Enc.int.sort ((puts (l.map fun k => (k, true))).map (·.1))
theorem mem_sd {l : List Int} {k : Int} : k ∈ sd l ↔ k ∈ l := by
  unfold sd
  rw [Enc.mem_sort, puts_keys, List.map_map]
  simp
theorem sd_nodup (l : List Int) : (sd l).Nodup := (Enc.sort_perm Enc.int _).nodup_iff.mpr (puts_nodup _)
theorem sd_pw (l : List Int) : (sd l).Pairwise (· < ·) := by
  have h1 : (sd l).Pairwise fun a b => Enc.int.le a b = true := Enc.sorted Enc.int _
  have h2 := sd_nodup l
  refine (h1.and h2).imp fun {a b} h => ?_
  rw [Enc.le_int, decide_eq_true_iff] at h
  have := h.2
  omega
theorem pw_eq : ∀ {l l' : List Int}, l.Pairwise (· < ·) → l'.Pairwise (· < ·) → (∀ k, k ∈ l ↔ k ∈ l') → l = l' := fun {l l'} h h' m => by
  have n1 : l.Nodup := h.imp fun {a b} z => by omega
  have n2 : l'.Nodup := h'.imp fun {a b} z => by omega
  have p : l.Perm l' := (List.perm_ext_iff_of_nodup n1 n2).mpr m
  exact List.Perm.eq_of_pairwise (le := (· < ·)) (fun a b _ _ h1 h2 => by omega) h h' p
theorem sd_eq {l l' : List Int} (h : l'.Pairwise (· < ·)) (m : ∀ k, k ∈ l ↔ k ∈ l') : sd l = l' := pw_eq (sd_pw l) h fun k => by rw [mem_sd, m]
theorem sd_length (l : List Int) : (sd l).length ≤ l.length := by
  unfold sd
  rw [Enc.sort_length, List.length_map]
  exact Nat.le_trans (puts_length _) (by rw [List.length_map]; exact Nat.le_refl _)
/-- how many are below -/
def cnt (l : List Int) (c : Int) : Nat := l.countP fun k => decide (k < c)
theorem cnt_cons (a : Int) (l : List Int) (c : Int) : cnt (a :: l) c = cnt l c + if a < c then 1 else 0 := by
  unfold cnt; rw [List.countP_cons]; simp
theorem cnt_le (l : List Int) (c : Int) : cnt l c ≤ l.length := List.countP_le_length
theorem cnt_mono {l : List Int} {c d : Int} (h : c ≤ d) : cnt l c ≤ cnt l d := List.countP_mono_left fun k _ hk => by
  rw [decide_eq_true_iff] at hk ⊢; omega
theorem cnt_zero {l : List Int} {c : Int} (h : ∀ k ∈ l, c ≤ k) : cnt l c = 0 := List.countP_eq_zero.mpr fun k hk => by
  have := h k hk
  simp; omega
theorem cnt_at : ∀ {l : List Int}, l.Pairwise (· < ·) → ∀ (h : Nat) (hh : h < l.length), cnt l l[h] = h
  | [], _, h, hh => absurd hh (Nat.not_lt_zero _)
  | a :: l, p, 0, hh => by
    have := List.pairwise_cons.mp p
    refine cnt_zero fun k hk => ?_
    rcases List.mem_cons.mp hk with rfl | hk
    · exact Int.le_refl _
    · exact Int.le_of_lt (this.1 k hk)
  | a :: l, p, h + 1, hh => by
    have p' := List.pairwise_cons.mp p
    have hl : h < l.length := by simpa using hh
    have ih := cnt_at p'.2 h hl
    have := p'.1 l[h] (List.getElem_mem hl)
    rw [List.getElem_cons_succ, cnt_cons, ih, if_pos this]
theorem cnt_suc {l : List Int} (p : l.Pairwise (· < ·)) (h : Nat) (hh : h < l.length) : cnt l (l[h] + 1) = h + 1 := by
  have e : cnt l (l[h] + 1) = cnt l l[h] + l.countP fun k => decide (k = l[h]) := by
    unfold cnt
    induction l with
    | nil => exact absurd hh (Nat.not_lt_zero _)
    | cons a t ih =>
      have gen : ∀ (c : Int) (t : List Int), (t.countP fun k => decide (k < c + 1)) = (t.countP fun k => decide (k < c)) + t.countP fun k => decide (k = c) := by
        intro c t
        induction t with
        | nil => rfl
        | cons b t ih =>
          rw [List.countP_cons, List.countP_cons, List.countP_cons, ih]
          by_cases h1 : b < c
          · have h2 : b < c + 1 := by omega
            have h3 : ¬ b = c := by omega
            simp [h1, h2, h3]; omega
          · by_cases h3 : b = c
            · have h2 : b < c + 1 := by omega
              simp only [decide_eq_true h2, decide_eq_false h1, decide_eq_true h3, if_true, Bool.false_eq_true, if_false]
              omega
            · have h2 : ¬ b < c + 1 := by omega
              simp [h1, h2, h3]
      exact gen _ _
  rw [e, cnt_at p h hh]
  have nd : l.Nodup := p.imp fun {a b} z => by omega
  have one : ∀ (t : List Int), t.Nodup → ∀ c ∈ t, (t.countP fun k => decide (k = c)) = 1 := by
    intro t
    induction t with
    | nil => intro _ c hc; cases hc
    | cons b t ih =>
      intro n c hc
      have n' := List.nodup_cons.mp n
      rw [List.countP_cons]
      by_cases e : b = c
      · have : (t.countP fun k => decide (k = c)) = 0 := List.countP_eq_zero.mpr fun k hk => by
          have : k ≠ c := fun z => n'.1 (by rw [e, ← z]; exact hk)
          simp [this]
        simp [this, e]
      · rw [ih n'.2 c ((List.mem_cons.mp hc).resolve_left fun z => e z.symm)]
        simp [e]
  have := one l nd _ (List.getElem_mem hh)
  rw [this]
theorem cnt_mem {l : List Int} (p : l.Pairwise (· < ·)) {c : Int} (h : c ∈ l) : ∃ hh : cnt l c < l.length, l[cnt l c] = c := by
  obtain ⟨j, hj, e⟩ := List.mem_iff_getElem.mp h
  have := cnt_at p j hj
  rw [e] at this
  subst e
  exact ⟨by rw [this]; exact hj, by simp only [this]⟩
theorem cnt_get {l : List Int} (p : l.Pairwise (· < ·)) {c : Int} {h : Nat} (hh : h < l.length) (hc : cnt l c ≤ h) : c ≤ l[h] := by
  rcases Int.lt_or_le l[h] c with z | z
  · have h1 := cnt_suc p h hh
    have h2 : cnt l (l[h] + 1) ≤ cnt l c := cnt_mono (by omega)
    omega
  · exact z
theorem cnt_gap {l : List Int} (p : l.Pairwise (· < ·)) {c d : Int} (hc : c ∈ l) (h : c < d) : cnt l c + 1 ≤ cnt l d := by
  obtain ⟨hh, e⟩ := cnt_mem p hc
  have h1 := cnt_suc p _ hh
  rw [e] at h1
  rw [← h1]
  exact cnt_mono (by omega)
theorem idx_cnt {l : List Int} (p : l.Pairwise (· < ·)) {c : Int} (h : c ∈ l) : l.idxOf c = cnt l c := by
  have h1 : l.idxOf c < l.length := List.idxOf_lt_length_of_mem h
  have h2 := cnt_at p _ h1
  rw [List.getElem_idxOf h1] at h2
  exact h2.symm
theorem cnt_pos {l : List Int} (p : l.Pairwise (· < ·)) {c : Int} {h : Nat} (hc : cnt l c = h + 1) : ∃ hh : h < l.length, l[h] < c := by
  have hl := cnt_le l c
  have hh : h < l.length := by omega
  refine ⟨hh, ?_⟩
  rcases Int.lt_or_le l[h] c with z | z
  · exact z
  · have := cnt_mono (l := l) z
    rw [cnt_at p h hh] at this
    omega
/-- a number more -/
theorem sd_more {l : List Int} {c : Int} (h : c ∉ l) : sd (l ++ [c]) = (sd l).take (cnt (sd l) c) ++ [c] ++ (sd l).drop (cnt (sd l) c) := by
  have p := sd_pw l
  have hn : c ∉ sd l := fun z => h (mem_sd.mp z)
  have t : ∀ k ∈ (sd l).take (cnt (sd l) c), k < c := fun k hk => by
    obtain ⟨j, hj, e⟩ := List.mem_iff_getElem.mp hk
    rw [List.length_take] at hj
    rw [List.getElem_take] at e
    have hj2 : j < (sd l).length := by omega
    rcases Int.lt_or_le k c with z | z
    · exact z
    · have := cnt_mono (l := sd l) z
      rw [← e, cnt_at p j hj2] at this
      omega
  have d : ∀ k ∈ (sd l).drop (cnt (sd l) c), c < k := fun k hk => by
    obtain ⟨j, hj, e⟩ := List.mem_iff_getElem.mp hk
    rw [List.length_drop] at hj
    rw [List.getElem_drop] at e
    have h1 := cnt_get p (c := c) (h := cnt (sd l) c + j) (by omega) (by omega)
    have h2 : k ∈ sd l := List.mem_of_mem_drop hk
    have h3 : k ≠ c := fun z => hn (z ▸ h2)
    rw [e] at h1
    omega
  refine sd_eq ?_ fun k => ?_
  · rw [List.append_assoc]
    refine List.pairwise_append.mpr ⟨p.sublist (List.take_sublist _ _), ?_, fun a ha b hb => ?_⟩
    · exact List.pairwise_append.mpr ⟨List.pairwise_singleton _ _, p.sublist (List.drop_sublist _ _), fun a ha b hb => by rw [List.mem_singleton.mp ha]; exact d b hb⟩
    · have := t a ha
      rcases List.mem_append.mp hb with hb | hb
      · rw [List.mem_singleton.mp hb]; exact this
      · have := d b hb; omega
  · rw [List.append_assoc, List.mem_append, List.mem_append, List.mem_append]
    have : k ∈ (sd l).take (cnt (sd l) c) ∨ k ∈ (sd l).drop (cnt (sd l) c) ↔ k ∈ l := by
      rw [← List.mem_append, List.take_append_drop, mem_sd]
    rw [← this]
    constructor
    · rintro ((h | h) | h)
      · exact .inl h
      · exact .inr (.inr h)
      · exact .inr (.inl h)
    · rintro (h | h | h)
      · exact .inl (.inl h)
      · exact .inr h
      · exact .inl (.inr h)
theorem sd_same {l : List Int} {c : Int} (h : c ∈ l) : sd (l ++ [c]) = sd l := sd_eq (sd_pw l) fun k => by
  rw [mem_sd, List.mem_append, List.mem_singleton]
  constructor
  · rintro (z | rfl)
    · exact z
    · exact h
  · exact .inl
theorem sd_map {l : List Int} {f : Int → Int} (hf : ∀ a b, a < b → f a < f b) : sd (l.map f) = (sd l).map f := sd_eq (List.pairwise_map.mpr ((sd_pw l).imp fun h => hf _ _ h)) fun k => by
  rw [List.mem_map, List.mem_map]
  constructor
  · rintro ⟨a, ha, rfl⟩; exact ⟨a, mem_sd.mpr ha, rfl⟩
  · rintro ⟨a, ha, rfl⟩; exact ⟨a, mem_sd.mp ha, rfl⟩
end DL

/-! law_k09: the orders of keys. -/
namespace K09
open PySem PySem.Spec L2 DL
theorem vals_sd (m : M) : vals m = sd (m.map (·.2)) := by
  unfold vals sd
  rw [List.map_map]
  rfl
theorem eS_perm {l l' : Lot} (p : l.Perm l') : eS l = eS l' := by rw [eS_sort, eS_sort]; exact Enc.sort_of_perm Enc.str p
theorem eS_filter (l : Lot) (q : Str → Bool) : (eS l).filter q = eS (l.filter q) := by rw [eS_sort, eS_sort]; exact Enc.sort_filter Enc.str l q
theorem mem_eS {l : Lot} {n : Str} : n ∈ eS l ↔ n ∈ l := by rw [eS_sort]; exact Enc.mem_sort Enc.str
theorem mem_lotK {m : M} {k : Int} {n : Str} : n ∈ lotK m k ↔ (n, k) ∈ m := by
  unfold lotK
  rw [mem_eS, List.mem_map]
  constructor
  · rintro ⟨⟨a, b⟩, h, rfl⟩
    rw [List.mem_filter, decide_eq_true_iff] at h
    obtain ⟨h1, rfl⟩ := h
    exact h1
  · intro h
    exact ⟨(n, k), List.mem_filter.mpr ⟨h, by simp⟩, rfl⟩
theorem lotK_ne {m : M} {k : Int} : lotK m k ≠ [] ↔ k ∈ m.map (·.2) := by
  rw [List.mem_map]
  constructor
  · intro h
    obtain ⟨n, hn⟩ := List.exists_mem_of_ne_nil _ h
    exact ⟨(n, k), mem_lotK.mp hn, rfl⟩
  · rintro ⟨⟨n, k'⟩, h, rfl⟩ e
    have : n ∈ lotK m k' := mem_lotK.mpr h
    rw [show (n, k').2 = k' from rfl] at e
    rw [e] at this
    cases this
theorem fn_of {m : M} (hn : (m.map (·.1)).Nodup) {n : Str} {k k' : Int} (h : (n, k) ∈ m) (h' : (n, k') ∈ m) : k = k' := by
  have a := (look_mem hn).mpr h
  have b := (look_mem hn).mpr h'
  rw [a] at b
  exact Option.some.inj b
/-! ### lot_of -/
theorem findIdx_at {α : Type} [DecidableEq α] (f : α → Bool) : ∀ (l : List α) (a : α), a ∈ l → f a = true → (∀ b ∈ l, f b = true → b = a) → l.findIdx? f = some (l.idxOf a)
  | [], a, h, _, _ => nomatch h
  | b :: l, a, h, fa, u => by
    rw [List.findIdx?_cons, List.idxOf_cons]
    by_cases e : b = a
    · subst e; simp [fa]
    · have fb : f b = false := by
        cases z : f b with
        | false => rfl
        | true => exact absurd (u b List.mem_cons_self z) e
      have : (b == a) = false := by simpa using e
      rw [fb, findIdx_at f l a ((List.mem_cons.mp h).resolve_left fun z => e z.symm) fa fun c hc => u c (List.mem_cons_of_mem _ hc)]
      simp [this]
theorem lotOf_ordK {m : M} (hn : (m.map (·.1)).Nodup) {n : Str} {k : Int} (h : (n, k) ∈ m) : lotOf (ordK m) n = some ((vals m).idxOf k) := by
  unfold lotOf ordK
  rw [List.findIdx?_map]
  refine findIdx_at _ _ _ ?_ ?_ fun b hb hf => ?_
  · rw [vals_sd, mem_sd]; exact List.mem_map.mpr ⟨_, h, rfl⟩
  · show decide (n ∈ lotK m k) = true
    rw [decide_eq_true_iff]; exact mem_lotK.mpr h
  · have : n ∈ lotK m b := by simpa using hf
    exact fn_of hn (mem_lotK.mp this) h
theorem lotOf_none {m : M} {n : Str} (h : n ∉ m.map (·.1)) : lotOf (ordK m) n = none := by
  unfold lotOf ordK
  rw [List.findIdx?_eq_none_iff]
  intro l hl
  obtain ⟨k, hk, rfl⟩ := List.mem_map.mp hl
  rw [decide_eq_false_iff_not]
  intro z
  exact h (List.mem_map.mpr ⟨_, mem_lotK.mp z, rfl⟩)
/-! ### without -/
def rm (m : M) (n : Str) : M := m.filter fun p => !decide (p.1 = n)
theorem lotK_rm (m : M) (n : Str) (k : Int) : wo (lotK m k) n = lotK (rm m n) k := by
  unfold wo lotK rm
  rw [eS_filter]
  congr 1
  rw [List.filter_map, List.filter_filter, List.filter_filter]
  congr 1
  refine List.filter_congr fun p _ => ?_
  show (!decide (p.1 = n) && decide (p.2 = k)) = (decide (p.2 = k) && !decide (p.1 = n))
  rw [Bool.and_comm]
theorem without_ordK (m : M) (n : Str) : without (ordK m) n = ordK (rm m n) := by
  unfold without ordK
  rw [List.map_map]
  have e1 : (vals m).map ((fun l => wo l n) ∘ lotK m) = (vals m).map (lotK (rm m n)) := List.map_congr_left fun k _ => lotK_rm m n k
  rw [e1, List.filter_map]
  congr 1
  rw [vals_sd (rm m n)]
  refine (sd_eq (((by rw [vals_sd]; exact sd_pw _ : (vals m).Pairwise (· < ·))).filter _) fun k => ?_).symm
  rw [List.mem_filter]
  have : (((fun l => !decide (l = [])) ∘ lotK (rm m n)) k = true) ↔ k ∈ (rm m n).map (·.2) := by
    rw [← lotK_ne]
    simp
  rw [this]
  constructor
  · intro h
    refine ⟨?_, h⟩
    rw [vals_sd, mem_sd]
    obtain ⟨p, hp, rfl⟩ := List.mem_map.mp h
    exact List.mem_map.mpr ⟨p, (List.mem_filter.mp hp).1, rfl⟩
  · exact fun h => h.2
/-! ### a name more -/
theorem lotK_more (m : M) (n : Str) (k k' : Int) : lotK (m ++ [(n, k)]) k' = if k' = k then eS (lotK m k ++ [n]) else lotK m k' := by
  unfold lotK
  by_cases e : k' = k
  · subst e
    rw [if_pos rfl, List.filter_append, List.map_append]
    have : ([(n, k')].filter fun p : Str × Int => decide (p.2 = k')).map (·.1) = [n] := by simp
    rw [this]
    exact eS_perm ((Enc.isort_perm Enc.str _).symm.append_right _)
  · rw [if_neg e, List.filter_append, List.map_append]
    have : ([(n, k)].filter fun p : Str × Int => decide (p.2 = k')).map (·.1) = [] := by
      have : ¬ k = k' := fun z => e z.symm
      simp [this]
    rw [this, List.append_nil]
theorem vals_more (m : M) (n : Str) (k : Int) : vals (m ++ [(n, k)]) = sd (m.map (·.2) ++ [k]) := by rw [vals_sd, List.map_append]; rfl
theorem vals_pw (m : M) : (vals m).Pairwise (· < ·) := by rw [vals_sd]; exact sd_pw _
theorem mem_vals {m : M} {k : Int} : k ∈ vals m ↔ k ∈ m.map (·.2) := by rw [vals_sd, mem_sd]
theorem map_split {α : Type} (l : List Int) (p : l.Pairwise (· < ·)) (j : Nat) (hj : j < l.length) (f g : Int → α) (x : α) (h1 : ∀ k ∈ l, k ≠ l[j] → f k = g k) (h2 : f l[j] = x) : l.map f = (l.map g).take j ++ [x] ++ (l.map g).drop (j + 1) := by
  have e : l = l.take j ++ l[j] :: l.drop (j + 1) := by
    rw [List.getElem_cons_drop, List.take_append_drop]
  have nd : l.Nodup := p.imp fun {a b} z => by omega
  have t : ∀ k ∈ l.take j, k ≠ l[j] := fun k hk z => by
    rw [e] at nd
    exact (List.nodup_append.mp nd).2.2 k hk l[j] List.mem_cons_self z
  have d : ∀ k ∈ l.drop (j + 1), k ≠ l[j] := fun k hk z => by
    rw [e] at nd
    have := (List.nodup_cons.mp (List.nodup_append.mp nd).2.1).1
    rw [z] at hk
    exact this hk
  rw [← List.map_take, ← List.map_drop]
  conv => lhs; rw [e]
  rw [List.map_append, List.map_cons, h2, List.append_assoc]
  congr 1
  · exact List.map_congr_left fun k hk => h1 k (List.mem_of_mem_take hk) (t k hk)
  · exact congrArg (x :: ·) (List.map_congr_left fun k hk => h1 k (List.mem_of_mem_drop hk) (d k hk))
theorem within_ordK {m : M} {n : Str} {k : Int} (hk : k ∈ vals m) : within (ordK m) n (cnt (vals m) k) = ordK (m ++ [(n, k)]) := by
  obtain ⟨hj, e⟩ := cnt_mem (vals_pw m) hk
  have hv : vals (m ++ [(n, k)]) = vals m := by
    rw [vals_more, sd_same (mem_vals.mp hk), vals_sd]
  unfold ordK
  rw [hv]
  unfold within
  have g : ((vals m).map (lotK m))[cnt (vals m) k]?.getD [] = lotK m k := by
    rw [List.getElem?_map, List.getElem?_eq_getElem hj, e]; rfl
  rw [g]
  refine (map_split (vals m) (vals_pw m) _ hj (lotK (m ++ [(n, k)])) (lotK m) _ (fun k' _ z => ?_) ?_).symm
  · rw [e] at z
    rw [lotK_more, if_neg z]
  · rw [e, lotK_more, if_pos rfl]
theorem ahead_ordK {m : M} {n : Str} {k : Int} (hk : k ∉ vals m) : ahead (ordK m) n (cnt (vals m) k) = ordK (m ++ [(n, k)]) := by
  have hk' : k ∉ m.map (·.2) := fun z => hk (mem_vals.mpr z)
  unfold ordK
  rw [vals_more, sd_more hk', ← vals_sd]
  unfold ahead
  rw [List.map_append, List.map_append, List.map_take, List.map_drop]
  have hne : ∀ k' ∈ vals m, k' ≠ k := fun k' h z => hk (z ▸ h)
  have hm : (vals m).map (lotK (m ++ [(n, k)])) = (vals m).map (lotK m) := List.map_congr_left fun k' h => by rw [lotK_more, if_neg (hne k' h)]
  have e0 : lotK m k = [] := Decidable.byContradiction fun z => hk' (lotK_ne.mp z)
  have e1 : eS [n] = [n] := rfl
  rw [hm]
  show _ = _ ++ [lotK (m ++ [(n, k)]) k] ++ _
  rw [lotK_more, if_pos rfl, e0]
  show _ = _ ++ [eS [n]] ++ _
  rw [e1]
/-! ### other numbers in the same order -/
theorem ordK_mono {m : M} {f : Int → Int} (hf : ∀ a b, a < b → f a < f b) : ordK (m.map fun p => (p.1, f p.2)) = ordK m := by
  have inj : ∀ a b, f a = f b → a = b := fun a b h => by
    rcases Int.lt_trichotomy a b with z | z | z
    · have := hf a b z; omega
    · exact z
    · have := hf b a z; omega
  unfold ordK
  have hv : vals (m.map fun p => (p.1, f p.2)) = (vals m).map f := by
    rw [vals_sd, vals_sd, ← sd_map hf, List.map_map, List.map_map]
    rfl
  rw [hv, List.map_map]
  refine List.map_congr_left fun k _ => ?_
  show lotK _ (f k) = lotK m k
  unfold lotK
  congr 1
  rw [List.filter_map, List.map_map]
  congr 1
  refine List.filter_congr fun p _ => ?_
  show decide (f p.2 = f k) = decide (p.2 = k)
  exact decide_eq_decide.mpr ⟨inj _ _, fun z => by rw [z]⟩
theorem ordK_perm {m m' : M} (p : m.Perm m') : ordK m = ordK m' := by
  unfold ordK
  have hv : vals m = vals m' := by
    rw [vals_sd, vals_sd]
    exact sd_eq (sd_pw _) fun k => by rw [mem_sd]; exact (p.map _).mem_iff
  rw [hv]
  refine List.map_congr_left fun k _ => ?_
  unfold lotK
  exact eS_perm ((p.filter _).map _)
end K09

/-! law_k09: all places of a name. -/
namespace K09
open PySem PySem.Spec L2 DL
/-- with the key c -/
def withK (m : M) (n : Str) (c : Int) : Ord := ordK (m ++ [(n, c)])
theorem withK_eq (m : M) (n : Str) (c : Int) : withK m n c = if c ∈ vals m then within (ordK m) n (cnt (vals m) c) else ahead (ordK m) n (cnt (vals m) c) := by
  unfold withK
  split
  · rename_i h; exact (within_ordK h).symm
  · rename_i h; exact (ahead_ordK h).symm
theorem ordK_length (m : M) : (ordK m).length = (vals m).length := by unfold ordK; rw [List.length_map]
/-- what is told of the places from that of c on -/
def toldL (m : M) (n : Str) (c : Int) : List Ord := (if c ∈ vals m then [] else [ahead (ordK m) n (cnt (vals m) c)]) ++ fromLot (ordK m) n (cnt (vals m) c)
theorem mem_from {o : Ord} {n : Str} {k : Nat} {x : Ord} : x ∈ fromLot o n k ↔ ∃ h, k ≤ h ∧ h < o.length ∧ (x = within o n h ∨ x = ahead o n (h + 1)) := by
  unfold fromLot
  rw [List.mem_flatMap]
  constructor
  · rintro ⟨h, hh, hx⟩
    rw [List.mem_range'_1] at hh
    refine ⟨h, hh.1, by omega, ?_⟩
    simpa using hx
  · rintro ⟨h, h1, h2, hx⟩
    exact ⟨h, List.mem_range'_1.mpr ⟨h1, by omega⟩, by simpa using hx⟩
/-- the numbers are even, from 0 to 6 -/
def Even6 (m : M) : Prop := ∀ k ∈ vals m, k % 2 = 0 ∧ 0 ≤ k ∧ k ≤ 6
theorem told_mem {m : M} {n : Str} {c : Int} (he : Even6 m) (hc : c < 9) (x : Ord) : x ∈ toldL m n c ↔ ∃ key, c ≤ key ∧ key < 9 ∧ x = withK m n key := by
  have p := vals_pw m
  unfold toldL
  rw [List.mem_append, mem_from, ordK_length]
  constructor
  · rintro (h | ⟨h, h1, h2, hx⟩)
    · by_cases z : c ∈ vals m
      · rw [if_pos z] at h; cases h
      · rw [if_neg z] at h
        exact ⟨c, Int.le_refl _, hc, by rw [withK_eq, if_neg z]; exact List.mem_singleton.mp h⟩
    · have e1 := cnt_at p h h2
      have e2 := cnt_suc p h h2
      have e3 := cnt_get p h2 h1
      have ev := he _ (List.getElem_mem h2)
      rcases hx with rfl | rfl
      · exact ⟨(vals m)[h], e3, by omega, by rw [withK_eq, if_pos (List.getElem_mem h2), e1]⟩
      · refine ⟨(vals m)[h] + 1, by omega, by omega, ?_⟩
        have : (vals m)[h] + 1 ∉ vals m := fun z => by have := he _ z; omega
        rw [withK_eq, if_neg this, e2]
  · rintro ⟨key, k1, k2, rfl⟩
    have mono := cnt_mono (l := vals m) k1
    by_cases z : key ∈ vals m
    · obtain ⟨hh, _⟩ := cnt_mem p z
      exact .inr ⟨cnt (vals m) key, mono, hh, .inl (by rw [withK_eq, if_pos z])⟩
    · have hle := cnt_le (vals m) key
      by_cases y : c ∈ vals m
      · have : c < key := by
          rcases Int.lt_or_eq_of_le k1 with w | w
          · exact w
          · exact absurd (w ▸ y) z
        have g := cnt_gap p y this
        exact .inr ⟨cnt (vals m) key - 1, by omega, by omega, .inr (by rw [withK_eq, if_neg z, show cnt (vals m) key - 1 + 1 = cnt (vals m) key by omega])⟩
      · rcases Nat.lt_or_eq_of_le mono with w | w
        · exact .inr ⟨cnt (vals m) key - 1, by omega, by omega, .inr (by rw [withK_eq, if_neg z, show cnt (vals m) key - 1 + 1 = cnt (vals m) key by omega])⟩
        · refine .inl ?_
          rw [if_neg y, withK_eq, if_neg z, w]
          exact List.mem_singleton.mpr rfl
/-! ### each but once -/
def psi (L : Nat) (n : Str) (o : Ord) : Nat := 2 * (lotOf o n).getD 0 + if o.length = L then 1 else 0
theorem find_take {n : Str} : ∀ (o : Ord) (t : List Lot) (l : Lot) (k : Nat), (∀ x ∈ o, n ∉ x) → n ∈ l → k ≤ o.length → lotOf (o.take k ++ [l] ++ t) n = some k
  | o, t, l, 0, h, hl, _ => by
    rw [List.take_zero, List.nil_append]
    unfold lotOf
    show (l :: t).findIdx? _ = _
    rw [List.findIdx?_cons]
    simp [hl]
  | [], t, l, k + 1, h, hl, hk => by simp at hk
  | x :: o, t, l, k + 1, h, hl, hk => by
    have ih := find_take o t l k (fun y hy => h y (List.mem_cons_of_mem _ hy)) hl (by simpa using hk)
    have hx : n ∉ x := h x List.mem_cons_self
    unfold lotOf at ih ⊢
    rw [List.take_succ_cons, List.cons_append, List.cons_append, List.findIdx?_cons, ih]
    simp [hx]
theorem psi_within {o : Ord} {n : Str} {h : Nat} (hn : ∀ x ∈ o, n ∉ x) (hh : h < o.length) : psi o.length n (within o n h) = 2 * h + 1 := by
  unfold psi within
  rw [find_take o _ _ h hn (mem_eS.mpr (by simp)) (by omega)]
  have : (o.take h ++ [eS (o[h]?.getD [] ++ [n])] ++ o.drop (h + 1)).length = o.length := by
    simp; omega
  rw [if_pos this]
  rfl
theorem psi_ahead {o : Ord} {n : Str} {h : Nat} (hn : ∀ x ∈ o, n ∉ x) (hh : h ≤ o.length) : psi o.length n (ahead o n h) = 2 * h := by
  unfold psi ahead
  rw [find_take o _ _ h hn (by simp) hh]
  have : ¬ (o.take h ++ [[n]] ++ o.drop h).length = o.length := by
    simp; omega
  rw [if_neg this]
  rfl
theorem psi_from {o : Ord} {n : Str} (hn : ∀ x ∈ o, n ∉ x) : ∀ (m k : Nat), k + m ≤ o.length → ((List.range' k m).flatMap fun h => [within o n h, ahead o n (h + 1)]).map (psi o.length n) = List.range' (2 * k + 1) (2 * m)
  | 0, k, _ => rfl
  | m + 1, k, hk => by
    rw [List.range'_succ, List.flatMap_cons, List.map_append, psi_from hn m (k + 1) (by omega)]
    show [psi o.length n (within o n k), psi o.length n (ahead o n (k + 1))] ++ _ = _
    rw [psi_within hn (by omega), psi_ahead hn (by omega), show 2 * (m + 1) = 2 * m + 1 + 1 by omega, List.range'_succ, List.range'_succ]
    show _ :: _ :: _ = _
    rw [show 2 * (k + 1) = 2 * k + 1 + 1 by omega]
    rfl
theorem nodup_of {α β : Type} (f : α → β) {l : List α} (h : (l.map f).Nodup) : l.Nodup := (List.pairwise_map.mp h).imp fun h z => h (by rw [z])
theorem told_nodup {m : M} {n : Str} {c : Int} (hn : n ∉ m.map (·.1)) : (toldL m n c).Nodup := by
  have hx : ∀ x ∈ ordK m, n ∉ x := fun x hx z => by
    obtain ⟨k, _, rfl⟩ := List.mem_map.mp hx
    exact hn (List.mem_map.mpr ⟨_, mem_lotK.mp z, rfl⟩)
  have hle := cnt_le (vals m) c
  have hk : cnt (vals m) c ≤ (ordK m).length := by rw [ordK_length]; exact hle
  have f := psi_from hx ((ordK m).length - cnt (vals m) c) (cnt (vals m) c) (by omega)
  have nd : ((toldL m n c).map (psi (ordK m).length n)).Nodup := by
    unfold toldL fromLot
    rw [List.map_append, f]
    split
    · rw [List.map_nil, List.nil_append]
      exact List.nodup_range'
    · show (psi _ n (ahead (ordK m) n _) :: _).Nodup
      rw [psi_ahead hx hk]
      have : 2 * cnt (vals m) c :: List.range' (2 * cnt (vals m) c + 1) (2 * ((ordK m).length - cnt (vals m) c)) = List.range' (2 * cnt (vals m) c) (2 * ((ordK m).length - cnt (vals m) c) + 1) := by rw [List.range'_succ]
      show (2 * cnt (vals m) c :: List.range' (2 * cnt (vals m) c + 1) (2 * ((ordK m).length - cnt (vals m) c))).Nodup
      rw [this]
      exact List.nodup_range'
  exact nodup_of _ nd
/-- what is told, sorted, is what is due, sorted -/
theorem told_sort {m : M} {n : Str} {c : Int} {due : List Ord} (he : Even6 m) (hc : c < 9) (hn : n ∉ m.map (·.1)) (hd : ∀ x, x ∈ due ↔ ∃ key, c ≤ key ∧ key < 9 ∧ x = withK m n key) :
    eO.sort (toldL m n c) = eO.sort ((puts (due.map fun o => (o, true))).map (·.1)) :=
  Enc.sort_of_perm eO ((List.perm_ext_iff_of_nodup (told_nodup hn) (puts_nodup _)).mpr fun x => by
    rw [told_mem he hc, puts_keys, List.map_map]
    rw [← hd x]
    simp)
end K09

/-! law_k09: what a lap draws. -/
namespace K09
open PySem PySem.Spec L2 DL
def base : List Str := ["a", "b", "c", "r", "", "o"]
theorem base_ok : ∀ n ∈ base, PyData.strOk n = true := by decide +kernel
theorem base_nd : base.Nodup := by decide
theorem zz_base : ("zz" : Str) ∉ base := by decide
theorem zz_ok : PyData.strOk ("zz" : Str) = true := by decide +kernel
def unS : D → Str
  | .str x => x
  | _ => Str.empty
theorem strs_of_perm {l : List D} (p : l.Perm (base.map .str)) : ∃ ns : List Str, ns.Perm base ∧ l = ns.map .str := by
  refine ⟨l.map unS, ?_, ?_⟩
  · have := p.map unS
    rw [List.map_map] at this
    have e : base.map (unS ∘ D.str) = base := by
      have : (unS ∘ D.str) = id := rfl
      rw [this, List.map_id]
    rwa [e] at this
  · rw [List.map_map]
    have : ∀ d ∈ l, (D.str ∘ unS) d = d := fun d hd => by
      obtain ⟨x, _, rfl⟩ := List.mem_map.mp (p.mem_iff.mp hd)
      rfl
    conv => lhs; rw [← List.map_id l]
    exact List.map_congr_left fun d hd => (this d hd).symm
/-- names that are drawn -/
structure Nms (ns : List Str) : Prop where
  sub : ∀ n ∈ ns, n ∈ base
  nd : ns.Nodup
  ne : ns ≠ []
  few : ns.length ≤ 6
abbrev g3 : Ev := (dSl opSl (dCall [true, false] d__law_mixed (dCons (dVar 1) (dCons (dLst (dCons (dC (.str "a")) (dCons (dC (.str "b")) (dCons (dC (.str "c")) (dCons (dC (.str "r")) (dCons (dC (.str "")) (dCons (dC (.str "o")) dNil))))))) dNil))) none (some (dOp2 opAdd (dC (.int 1)) (dCall [true, false] d__law_take (dCons (dVar 1) (dCons (dC (.int 5)) dNil))))))
abbrev g4 : Ev := (dB fDict (dCons (dLc (iSeq (dVar 3)) [6] (gtName 6) dYes (dTup (dCons (dVar 6) (dCons (dCall [true, false] d__law_take (dCons (dVar 1) (dCons (dC (.int 4)) dNil))) dNil)))) dNil))
abbrev g5 : Ev := (dTup (dCons (dCall [false] d__law_order (dCons (dVar 4) dNil)) (dCons (dCall [true, false] d__law_some (dCons (dVar 1) (dCons (dVar 3) dNil))) (dCons (dCall [true, false] d__law_some (dCons (dVar 1) (dCons (dVar 3) dNil))) dNil))))
section
variable (S : D) {cs : List Int} (hc : cs.length ≤ 1000)
abbrev En (S : D) (cs : List Int) (a b c : Int) (x2 x3 x4 x5 x6 x7 x8 x9 x10 x11 x12 x13 x14 x15 : Slot) : DL.Env := [.val S, .own (bagD a b c cs), x2, x3, x4, x5, x6, x7, x8, x9, x10, x11, x12, x13, x14, x15, .non, .non, .non, .non, .non]
variable {a b c : Int} {x2 x3 x4 x5 x6 x7 x8 x9 x10 x11 x12 x13 x14 x15 : Slot}
include hc
theorem s3 (h3 : NB x3) : ∃ (ns : List Str) (a' b' c' : Int), Nms ns ∧ dSet 3 g3 (En S cs a b c x2 x3 x4 x5 x6 x7 x8 x9 x10 x11 x12 x13 x14 x15) = .nx (En S cs a' b' c' x2 (.own (.lst (ns.map .str))) x4 x5 x6 x7 x8 x9 x10 x11 x12 x13 x14 x15) := by
  obtain ⟨l, a1, b1, c1, p, e1⟩ := mixed_spec hc (base.map .str) a b c (by decide)
  obtain ⟨ns, pn, rfl⟩ := strs_of_perm p
  obtain ⟨r, a2, b2, c2, r0, r1, e2⟩ := take_spec a1 b1 c1 cs 5 hc (by decide) (by decide)
  have ln : ns.length = 6 := pn.length_eq
  have cut : cutD (ns.map D.str) none (some (1 + r)) = (ns.take (1 + r.toNat)).map .str := by
    rw [show (1 + r : Int) = ((1 + r.toNat : Nat) : Int) by omega, cut_front, List.map_take]
  refine ⟨ns.take (1 + r.toNat), a2, b2, c2, ⟨fun n hn => pn.mem_iff.mp (List.mem_of_mem_take hn), (pn.nodup_iff.mpr base_nd).sublist (List.take_sublist _ _), fun e => ?_, by rw [List.length_take]; omega⟩, ?_⟩
  · have := congrArg List.length e
    rw [List.length_take, ln] at this
    simp at this
  · refine set_own (ρ1 := En S cs a2 b2 c2 x2 x3 x4 x5 x6 x7 x8 x9 x10 x11 x12 x13 x14 x15) ?_ (setV_nb rfl h3)
    have e1' : d__law_mixed [bagD a b c cs, .lst [.str "a", .str "b", .str "c", .str "r", .str "", .str "o"]] = .ok (.new (.lst (ns.map .str))) [bagD a1 b1 c1 cs, .lst [.str "a", .str "b", .str "c", .str "r", .str "", .str "o"]] := e1
    simp [e1', e2, cut, -List.map_take]
theorem keys_go (z3 : Slot) : ∀ (ns : List Str) (a b c : Int), ∃ (m : M) (a' b' c' : Int), m.map (·.1) = ns ∧ (∀ p ∈ m, 0 ≤ p.2 ∧ p.2 < 4) ∧
    compGo [6] (gtName 6) dYes (dTup (dCons (dVar 6) (dCons (dCall [true, false] d__law_take (dCons (dVar 1) (dCons (dC (.int 4)) dNil))) dNil))) (ns.map .str) (En S cs a b c x2 z3 x4 x5 .non x7 x8 x9 x10 x11 x12 x13 x14 x15) = some (m.map fun p => .tup [keyD (kS p.1), .int p.2], En S cs a' b' c' x2 z3 x4 x5 .non x7 x8 x9 x10 x11 x12 x13 x14 x15)
  | [], a, b, c => ⟨[], a, b, c, rfl, (fun p h => nomatch h), rfl⟩
  | n :: ns, a, b, c => by
    obtain ⟨r, a1, b1, c1, r0, r1, e1⟩ := take_spec a b c cs 4 hc (by decide) (by decide)
    obtain ⟨m, a2, b2, c2, h1, h2, e2⟩ := keys_go z3 ns a1 b1 c1
    refine ⟨(n, r) :: m, a2, b2, c2, by rw [List.map_cons, h1], fun p hp => ?_, ?_⟩
    · rcases List.mem_cons.mp hp with rfl | hp
      · exact ⟨r0, r1⟩
      · exact h2 p hp
    · rw [List.map_cons]
      unfold compGo
      simp [e1, e2, kS, keyD]
theorem s4 {ns : List Str} (hn : Nms ns) (h4 : NB x4) (h6 : NW x6) : ∃ (m : M) (a' b' c' : Int), m.map (·.1) = ns ∧ (∀ p ∈ m, 0 ≤ p.2 ∧ p.2 < 4) ∧ dSet 4 g4 (En S cs a b c x2 (.own (.lst (ns.map .str))) x4 x5 x6 x7 x8 x9 x10 x11 x12 x13 x14 x15) = .nx (En S cs a' b' c' x2 (.val (.lst (ns.map .str))) (.own (mD m)) x5 x6 x7 x8 x9 x10 x11 x12 x13 x14 x15) := by
  obtain ⟨m, a1, b1, c1, h1, h2, e⟩ := keys_go S hc (x2 := x2) (x4 := x4) (x5 := x5) (x7 := x7) (x8 := x8) (x9 := x9) (x10 := x10) (x11 := x11) (x12 := x12) (x13 := x13) (x14 := x14) (x15 := x15) (.val (.lst (ns.map .str))) ns a b c
  refine ⟨m, a1, b1, c1, h1, h2, ?_⟩
  have it : iSeq (dVar 3) (En S cs a b c x2 (.own (.lst (ns.map .str))) x4 x5 x6 x7 x8 x9 x10 x11 x12 x13 x14 x15) = .ok (ns.map .str) (En S cs a b c x2 (.val (.lst (ns.map .str))) x4 x5 x6 x7 x8 x9 x10 x11 x12 x13 x14 x15) := by simp
  have lc : dLc (iSeq (dVar 3)) [6] (gtName 6) dYes (dTup (dCons (dVar 6) (dCons (dCall [true, false] d__law_take (dCons (dVar 1) (dCons (dC (.int 4)) dNil))) dNil))) (En S cs a b c x2 (.own (.lst (ns.map .str))) x4 x5 x6 x7 x8 x9 x10 x11 x12 x13 x14 x15) = .ok (.new (.lst (m.map fun p => .tup [keyD (kS p.1), .int p.2]))) (En S cs a1 b1 c1 x2 (.val (.lst (ns.map .str))) x4 x5 x6 x7 x8 x9 x10 x11 x12 x13 x14 x15) :=
    lc_goW it e (by show (!x6.owns && true) = true; rw [h6]; rfl) (by rw [List.length_map]; have := hn.few; omega) rfl rfl
  refine set_own (dB1 lc rfl (fDict_flat (vd := D.int) kS_inj m)) ?_
  rw [puts_self (by rw [h1]; exact hn.nd)]
  exact setV_nb rfl h4
theorem draw {ns : List Str} (hn : Nms ns) : ∃ n a' b' c', n ∈ ns ∧ d__law_some [bagD a b c cs, .lst (ns.map .str)] = .ok (.val (.str n)) [bagD a' b' c' cs, .lst (ns.map .str)] := by
  obtain ⟨d, a1, b1, c1, hd, e⟩ := some_spec a b c cs (ns.map .str) hc (by rw [List.length_map]; exact List.length_pos_iff.mpr hn.ne) (by rw [List.length_map]; have := hn.few; omega)
  obtain ⟨n, h, rfl⟩ := List.mem_map.mp hd
  exact ⟨n, a1, b1, c1, h, e⟩
abbrev t5 : D → DL.Env → Option DL.Env := (gtTup 3 (gtCons (gtName 5) (gtCons (gtName 6) (gtCons (gtName 7) gtNil))))
theorem s5 {ns : List Str} {m : M} (hn : Nms ns) (hm : m.map (·.1) = ns) (h5 : NB x5) (h6 : NB x6) (h7 : NB x7) : ∃ (n o : Str) (a' b' c' : Int), n ∈ ns ∧ o ∈ ns ∧ dAsg t5 g5 (En S cs a b c x2 (.val (.lst (ns.map .str))) (.own (mD m)) x5 x6 x7 x8 x9 x10 x11 x12 x13 x14 x15) =
    .nx (En S cs a' b' c' x2 (.val (.lst (ns.map .str))) (.val (mD m)) (.val (eO.d (ordK m))) (.val (.str n)) (.val (.str o)) x8 x9 x10 x11 x12 x13 x14 x15) := by
  obtain ⟨n, a1, b1, c1, n1, e1⟩ := draw hc (a := a) (b := b) (c := c) hn
  obtain ⟨o, a2, b2, c2, n2, e2⟩ := draw hc (a := a1) (b := b1) (c := c1) hn
  have e0 := order_spec (m := m) (by rw [hm]; exact hn.nd) (by have := congrArg List.length hm; rw [List.length_map] at this; have := hn.few; omega)
  refine ⟨n, o, a2, b2, c2, n1, n2, ?_⟩
  have q5 : ∀ v, setV (En S cs a2 b2 c2 x2 (.val (.lst (ns.map .str))) (.val (mD m)) x5 x6 x7 x8 x9 x10 x11 x12 x13 x14 x15) 5 (.val v) = some (En S cs a2 b2 c2 x2 (.val (.lst (ns.map .str))) (.val (mD m)) (.val v) x6 x7 x8 x9 x10 x11 x12 x13 x14 x15) := fun v => setV_nb rfl h5
  have q6 : ∀ v w, setV (En S cs a2 b2 c2 x2 (.val (.lst (ns.map .str))) (.val (mD m)) (.val v) x6 x7 x8 x9 x10 x11 x12 x13 x14 x15) 6 (.val w) = some (En S cs a2 b2 c2 x2 (.val (.lst (ns.map .str))) (.val (mD m)) (.val v) (.val w) x7 x8 x9 x10 x11 x12 x13 x14 x15) := fun v w => setV_nb rfl h6
  have q7 : ∀ v w u, setV (En S cs a2 b2 c2 x2 (.val (.lst (ns.map .str))) (.val (mD m)) (.val v) (.val w) x7 x8 x9 x10 x11 x12 x13 x14 x15) 7 (.val u) = some (En S cs a2 b2 c2 x2 (.val (.lst (ns.map .str))) (.val (mD m)) (.val v) (.val w) (.val u) x8 x9 x10 x11 x12 x13 x14 x15) := fun v w u => setV_nb rfl h7
  simp [e0, e1, e2, -s_setV, q5, q6, q7]
end
end K09

/-! law_k09: the first three tests of a lap. -/
namespace K09
open PySem PySem.Spec L2 DL
/-- keys that are drawn -/
structure Keys (m : M) : Prop where
  nd : (m.map (·.1)).Nodup
  few : m.length ≤ 6
  sub : ∀ p ∈ m, p.1 ∈ base
  low : ∀ p ∈ m, 0 ≤ p.2 ∧ p.2 < 4
theorem ix_m {m : M} (h : (m.map (·.1)).Nodup) {p : Str × Int} (hp : p ∈ m) : opIx (mD m) (.str p.1) = some (.val (.int p.2)) := by
  have := ix_flat (vd := D.int) kS_inj m p.1
  rw [look_of h hp] at this
  exact this
section
variable {κ β : Type} [DecidableEq κ] {kf : κ → Key} {vd : β → D} {m : List (κ × β)} {i : Nat} {vs : List Nat} {ft : D → DL.Env → Option DL.Env} {gt ge : Ev} {ρ : DL.Env}
theorem vals_m {g : κ × β → D} (hs : ρ[i]? = some (.val (dicM kf vd m))) (hd : idle ρ vs = true) (hl : m.length ≤ 1000000) (hw : wipeE ρ vs = ρ) (hr : restE ρ ρ vs = ρ)
    (h : ∀ b ∈ m, ∃ ρ1, ft (vd b.2) ρ = some ρ1 ∧ (∃ r, (ge ρ1).settle = .ok r ρ1 ∧ frz r ρ1 = some (g b, ρ1)) ∧ wipeE ρ1 vs = ρ) : dLcD .vals i vs ft dYes ge ρ = .ok (.new (.lst (m.map g))) ρ := by
  have it : iDic .vals i ρ = .ok (m.map fun b => vd b.2) ρ := by
    unfold iDic dicAt
    rw [hs]
    rfl
  unfold dLcD
  rw [lc_m (f := fun b : κ × β => vd b.2) it hd hl hw hr h]
  rfl
end
abbrev nD (m : M) : D := .lst (m.map fun p => D.str p.1)
abbrev g8 : Ev := (dB fDict (dCons (dLc (iSeq (dVar 3)) [16] (gtName 16) dYes (dTup (dCons (dVar 16) (dCons (dMeth "list" mIndex (dB fSorted (dCons (dB fDict (dCons (dLcD .vals 4 [17] (gtName 17) dYes (dTup (dCons (dVar 17) (dCons (dC (.bl true)) dNil)))) dNil)) dNil)) (dCons (dOp2 opIx (dVar 4) (dVar 16)) dNil)) dNil)))) dNil))
/-- the places -/
def plc (m : M) : M := m.map fun p => (p.1, (((vals m).idxOf p.2 : Nat) : Int))
theorem sort_vals (m : M) (hm : m.length ≤ 100) : fSorted [dicM Sum.inl D.bl (puts (m.map fun p => (p.2, true)))] = some (.new (.lst ((vals m).map .int))) := by
  have pl := puts_length (m.map fun p => (p.2, true))
  rw [List.length_map] at pl
  exact Enc.fSort (e := Enc.int) (l := (puts (m.map fun p => (p.2, true))).map (·.1)) (s := dicM Sum.inl D.bl (puts (m.map fun p => (p.2, true)))) (by
      show some (((puts (m.map fun p => (p.2, true))).map fun p => (Sum.inl p.1 : Key)).map keyD) = _
      rw [List.map_map, List.map_map]
      rfl) (by decide) (by rw [List.length_map]; omega) (.inr fun a _ => rfl)
theorem small_good {i : Int} (h0 : -100 ≤ i) (h1 : i ≤ 100) : Enc.int.good i := by
  show i.natAbs < 10 ^ 12
  omega
theorem vals_low {m : M} (h : Keys m) : ∀ k ∈ vals m, 0 ≤ k ∧ k < 4 := fun k hk => by
  obtain ⟨p, hp, rfl⟩ := List.mem_map.mp (mem_vals.mp hk)
  exact h.low p hp
theorem vals_few {m : M} (h : Keys m) : (vals m).length ≤ 6 := by
  rw [vals_sd]
  have := sd_length (m.map (·.2))
  rw [List.length_map] at this
  have := h.few
  omega
section
variable (S : D) {cs : List Int} {a b c : Int} {m : M} {n o : Str} {x2 x3 x4 x5 x6 x7 x8 x9 x10 x11 x12 x13 x14 x15 : Slot}
theorem s8 (hm : Keys m) (h8 : NB x8) : dSet 8 g8 (En S cs a b c x2 (.val (nD m)) (.val (mD m)) x5 x6 x7 x8 x9 x10 x11 x12 x13 x14 x15) = .nx (En S cs a b c x2 (.val (nD m)) (.val (mD m)) x5 x6 x7 (.own (mD (plc m))) x9 x10 x11 x12 x13 x14 x15) := by
  have c1 : ∀ (w : Str), dLcD .vals 4 [17] (gtName 17) dYes (dTup (dCons (dVar 17) (dCons (dC (.bl true)) dNil))) [.val S, .own (bagD a b c cs), x2, .val (nD m), .val (mD m), x5, x6, x7, x8, x9, x10, x11, x12, x13, x14, x15, .val (.str w), .non, .non, .non, .non] = .ok (.new (.lst ((m.map fun p => (p.2, true)).map fun q => .tup [keyD (.inl q.1), .bl q.2]))) [.val S, .own (bagD a b c cs), x2, .val (nD m), .val (mD m), x5, x6, x7, x8, x9, x10, x11, x12, x13, x14, x15, .val (.str w), .non, .non, .non, .non] := fun w => by
    rw [List.map_map]
    refine vals_m (kf := kS) (vd := D.int) (g := fun p : Str × Int => .tup [.int p.2, .bl true]) rfl rfl (by have := hm.few; omega) rfl rfl fun p hp => ⟨[.val S, .own (bagD a b c cs), x2, .val (nD m), .val (mD m), x5, x6, x7, x8, x9, x10, x11, x12, x13, x14, x15, .val (.str w), .val (.int p.2), .non, .non, .non], by simp, ⟨.val (.tup [.int p.2, .bl true]), by simp, by simp⟩, rfl⟩
  have f1 := fDict_flat (kf := Sum.inl) (vd := D.bl) kI_inj (m.map fun p => (p.2, true))
  have s1 := sort_vals m (by have := hm.few; omega)
  have d1 : ∀ w : Str, dB fSorted (dCons (dB fDict (dCons (dLcD .vals 4 [17] (gtName 17) dYes (dTup (dCons (dVar 17) (dCons (dC (.bl true)) dNil)))) dNil)) dNil) [.val S, .own (bagD a b c cs), x2, .val (nD m), .val (mD m), x5, x6, x7, x8, x9, x10, x11, x12, x13, x14, x15, .val (.str w), .non, .non, .non, .non] = .ok (.new (.lst ((vals m).map .int))) [.val S, .own (bagD a b c cs), x2, .val (nD m), .val (mD m), x5, x6, x7, x8, x9, x10, x11, x12, x13, x14, x15, .val (.str w), .non, .non, .non, .non] := fun w => dB1 (dB1 (c1 w) rfl f1) rfl s1
  have lc : dLc (iSeq (dVar 3)) [16] (gtName 16) dYes (dTup (dCons (dVar 16) (dCons (dMeth "list" mIndex (dB fSorted (dCons (dB fDict (dCons (dLcD .vals 4 [17] (gtName 17) dYes (dTup (dCons (dVar 17) (dCons (dC (.bl true)) dNil)))) dNil)) dNil)) (dCons (dOp2 opIx (dVar 4) (dVar 16)) dNil)) dNil))) (En S cs a b c x2 (.val (nD m)) (.val (mD m)) x5 x6 x7 x8 x9 x10 x11 x12 x13 x14 x15) =
      .ok (.new (.lst ((plc m).map fun p => .tup [keyD (kS p.1), .int p.2]))) (En S cs a b c x2 (.val (nD m)) (.val (mD m)) x5 x6 x7 x8 x9 x10 x11 x12 x13 x14 x15) := by
    unfold plc
    rw [List.map_map]
    refine lc_m (f := fun p : Str × Int => D.str p.1) (l := m) (by simp) rfl (by have := hm.few; omega) rfl rfl fun p hp => ⟨[.val S, .own (bagD a b c cs), x2, .val (nD m), .val (mD m), x5, x6, x7, x8, x9, x10, x11, x12, x13, x14, x15, .val (.str p.1), .non, .non, .non, .non], by simp, ⟨.val (.tup [.str p.1, .int (((vals m).idxOf p.2 : Nat) : Int)]), ?_, by simp; rfl⟩, rfl⟩
    have ix := ix_m hm.nd hp
    have mi : mIndex (.lst ((vals m).map .int)) [.int p.2] = some (.val (.int (((vals m).idxOf p.2 : Nat) : Int))) := Enc.index (e := Enc.int) (by decide) (small_good (by have := hm.low p hp; omega) (by have := hm.low p hp; omega)) (fun k hk => small_good (by have := vals_low hm k hk; omega) (by have := vals_low hm k hk; omega)) (mem_vals.mpr (List.mem_map.mpr ⟨p, hp, rfl⟩))
    simp [d1, ix, mi, -dB_ap]
  refine set_own (dB1 lc rfl (fDict_flat (vd := D.int) kS_inj (plc m))) ?_
  rw [puts_self (by unfold plc; rw [List.map_map]; exact hm.nd)]
  exact setV_nb rfl h8
theorem ifs_no {t : Ev} {g1 g2 : Sv} {ρ ρ1 : DL.Env} (h : t ρ = .ok (.val (.bl false)) ρ1) : dIfS t g1 g2 ρ = g2 ρ1 := by
  unfold dIfS
  rw [h]
  rfl
abbrev tA1 : Ev := (dOrT (dOp2 opNe (dLc (iSeq (dVar 3)) [16] (gtName 16) dYes (dCall [false, false] d_lot_of (dCons (dVar 5) (dCons (dVar 16) dNil)))) (dLc (iSeq (dVar 3)) [16] (gtName 16) dYes (dOp2 opIx (dVar 8) (dVar 16)))) (dOp1 opNotN (dCall [false, false] d_lot_of (dCons (dVar 5) (dCons (dC (.str "zz")) dNil)))))
theorem ord_good {m : M} (hm : ∀ p ∈ m, p.1 ∈ base) (hl : m.length ≤ 100) : Good (ordK m) := by
  refine ⟨?_, fun l hl2 => ?_⟩
  · rw [ordK_length, vals_sd]
    have := sd_length (m.map (·.2))
    rw [List.length_map] at this
    omega
  · obtain ⟨k, _, rfl⟩ := List.mem_map.mp hl2
    refine ⟨?_, fun n hn => ?_⟩
    · unfold lotK
      rw [eS_sort, Enc.sort_length, List.length_map]
      exact Nat.le_trans (List.length_filter_le _ _) hl
    · exact base_ok n (hm _ (mem_lotK.mp hn))
theorem no_zz {m : M} (hm : Keys m) : ("zz" : Str) ∉ m.map (·.1) := fun h => by
  obtain ⟨p, hp, e⟩ := List.mem_map.mp h
  exact zz_base (e ▸ hm.sub p hp)
theorem t1 (hm : Keys m) : tA1 (En S cs a b c x2 (.val (nD m)) (.val (mD m)) (.val (eO.d (ordK m))) x6 x7 (.own (mD (plc m))) x9 x10 x11 x12 x13 x14 x15) = .ok (.val (.bl false)) (En S cs a b c x2 (.val (nD m)) (.val (mD m)) (.val (eO.d (ordK m))) x6 x7 (.own (mD (plc m))) x9 x10 x11 x12 x13 x14 x15) := by
  have g := ord_good hm.sub (by have := hm.few; omega)
  have A : dLc (iSeq (dVar 3)) [16] (gtName 16) dYes (dCall [false, false] d_lot_of (dCons (dVar 5) (dCons (dVar 16) dNil))) (En S cs a b c x2 (.val (nD m)) (.val (mD m)) (.val (eO.d (ordK m))) x6 x7 (.own (mD (plc m))) x9 x10 x11 x12 x13 x14 x15) =
      .ok (.new (.lst ((m.map fun p => (((vals m).idxOf p.2 : Nat) : Int)).map .int))) (En S cs a b c x2 (.val (nD m)) (.val (mD m)) (.val (eO.d (ordK m))) x6 x7 (.own (mD (plc m))) x9 x10 x11 x12 x13 x14 x15) := by
    rw [List.map_map]
    refine lc_m (f := fun p : Str × Int => D.str p.1) (l := m) (by simp) rfl (by have := hm.few; omega) rfl rfl fun p hp => ⟨[.val S, .own (bagD a b c cs), x2, .val (nD m), .val (mD m), .val (eO.d (ordK m)), x6, x7, .own (mD (plc m)), x9, x10, x11, x12, x13, x14, x15, .val (.str p.1), .non, .non, .non, .non], by simp, ⟨.val (.int (((vals m).idxOf p.2 : Nat) : Int)), ?_, by simp⟩, rfl⟩
    have l := lot_of_spec (n := p.1) (base_ok _ (hm.sub p hp)) g
    rw [lotOf_ordK hm.nd hp] at l
    simp [l, optD]
  have B : dLc (iSeq (dVar 3)) [16] (gtName 16) dYes (dOp2 opIx (dVar 8) (dVar 16)) (En S cs a b c x2 (.val (nD m)) (.val (mD m)) (.val (eO.d (ordK m))) x6 x7 (.own (mD (plc m))) x9 x10 x11 x12 x13 x14 x15) =
      .ok (.new (.lst ((m.map fun p => (((vals m).idxOf p.2 : Nat) : Int)).map .int))) (En S cs a b c x2 (.val (nD m)) (.val (mD m)) (.val (eO.d (ordK m))) x6 x7 (.own (mD (plc m))) x9 x10 x11 x12 x13 x14 x15) := by
    rw [List.map_map]
    refine lc_m (f := fun p : Str × Int => D.str p.1) (l := m) (by simp) rfl (by have := hm.few; omega) rfl rfl fun p hp => ⟨[.val S, .own (bagD a b c cs), x2, .val (nD m), .val (mD m), .val (eO.d (ordK m)), x6, x7, .own (mD (plc m)), x9, x10, x11, x12, x13, x14, x15, .val (.str p.1), .non, .non, .non, .non], by simp, ⟨.val (.int (((vals m).idxOf p.2 : Nat) : Int)), ?_, by simp⟩, rfl⟩
    have ix := ix_m (m := plc m) (by unfold plc; rw [List.map_map]; exact hm.nd) (p := (p.1, (((vals m).idxOf p.2 : Nat) : Int))) (List.mem_map.mpr ⟨p, hp, rfl⟩)
    simp [ix]
  have ne := Enc.opNeL (e := Enc.int) (l := m.map fun p => (((vals m).idxOf p.2 : Nat) : Int)) (l' := m.map fun p => (((vals m).idxOf p.2 : Nat) : Int)) (by decide) (fun k hk => by
    obtain ⟨p, hp, rfl⟩ := List.mem_map.mp hk
    have h1 := List.idxOf_le_length (l := vals m) (a := p.2)
    have h2 := vals_few hm
    exact small_good (by omega) (by omega)) (fun k hk => by
    obtain ⟨p, hp, rfl⟩ := List.mem_map.mp hk
    have h1 := List.idxOf_le_length (l := vals m) (a := p.2)
    have h2 := vals_few hm
    exact small_good (by omega) (by omega))
  rw [decide_eq_true rfl] at ne
  have z := lot_of_spec zz_ok g
  rw [lotOf_none (no_zz hm)] at z
  have ne' : opNe (.lst ((m.map fun p => (((vals m).idxOf p.2 : Nat) : Int)).map .int)) (.lst ((m.map fun p => (((vals m).idxOf p.2 : Nat) : Int)).map .int)) = some (.val (.bl false)) := ne
  simp [A, B, ne', z, optD, -s_dLc, -List.map_map]
end
end K09

/-! law_k09: the second and third test of a lap. -/
namespace K09
open PySem PySem.Spec L2 DL
theorem Keys.rm {m : M} (h : Keys m) (n : Str) : Keys (rm m n) :=
  ⟨h.nd.sublist (List.Sublist.map _ List.filter_sublist), Nat.le_trans (List.length_filter_le _ _) h.few, fun p hp => h.sub p (List.mem_filter.mp hp).1, fun p hp => h.low p (List.mem_filter.mp hp).1⟩
theorem not_rm (m : M) (n : Str) : n ∉ (rm m n).map (·.1) := fun h => by
  obtain ⟨p, hp, e⟩ := List.mem_map.mp h
  have := (List.mem_filter.mp hp).2
  simp at this
  exact this e
theorem wts_le {α : Type} (e : Enc α) (w : Nat) : ∀ l : List α, (∀ a ∈ l, e.wt a ≤ w) → e.wts l ≤ l.length * (w + 1)
  | [], _ => Nat.zero_le _
  | a :: l, h => by
    have h1 := h a List.mem_cons_self
    have h2 := wts_le e w l fun x hx => h x (List.mem_cons_of_mem _ hx)
    have h3 : (a :: l).length * (w + 1) = l.length * (w + 1) + (w + 1) := by rw [List.length_cons, Nat.add_mul]; omega
    have h4 : e.wts (a :: l) = e.wt a + 1 + e.wts l := rfl
    omega
theorem base_one : ∀ n ∈ base, n.cps.size ≤ 1 := by decide +kernel
theorem ord_wt {m : M} (hm : ∀ p ∈ m, p.1 ∈ base) (hl : m.length ≤ 7) : eO.wt (ordK m) ≤ 200 := by
  have h1 : ∀ l ∈ ordK m, eL.wt l ≤ 14 := fun l hl2 => by
    obtain ⟨k, _, rfl⟩ := List.mem_map.mp hl2
    have h2 := wts_le Enc.str 1 (lotK m k) fun n hn => base_one n (hm _ (mem_lotK.mp hn))
    have h3 : (lotK m k).length ≤ m.length := by
      unfold lotK
      rw [eS_sort, Enc.sort_length, List.length_map]
      exact List.length_filter_le _ _
    have : (lotK m k).length * (1 + 1) ≤ 7 * 2 := Nat.mul_le_mul (by omega) (by omega)
    show Enc.str.wts (lotK m k) ≤ 14
    omega
  have h4 := wts_le eL 14 (ordK m) h1
  have h5 : (ordK m).length ≤ 7 := by
    rw [ordK_length, vals_sd]
    have := sd_length (m.map (·.2))
    rw [List.length_map] at this
    omega
  have : (ordK m).length * (14 + 1) ≤ 7 * 15 := Nat.mul_le_mul h5 (by omega)
  show eL.wts (ordK m) ≤ 200
  omega
theorem eO_good {m : M} (hm : ∀ p ∈ m, p.1 ∈ base) (hl : m.length ≤ 100) : eO.good (ordK m) := fun l hl2 => (ord_good hm hl).2 l hl2 |>.2
section
variable (S : D) {cs : List Int} {a b c : Int} {m : M} {n o : Str} {x2 x3 x4 x5 x6 x7 x8 x9 x10 x11 x12 x13 x14 x15 : Slot}
abbrev g9 : Ev := (dB fDict (dCons (dLc (iSeq (dVar 3)) [16] (gtName 16) (dOp2 opNe (dVar 16) (dVar 6)) (dTup (dCons (dVar 16) (dCons (dOp2 opIx (dVar 4) (dVar 16)) dNil)))) dNil))
theorem s9 (hm : Keys m) (h9 : NB x9) : dSet 9 g9 (En S cs a b c x2 (.val (nD m)) (.val (mD m)) x5 (.val (.str n)) x7 x8 x9 x10 x11 x12 x13 x14 x15) = .nx (En S cs a b c x2 (.val (nD m)) (.val (mD m)) x5 (.val (.str n)) x7 x8 (.own (mD (rm m n))) x10 x11 x12 x13 x14 x15) := by
  have lc : dLc (iSeq (dVar 3)) [16] (gtName 16) (dOp2 opNe (dVar 16) (dVar 6)) (dTup (dCons (dVar 16) (dCons (dOp2 opIx (dVar 4) (dVar 16)) dNil))) (En S cs a b c x2 (.val (nD m)) (.val (mD m)) x5 (.val (.str n)) x7 x8 x9 x10 x11 x12 x13 x14 x15) =
      .ok (.new (.lst ((rm m n).map fun p => .tup [keyD (kS p.1), .int p.2]))) (En S cs a b c x2 (.val (nD m)) (.val (mD m)) x5 (.val (.str n)) x7 x8 x9 x10 x11 x12 x13 x14 x15) := by
    unfold rm
    refine lc_fm (f := fun p : Str × Int => D.str p.1) (l := m) (by simp) rfl (by have := hm.few; omega) rfl rfl fun p hp => ⟨[.val S, .own (bagD a b c cs), x2, .val (nD m), .val (mD m), x5, .val (.str n), x7, x8, x9, x10, x11, x12, x13, x14, x15, .val (.str p.1), .non, .non, .non, .non], by simp, by simp, fun _ => ⟨.val (.tup [.str p.1, .int p.2]), ?_, by simp; rfl⟩, rfl⟩
    have ix := ix_m hm.nd hp
    simp [ix]
  refine set_own (dB1 lc rfl (fDict_flat (vd := D.int) kS_inj (rm m n))) ?_
  rw [puts_self (hm.rm n).nd]
  exact setV_nb rfl h9
abbrev tA2 : Ev := (dNot (dTru (dCall [false, false] d__law_alike (dCons (dLst (dCons (dCall [false, false] d_without (dCons (dVar 5) (dCons (dVar 6) dNil))) (dCons (dCall [false, false] d_without (dCons (dVar 5) (dCons (dC (.str "zz")) dNil))) dNil))) (dCons (dLst (dCons (dCall [false] d__law_order (dCons (dVar 9) dNil)) (dCons (dVar 5) dNil))) dNil)))))
theorem t2 (hm : Keys m) : tA2 (En S cs a b c x2 x3 x4 (.val (eO.d (ordK m))) (.val (.str n)) x7 x8 (.own (mD (rm m n))) x10 x11 x12 x13 x14 x15) = .ok (.val (.bl false)) (En S cs a b c x2 x3 x4 (.val (eO.d (ordK m))) (.val (.str n)) x7 x8 (.val (mD (rm m n))) x10 x11 x12 x13 x14 x15) := by
  have hf := hm.few
  have hf2 := (hm.rm n).few
  have g := ord_good hm.sub (by omega)
  have w1 := without_spec (n := n) g
  rw [without_ordK] at w1
  have w2 := without_spec (n := "zz") g
  have e2 : rm m "zz" = m := List.filter_eq_self.mpr fun p hp => by
    have : p.1 ≠ "zz" := fun z => no_zz hm (List.mem_map.mpr ⟨p, hp, z⟩)
    simp [this]
  rw [without_ordK, e2] at w2
  have o1 := order_spec (m := rm m n) (hm.rm n).nd (by omega)
  have al : d__law_alike [.lst [eO.d (ordK (rm m n)), eO.d (ordK m)], .lst [eO.d (ordK (rm m n)), eO.d (ordK m)]] = .ok (.val (.bl true)) [.lst [eO.d (ordK (rm m n)), eO.d (ordK m)], .lst [eO.d (ordK (rm m n)), eO.d (ordK m)]] := by
    have N := Nice.lst (Enc.toNiceL (e := eO) (l := [ordK (rm m n), ordK m]) fun x hx => by
      rcases List.mem_cons.mp hx with rfl | hx
      · exact eO_good (hm.rm n).sub (by omega)
      · rw [List.mem_singleton.mp hx]; exact eO_good hm.sub (by omega))
    refine alike_nice N (by decide) ?_
    have h1 := ord_wt (hm.rm n).sub (by omega)
    have h2 := ord_wt hm.sub (by omega)
    show eO.wt (ordK (rm m n)) + 1 + (eO.wt (ordK m) + 1 + 0) ≤ 2 ^ 20
    omega
  simp [w1, w2, o1, al]
abbrev g10 : Ev := (dB fDict (dCons (dOp2 opAdd (dOp1 opItemsL (dVar 9)) (dLst (dCons (dTup (dCons (dVar 6) (dCons (dOp2 opIx (dVar 4) (dVar 7)) dNil))) dNil))) dNil))
theorem items_m (m : M) : opItemsL (mD m) = some (.new (.lst (m.map fun p => .tup [keyD (kS p.1), .int p.2]))) := by
  show some (RV.new (.lst (List.zipWith (fun k x => .tup [keyD k, x]) (m.map fun p => kS p.1) (m.map fun p => D.int p.2)))) = _
  congr 3
  induction m with
  | nil => rfl
  | cons p m ih => rw [List.map_cons, List.map_cons, List.zipWith_cons_cons, ih]; rfl
theorem add_items (m : M) (n : Str) (k : Int) (hl : m.length ≤ 100) : opAdd (.lst (m.map fun p => .tup [keyD (kS p.1), .int p.2])) (.lst [.tup [.str n, .int k]]) = some (.new (.lst ((m ++ [(n, k)]).map fun p => .tup [keyD (kS p.1), .int p.2]))) := by
  have : m.length + 1 ≤ sizeLine := by rw [sizeLine_eq]; omega
  rw [List.map_append]
  simp [this, kS, keyD]
theorem more_nd {m : M} (hm : Keys m) (hn : n ∉ m.map (·.1)) (k : Int) : ((m ++ [(n, k)]).map (·.1)).Nodup := by
  rw [List.map_append]
  refine List.nodup_append.mpr ⟨hm.nd, List.nodup_cons.mpr ⟨List.not_mem_nil, List.nodup_nil⟩, fun x hx y hy => ?_⟩
  rw [List.mem_singleton.mp hy]
  intro z
  have z' : x = n := z
  rw [z'] at hx
  exact hn hx
theorem dict_more {m : M} (hm : Keys m) (hn : n ∉ m.map (·.1)) (k : Int) : fDict [.lst ((m ++ [(n, k)]).map fun p => .tup [keyD (kS p.1), .int p.2])] = some (.new (mD (m ++ [(n, k)]))) := by
  have := fDict_flat (vd := D.int) kS_inj (m ++ [(n, k)])
  rw [puts_self (more_nd hm hn k)] at this
  exact this
theorem s10 {f : Int} (hm : Keys m) (hf : (o, f) ∈ m) (h10 : NB x10) : dSet 10 g10 (En S cs a b c x2 x3 (.val (mD m)) x5 (.val (.str n)) (.val (.str o)) x8 (.val (mD (rm m n))) x10 x11 x12 x13 x14 x15) = .nx (En S cs a b c x2 x3 (.val (mD m)) x5 (.val (.str n)) (.val (.str o)) x8 (.val (mD (rm m n))) (.own (mD (rm m n ++ [(n, f)]))) x11 x12 x13 x14 x15) := by
  have ix := ix_m hm.nd hf
  have hl := (hm.rm n).few
  have ad := add_items (rm m n) n f (by omega)
  have fd := dict_more (hm.rm n) (not_rm m n) f
  have it := items_m (rm m n)
  refine set_own (ρ1 := En S cs a b c x2 x3 (.val (mD m)) x5 (.val (.str n)) (.val (.str o)) x8 (.val (mD (rm m n))) x10 x11 x12 x13 x14 x15) ?_ (setV_nb rfl h10)
  simp [it, ix, ad, fd, -List.map_append]
abbrev tA3 : Ev := (dNot (dTru (dCall [false, false] d__law_alike (dCons (dCall [false, false, false] d_same_as (dCons (dVar 5) (dCons (dVar 6) (dCons (dVar 7) dNil)))) (dCons (dCall [false] d__law_order (dCons (dVar 10) dNil)) dNil)))))
theorem rm_mem {m : M} {o : Str} {f : Int} (h : (o, f) ∈ m) (hne : n ≠ o) : (o, f) ∈ rm m n := List.mem_filter.mpr ⟨h, by
  have : ¬ o = n := fun z => hne z.symm
  simp [this]⟩
theorem rm_perm {m : M} (hm : Keys m) {f : Int} (h : (n, f) ∈ m) : (rm m n ++ [(n, f)]).Perm m := by
  have nd2 : (rm m n ++ [(n, f)]).Nodup := nodup_of (·.1) (more_nd (hm.rm n) (not_rm m n) f)
  refine (List.perm_ext_iff_of_nodup nd2 (nodup_of (·.1) hm.nd)).mpr fun p => ?_
  rw [List.mem_append, List.mem_singleton]
  constructor
  · rintro (h1 | rfl)
    · exact (List.mem_filter.mp h1).1
    · exact h
  · intro h1
    by_cases z : p.1 = n
    · right
      have : p = (p.1, p.2) := rfl
      rw [this, z] at h1
      rw [this, z, fn_of hm.nd h1 h]
    · left
      exact List.mem_filter.mpr ⟨h1, by simp [z]⟩
theorem same_ordK {m : M} (hm : Keys m) {f : Int} (hn : n ∈ m.map (·.1)) (hf : (o, f) ∈ m) : sameAs (ordK m) n o = ordK (rm m n ++ [(n, f)]) := by
  unfold sameAs
  by_cases h : n = o
  · subst h
    rw [if_pos rfl]
    exact (ordK_perm (rm_perm hm hf)).symm
  · rw [if_neg h, without_ordK]
    have hf2 := rm_mem hf h
    rw [lotOf_ordK (hm.rm n).nd hf2]
    have hv : f ∈ vals (rm m n) := mem_vals.mpr (List.mem_map.mpr ⟨_, hf2, rfl⟩)
    show within (ordK (rm m n)) n ((vals (rm m n)).idxOf f) = _
    rw [idx_cnt (vals_pw _) hv]
    exact within_ordK hv
theorem t3 {f : Int} (hm : Keys m) (hn : n ∈ m.map (·.1)) (hf : (o, f) ∈ m) : tA3 (En S cs a b c x2 x3 x4 (.val (eO.d (ordK m))) (.val (.str n)) (.val (.str o)) x8 x9 (.own (mD (rm m n ++ [(n, f)]))) x11 x12 x13 x14 x15) = .ok (.val (.bl false)) (En S cs a b c x2 x3 x4 (.val (eO.d (ordK m))) (.val (.str n)) (.val (.str o)) x8 x9 (.val (mD (rm m n ++ [(n, f)]))) x11 x12 x13 x14 x15) := by
  have hfew := hm.few
  have hf2 := (hm.rm n).few
  have g := ord_good hm.sub (by omega)
  have nb : n ∈ base := by
    obtain ⟨p, hp, rfl⟩ := List.mem_map.mp hn
    exact hm.sub p hp
  have sub : ∀ p ∈ rm m n ++ [(n, f)], p.1 ∈ base := fun p hp => by
    rcases List.mem_append.mp hp with hp | hp
    · exact (hm.rm n).sub p hp
    · rw [List.mem_singleton.mp hp]; exact nb
  have s := same_spec (n := n) (m := o) (base_ok _ (hm.sub _ hf)) g fun hne => ⟨_, by rw [without_ordK]; exact lotOf_ordK (hm.rm n).nd (rm_mem hf hne)⟩
  rw [same_ordK hm hn hf] at s
  have ll : (rm m n ++ [(n, f)]).length ≤ 7 := by rw [List.length_append]; simp; omega
  have o1 := order_spec (m := rm m n ++ [(n, f)]) (more_nd (hm.rm n) (not_rm m n) f) (by omega)
  have al : d__law_alike [eO.d (ordK (rm m n ++ [(n, f)])), eO.d (ordK (rm m n ++ [(n, f)]))] = .ok (.val (.bl true)) [eO.d (ordK (rm m n ++ [(n, f)])), eO.d (ordK (rm m n ++ [(n, f)]))] :=
    Enc.alike_spec (e := eO) (eO_good sub (by omega)) (by decide) (by have := ord_wt sub ll; omega)
  simp [s, o1, al]
end
end K09

/-! law_k09: the last tests of a lap. -/
namespace K09
open PySem PySem.Spec L2 DL
def spr (m : M) : M := m.map fun p => (p.1, 2 * p.2)
theorem spr_names (m : M) : (spr m).map (·.1) = m.map (·.1) := by unfold spr; rw [List.map_map]; rfl
theorem ordK_spr (m : M) : ordK (spr m) = ordK m := ordK_mono fun a b h => by omega
structure Big (m : M) : Prop where
  nd : (m.map (·.1)).Nodup
  few : m.length ≤ 6
  sub : ∀ p ∈ m, p.1 ∈ base
  even : Even6 m
theorem big_spr {m : M} (h : Keys m) : Big (spr m) := by
  refine ⟨by rw [spr_names]; exact h.nd, by unfold spr; rw [List.length_map]; exact h.few, fun p hp => ?_, fun k hk => ?_⟩
  · obtain ⟨q, hq, rfl⟩ := List.mem_map.mp hp
    exact h.sub q hq
  · rw [mem_vals] at hk
    obtain ⟨p, hp, rfl⟩ := List.mem_map.mp hk
    obtain ⟨q, hq, rfl⟩ := List.mem_map.mp hp
    have := h.low q hq
    show (2 * q.2) % 2 = 0 ∧ 0 ≤ 2 * q.2 ∧ 2 * q.2 ≤ 6
    omega
def keysFrom (c : Int) : List Int := (List.range (9 - c).toNat).map fun (j : Nat) => c + (j : Int)
theorem mem_keysFrom {c k : Int} : k ∈ keysFrom c ↔ c ≤ k ∧ k < 9 := by
  unfold keysFrom
  rw [List.mem_map]
  constructor
  · rintro ⟨j, hj, rfl⟩
    rw [List.mem_range] at hj
    omega
  · intro h
    exact ⟨(k - c).toNat, by rw [List.mem_range]; omega, by omega⟩
theorem range_keys {c : Int} (h0 : -1 ≤ c) (h1 : c < 9) : kRange2 [.int c, .int 9] = some ((keysFrom c).map .int) := by
  show (if ((9 : Int) ≤ 1000000 ∧ -1000000 ≤ (9 : Int)) ∧ (c ≤ 1000000 ∧ -1000000 ≤ c) then some ((List.range (9 - c).toNat).map fun (k : Nat) => D.int (c + (k : Int))) else none) = _
  rw [if_pos (by omega)]
  unfold keysFrom
  rw [List.map_map]
  rfl
/-- an order as a key -/
def knO (o : Ord) : NestedKey := .tup (o.map fun l => .tup (l.map .text))
theorem nks_strs : ∀ l : Lot, nks (l.map .str) = some (l.map .text)
  | [] => rfl
  | n :: l => by
    show (match some (NestedKey.text n), nks (l.map .str) with | some k, some ks => some (k :: ks) | _, _ => none) = _
    rw [nks_strs l]
    rfl
theorem nks_lots : ∀ o : Ord, nks (o.map eL.d) = some (o.map fun l => NestedKey.tup (l.map .text))
  | [] => rfl
  | l :: o => by
    have e : nk (eL.d l) = some (.tup (l.map .text)) := by
      show (nks (l.map .str)).map NestedKey.tup = _
      rw [nks_strs l]
      rfl
    show (match nk (eL.d l), nks (o.map eL.d) with | some k, some ks => some (k :: ks) | _, _ => none) = _
    rw [e, nks_lots o]
    rfl
theorem depth_texts : ∀ l : Lot, NestedKey.depthAll (l.map .text) ≤ 1
  | [] => by simp [NestedKey.depthAll]
  | n :: l => by
    have := depth_texts l
    rw [List.map_cons]
    simp only [NestedKey.depthAll, NestedKey.depth]
    omega
theorem depth_lots : ∀ o : Ord, NestedKey.depthAll (o.map fun l => NestedKey.tup (l.map .text)) ≤ 2
  | [] => by simp [NestedKey.depthAll]
  | l :: o => by
    have := depth_lots o
    have := depth_texts l
    rw [List.map_cons]
    simp only [NestedKey.depthAll, NestedKey.depth]
    omega
theorem key_ord : IsKey eO.d knO := by
  refine ⟨fun o => ?_, fun o o' h => ?_⟩
  · show (match nks (o.map eL.d) with | some ks => if (NestedKey.tup ks).depth ≤ 8 then some (NestedKey.tup ks) else none | none => none) = _
    rw [nks_lots o]
    have := depth_lots o
    show (if (NestedKey.tup (o.map fun l => NestedKey.tup (l.map .text))).depth ≤ 8 then some (NestedKey.tup (o.map fun l => NestedKey.tup (l.map .text))) else none) = _
    rw [if_pos (by simp only [NestedKey.depth]; omega)]
    rfl
  · unfold knO at h
    injection h with h
    have i1 : ∀ l l' : Lot, l.map NestedKey.text = l'.map NestedKey.text → l = l' := by
      intro l
      induction l with
      | nil => intro l' h; cases l' with
        | nil => rfl
        | cons _ _ => cases h
      | cons x l ih => intro l' h; cases l' with
        | nil => cases h
        | cons y l' =>
          rw [List.map_cons, List.map_cons] at h
          injection h with h1 h2
          injection h1 with h1
          rw [h1, ih l' h2]
    induction o generalizing o' with
    | nil => cases o' with
      | nil => rfl
      | cons _ _ => cases h
    | cons x o ih => cases o' with
      | nil => cases h
      | cons y o' =>
        rw [List.map_cons, List.map_cons] at h
        injection h with h1 h2
        injection h1 with h1
        rw [i1 _ _ h1, ih o' h2]
theorem more_sub {m : M} {n : Str} (hm : ∀ p ∈ m, p.1 ∈ base) (hn : n ∈ base) (k : Int) : ∀ p ∈ m ++ [(n, k)], p.1 ∈ base := fun p hp => by
  rcases List.mem_append.mp hp with hp | hp
  · exact hm p hp
  · rw [List.mem_singleton.mp hp]; exact hn
theorem withK_good {m : M} {n : Str} (hm : Big m) (hn : n ∈ base) (k : Int) : eO.good (withK m n k) := eO_good (more_sub hm.sub hn k) (by rw [List.length_append]; have := hm.few; simp; omega)
theorem withK_tup {m : M} {n : Str} (k : Int) : tupKey (eO.p (withK m n k)) = true := by
  have : withK m n k ≠ [] := fun z => by
    have h : k ∈ vals (m ++ [(n, k)]) := mem_vals.mpr (by simp)
    unfold withK ordK at z
    rw [List.map_eq_nil_iff.mp z] at h
    cases h
  cases e : withK m n k with
  | nil => exact absurd e this
  | cons l o => rfl
/-- the due orders of a dict, sorted -/
theorem sort_due {m : M} {n : Str} {c : Int} (hm : Big m) (hn : n ∈ base) (hc : c < 9) (h0 : -1 ≤ c) : ∃ d, fDict [.lst (((keysFrom c).map (withK m n)).map fun o => .tup [eO.d o, .bl true])] = some (.new d) ∧ fSorted [d] = some (.new (.lst ((eO.sort ((puts (((keysFrom c).map (withK m n)).map fun o => (o, true))).map (·.1))).map eO.d))) := by
  have f := fDict_tup (vd := D.bl) key_ord (((keysFrom c).map (withK m n)).map fun o => (o, true))
  rw [List.map_map] at f
  refine ⟨_, f, ?_⟩
  have ne : puts (((keysFrom c).map (withK m n)).map fun o => (o, true)) ≠ [] := fun z => by
    have h : withK m n c ∈ (puts (((keysFrom c).map (withK m n)).map fun o => (o, true))).map (·.1) := puts_keys.mpr (by
      rw [List.map_map, List.map_map]
      exact List.mem_map.mpr ⟨c, mem_keysFrom.mpr ⟨Int.le_refl _, hc⟩, rfl⟩)
    rw [z] at h
    cases h
  rw [dctD_ne ne]
  have lenp := puts_length (((keysFrom c).map (withK m n)).map fun o => (o, true))
  have lenk : (keysFrom c).length ≤ 10 := by unfold keysFrom; rw [List.length_map, List.length_range]; omega
  rw [List.length_map, List.length_map] at lenp
  refine Enc.fSort (e := eO) (by show some ((puts (((keysFrom c).map (withK m n)).map fun o => (o, true))).map fun p => eO.d p.1) = some (((puts (((keysFrom c).map (withK m n)).map fun o => (o, true))).map (·.1)).map eO.d); rw [List.map_map (l := puts _)]; rfl) (by decide) (by rw [List.length_map]; omega) (.inl fun o ho => ?_)
  rw [puts_keys, List.map_map, List.map_map] at ho
  obtain ⟨k, _, rfl⟩ := List.mem_map.mp ho
  exact withK_tup k
theorem told_good {m : M} {n : Str} {c : Int} (hm : Big m) (hn : n ∈ base) (hc : c < 9) {x : Ord} (hx : x ∈ toldL m n c) : eO.good x ∧ tupKey (eO.p x) = true := by
  obtain ⟨k, _, _, rfl⟩ := (told_mem hm.even hc x).mp hx
  exact ⟨withK_good hm hn k, withK_tup k⟩
theorem told_len {m : M} {n : Str} {c : Int} : (toldL m n c).length ≤ 1 + 2 * (vals m).length := by
  have len : ∀ (o : Ord) (m k : Nat), ((List.range' k m).flatMap fun h => [within o n h, ahead o n (h + 1)]).length = 2 * m := by
    intro o m
    induction m with
    | zero => intro k; rfl
    | succ m ih => intro k; rw [List.range'_succ, List.flatMap_cons, List.length_append, ih]; simp; omega
  unfold toldL fromLot
  rw [List.length_append, len, ordK_length]
  have : (if c ∈ vals m then ([] : List Ord) else [ahead (ordK m) n (cnt (vals m) c)]).length ≤ 1 := by split <;> simp
  omega
/-- what is told and what is due, sorted, are the same -/
theorem ne_due {m : M} {n : Str} {c : Int} (hm : Big m) (hn : n ∈ base) (hnm : n ∉ m.map (·.1)) (hc : c < 9) (h0 : -1 ≤ c) :
    fSorted [.lst ((toldL m n c).map eO.d)] = some (.new (.lst ((eO.sort (toldL m n c)).map eO.d))) ∧
    opNe (.lst ((eO.sort (toldL m n c)).map eO.d)) (.lst ((eO.sort ((puts (((keysFrom c).map (withK m n)).map fun o => (o, true))).map (·.1))).map eO.d)) = some (.val (.bl false)) := by
  have vl : (vals m).length ≤ 6 := by
    rw [vals_sd]
    have := sd_length (m.map (·.2))
    rw [List.length_map] at this
    have := hm.few
    omega
  have tl := told_len (m := m) (n := n) (c := c)
  have e := told_sort (m := m) (n := n) (c := c) (due := (keysFrom c).map (withK m n)) hm.even hc hnm fun x => by
    rw [List.mem_map]
    constructor
    · rintro ⟨k, hk, rfl⟩
      exact ⟨k, (mem_keysFrom.mp hk).1, (mem_keysFrom.mp hk).2, rfl⟩
    · rintro ⟨k, h1, h2, rfl⟩
      exact ⟨k, mem_keysFrom.mpr ⟨h1, h2⟩, rfl⟩
  refine ⟨Enc.fSort (e := eO) rfl (by decide) (by omega) (.inl fun x hx => (told_good hm hn hc hx).2), ?_⟩
  rw [← e]
  have := Enc.opNeL (e := eO) (l := eO.sort (toldL m n c)) (l' := eO.sort (toldL m n c)) (by decide) (fun x hx => (told_good hm hn hc ((Enc.mem_sort eO).mp hx)).1) (fun x hx => (told_good hm hn hc ((Enc.mem_sort eO).mp hx)).1)
  rw [decide_eq_true rfl] at this
  exact this
theorem any_told {m : M} (n : Str) (hm : Keys m) : anyw (ordK m) n = toldL (spr m) n (-1) := by
  have b := big_spr hm
  have z : (-1 : Int) ∉ vals (spr m) := fun z => by have := b.even _ z; omega
  have c0 : cnt (vals (spr m)) (-1) = 0 := cnt_zero fun k hk => by have := b.even _ hk; omega
  unfold anyw toldL
  rw [if_neg z, c0, ordK_spr]
theorem vals_spr (m : M) : vals (spr m) = (vals m).map fun k => 2 * k := by
  rw [vals_sd, vals_sd, ← sd_map (fun a b h => by omega)]
  unfold spr
  rw [List.map_map, List.map_map]
  rfl
theorem cnt_spr (m : M) (f : Int) : cnt (vals (spr m)) (2 * f) = cnt (vals m) f := by
  rw [vals_spr]
  unfold cnt
  rw [List.countP_map]
  refine List.countP_congr fun k _ => ?_
  simp
theorem led_told {m : M} {n : Str} {f : Int} (hm : Keys m) (hf : (n, f) ∈ m) : ledOn (ordK m) n ((vals m).idxOf f) = toldL (spr (rm m n)) n (2 * f) := by
  have hv : f ∈ vals m := mem_vals.mpr (List.mem_map.mpr ⟨_, hf, rfl⟩)
  have hmem : 2 * f ∈ vals (spr (rm m n)) ↔ f ∈ vals (rm m n) := by
    rw [vals_spr, List.mem_map]
    constructor
    · rintro ⟨k, hk, e⟩
      rw [show f = k by omega]; exact hk
    · exact fun h => ⟨f, h, rfl⟩
  have p1 := ordK_perm (rm_perm hm hf)
  have hvv : vals m = vals (rm m n ++ [(n, f)]) := by
    rw [vals_sd, vals_sd]
    exact sd_eq (sd_pw _) fun k => by rw [mem_sd]; exact ((rm_perm hm hf).map (·.2)).mem_iff.symm
  unfold ledOn toldL
  rw [without_ordK, ordK_spr, cnt_spr, ordK_length, ordK_length, idx_cnt (vals_pw m) hv]
  by_cases h : f ∈ vals (rm m n)
  · have e : vals m = vals (rm m n) := by
      rw [hvv, vals_more, sd_same (mem_vals.mp h), vals_sd]
    rw [if_pos (hmem.mpr h), if_neg (by rw [e]; omega), e]
    rfl
  · have e : vals m = (vals (rm m n)).take (cnt (vals (rm m n)) f) ++ [f] ++ (vals (rm m n)).drop (cnt (vals (rm m n)) f) := by
      rw [hvv, vals_more, sd_more (fun z => h (mem_vals.mpr z)), vals_sd]
    have l : (vals m).length = (vals (rm m n)).length + 1 := by
      have := congrArg List.length e
      have hl := cnt_le (vals (rm m n)) f
      simp at this
      omega
    have c : cnt (vals m) f = cnt (vals (rm m n)) f := by
      have : cnt (vals m) f = cnt (vals (rm m n)) f + cnt [f] f := by
        have key : cnt (vals m) f = cnt ((vals (rm m n)).take (cnt (vals (rm m n)) f)) f + cnt [f] f + cnt ((vals (rm m n)).drop (cnt (vals (rm m n)) f)) f := by
          conv => lhs; rw [e]
          unfold cnt
          rw [List.countP_append, List.countP_append]
        have key2 : cnt (vals (rm m n)) f = cnt ((vals (rm m n)).take (cnt (vals (rm m n)) f)) f + cnt ((vals (rm m n)).drop (cnt (vals (rm m n)) f)) f := by
          conv => lhs; rw [← List.take_append_drop (cnt (vals (rm m n)) f) (vals (rm m n))]
          unfold cnt
          rw [List.countP_append]
        omega
      rw [this]
      have : cnt [f] f = 0 := by unfold cnt; simp
      omega
    rw [if_neg (fun z => h (hmem.mp z)), if_pos (by omega), c]
end K09

/-! law_k09: a lap. -/
namespace K09
open PySem PySem.Spec L2 DL
section
variable (S : D) {cs : List Int} {a b c : Int} {m q : M} {n o : Str} {x2 x3 x4 x5 x6 x7 x8 x9 x10 x11 x12 x13 x14 x15 : Slot}
abbrev E11 : Ev := (dTup (dCons (dVar 16) (dCons (dOp2 opMulA (dC (.int 2)) (dOp2 opIx (dVar 9) (dVar 16))) dNil)))
abbrev g11 : Ev := (dB fDict (dCons (orE (dLcK 9 [16] (gtName 16) dYes E11) (orE (dLcD .keys 9 [16] (gtName 16) dYes E11) (dLc (iSeq (dVar 9)) [16] (gtName 16) dYes E11))) dNil))
theorem s11 (hm : Keys m) (h11 : NB x11) : dSet 11 g11 (En S cs a b c x2 x3 x4 x5 x6 x7 x8 (.val (mD m)) x10 x11 x12 x13 x14 x15) = .nx (En S cs a b c x2 x3 x4 x5 x6 x7 x8 (.val (mD m)) x10 (.own (mD (spr m))) x12 x13 x14 x15) := by
  have lc := names_m (kf := kS) (vd := D.int) (m := m) (i := 9) (vs := [16]) (ft := gtName 16) (ge := E11) (X := dLc (iSeq (dVar 9)) [16] (gtName 16) dYes E11) (ρ := En S cs a b c x2 x3 x4 x5 x6 x7 x8 (.val (mD m)) x10 x11 x12 x13 x14 x15)
    (g := fun p : Str × Int => .tup [keyD (kS p.1), .int (2 * p.2)]) rfl rfl (by have := hm.few; omega) rfl rfl fun p hp => ⟨[.val S, .own (bagD a b c cs), x2, x3, x4, x5, x6, x7, x8, .val (mD m), x10, x11, x12, x13, x14, x15, .val (.str p.1), .non, .non, .non, .non], by simp [kS, keyD], ⟨.val (.tup [keyD (kS p.1), .int (2 * p.2)]), (by
      have ix := ix_m hm.nd hp
      have cm : CMul 2 p.2 = True := by rw [CMul_ap]; simp only [eq_iff_iff, iff_true]; left; have := hm.low p hp; omega
      simp [ix, cm, kS, keyD]), by simp⟩, rfl⟩
  have e : (m.map fun p : Str × Int => D.tup [keyD (kS p.1), .int (2 * p.2)]) = (spr m).map fun p => .tup [keyD (kS p.1), .int p.2] := by
    unfold spr; rw [List.map_map]; rfl
  rw [e] at lc
  refine set_own (dB1 lc rfl (fDict_flat (vd := D.int) kS_inj (spr m))) ?_
  rw [puts_self (by rw [spr_names]; exact hm.nd)]
  exact setV_nb rfl h11
abbrev gDue (lo : Ev) : Ev := (dLc (iArgs kRange2 (dCons lo (dCons (dC (.int 9)) dNil))) [17] (gtName 17) dYes (dCall [false] d__law_order (dCons (dB fDict (dCons (dOp2 opAdd (dOp1 opItemsL (dVar 11)) (dLst (dCons (dTup (dCons (dVar 6) (dCons (dVar 17) dNil))) dNil))) dNil)) dNil)))
theorem due_lc {lo : Ev} {k : Int} {x11 : Slot} (hm : Keys m) (hn : n ∉ m.map (·.1)) (h0 : -1 ≤ k) (h1 : k < 9) (hx : x11 = .own (mD (spr m)) ∨ x11 = .val (mD (spr m))) (hl : lo (En S cs a b c x2 x3 x4 x5 (.val (.str n)) x7 x8 x9 x10 x11 x12 x13 x14 x15) = .ok (.val (.int k)) (En S cs a b c x2 x3 x4 x5 (.val (.str n)) x7 x8 x9 x10 x11 x12 x13 x14 x15)) :
    gDue lo (En S cs a b c x2 x3 x4 x5 (.val (.str n)) x7 x8 x9 x10 x11 x12 x13 x14 x15) = .ok (.new (.lst (((keysFrom k).map (withK (spr m) n)).map eO.d))) (En S cs a b c x2 x3 x4 x5 (.val (.str n)) x7 x8 x9 x10 x11 x12 x13 x14 x15) := by
  have it : iArgs kRange2 (dCons lo (dCons (dC (.int 9)) dNil)) (En S cs a b c x2 x3 x4 x5 (.val (.str n)) x7 x8 x9 x10 x11 x12 x13 x14 x15) = .ok ((keysFrom k).map .int) (En S cs a b c x2 x3 x4 x5 (.val (.str n)) x7 x8 x9 x10 x11 x12 x13 x14 x15) := by
    have r := range_keys h0 h1
    simp [hl, r, -List.map_map]
  have lenk : (keysFrom k).length ≤ 10 := by unfold keysFrom; rw [List.length_map, List.length_range]; omega
  have hb := big_spr hm
  have hn2 : n ∉ (spr m).map (·.1) := by rw [spr_names]; exact hn
  have itm := items_m (spr m)
  rw [List.map_map]
  refine lc_m (g := fun k => eO.d (withK (spr m) n k)) it rfl (by omega) rfl rfl fun k2 _ => ?_
  have ad := add_items (spr m) n k2 (by have := hb.few; omega)
  have nd : ((spr m ++ [(n, k2)]).map (·.1)).Nodup := by
    rw [List.map_append]
    refine List.nodup_append.mpr ⟨hb.nd, List.nodup_cons.mpr ⟨List.not_mem_nil, List.nodup_nil⟩, fun x hx y hy => ?_⟩
    rw [List.mem_singleton.mp hy]
    intro z
    have z' : x = n := z
    rw [z'] at hx
    exact hn2 hx
  have fd : fDict [.lst ((spr m ++ [(n, k2)]).map fun p => .tup [keyD (kS p.1), .int p.2])] = some (.new (mD (spr m ++ [(n, k2)]))) := by
    have := fDict_flat (vd := D.int) kS_inj (spr m ++ [(n, k2)])
    rw [puts_self nd] at this
    exact this
  have o1 := order_spec (m := spr m ++ [(n, k2)]) nd (by rw [List.length_append]; have := hb.few; simp; omega)
  refine ⟨[.val S, .own (bagD a b c cs), x2, x3, x4, x5, .val (.str n), x7, x8, x9, x10, x11, x12, x13, x14, x15, .non, .val (.int k2), .non, .non, .non], by simp, ⟨.val (eO.d (withK (spr m) n k2)), ?_, by simp⟩, rfl⟩
  rcases hx with rfl | rfl
  · simp [itm, ad, fd, o1, withK, -List.map_append]
  · simp [itm, ad, fd, o1, withK, -List.map_append]
theorem s13 (hm : Keys m) (h13 : NB x13) : dSet 13 (dCall [false, false] d_anywhere (dCons (dCall [false] d__law_order (dCons (dVar 9) dNil)) (dCons (dVar 6) dNil))) (En S cs a b c x2 x3 x4 x5 (.val (.str n)) x7 x8 (.val (mD m)) x10 x11 x12 x13 x14 x15) =
    .nx (En S cs a b c x2 x3 x4 x5 (.val (.str n)) x7 x8 (.val (mD m)) x10 x11 x12 (.own (.lst ((toldL (spr m) n (-1)).map eO.d))) x14 x15) := by
  have g := ord_good hm.sub (by have := hm.few; omega)
  have an := any_spec (n := n) g
  rw [any_told n hm] at an
  have o1 := order_spec (m := m) hm.nd (by have := hm.few; omega)
  refine set_own (ρ1 := En S cs a b c x2 x3 x4 x5 (.val (.str n)) x7 x8 (.val (mD m)) x10 x11 x12 x13 x14 x15) ?_ (setV_nb rfl h13)
  simp [o1, an]
abbrev gSd (i : Nat) : Ev := (dB fSorted (dCons (dB fDict (dCons (dLc (iSeq (dVar i)) [16] (gtName 16) dYes (dTup (dCons (dVar 16) (dCons (dC (.bl true)) dNil)))) dNil)) dNil))
theorem sd_own {k : Int} (hm : Keys m) (hn : n ∈ base) (h0 : -1 ≤ k) (h1 : k < 9) (i : Nat) (L L' : DL.Env) (hi : iSeq (dVar i) L = .ok (((keysFrom k).map (withK (spr m) n)).map eO.d) L') (hd : idle L' [16] = true) (hw : wipeE L' [16] = L') (hr : restE L' L' [16] = L')
    (hs : ∀ x, ∃ L1, gtName 16 x L' = some L1 ∧ L1[16]? = some (.val x) ∧ wipeE L1 [16] = L') :
    gSd i L = .ok (.new (.lst ((eO.sort ((puts (((keysFrom k).map (withK (spr m) n)).map fun o => (o, true))).map (·.1))).map eO.d))) L' := by
  obtain ⟨d, f, s⟩ := sort_due (big_spr hm) hn h1 h0
  have lenk : (keysFrom k).length ≤ 10 := by unfold keysFrom; rw [List.length_map, List.length_range]; omega
  have lc := lc_m (ge := dTup (dCons (dVar 16) (dCons (dC (.bl true)) dNil))) (g := fun o => .tup [eO.d o, .bl true]) hi hd (by rw [List.length_map]; omega) hw hr fun o _ => by
    obtain ⟨L1, h1, h2, h3⟩ := hs (eO.d o)
    exact ⟨L1, h1, ⟨.val (.tup [eO.d o, .bl true]), by simp [h2], by simp⟩, h3⟩
  exact dB1 (dB1 lc rfl f) rfl s
abbrev tA4 : Ev := (dOrT (dOp2 opNe (dB fSorted (dCons (dVar 13) dNil)) (gSd 12)) (dOp2 opNe (dB fLen (dCons (dVar 13) dNil)) (dOp2 opAdd (dOp2 opMulA (dC (.int 2)) (dB fLen (dCons (dCall [false] d__law_order (dCons (dVar 9) dNil)) dNil))) (dC (.int 1)))))
theorem any_len (o : Ord) (n : Str) : (anyw o n).length = 2 * o.length + 1 := by
  have len : ∀ (m k : Nat), ((List.range' k m).flatMap fun h => [within o n h, ahead o n (h + 1)]).length = 2 * m := by
    intro m
    induction m with
    | zero => intro k; rfl
    | succ m ih => intro k; rw [List.range'_succ, List.flatMap_cons, List.length_append, ih]; simp; omega
  unfold anyw fromLot
  rw [List.length_append, len]
  simp
  omega
theorem t4 (hm : Keys m) (hn : n ∈ base) (hnm : n ∉ m.map (·.1)) : tA4 (En S cs a b c x2 x3 x4 x5 (.val (.str n)) x7 x8 (.val (mD m)) x10 x11 (.own (.lst (((keysFrom (-1)).map (withK (spr m) n)).map eO.d))) (.own (.lst ((toldL (spr m) n (-1)).map eO.d))) x14 x15) =
    .ok (.val (.bl false)) (En S cs a b c x2 x3 x4 x5 (.val (.str n)) x7 x8 (.val (mD m)) x10 x11 (.val (.lst (((keysFrom (-1)).map (withK (spr m) n)).map eO.d))) (.own (.lst ((toldL (spr m) n (-1)).map eO.d))) x14 x15) := by
  obtain ⟨f1, f2⟩ := ne_due (big_spr hm) hn (by rw [spr_names]; exact hnm) (c := -1) (by decide) (by decide)
  have sdv := sd_own hm hn (k := -1) (by decide) (by decide) 12 (En S cs a b c x2 x3 x4 x5 (.val (.str n)) x7 x8 (.val (mD m)) x10 x11 (.own (.lst (((keysFrom (-1)).map (withK (spr m) n)).map eO.d))) (.own (.lst ((toldL (spr m) n (-1)).map eO.d))) x14 x15)
    (En S cs a b c x2 x3 x4 x5 (.val (.str n)) x7 x8 (.val (mD m)) x10 x11 (.val (.lst (((keysFrom (-1)).map (withK (spr m) n)).map eO.d))) (.own (.lst ((toldL (spr m) n (-1)).map eO.d))) x14 x15) (by simp) rfl rfl rfl fun x => ⟨[.val S, .own (bagD a b c cs), x2, x3, x4, x5, .val (.str n), x7, x8, .val (mD m), x10, x11, .val (.lst (((keysFrom (-1)).map (withK (spr m) n)).map eO.d)), .own (.lst ((toldL (spr m) n (-1)).map eO.d)), x14, x15, .val x, .non, .non, .non, .non], by simp, rfl, rfl⟩
  have o1 := order_spec (m := m) hm.nd (by have := hm.few; omega)
  have ln : (toldL (spr m) n (-1)).length = 2 * (ordK m).length + 1 := by rw [← any_told n hm, any_len]
  have cm : CMul 2 ((ordK m).length : Int) = True := by
    rw [CMul_ap]; simp only [eq_iff_iff, iff_true]; left
    have := (ord_good hm.sub (by have := hm.few; omega)).1
    omega
  have lnz : ((toldL (spr m) n (-1)).length : Int) = 2 * ((ordK m).length : Int) + 1 := by omega
  have le1 : fLen [eO.d (ordK m)] = some (.val (.int ((ordK m).length : Int))) := by simp [eOd]
  have l13 : dB fSorted (dCons (dVar 13) dNil) (En S cs a b c x2 x3 x4 x5 (.val (.str n)) x7 x8 (.val (mD m)) x10 x11 (.own (.lst (((keysFrom (-1)).map (withK (spr m) n)).map eO.d))) (.own (.lst ((toldL (spr m) n (-1)).map eO.d))) x14 x15) = _ := dB1 (r := .loc 13) rfl rfl f1
  refine (orT_no (op2_ok l13 sdv rfl rfl f2)).trans ?_
  simp [o1, cm, lnz, le1, -List.map_map]
theorem s14 {f : Int} (hm : Keys m) (hn : n ∉ m.map (·.1)) (h4 : opIx (mD q) (.str n) = some (.val (.int f))) (hf : 0 ≤ f ∧ f < 4) (h14 : NB x14) : dSet 14 (gDue (dOp2 opMulA (dC (.int 2)) (dOp2 opIx (dVar 4) (dVar 6)))) (En S cs a b c x2 x3 (.val (mD q)) x5 (.val (.str n)) x7 x8 x9 x10 (.own (mD (spr m))) x12 x13 x14 x15) =
    .nx (En S cs a b c x2 x3 (.val (mD q)) x5 (.val (.str n)) x7 x8 x9 x10 (.own (mD (spr m))) x12 x13 (.own (.lst (((keysFrom (2 * f)).map (withK (spr m) n)).map eO.d))) x15) := by
  have cm : CMul 2 f = True := by rw [CMul_ap]; simp only [eq_iff_iff, iff_true]; left; omega
  exact set_own (due_lc S hm hn (by omega) (by omega) (.inl rfl) (by simp [h4, cm])) (setV_nb rfl h14)
abbrev tA5 : Ev := (dOp2 opNe (dB fSorted (dCons (dCall [false, false] d_led_on (dCons (dVar 5) (dCons (dVar 6) dNil))) dNil)) (gSd 14))
theorem tt5 {q : M} {f : Int} (hq : Keys q) (hf : (n, f) ∈ q) : tA5 (En S cs a b c x2 x3 x4 (.val (eO.d (ordK q))) (.val (.str n)) x7 x8 x9 x10 x11 x12 x13 (.own (.lst (((keysFrom (2 * f)).map (withK (spr (rm q n)) n)).map eO.d))) x15) =
    .ok (.val (.bl false)) (En S cs a b c x2 x3 x4 (.val (eO.d (ordK q))) (.val (.str n)) x7 x8 x9 x10 x11 x12 x13 (.val (.lst (((keysFrom (2 * f)).map (withK (spr (rm q n)) n)).map eO.d))) x15) := by
  have fl := hq.low _ hf
  have f0 : 0 ≤ f ∧ f < 4 := fl
  have nb := hq.sub _ hf
  have hm := hq.rm n
  obtain ⟨f1, f2⟩ := ne_due (big_spr hm) nb (by rw [spr_names]; exact not_rm q n) (c := 2 * f) (by omega) (by omega)
  have sdv := sd_own hm nb (k := 2 * f) (by omega) (by omega) 14 (En S cs a b c x2 x3 x4 (.val (eO.d (ordK q))) (.val (.str n)) x7 x8 x9 x10 x11 x12 x13 (.own (.lst (((keysFrom (2 * f)).map (withK (spr (rm q n)) n)).map eO.d))) x15)
    (En S cs a b c x2 x3 x4 (.val (eO.d (ordK q))) (.val (.str n)) x7 x8 x9 x10 x11 x12 x13 (.val (.lst (((keysFrom (2 * f)).map (withK (spr (rm q n)) n)).map eO.d))) x15) (by simp) rfl rfl rfl fun x => ⟨[.val S, .own (bagD a b c cs), x2, x3, x4, .val (eO.d (ordK q)), .val (.str n), x7, x8, x9, x10, x11, x12, x13, .val (.lst (((keysFrom (2 * f)).map (withK (spr (rm q n)) n)).map eO.d)), x15, .val x, .non, .non, .non, .non], by simp, rfl, rfl⟩
  have g := ord_good hq.sub (by have := hq.few; omega)
  have led := led_spec (n := n) (base_ok n nb) g (lotOf_ordK hq.nd hf) (by have h1 := List.idxOf_le_length (l := vals q) (a := f); have h2 := vals_few hq; omega)
  rw [led_told hq hf] at led
  have l5 : dB fSorted (dCons (dCall [false, false] d_led_on (dCons (dVar 5) (dCons (dVar 6) dNil))) dNil) (En S cs a b c x2 x3 x4 (.val (eO.d (ordK q))) (.val (.str n)) x7 x8 x9 x10 x11 x12 x13 (.own (.lst (((keysFrom (2 * f)).map (withK (spr (rm q n)) n)).map eO.d))) x15) = .ok (.new (.lst ((eO.sort (toldL (spr (rm q n)) n (2 * f))).map eO.d))) (En S cs a b c x2 x3 x4 (.val (eO.d (ordK q))) (.val (.str n)) x7 x8 x9 x10 x11 x12 x13 (.own (.lst (((keysFrom (2 * f)).map (withK (spr (rm q n)) n)).map eO.d))) x15) := by
    refine dB1 (r := .new (.lst ((toldL (spr (rm q n)) n (2 * f)).map eO.d))) ?_ rfl f1
    simp [led]
  exact op2_ok l5 sdv rfl rfl f2
end
end K09

/-! law_k09: all tuples, the end. -/
namespace K09
open PySem PySem.Spec L2 DL
abbrev eT : Enc (List Int) := Enc.seq Enc.int
def stepT (F : List (List Int)) : List (List Int) := F.flatMap fun t => [0, 1, 2].map fun j => t ++ [j]
theorem lists_map {β : Type} (f : β → List D) : ∀ l : List β, lists (l.map fun b => .lst (f b)) = some (l.map f)
  | [] => rfl
  | b :: l => by
    rw [List.map_cons]
    show (lists (l.map fun b => .lst (f b))).map (f b :: ·) = _
    rw [lists_map f l]
    rfl
theorem fSumL_new {ls : List D} {xss : List (List D)} (h : lists ls = some xss) (hn : xss ≠ []) (hl : xss.flatten.length ≤ sizeLine) : fSumL [.lst ls, .lst []] = some (.new (.lst xss.flatten)) := by
  unfold fSumL
  dsimp only
  rw [h]
  cases xss with
  | nil => exact absurd rfl hn
  | cons x xs =>
    dsimp only
    rw [if_pos (by simpa using hl), List.nil_append]
abbrev gIn : Ev := (dLc (iArgs kRange1 (dCons (dVar 1) dNil)) [5] (gtName 5) dYes (dOp2 opAdd (dVar 4) (dTup (dCons (dVar 5) dNil))))
abbrev aB : Sv := (dSet 2 (dSumL (dCons (dLc (iSeq (dVar 2)) [4] (gtName 4) dYes gIn) (dCons (dLst dNil) dNil))))
theorem step_spec {F : List (List Int)} {x3 : Slot} (hF : F ≠ []) (hl : F.length ≤ 100) (ht : ∀ t ∈ F, t.length ≤ 10) : aB [.val (.int 3), .val (.int 3), .own (.lst (F.map eT.d)), x3, .non, .non] = .nx [.val (.int 3), .val (.int 3), .own (.lst ((stepT F).map eT.d)), x3, .non, .non] := by
  have r : kRange1 [.int 3] = some (([0, 1, 2] : List Int).map .int) := rfl
  have inn : ∀ t ∈ F, gIn [.val (.int 3), .val (.int 3), .val (.lst (F.map eT.d)), x3, .val (eT.d t), .non] = .ok (.new (.lst (([0, 1, 2] : List Int).map fun j => eT.d (t ++ [j])))) [.val (.int 3), .val (.int 3), .val (.lst (F.map eT.d)), x3, .val (eT.d t), .non] := fun t h =>
    lc_m (f := D.int) (by simp [r]) rfl (by decide) rfl rfl fun j _ => ⟨[.val (.int 3), .val (.int 3), .val (.lst (F.map eT.d)), x3, .val (eT.d t), .val (.int j)], by simp, ⟨.val (eT.d (t ++ [j])), by
      have : t.length + 1 ≤ sizeLine := by rw [sizeLine_eq]; have := ht t h; omega
      have e : eT.d t = .tup (t.map .int) := rfl
      have e2 : eT.d (t ++ [j]) = .tup (t.map .int ++ [.int j]) := by show D.tup ((t ++ [j]).map .int) = _; rw [List.map_append]; rfl
      rw [e2]
      simp [e, this], by simp⟩, rfl⟩
  have out : dLc (iSeq (dVar 2)) [4] (gtName 4) dYes gIn [.val (.int 3), .val (.int 3), .own (.lst (F.map eT.d)), x3, .non, .non] = .ok (.new (.lst (F.map fun t => .lst (([0, 1, 2] : List Int).map fun j => eT.d (t ++ [j]))))) [.val (.int 3), .val (.int 3), .val (.lst (F.map eT.d)), x3, .non, .non] :=
    lc_m (f := eT.d) (by simp) rfl (by omega) rfl rfl fun t h => ⟨[.val (.int 3), .val (.int 3), .val (.lst (F.map eT.d)), x3, .val (eT.d t), .non], by simp, ⟨.val (.lst (([0, 1, 2] : List Int).map fun j => eT.d (t ++ [j]))), by rw [inn t h]; rfl, by simp⟩, rfl⟩
  have fl : ((F.map fun t => ([0, 1, 2] : List Int).map fun j => eT.d (t ++ [j])).flatten) = (stepT F).map eT.d := by
    unfold stepT
    rw [List.map_flatMap, ← List.flatMap_def]
    rfl
  have sz : ((F.map fun t => ([0, 1, 2] : List Int).map fun j => eT.d (t ++ [j])).flatten).length ≤ sizeLine := by
    rw [fl, List.length_map, sizeLine_eq]
    have : (stepT F).length = 3 * F.length := by
      unfold stepT
      clear hF hl ht inn out fl
      induction F with
      | nil => rfl
      | cons t F ih => rw [List.flatMap_cons, List.length_append, ih]; simp; omega
    omega
  have sm : fSumL [.lst (F.map fun t => .lst (([0, 1, 2] : List Int).map fun j => eT.d (t ++ [j]))), .lst []] = some (.new (.lst ((stepT F).map eT.d))) := by
    rw [← fl]
    exact fSumL_new (lists_map (fun t => ([0, 1, 2] : List Int).map fun j => eT.d (t ++ [j])) F) (fun z => hF (List.map_eq_nil_iff.mp z)) sz
  refine set_own (ρ1 := [.val (.int 3), .val (.int 3), .val (.lst (F.map eT.d)), x3, .non, .non]) ?_ rfl
  simp [out, sm, -s_dLc, -List.map_map, -List.map_cons, -List.map_nil]
theorem go_steps : ∀ (ds : List D) (F : List (List Int)) (x3 : Slot), NB x3 → F ≠ [] → F.length * 3 ^ ds.length ≤ 27 → (∀ t ∈ F, t.length + ds.length ≤ 5) → ∃ x3', forGo (gtName 3) aB ds [.val (.int 3), .val (.int 3), .own (.lst (F.map eT.d)), x3, .non, .non] = .nx [.val (.int 3), .val (.int 3), .own (.lst ((ds.foldl (fun F _ => stepT F) F).map eT.d)), x3', .non, .non]
  | [], F, x3, _, _, _, _ => ⟨x3, rfl⟩
  | d :: ds, F, x3, h3, hF, hl, ht => by
    have ln : (stepT F).length = 3 * F.length := by
      unfold stepT
      clear hF hl ht
      induction F with
      | nil => rfl
      | cons t F ih => rw [List.flatMap_cons, List.length_append, ih]; simp; omega
    rw [List.length_cons, Nat.pow_succ] at hl
    obtain ⟨x3', ih⟩ := go_steps ds (stepT F) (.val d) (nb_val _) (fun z => by
      rw [z] at ln
      have : F.length ≠ 0 := fun y => hF (List.length_eq_zero_iff.mp y)
      rw [List.length_nil] at ln
      omega) (by
      have e : 3 * F.length * 3 ^ ds.length = F.length * (3 ^ ds.length * 3) := by rw [Nat.mul_comm 3, Nat.mul_assoc, Nat.mul_comm 3]
      rw [ln, e]
      exact hl) (fun t h => by
      obtain ⟨u, hu, h2⟩ := List.mem_flatMap.mp h
      obtain ⟨j, _, rfl⟩ := List.mem_map.mp h2
      have := ht u hu
      rw [List.length_cons] at this
      rw [List.length_append]
      simp
      omega)
    refine ⟨x3', ?_⟩
    have hp : 0 < 3 ^ ds.length * 3 := Nat.mul_pos (Nat.pow_pos (by decide)) (by decide)
    have hF100 : F.length ≤ 100 := by
      have := Nat.le_mul_of_pos_right F.length hp
      omega
    exact (go_nx (setV_nb rfl h3) (step_spec hF hF100 fun t h => by have := ht t h; omega)).trans ih
def every3 : List (List Int) := stepT (stepT (stepT [[]]))
theorem tuples_spec : d__law_all_tuples [.int 3, .int 3] = .ok (.new (.lst (every3.map eT.d))) [.int 3, .int 3] := by
  obtain ⟨x3', e⟩ := go_steps [.int 0, .int 1, .int 2] [[]] .non nb_non (by decide) (by decide) (by decide)
  have f0 : dSet 2 (dLst (dCons (dTup dNil) dNil)) [.val (.int 3), .val (.int 3), .non, .non, .non, .non] = .nx [.val (.int 3), .val (.int 3), .own (.lst [.tup []]), .non, .non, .non] := by simp
  have f1 : dFor (iArgs kRange1 (dCons (dVar 0) dNil)) (gtName 3) aB [.val (.int 3), .val (.int 3), .own (.lst [.tup []]), .non, .non, .non] = _ := (for_it (show iArgs kRange1 (dCons (dVar 0) dNil) [.val (.int 3), .val (.int 3), .own (.lst [.tup []]), .non, .non, .non] = .ok [.int 0, .int 1, .int 2] [.val (.int 3), .val (.int 3), .own (.lst [.tup []]), .non, .non, .non] by
    have r : kRange1 [.int 3] = some [.int 0, .int 1, .int 2] := rfl
    simp [r])).trans e
  have f2 : dRet (dVar 2) [.val (.int 3), .val (.int 3), .own (.lst (every3.map eT.d)), x3', .non, .non] = .rt (.new (.lst (every3.map eT.d))) [.val (.int 3), .val (.int 3), .non, x3', .non, .non] := by simp
  exact def_rt rfl ((seq_nx f0).trans ((seq_nx f1).trans f2)) (fun i h => by cases h) rfl
end K09

/-! law_k09: the law. -/
namespace K09
open PySem PySem.Spec L2 DL
abbrev rF : Sv := (dRet (dC (.bl false)))
abbrev nX : Sv := (fun ρ => .nx ρ)
abbrev lapB : Sv := (dSeq (dSet 3 g3) (dSeq (dSet 4 g4) (dSeq (dAsg t5 g5) (dSeq (dSet 8 g8) (dSeq (dIfS tA1 rF nX) (dSeq (dSet 9 g9) (dSeq (dIfS tA2 rF nX) (dSeq (dSet 10 g10) (dSeq (dIfS tA3 rF nX) (dSeq (dSet 11 g11) (dSeq (dSet 12 (gDue (dOp1 opNeg (dC (.int 1)))) ) (dSeq (dSet 13 (dCall [false, false] d_anywhere (dCons (dCall [false] d__law_order (dCons (dVar 9) dNil)) (dCons (dVar 6) dNil)))) (dSeq (dIfS tA4 rF nX) (dSeq (dSet 14 (gDue (dOp2 opMulA (dC (.int 2)) (dOp2 opIx (dVar 4) (dVar 6))))) (dIfS tA5 rF nX)))))))))))))))
section
variable (S : D) {cs : List Int} (hc : cs.length ≤ 1000)
include hc
/-- a bundle of slots, none lent -/
structure Sl where
  x2 : Slot
  x3 : Slot
  x4 : Slot
  x5 : Slot
  x6 : Slot
  x7 : Slot
  x8 : Slot
  x9 : Slot
  x10 : Slot
  x11 : Slot
  x12 : Slot
  x13 : Slot
  x14 : Slot
  n2 : NB x2
  n3 : NB x3
  n4 : NB x4
  n5 : NB x5
  w6 : NW x6
  n7 : NB x7
  n8 : NB x8
  n9 : NB x9
  n10 : NB x10
  n11 : NB x11
  n12 : NB x12
  n13 : NB x13
  n14 : NB x14
abbrev Es (S : D) (cs : List Int) (a b c : Int) (s : Sl) : DL.Env := En S cs a b c s.x2 s.x3 s.x4 s.x5 s.x6 s.x7 s.x8 s.x9 s.x10 s.x11 s.x12 s.x13 s.x14 .non
theorem lap_spec (a b c : Int) (s : Sl) : ∃ a' b' c' s', lapB (Es S cs a b c s) = .nx (Es S cs a' b' c' s') := by
  obtain ⟨ns, a1, b1, c1, hn, e3⟩ := s3 S hc (a := a) (b := b) (c := c) (x2 := s.x2) (x4 := s.x4) (x5 := s.x5) (x6 := s.x6) (x7 := s.x7) (x8 := s.x8) (x9 := s.x9) (x10 := s.x10) (x11 := s.x11) (x12 := s.x12) (x13 := s.x13) (x14 := s.x14) (x15 := .non) s.n3
  obtain ⟨m, a2, b2, c2, hm, hv, e4⟩ := s4 S hc (a := a1) (b := b1) (c := c1) (x2 := s.x2) (x5 := s.x5) (x6 := s.x6) (x7 := s.x7) (x8 := s.x8) (x9 := s.x9) (x10 := s.x10) (x11 := s.x11) (x12 := s.x12) (x13 := s.x13) (x14 := s.x14) (x15 := .non) hn s.n4 s.w6
  obtain ⟨n, o, a3, b3, c3, n1, n2, e5⟩ := s5 S hc (a := a2) (b := b2) (c := c2) (x2 := s.x2) (x8 := s.x8) (x9 := s.x9) (x10 := s.x10) (x11 := s.x11) (x12 := s.x12) (x13 := s.x13) (x14 := s.x14) (x15 := .non) hn hm s.n5 s.w6.nb s.n7
  have K : Keys m := ⟨by rw [hm]; exact hn.nd, by have := congrArg List.length hm; rw [List.length_map] at this; have := hn.few; omega, fun p hp => hn.sub _ (by rw [← hm]; exact List.mem_map.mpr ⟨p, hp, rfl⟩), hv⟩
  have hnd : (D.lst (ns.map .str)) = nD m := by rw [← hm, List.map_map]; rfl
  rw [hnd] at e3 e4 e5
  rw [← hm] at n1 n2
  obtain ⟨⟨n', f⟩, hf, hn'⟩ := List.mem_map.mp n1
  obtain ⟨⟨o', f'⟩, hf', ho'⟩ := List.mem_map.mp n2
  cases hn'
  cases ho'
  have nb := K.sub _ hf
  have e8 := s8 S (a := a3) (b := b3) (c := c3) (cs := cs) (x2 := s.x2) (x5 := .val (eO.d (ordK m))) (x6 := .val (.str n')) (x7 := .val (.str o')) (x9 := s.x9) (x10 := s.x10) (x11 := s.x11) (x12 := s.x12) (x13 := s.x13) (x14 := s.x14) (x15 := .non) K s.n8
  have q1 := ifs_no (g1 := rF) (g2 := nX) (t1 S (a := a3) (b := b3) (c := c3) (cs := cs) (x2 := s.x2) (x6 := .val (.str n')) (x7 := .val (.str o')) (x9 := s.x9) (x10 := s.x10) (x11 := s.x11) (x12 := s.x12) (x13 := s.x13) (x14 := s.x14) (x15 := .non) K)
  have e9 := s9 S (a := a3) (b := b3) (c := c3) (cs := cs) (n := n') (x2 := s.x2) (x5 := .val (eO.d (ordK m))) (x7 := .val (.str o')) (x8 := .own (mD (plc m))) (x10 := s.x10) (x11 := s.x11) (x12 := s.x12) (x13 := s.x13) (x14 := s.x14) (x15 := .non) K s.n9
  have q2 := ifs_no (g1 := rF) (g2 := nX) (t2 S (a := a3) (b := b3) (c := c3) (cs := cs) (n := n') (x2 := s.x2) (x3 := .val (nD m)) (x4 := .val (mD m)) (x7 := .val (.str o')) (x8 := .own (mD (plc m))) (x10 := s.x10) (x11 := s.x11) (x12 := s.x12) (x13 := s.x13) (x14 := s.x14) (x15 := .non) K)
  have e10 := s10 S (a := a3) (b := b3) (c := c3) (cs := cs) (n := n') (x2 := s.x2) (x3 := .val (nD m)) (x5 := .val (eO.d (ordK m))) (x8 := .own (mD (plc m))) (x11 := s.x11) (x12 := s.x12) (x13 := s.x13) (x14 := s.x14) (x15 := .non) K hf' s.n10
  have q3 := ifs_no (g1 := rF) (g2 := nX) (t3 S (a := a3) (b := b3) (c := c3) (cs := cs) (n := n') (o := o') (x2 := s.x2) (x3 := .val (nD m)) (x4 := .val (mD m)) (x8 := .own (mD (plc m))) (x9 := .val (mD (rm m n'))) (x11 := s.x11) (x12 := s.x12) (x13 := s.x13) (x14 := s.x14) (x15 := .non) K n1 hf')
  have e11 := s11 S (a := a3) (b := b3) (c := c3) (cs := cs) (x2 := s.x2) (x3 := .val (nD m)) (x4 := .val (mD m)) (x5 := .val (eO.d (ordK m))) (x6 := .val (.str n')) (x7 := .val (.str o')) (x8 := .own (mD (plc m))) (x10 := .val (mD (rm m n' ++ [(n', f')]))) (x12 := s.x12) (x13 := s.x13) (x14 := s.x14) (x15 := .non) (K.rm n') s.n11
  have e12 : dSet 12 (gDue (dOp1 opNeg (dC (.int 1)))) (En S cs a3 b3 c3 s.x2 (.val (nD m)) (.val (mD m)) (.val (eO.d (ordK m))) (.val (.str n')) (.val (.str o')) (.own (mD (plc m))) (.val (mD (rm m n'))) (.val (mD (rm m n' ++ [(n', f')]))) (.own (mD (spr (rm m n')))) s.x12 s.x13 s.x14 .non) = .nx (En S cs a3 b3 c3 s.x2 (.val (nD m)) (.val (mD m)) (.val (eO.d (ordK m))) (.val (.str n')) (.val (.str o')) (.own (mD (plc m))) (.val (mD (rm m n'))) (.val (mD (rm m n' ++ [(n', f')]))) (.own (mD (spr (rm m n')))) (.own (.lst (((keysFrom (-1)).map (withK (spr (rm m n')) n')).map eO.d))) s.x13 s.x14 .non) :=
    set_own (due_lc S (k := -1) (K.rm n') (not_rm m n') (by decide) (by decide) (.inl rfl) (by simp)) (setV_nb rfl s.n12)
  have e13 := s13 S (a := a3) (b := b3) (c := c3) (cs := cs) (n := n') (x2 := s.x2) (x3 := .val (nD m)) (x4 := .val (mD m)) (x5 := .val (eO.d (ordK m))) (x7 := .val (.str o')) (x8 := .own (mD (plc m))) (x10 := .val (mD (rm m n' ++ [(n', f')]))) (x11 := .own (mD (spr (rm m n')))) (x12 := .own (.lst (((keysFrom (-1)).map (withK (spr (rm m n')) n')).map eO.d))) (x14 := s.x14) (x15 := .non) (K.rm n') s.n13
  have q4 := ifs_no (g1 := rF) (g2 := nX) (t4 S (a := a3) (b := b3) (c := c3) (cs := cs) (n := n') (x2 := s.x2) (x3 := .val (nD m)) (x4 := .val (mD m)) (x5 := .val (eO.d (ordK m))) (x7 := .val (.str o')) (x8 := .own (mD (plc m))) (x10 := .val (mD (rm m n' ++ [(n', f')]))) (x11 := .own (mD (spr (rm m n')))) (x14 := s.x14) (x15 := .non) (K.rm n') nb (not_rm m n'))
  have e14 := s14 S (q := m) (a := a3) (b := b3) (c := c3) (cs := cs) (n := n') (x2 := s.x2) (x3 := .val (nD m)) (x5 := .val (eO.d (ordK m))) (x7 := .val (.str o')) (x8 := .own (mD (plc m))) (x9 := .val (mD (rm m n'))) (x10 := .val (mD (rm m n' ++ [(n', f')]))) (x12 := .val (.lst (((keysFrom (-1)).map (withK (spr (rm m n')) n')).map eO.d))) (x13 := .own (.lst ((toldL (spr (rm m n')) n' (-1)).map eO.d))) (x15 := .non) (K.rm n') (not_rm m n') (ix_m K.nd hf) (K.low _ hf) s.n14
  have q5 := ifs_no (g1 := rF) (g2 := nX) (tt5 S (a := a3) (b := b3) (c := c3) (cs := cs) (n := n') (x2 := s.x2) (x3 := .val (nD m)) (x4 := .val (mD m)) (x7 := .val (.str o')) (x8 := .own (mD (plc m))) (x9 := .val (mD (rm m n'))) (x10 := .val (mD (rm m n' ++ [(n', f')]))) (x11 := .own (mD (spr (rm m n')))) (x12 := .val (.lst (((keysFrom (-1)).map (withK (spr (rm m n')) n')).map eO.d))) (x13 := .own (.lst ((toldL (spr (rm m n')) n' (-1)).map eO.d))) (x15 := .non) K hf)
  refine ⟨a3, b3, c3, ⟨s.x2, .val (nD m), .val (mD m), .val (eO.d (ordK m)), .val (.str n'), .val (.str o'), .own (mD (plc m)), .val (mD (rm m n')), .val (mD (rm m n' ++ [(n', f')])), .own (mD (spr (rm m n'))), .val (.lst (((keysFrom (-1)).map (withK (spr (rm m n')) n')).map eO.d)), .own (.lst ((toldL (spr (rm m n')) n' (-1)).map eO.d)), .val (.lst (((keysFrom (2 * f)).map (withK (spr (rm m n')) n')).map eO.d)), s.n2, nb_val _, nb_val _, nb_val _, nw_val _, nb_val _, nb_own _, nb_val _, nb_val _, nb_own _, nb_val _, nb_own _, nb_val _⟩, ?_⟩
  exact (seq_nx e3).trans ((seq_nx e4).trans ((seq_nx e5).trans ((seq_nx e8).trans ((seq_nx q1).trans ((seq_nx e9).trans ((seq_nx q2).trans ((seq_nx e10).trans ((seq_nx q3).trans ((seq_nx e11).trans ((seq_nx e12).trans ((seq_nx e13).trans ((seq_nx q4).trans ((seq_nx e14).trans q5)))))))))))))
theorem laps : ∀ (ds : List D) (a b c : Int) (s : Sl), ∃ a' b' c' s', forGo (gtName 2) lapB ds (Es S cs a b c s) = .nx (Es S cs a' b' c' s')
  | [], a, b, c, s => ⟨a, b, c, s, rfl⟩
  | d :: ds, a, b, c, s => by
    obtain ⟨a1, b1, c1, s1, e1⟩ := lap_spec S hc a b c { s with x2 := .val d, n2 := nb_val _ }
    obtain ⟨a2, b2, c2, s2, e2⟩ := laps ds a1 b1 c1 s1
    exact ⟨a2, b2, c2, s2, (go_nx (setV_nb rfl s.n2) e1).trans e2⟩
end
def abc : List Str := ["a", "b", "c"]
def kM (t : List Int) : M := List.zipWith (fun c x => (c, x)) abc t
def everyO : List Ord := every3.map fun t => ordK (kM t)
theorem abc_ok : okAll [[]] abc = true := by decide +kernel
theorem nil_ok : okAll [[]] [] = true := rfl
def ordI (m : M) : Ord := (Enc.int.isort ((puts (m.map fun p => (p.2, true))).map (·.1))).map (lotK m)
theorem ordI_eq (m : M) : ordK m = ordI m := by unfold ordK vals ordI; rw [Enc.sort_isort]
theorem every_I : everyO = every3.map fun t => ordI (kM t) := List.map_congr_left fun t _ => ordI_eq _
theorem last_eq : eO.sort (allOrders abc) = eO.sort ((puts (everyO.map fun o => (o, true))).map (·.1)) := by
  rw [Enc.sort_isort, Enc.sort_isort, every_I]
  decide +kernel
def isThree (t : List Int) : Bool := match t with
  | [x, y, z] => true
  | _ => false
theorem every_three : every3.all isThree = true := by decide +kernel
theorem three_of {t : List Int} (h : t ∈ every3) : ∃ x y z, t = [x, y, z] := by
  have := List.all_eq_true.mp every_three t h
  match t, this with
  | [x, y, z], _ => exact ⟨x, y, z, rfl⟩
theorem tup_all : (allOrders abc).all (fun o => tupKey (eO.p o)) = true := by decide +kernel
theorem good_all : (allOrders abc).all goodB = true := by decide +kernel
theorem len_all : (allOrders abc).length = 13 := by decide +kernel
theorem every_len : every3.length = 27 := by decide +kernel
theorem zip_abc (x y z : Int) : fListZip [.str "abc", .tup [.int x, .int y, .int z]] = some (.new (.lst [.tup [.str "a", .int x], .tup [.str "b", .int y], .tup [.str "c", .int z]])) := by
  have e : zitems (.str "abc") = some [.str "a", .str "b", .str "c"] := by rfl
  rw [s_fListZip, e]
  rfl
theorem kM_order (x y z : Int) : d__law_order [mD (kM [x, y, z])] = .ok (.val (eO.d (ordK (kM [x, y, z])))) [mD (kM [x, y, z])] := order_spec (m := kM [x, y, z]) (by
  show (["a", "b", "c"] : List Str).Nodup
  decide) (by show 3 ≤ 100; decide)
abbrev gEv : Ev := (dLc (iSeq (dCall [false, false] d__law_all_tuples (dCons (dC (.int 3)) (dCons (dC (.int 3)) dNil)))) [18, 19, 20] (gtTup 3 (gtCons (gtName 18) (gtCons (gtName 19) (gtCons (gtName 20) gtNil)))) dYes (dCall [false] d__law_order (dCons (dB fDict (dCons (dB fListZip (dCons (dC (.str "abc")) (dCons (dTup (dCons (dVar 18) (dCons (dVar 19) (dCons (dVar 20) dNil)))) dNil))) dNil)) dNil)))
section
variable (S : D) {cs : List Int} {a b c : Int} {x2 x3 x4 x5 x6 x7 x8 x9 x10 x11 x12 x13 x14 : Slot}
theorem every_lc : gEv (En S cs a b c x2 x3 x4 x5 x6 x7 x8 x9 x10 x11 x12 x13 x14 .non) = .ok (.new (.lst (everyO.map eO.d))) (En S cs a b c x2 x3 x4 x5 x6 x7 x8 x9 x10 x11 x12 x13 x14 .non) := by
  have it : iSeq (dCall [false, false] d__law_all_tuples (dCons (dC (.int 3)) (dCons (dC (.int 3)) dNil))) (En S cs a b c x2 x3 x4 x5 x6 x7 x8 x9 x10 x11 x12 x13 x14 .non) = .ok (every3.map eT.d) (En S cs a b c x2 x3 x4 x5 x6 x7 x8 x9 x10 x11 x12 x13 x14 .non) :=
    iSeq_new (d := .lst (every3.map eT.d)) (by simp [tuples_spec]) rfl
  unfold everyO
  rw [List.map_map]
  refine lc_m (f := eT.d) (l := every3) it rfl (by rw [every_len]; decide) rfl rfl fun t ht => ?_
  obtain ⟨x, y, z, rfl⟩ := three_of ht
  refine ⟨[.val S, .own (bagD a b c cs), x2, x3, x4, x5, x6, x7, x8, x9, x10, x11, x12, x13, x14, .non, .non, .non, .val (.int x), .val (.int y), .val (.int z)], rfl, ⟨.val (eO.d (ordK (kM [x, y, z]))), ?_, rfl⟩, rfl⟩
  have zp := zip_abc x y z
  have fd : fDict [.lst [.tup [.str "a", .int x], .tup [.str "b", .int y], .tup [.str "c", .int z]]] = some (.new (mD (kM [x, y, z]))) := by
    have := fDict_flat (vd := D.int) kS_inj (kM [x, y, z])
    rw [puts_self (show ((kM [x, y, z]).map (·.1)).Nodup from by
      show (["a", "b", "c"] : List Str).Nodup
      decide)] at this
    exact this
  have o := kM_order x y z
  simp [zp, fd, o]
abbrev gRet : Ev := (dAndV (dOp2 opEq (dB fSorted (dCons (dCall [false] d_all_orders (dCons (dTup (dCons (dC (.str "a")) (dCons (dC (.str "b")) (dCons (dC (.str "c")) dNil)))) dNil)) dNil)) (dB fSorted (dCons (dB fDict (dCons (dLc (iSeq (dVar 15)) [16] (gtName 16) dYes (dTup (dCons (dVar 16) (dCons (dC (.bl true)) dNil)))) dNil)) dNil))) (dOp2 opEq (dCall [false] d_all_orders (dCons (dTup dNil) dNil)) (dLst (dCons (dTup dNil) dNil))))
theorem andV_yes {t1 t2 : Ev} {ρ ρ1 : DL.Env} (h : t1 ρ = .ok (.val (.bl true)) ρ1) : dAndV t1 t2 ρ = t2 ρ1 := by
  unfold dAndV
  rw [h]
  rfl
theorem every_in {o : Ord} (h : o ∈ everyO) : o ∈ allOrders abc := by
  have h1 : o ∈ eO.sort ((puts (everyO.map fun o => (o, true))).map (·.1)) := (Enc.mem_sort eO).mpr (puts_keys.mpr (by rw [List.map_map]; simpa using h))
  rw [← last_eq] at h1
  exact (Enc.mem_sort eO).mp h1
theorem all_tup {o : Ord} (h : o ∈ allOrders abc) : tupKey (eO.p o) = true := List.all_eq_true.mp tup_all o h
theorem all_good {o : Ord} (h : o ∈ allOrders abc) : eO.good o := fun l hl => ((good_of (List.all_eq_true.mp good_all o h)).2 l hl).2
theorem ret_spec : gRet (En S cs a b c x2 x3 x4 x5 x6 x7 x8 x9 x10 x11 x12 x13 x14 (.own (.lst (everyO.map eO.d)))) = .ok (.val (.bl true)) (En S cs a b c x2 x3 x4 x5 x6 x7 x8 x9 x10 x11 x12 x13 x14 (.val (.lst (everyO.map eO.d)))) := by
  have as : d_all_orders [.tup [.str "a", .str "b", .str "c"]] = .ok (.val (.lst ((allOrders abc).map eO.d))) [.tup [.str "a", .str "b", .str "c"]] := all_spec abc_ok
  have a0 : d_all_orders [.tup []] = .ok (.new (.lst [eO.d []])) [.tup []] := all_spec (l := []) rfl
  have A : dB fSorted (dCons (dCall [false] d_all_orders (dCons (dTup (dCons (dC (.str "a")) (dCons (dC (.str "b")) (dCons (dC (.str "c")) dNil)))) dNil)) dNil) (En S cs a b c x2 x3 x4 x5 x6 x7 x8 x9 x10 x11 x12 x13 x14 (.own (.lst (everyO.map eO.d)))) = .ok (.new (.lst ((eO.sort (allOrders abc)).map eO.d))) (En S cs a b c x2 x3 x4 x5 x6 x7 x8 x9 x10 x11 x12 x13 x14 (.own (.lst (everyO.map eO.d)))) :=
    dB1 (r := .val (.lst ((allOrders abc).map eO.d))) (by simp [as]) rfl (Enc.fSort (e := eO) rfl (by decide) (by rw [len_all]; decide) (.inl fun o h => all_tup h))
  have lc : dLc (iSeq (dVar 15)) [16] (gtName 16) dYes (dTup (dCons (dVar 16) (dCons (dC (.bl true)) dNil))) (En S cs a b c x2 x3 x4 x5 x6 x7 x8 x9 x10 x11 x12 x13 x14 (.own (.lst (everyO.map eO.d)))) = .ok (.new (.lst ((everyO.map fun o => (o, true)).map fun p => .tup [eO.d p.1, .bl p.2]))) (En S cs a b c x2 x3 x4 x5 x6 x7 x8 x9 x10 x11 x12 x13 x14 (.val (.lst (everyO.map eO.d)))) := by
    rw [List.map_map]
    exact lc_m (f := eO.d) (l := everyO) (by simp) rfl (by unfold everyO; rw [List.length_map, every_len]; decide) rfl rfl fun o _ => ⟨[.val S, .own (bagD a b c cs), x2, x3, x4, x5, x6, x7, x8, x9, x10, x11, x12, x13, x14, .val (.lst (everyO.map eO.d)), .val (eO.d o), .non, .non, .non, .non], by simp, ⟨.val (.tup [eO.d o, .bl true]), by simp, by simp⟩, rfl⟩
  have fd := fDict_tup (vd := D.bl) key_ord (everyO.map fun o => (o, true))
  have ne : puts (everyO.map fun o => (o, true)) ≠ [] := fun z => by
    have h2 := last_eq
    rw [z] at h2
    have h3 := congrArg List.length h2
    rw [Enc.sort_length, Enc.sort_length, len_all] at h3
    cases h3
  rw [dctD_ne ne] at fd
  have lenp := puts_length (everyO.map fun o => (o, true))
  have le : (everyO.map fun o => (o, true)).length = 27 := by unfold everyO; rw [List.length_map, List.length_map, every_len]
  have sB : fSorted [.dct ((puts (everyO.map fun o => (o, true))).map fun p => eO.d p.1) ((puts (everyO.map fun o => (o, true))).map fun p => .bl p.2)] = some (.new (.lst ((eO.sort ((puts (everyO.map fun o => (o, true))).map (·.1))).map eO.d))) :=
    Enc.fSort (e := eO) (s := .dct ((puts (everyO.map fun o => (o, true))).map fun p => eO.d p.1) ((puts (everyO.map fun o => (o, true))).map fun p => .bl p.2)) (by show some _ = _; rw [List.map_map]; rfl) (by decide) (by rw [List.length_map]; omega) (.inl fun o h => by
      rw [puts_keys, List.map_map] at h
      exact all_tup (every_in (by simpa using h)))
  have B := dB1 (dB1 lc rfl fd) rfl sB
  have q1 := Enc.opEqL (e := eO) (l := eO.sort (allOrders abc)) (l' := eO.sort ((puts (everyO.map fun o => (o, true))).map (·.1))) (by decide) (fun o h => all_good ((Enc.mem_sort eO).mp h)) (fun o h => by
    rw [← last_eq] at h
    exact all_good ((Enc.mem_sort eO).mp h))
  rw [decide_eq_true last_eq] at q1
  have q2 := Enc.opEqL (e := eO) (l := [[]]) (l' := [[]]) (by decide) (fun o h => by rw [List.mem_singleton.mp h]; exact fun l hl => nomatch hl) (fun o h => by rw [List.mem_singleton.mp h]; exact fun l hl => nomatch hl)
  rw [decide_eq_true rfl] at q2
  have q2' : opEq (.lst [eO.d []]) (.lst [.tup []]) = some (.val (.bl true)) := q2
  refine (andV_yes (op2_ok A B rfl rfl q1)).trans ?_
  simp [a0, q2']
end
theorem law_true (ns : List Int) (h : ns.length ≤ 63) : ∃ outs, d_law [.scr (ns.map .int)] = .ok (.val (.bl true)) outs := by
  obtain ⟨ds, hd, eb⟩ := bag_spec ns h
  have hc : ds.length ≤ 1000 := by omega
  have f1 : dSet 1 (dCall [false] d__law_bag (dCons (dVar 0) dNil)) (.val (.scr (ns.map .int)) :: List.replicate 20 .non) = .nx (Es (.scr (ns.map .int)) ds 0 1234567891 0 ⟨.non, .non, .non, .non, .non, .non, .non, .non, .non, .non, .non, .non, .non, nb_non, nb_non, nb_non, nb_non, nw_non, nb_non, nb_non, nb_non, nb_non, nb_non, nb_non, nb_non, nb_non⟩) := by
    refine set_own (ρ1 := .val (.scr (ns.map .int)) :: List.replicate 20 .non) ?_ rfl
    simp [eb]
  obtain ⟨a, b, c, s, e⟩ := laps (.scr (ns.map .int)) hc ((List.range 12).map fun (k : Nat) => D.int (k : Int)) 0 1234567891 0 ⟨.non, .non, .non, .non, .non, .non, .non, .non, .non, .non, .non, .non, .non, nb_non, nb_non, nb_non, nb_non, nw_non, nb_non, nb_non, nb_non, nb_non, nb_non, nb_non, nb_non, nb_non⟩
  have f2 : dFor (iArgs kRange1 (dCons (dC (.int 12)) dNil)) (gtName 2) lapB (Es (.scr (ns.map .int)) ds 0 1234567891 0 ⟨.non, .non, .non, .non, .non, .non, .non, .non, .non, .non, .non, .non, .non, nb_non, nb_non, nb_non, nb_non, nw_non, nb_non, nb_non, nb_non, nb_non, nb_non, nb_non, nb_non, nb_non⟩) = _ := (for_it (by
    have r : kRange1 [.int 12] = some ((List.range 12).map fun (k : Nat) => D.int (k : Int)) := rfl
    simp [r])).trans e
  have f3 : dSet 15 gEv (Es (.scr (ns.map .int)) ds a b c s) = .nx (En (.scr (ns.map .int)) ds a b c s.x2 s.x3 s.x4 s.x5 s.x6 s.x7 s.x8 s.x9 s.x10 s.x11 s.x12 s.x13 s.x14 (.own (.lst (everyO.map eO.d)))) := set_own (every_lc _) rfl
  have f4 := ret_val (ret_spec (.scr (ns.map .int)) (cs := ds) (a := a) (b := b) (c := c) (x2 := s.x2) (x3 := s.x3) (x4 := s.x4) (x5 := s.x5) (x6 := s.x6) (x7 := s.x7) (x8 := s.x8) (x9 := s.x9) (x10 := s.x10) (x11 := s.x11) (x12 := s.x12) (x13 := s.x13) (x14 := s.x14))
  exact ⟨_, def_rt rfl ((seq_nx f1).trans ((seq_nx f2).trans ((seq_nx f3).trans f4))) (fun i h => by cases h) rfl⟩
end K09

/-! the end (printed by gen.py). -/
namespace K09
open PySem PySem.Spec L2 DL
theorem all_mk {l : PySem.W.OpenLaw} {w : World} {K : PySem.W.Frag} {h : Heap} {mg : Str → Option Value} {fa : Addr} (X : K.In h) (G : h.Ns mainGlobals mg) (hfa : mg "law" = some (.ref fa))
    {f_lot_of : Addr} {oc_lot_of : Value} {od_lot_of an_lot_of : Option Addr} {sl_lot_of : Array (Option Value)} {kV_lot_of dc_lot_of pm_lot_of cd_lot_of ct_lot_of : Value}
    (a_lot_of : PySem.W.nsIn K mainGlobals "lot_of" = some (some (.ref f_lot_of))) (l_lot_of : K.lookup f_lot_of = some ⟨oc_lot_of, od_lot_of, .func (PySem.W.fnOf "lot_of" "lot_of" (defArgs st_lot_of) (defBody st_lot_of) (defScope st_lot_of) .none kV_lot_of dc_lot_of pm_lot_of an_lot_of cd_lot_of ct_lot_of), sl_lot_of⟩) (e_lot_of : PySem.W.codeIn K cd_lot_of "lot_of" = true) (k_lot_of : PySem.W.keepIn K (.ref f_lot_of) = true)
    {f_without : Addr} {oc_without : Value} {od_without an_without : Option Addr} {sl_without : Array (Option Value)} {kV_without dc_without pm_without cd_without ct_without : Value}
    (a_without : PySem.W.nsIn K mainGlobals "without" = some (some (.ref f_without))) (l_without : K.lookup f_without = some ⟨oc_without, od_without, .func (PySem.W.fnOf "without" "without" (defArgs st_without) (defBody st_without) (defScope st_without) .none kV_without dc_without pm_without an_without cd_without ct_without), sl_without⟩) (e_without : PySem.W.codeIn K cd_without "without" = true) (k_without : PySem.W.keepIn K (.ref f_without) = true)
    {f_put_within : Addr} {oc_put_within : Value} {od_put_within an_put_within : Option Addr} {sl_put_within : Array (Option Value)} {kV_put_within dc_put_within pm_put_within cd_put_within ct_put_within : Value}
    (a_put_within : PySem.W.nsIn K mainGlobals "put_within" = some (some (.ref f_put_within))) (l_put_within : K.lookup f_put_within = some ⟨oc_put_within, od_put_within, .func (PySem.W.fnOf "put_within" "put_within" (defArgs st_put_within) (defBody st_put_within) (defScope st_put_within) .none kV_put_within dc_put_within pm_put_within an_put_within cd_put_within ct_put_within), sl_put_within⟩) (e_put_within : PySem.W.codeIn K cd_put_within "put_within" = true) (k_put_within : PySem.W.keepIn K (.ref f_put_within) = true)
    {f_put_ahead : Addr} {oc_put_ahead : Value} {od_put_ahead an_put_ahead : Option Addr} {sl_put_ahead : Array (Option Value)} {kV_put_ahead dc_put_ahead pm_put_ahead cd_put_ahead ct_put_ahead : Value}
    (a_put_ahead : PySem.W.nsIn K mainGlobals "put_ahead" = some (some (.ref f_put_ahead))) (l_put_ahead : K.lookup f_put_ahead = some ⟨oc_put_ahead, od_put_ahead, .func (PySem.W.fnOf "put_ahead" "put_ahead" (defArgs st_put_ahead) (defBody st_put_ahead) (defScope st_put_ahead) .none kV_put_ahead dc_put_ahead pm_put_ahead an_put_ahead cd_put_ahead ct_put_ahead), sl_put_ahead⟩) (e_put_ahead : PySem.W.codeIn K cd_put_ahead "put_ahead" = true) (k_put_ahead : PySem.W.keepIn K (.ref f_put_ahead) = true)
    {f_from_lot : Addr} {oc_from_lot : Value} {od_from_lot an_from_lot : Option Addr} {sl_from_lot : Array (Option Value)} {kV_from_lot dc_from_lot pm_from_lot cd_from_lot ct_from_lot : Value}
    (a_from_lot : PySem.W.nsIn K mainGlobals "from_lot" = some (some (.ref f_from_lot))) (l_from_lot : K.lookup f_from_lot = some ⟨oc_from_lot, od_from_lot, .func (PySem.W.fnOf "from_lot" "from_lot" (defArgs st_from_lot) (defBody st_from_lot) (defScope st_from_lot) .none kV_from_lot dc_from_lot pm_from_lot an_from_lot cd_from_lot ct_from_lot), sl_from_lot⟩) (e_from_lot : PySem.W.codeIn K cd_from_lot "from_lot" = true) (k_from_lot : PySem.W.keepIn K (.ref f_from_lot) = true)
    {f_anywhere : Addr} {oc_anywhere : Value} {od_anywhere an_anywhere : Option Addr} {sl_anywhere : Array (Option Value)} {kV_anywhere dc_anywhere pm_anywhere cd_anywhere ct_anywhere : Value}
    (a_anywhere : PySem.W.nsIn K mainGlobals "anywhere" = some (some (.ref f_anywhere))) (l_anywhere : K.lookup f_anywhere = some ⟨oc_anywhere, od_anywhere, .func (PySem.W.fnOf "anywhere" "anywhere" (defArgs st_anywhere) (defBody st_anywhere) (defScope st_anywhere) .none kV_anywhere dc_anywhere pm_anywhere an_anywhere cd_anywhere ct_anywhere), sl_anywhere⟩) (e_anywhere : PySem.W.codeIn K cd_anywhere "anywhere" = true) (k_anywhere : PySem.W.keepIn K (.ref f_anywhere) = true)
    {f_led_on : Addr} {oc_led_on : Value} {od_led_on an_led_on : Option Addr} {sl_led_on : Array (Option Value)} {kV_led_on dc_led_on pm_led_on cd_led_on ct_led_on : Value}
    (a_led_on : PySem.W.nsIn K mainGlobals "led_on" = some (some (.ref f_led_on))) (l_led_on : K.lookup f_led_on = some ⟨oc_led_on, od_led_on, .func (PySem.W.fnOf "led_on" "led_on" (defArgs st_led_on) (defBody st_led_on) (defScope st_led_on) .none kV_led_on dc_led_on pm_led_on an_led_on cd_led_on ct_led_on), sl_led_on⟩) (e_led_on : PySem.W.codeIn K cd_led_on "led_on" = true) (k_led_on : PySem.W.keepIn K (.ref f_led_on) = true)
    {f_all_orders : Addr} {oc_all_orders : Value} {od_all_orders an_all_orders : Option Addr} {sl_all_orders : Array (Option Value)} {kV_all_orders dc_all_orders pm_all_orders cd_all_orders ct_all_orders : Value}
    (a_all_orders : PySem.W.nsIn K mainGlobals "all_orders" = some (some (.ref f_all_orders))) (l_all_orders : K.lookup f_all_orders = some ⟨oc_all_orders, od_all_orders, .func (PySem.W.fnOf "all_orders" "all_orders" (defArgs st_all_orders) (defBody st_all_orders) (defScope st_all_orders) .none kV_all_orders dc_all_orders pm_all_orders an_all_orders cd_all_orders ct_all_orders), sl_all_orders⟩) (e_all_orders : PySem.W.codeIn K cd_all_orders "all_orders" = true) (k_all_orders : PySem.W.keepIn K (.ref f_all_orders) = true)
    {f_same_as : Addr} {oc_same_as : Value} {od_same_as an_same_as : Option Addr} {sl_same_as : Array (Option Value)} {kV_same_as dc_same_as pm_same_as cd_same_as ct_same_as : Value}
    (a_same_as : PySem.W.nsIn K mainGlobals "same_as" = some (some (.ref f_same_as))) (l_same_as : K.lookup f_same_as = some ⟨oc_same_as, od_same_as, .func (PySem.W.fnOf "same_as" "same_as" (defArgs st_same_as) (defBody st_same_as) (defScope st_same_as) .none kV_same_as dc_same_as pm_same_as an_same_as cd_same_as ct_same_as), sl_same_as⟩) (e_same_as : PySem.W.codeIn K cd_same_as "same_as" = true) (k_same_as : PySem.W.keepIn K (.ref f_same_as) = true)
    {f__law_bag : Addr} {oc__law_bag : Value} {od__law_bag an__law_bag : Option Addr} {sl__law_bag : Array (Option Value)} {kV__law_bag dc__law_bag pm__law_bag cd__law_bag ct__law_bag : Value}
    (a__law_bag : PySem.W.nsIn K mainGlobals "_law_bag" = some (some (.ref f__law_bag))) (l__law_bag : K.lookup f__law_bag = some ⟨oc__law_bag, od__law_bag, .func (PySem.W.fnOf "_law_bag" "_law_bag" (defArgs st__law_bag) (defBody st__law_bag) (defScope st__law_bag) .none kV__law_bag dc__law_bag pm__law_bag an__law_bag cd__law_bag ct__law_bag), sl__law_bag⟩) (e__law_bag : PySem.W.codeIn K cd__law_bag "_law_bag" = true) (k__law_bag : PySem.W.keepIn K (.ref f__law_bag) = true)
    {f__law_take : Addr} {oc__law_take : Value} {od__law_take an__law_take : Option Addr} {sl__law_take : Array (Option Value)} {kV__law_take dc__law_take pm__law_take cd__law_take ct__law_take : Value}
    (a__law_take : PySem.W.nsIn K mainGlobals "_law_take" = some (some (.ref f__law_take))) (l__law_take : K.lookup f__law_take = some ⟨oc__law_take, od__law_take, .func (PySem.W.fnOf "_law_take" "_law_take" (defArgs st__law_take) (defBody st__law_take) (defScope st__law_take) .none kV__law_take dc__law_take pm__law_take an__law_take cd__law_take ct__law_take), sl__law_take⟩) (e__law_take : PySem.W.codeIn K cd__law_take "_law_take" = true) (k__law_take : PySem.W.keepIn K (.ref f__law_take) = true)
    {f__law_some : Addr} {oc__law_some : Value} {od__law_some an__law_some : Option Addr} {sl__law_some : Array (Option Value)} {kV__law_some dc__law_some pm__law_some cd__law_some ct__law_some : Value}
    (a__law_some : PySem.W.nsIn K mainGlobals "_law_some" = some (some (.ref f__law_some))) (l__law_some : K.lookup f__law_some = some ⟨oc__law_some, od__law_some, .func (PySem.W.fnOf "_law_some" "_law_some" (defArgs st__law_some) (defBody st__law_some) (defScope st__law_some) .none kV__law_some dc__law_some pm__law_some an__law_some cd__law_some ct__law_some), sl__law_some⟩) (e__law_some : PySem.W.codeIn K cd__law_some "_law_some" = true) (k__law_some : PySem.W.keepIn K (.ref f__law_some) = true)
    {f__law_mixed : Addr} {oc__law_mixed : Value} {od__law_mixed an__law_mixed : Option Addr} {sl__law_mixed : Array (Option Value)} {kV__law_mixed dc__law_mixed pm__law_mixed cd__law_mixed ct__law_mixed : Value}
    (a__law_mixed : PySem.W.nsIn K mainGlobals "_law_mixed" = some (some (.ref f__law_mixed))) (l__law_mixed : K.lookup f__law_mixed = some ⟨oc__law_mixed, od__law_mixed, .func (PySem.W.fnOf "_law_mixed" "_law_mixed" (defArgs st__law_mixed) (defBody st__law_mixed) (defScope st__law_mixed) .none kV__law_mixed dc__law_mixed pm__law_mixed an__law_mixed cd__law_mixed ct__law_mixed), sl__law_mixed⟩) (e__law_mixed : PySem.W.codeIn K cd__law_mixed "_law_mixed" = true) (k__law_mixed : PySem.W.keepIn K (.ref f__law_mixed) = true)
    {f__law_alike : Addr} {oc__law_alike : Value} {od__law_alike an__law_alike : Option Addr} {sl__law_alike : Array (Option Value)} {kV__law_alike dc__law_alike pm__law_alike cd__law_alike ct__law_alike : Value}
    (a__law_alike : PySem.W.nsIn K mainGlobals "_law_alike" = some (some (.ref f__law_alike))) (l__law_alike : K.lookup f__law_alike = some ⟨oc__law_alike, od__law_alike, .func (PySem.W.fnOf "_law_alike" "_law_alike" (defArgs st__law_alike) (defBody st__law_alike) (defScope st__law_alike) .none kV__law_alike dc__law_alike pm__law_alike an__law_alike cd__law_alike ct__law_alike), sl__law_alike⟩) (e__law_alike : PySem.W.codeIn K cd__law_alike "_law_alike" = true) (k__law_alike : PySem.W.keepIn K (.ref f__law_alike) = true)
    {f__law_order : Addr} {oc__law_order : Value} {od__law_order an__law_order : Option Addr} {sl__law_order : Array (Option Value)} {kV__law_order dc__law_order pm__law_order cd__law_order ct__law_order : Value}
    (a__law_order : PySem.W.nsIn K mainGlobals "_law_order" = some (some (.ref f__law_order))) (l__law_order : K.lookup f__law_order = some ⟨oc__law_order, od__law_order, .func (PySem.W.fnOf "_law_order" "_law_order" (defArgs st__law_order) (defBody st__law_order) (defScope st__law_order) .none kV__law_order dc__law_order pm__law_order an__law_order cd__law_order ct__law_order), sl__law_order⟩) (e__law_order : PySem.W.codeIn K cd__law_order "_law_order" = true) (k__law_order : PySem.W.keepIn K (.ref f__law_order) = true)
    {f__law_all_tuples : Addr} {oc__law_all_tuples : Value} {od__law_all_tuples an__law_all_tuples : Option Addr} {sl__law_all_tuples : Array (Option Value)} {kV__law_all_tuples dc__law_all_tuples pm__law_all_tuples cd__law_all_tuples ct__law_all_tuples : Value}
    (a__law_all_tuples : PySem.W.nsIn K mainGlobals "_law_all_tuples" = some (some (.ref f__law_all_tuples))) (l__law_all_tuples : K.lookup f__law_all_tuples = some ⟨oc__law_all_tuples, od__law_all_tuples, .func (PySem.W.fnOf "_law_all_tuples" "_law_all_tuples" (defArgs st__law_all_tuples) (defBody st__law_all_tuples) (defScope st__law_all_tuples) .none kV__law_all_tuples dc__law_all_tuples pm__law_all_tuples an__law_all_tuples cd__law_all_tuples ct__law_all_tuples), sl__law_all_tuples⟩) (e__law_all_tuples : PySem.W.codeIn K cd__law_all_tuples "_law_all_tuples" = true) (k__law_all_tuples : PySem.W.keepIn K (.ref f__law_all_tuples) = true)
    {f_law : Addr} {oc_law : Value} {od_law an_law : Option Addr} {sl_law : Array (Option Value)} {kV_law dc_law pm_law cd_law ct_law : Value}
    (a_law : PySem.W.nsIn K mainGlobals "law" = some (some (.ref f_law))) (l_law : K.lookup f_law = some ⟨oc_law, od_law, .func (PySem.W.fnOf "law" "law" (defArgs st_law) (defBody st_law) (defScope st_law) .none kV_law dc_law pm_law an_law cd_law ct_law), sl_law⟩) (e_law : PySem.W.codeIn K cd_law "law" = true) (k_law : PySem.W.keepIn K (.ref f_law) = true)
    (y_abs : PySem.W.nsIn K mainGlobals "abs" = some none)
    (y_dict : PySem.W.nsIn K mainGlobals "dict" = some none)
    (y_enumerate : PySem.W.nsIn K mainGlobals "enumerate" = some none)
    (y_int : PySem.W.nsIn K mainGlobals "int" = some none)
    (y_len : PySem.W.nsIn K mainGlobals "len" = some none)
    (y_list : PySem.W.nsIn K mainGlobals "list" = some none)
    (y_range : PySem.W.nsIn K mainGlobals "range" = some none)
    (y_repr : PySem.W.nsIn K mainGlobals "repr" = some none)
    (y_sorted : PySem.W.nsIn K mainGlobals "sorted" = some none)
    (y_sum : PySem.W.nsIn K mainGlobals "sum" = some none)
    (y_tuple : PySem.W.nsIn K mainGlobals "tuple" = some none)
    (y_zip : PySem.W.nsIn K mainGlobals "zip" = some none) :
    ∃ fd : FuncData, (∀ (s : Shared) (u : Value), BindsTo s fd ⟨[u], []⟩ [("script", u)]) ∧ ∀ base : Heap, K.In base → base.Ns mainGlobals mg → FnG l.prog w K mg base 5 fa fd ["script"] (@spD ⟨w⟩ K [false] d_law) := by
  have e := hfa.symm.trans (PySem.W.mg_of X G a_law)
  cases e
  letI : HasW := ⟨w⟩
  have df_lot_of : DefAt K mg "lot_of" st_lot_of ["order", "name"] := defAt_of X G a_lot_of l_lot_of e_lot_of k_lot_of fun _ _ _ _ _ _ us hl => match us, hl with | [_, _], _ => rfl
  have df_without : DefAt K mg "without" st_without ["order", "name"] := defAt_of X G a_without l_without e_without k_without fun _ _ _ _ _ _ us hl => match us, hl with | [_, _], _ => rfl
  have df_put_within : DefAt K mg "put_within" st_put_within ["order", "name", "at"] := defAt_of X G a_put_within l_put_within e_put_within k_put_within fun _ _ _ _ _ _ us hl => match us, hl with | [_, _, _], _ => rfl
  have df_put_ahead : DefAt K mg "put_ahead" st_put_ahead ["order", "name", "at"] := defAt_of X G a_put_ahead l_put_ahead e_put_ahead k_put_ahead fun _ _ _ _ _ _ us hl => match us, hl with | [_, _, _], _ => rfl
  have df_from_lot : DefAt K mg "from_lot" st_from_lot ["order", "name", "at"] := defAt_of X G a_from_lot l_from_lot e_from_lot k_from_lot fun _ _ _ _ _ _ us hl => match us, hl with | [_, _, _], _ => rfl
  have df_anywhere : DefAt K mg "anywhere" st_anywhere ["order", "name"] := defAt_of X G a_anywhere l_anywhere e_anywhere k_anywhere fun _ _ _ _ _ _ us hl => match us, hl with | [_, _], _ => rfl
  have df_led_on : DefAt K mg "led_on" st_led_on ["order", "name"] := defAt_of X G a_led_on l_led_on e_led_on k_led_on fun _ _ _ _ _ _ us hl => match us, hl with | [_, _], _ => rfl
  have df_all_orders : DefAt K mg "all_orders" st_all_orders ["names"] := defAt_of X G a_all_orders l_all_orders e_all_orders k_all_orders fun _ _ _ _ _ _ us hl => match us, hl with | [_], _ => rfl
  have df_same_as : DefAt K mg "same_as" st_same_as ["order", "name", "other"] := defAt_of X G a_same_as l_same_as e_same_as k_same_as fun _ _ _ _ _ _ us hl => match us, hl with | [_, _, _], _ => rfl
  have df__law_bag : DefAt K mg "_law_bag" st__law_bag ["script"] := defAt_of X G a__law_bag l__law_bag e__law_bag k__law_bag fun _ _ _ _ _ _ us hl => match us, hl with | [_], _ => rfl
  have df__law_take : DefAt K mg "_law_take" st__law_take ["bag", "many"] := defAt_of X G a__law_take l__law_take e__law_take k__law_take fun _ _ _ _ _ _ us hl => match us, hl with | [_, _], _ => rfl
  have df__law_some : DefAt K mg "_law_some" st__law_some ["bag", "things"] := defAt_of X G a__law_some l__law_some e__law_some k__law_some fun _ _ _ _ _ _ us hl => match us, hl with | [_, _], _ => rfl
  have df__law_mixed : DefAt K mg "_law_mixed" st__law_mixed ["bag", "things"] := defAt_of X G a__law_mixed l__law_mixed e__law_mixed k__law_mixed fun _ _ _ _ _ _ us hl => match us, hl with | [_, _], _ => rfl
  have df__law_alike : DefAt K mg "_law_alike" st__law_alike ["found", "due"] := defAt_of X G a__law_alike l__law_alike e__law_alike k__law_alike fun _ _ _ _ _ _ us hl => match us, hl with | [_, _], _ => rfl
  have df__law_order : DefAt K mg "_law_order" st__law_order ["keys"] := defAt_of X G a__law_order l__law_order e__law_order k__law_order fun _ _ _ _ _ _ us hl => match us, hl with | [_], _ => rfl
  have df__law_all_tuples : DefAt K mg "_law_all_tuples" st__law_all_tuples ["many", "size"] := defAt_of X G a__law_all_tuples l__law_all_tuples e__law_all_tuples k__law_all_tuples fun _ _ _ _ _ _ us hl => match us, hl with | [_, _], _ => rfl
  have z_abs : mg "abs" = none := PySem.W.mg_none_of X G y_abs
  have z_dict : mg "dict" = none := PySem.W.mg_none_of X G y_dict
  have z_enumerate : mg "enumerate" = none := PySem.W.mg_none_of X G y_enumerate
  have z_int : mg "int" = none := PySem.W.mg_none_of X G y_int
  have z_len : mg "len" = none := PySem.W.mg_none_of X G y_len
  have z_list : mg "list" = none := PySem.W.mg_none_of X G y_list
  have z_range : mg "range" = none := PySem.W.mg_none_of X G y_range
  have z_repr : mg "repr" = none := PySem.W.mg_none_of X G y_repr
  have z_sorted : mg "sorted" = none := PySem.W.mg_none_of X G y_sorted
  have z_sum : mg "sum" = none := PySem.W.mg_none_of X G y_sum
  have z_tuple : mg "tuple" = none := PySem.W.mg_none_of X G y_tuple
  have z_zip : mg "zip" = none := PySem.W.mg_none_of X G y_zip
  refine ⟨PySem.W.fnOf "law" "law" (defArgs st_law) (defBody st_law) (defScope st_law) .none kV_law dc_law pm_law an_law cd_law ct_law, fun s v => .of_eq rfl, fun base _ _ => ?_⟩
  have c_lot_of := ok_lot_of (P := l.prog) (base := base) df_lot_of z_enumerate
  have c_without := ok_without (P := l.prog) (base := base) df_without z_tuple
  have c_put_within := ok_put_within (P := l.prog) (base := base) df_put_within z_tuple z_sorted
  have c_put_ahead := ok_put_ahead (P := l.prog) (base := base) df_put_ahead
  have c_from_lot := ok_from_lot (P := l.prog) (base := base) df_from_lot c_put_within c_put_ahead z_range z_len
  have c_anywhere := ok_anywhere (P := l.prog) (base := base) df_anywhere c_put_ahead c_from_lot
  have c_led_on := ok_led_on (P := l.prog) (base := base) df_led_on c_lot_of c_without c_put_ahead c_from_lot z_len
  have c_all_orders := ok_all_orders (P := l.prog) (base := base) df_all_orders c_anywhere
  have c_same_as := ok_same_as (P := l.prog) (base := base) df_same_as c_without c_put_within c_lot_of
  have c__law_bag := ok__law_bag (P := l.prog) (base := base) df__law_bag z_abs
  have c__law_take := ok__law_take (P := l.prog) (base := base) df__law_take z_int
  have c__law_some := ok__law_some (P := l.prog) (base := base) df__law_some c__law_take z_len
  have c__law_mixed := ok__law_mixed (P := l.prog) (base := base) df__law_mixed c__law_take z_len
  have c__law_alike := ok__law_alike (P := l.prog) (base := base) df__law_alike z_repr
  have c__law_order := ok__law_order (P := l.prog) (base := base) df__law_order z_tuple z_sorted z_dict
  have c__law_all_tuples := ok__law_all_tuples (P := l.prog) (base := base) df__law_all_tuples z_range z_sum
  exact ok_law (fun_mk l_law e_law k_law) c__law_bag c__law_mixed c__law_take c__law_order c__law_some c_lot_of c__law_alike c_without c_same_as c_anywhere c_led_on c__law_all_tuples c_all_orders z_range z_dict z_sorted z_list z_len z_zip
end K09
open PySem PySem.W PyProof.Rows
set_option maxRecDepth 100000 in
set_option maxHeartbeats 0 in
theorem PySem.Challenge.cw_mergewright_k09_orders_of_keys_holds : PySem.Challenge.rw_mergewright_k09_orders_of_keys.Holds := by
  w_on; o_law; k_head; (case hw => w_witness2)
  k_fill
  refine DL.walk_G (l := PySem.Challenge.rw_mergewright_k09_orders_of_keys) (n := 63) (k := 5) (x := "script") (den := K09.d_law) rfl (by decide) rfl ⟨rfl, by decide, by decide⟩ (fun w h Y => PySem.W.kIn_of Y) ?F K09.law_true
  case F =>
    intro w mg fa h KX G hmg
    refine' K09.all_mk KX G hmg ?a_lot_of ?l_lot_of ?e_lot_of ?k_lot_of ?a_without ?l_without ?e_without ?k_without ?a_put_within ?l_put_within ?e_put_within ?k_put_within ?a_put_ahead ?l_put_ahead ?e_put_ahead ?k_put_ahead ?a_from_lot ?l_from_lot ?e_from_lot ?k_from_lot ?a_anywhere ?l_anywhere ?e_anywhere ?k_anywhere ?a_led_on ?l_led_on ?e_led_on ?k_led_on ?a_all_orders ?l_all_orders ?e_all_orders ?k_all_orders ?a_same_as ?l_same_as ?e_same_as ?k_same_as ?a__law_bag ?l__law_bag ?e__law_bag ?k__law_bag ?a__law_take ?l__law_take ?e__law_take ?k__law_take ?a__law_some ?l__law_some ?e__law_some ?k__law_some ?a__law_mixed ?l__law_mixed ?e__law_mixed ?k__law_mixed ?a__law_alike ?l__law_alike ?e__law_alike ?k__law_alike ?a__law_order ?l__law_order ?e__law_order ?k__law_order ?a__law_all_tuples ?l__law_all_tuples ?e__law_all_tuples ?k__law_all_tuples ?a_law ?l_law ?e_law ?k_law ?y_abs ?y_dict ?y_enumerate ?y_int ?y_len ?y_list ?y_range ?y_repr ?y_sorted ?y_sum ?y_tuple ?y_zip
    (case a_lot_of => k_is)
    (case l_lot_of => k_is)
    (case e_lot_of => k_is)
    (case k_lot_of => k_is)
    (case a_without => k_is)
    (case l_without => k_is)
    (case e_without => k_is)
    (case k_without => k_is)
    (case a_put_within => k_is)
    (case l_put_within => k_is)
    (case e_put_within => k_is)
    (case k_put_within => k_is)
    (case a_put_ahead => k_is)
    (case l_put_ahead => k_is)
    (case e_put_ahead => k_is)
    (case k_put_ahead => k_is)
    (case a_from_lot => k_is)
    (case l_from_lot => k_is)
    (case e_from_lot => k_is)
    (case k_from_lot => k_is)
    (case a_anywhere => k_is)
    (case l_anywhere => k_is)
    (case e_anywhere => k_is)
    (case k_anywhere => k_is)
    (case a_led_on => k_is)
    (case l_led_on => k_is)
    (case e_led_on => k_is)
    (case k_led_on => k_is)
    (case a_all_orders => k_is)
    (case l_all_orders => k_is)
    (case e_all_orders => k_is)
    (case k_all_orders => k_is)
    (case a_same_as => k_is)
    (case l_same_as => k_is)
    (case e_same_as => k_is)
    (case k_same_as => k_is)
    (case a__law_bag => k_is)
    (case l__law_bag => k_is)
    (case e__law_bag => k_is)
    (case k__law_bag => k_is)
    (case a__law_take => k_is)
    (case l__law_take => k_is)
    (case e__law_take => k_is)
    (case k__law_take => k_is)
    (case a__law_some => k_is)
    (case l__law_some => k_is)
    (case e__law_some => k_is)
    (case k__law_some => k_is)
    (case a__law_mixed => k_is)
    (case l__law_mixed => k_is)
    (case e__law_mixed => k_is)
    (case k__law_mixed => k_is)
    (case a__law_alike => k_is)
    (case l__law_alike => k_is)
    (case e__law_alike => k_is)
    (case k__law_alike => k_is)
    (case a__law_order => k_is)
    (case l__law_order => k_is)
    (case e__law_order => k_is)
    (case k__law_order => k_is)
    (case a__law_all_tuples => k_is)
    (case l__law_all_tuples => k_is)
    (case e__law_all_tuples => k_is)
    (case k__law_all_tuples => k_is)
    (case a_law => k_is)
    (case l_law => k_is)
    (case e_law => k_is)
    (case k_law => k_is)
    (case y_abs => k_is)
    (case y_dict => k_is)
    (case y_enumerate => k_is)
    (case y_int => k_is)
    (case y_len => k_is)
    (case y_list => k_is)
    (case y_range => k_is)
    (case y_repr => k_is)
    (case y_sorted => k_is)
    (case y_sum => k_is)
    (case y_tuple => k_is)
    (case y_zip => k_is)

