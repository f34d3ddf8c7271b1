import PyProof.Rows.All
import Wide.All
import OpenK.AllK
import Wide.FinOn
import HandS.ForMost
import HandS.ForExc
import HandS.Flow
import HandS.TryOnly
import HandS.ExcOwn
import HandS.WordsExc
import HandS.Small
import HandS.Zip
import HandS.Ends
import HandS.Deep
import HandS.IsInst
import HandS.TupAny
import HandS.TupMul
import HandS.Text
import PyProof.ReprRoads
import PyProof.CallFns
import HandS.RaiseMore
import HandS.WordsDict
import HandS.ExcIs
import HandS.Iter
import PyProof.SumWalkG
import PyProof.ListOps
import PyProof.WalkInts
import PySem.Challenge.RW_mergewright_k22_terms_as_lines
set_option Elab.async false
set_option linter.all false
set_option maxRecDepth 100000
set_option maxHeartbeats 0
/-! A layer over HandS: an expression, a statement, a def by what it computes over plain data. -/
namespace DL
open PySem PySem.Spec L2

/-- plain data -/
inductive D where
  | non | bl (b : Bool) | int (i : Int) | str (x : Str) | tup (xs : List D) | lst (xs : List D) | scr (xs : List D) | dic (ks : List Key) (xs : List D) | raw (v : V)

/-- a part of the abstract heap -/
def Sub (F H : Hp) : Prop := ∀ a o, F a = some o → H a = some o
theorem Sub.refl (F : Hp) : Sub F F := fun _ _ e => e
theorem Sub.trans {F G H : Hp} (a : Sub F G) (b : Sub G H) : Sub F H := fun c o e => b c o (a c o e)
theorem Sub.rd {F H : Hp} (s : Sub F H) {a : Addr} {u : HO} (r : Rd F a u) : Rd H a u := by
  rcases r with r | ⟨o, r⟩
  · exact .inl (s _ _ r)
  · exact .inr ⟨o, s _ _ r⟩
theorem Sub.sqL {K : PySem.W.Frag} {F H : Hp} (s : Sub F H) {a : Addr} {xs : List V} (r : SqL K F a xs) : SqL K H a xs := by
  rcases r with r | r
  · exact .inl (s.rd r)
  · exact .inr r
theorem Sub.sqT {K : PySem.W.Frag} {F H : Hp} (s : Sub F H) {a : Addr} {xs : List V} (r : SqT K F a xs) : SqT K H a xs := by
  rcases r with r | r
  · exact .inl (s.rd r)
  · exact .inr r
theorem Sub.free {F H : Hp} (s : Sub F H) {a : Addr} (h : H a = none) : F a = none := by
  cases q : F a with
  | none => rfl
  | some o => rw [s _ _ q] at h; cases h

mutual
/-- v stands for d, by what F tells -/
def Rep (K : PySem.W.Frag) (F : Hp) : D → V → Prop
  | .non, v => v = .non
  | .bl b, v => v = .bl b
  | .int i, v => v = .int i
  | .str x, v => v = .str x
  | .raw u, v => v = u
  | .tup xs, v => ∃ a vs, v = .ref a ∧ SqT K F a vs ∧ Reps K F xs vs
  | .lst xs, v => ∃ a vs, v = .ref a ∧ F a = some (.lst vs) ∧ Reps K F xs vs
  | .scr xs, v => ∃ a vs, v = .ref a ∧ SqL K F a vs ∧ Reps K F xs vs
  | .dic ks xs, v => ∃ a vs, v = .ref a ∧ Rd F a (.dK (ks.zip vs)) ∧ ks.length = xs.length ∧ ks.Nodup ∧ Reps K F xs vs
def Reps (K : PySem.W.Frag) (F : Hp) : List D → List V → Prop
  | [], vs => vs = []
  | x :: xs, vs => ∃ v r, vs = v :: r ∧ Rep K F x v ∧ Reps K F xs r
end
theorem Reps.nil {K : PySem.W.Frag} {F : Hp} : Reps K F [] [] := rfl
theorem Reps.cons {K : PySem.W.Frag} {F : Hp} {x : D} {xs : List D} {v : V} {vs : List V} (a : Rep K F x v) (b : Reps K F xs vs) : Reps K F (x :: xs) (v :: vs) := ⟨v, vs, rfl, a, b⟩
section
variable {K : PySem.W.Frag} {F F' : Hp}
mutual
theorem Rep.mono (s : Sub F F') : ∀ (d : D) (v : V), Rep K F d v → Rep K F' d v
  | .non, _, h => h
  | .bl _, _, h => h
  | .int _, _, h => h
  | .str _, _, h => h
  | .raw _, _, h => h
  | .tup xs, v, h => by
    obtain ⟨a, vs, e, q, r⟩ := h
    exact ⟨a, vs, e, s.sqT q, Reps.mono s xs vs r⟩
  | .lst xs, v, h => by
    obtain ⟨a, vs, e, q, r⟩ := h
    exact ⟨a, vs, e, s _ _ q, Reps.mono s xs vs r⟩
  | .scr xs, v, h => by
    obtain ⟨a, vs, e, q, r⟩ := h
    exact ⟨a, vs, e, s.sqL q, Reps.mono s xs vs r⟩
  | .dic ks xs, v, h => by
    obtain ⟨a, vs, e, q, l, n, r⟩ := h
    exact ⟨a, vs, e, s.rd q, l, n, Reps.mono s xs vs r⟩
theorem Reps.mono (s : Sub F F') : ∀ (ds : List D) (vs : List V), Reps K F ds vs → Reps K F' ds vs
  | [], _, h => h
  | d :: ds, _, h => by
    obtain ⟨v, r, e, a, b⟩ := h
    exact ⟨v, r, e, Rep.mono s d v a, Reps.mono s ds r b⟩
end
theorem Reps.length : ∀ {ds : List D} {vs : List V}, Reps K F ds vs → vs.length = ds.length
  | [], _, h => by cases h; rfl
  | d :: ds, _, h => by
    obtain ⟨v, r, rfl, a, b⟩ := h
    simp [Reps.length b]
theorem Reps.get : ∀ {ds : List D} {vs : List V} {i : Nat} {d : D}, Reps K F ds vs → ds[i]? = some d → ∃ v, vs[i]? = some v ∧ Rep K F d v
  | [], _, i, d, h, e => by simp at e
  | x :: ds, _, 0, d, h, e => by
    obtain ⟨v, r, rfl, a, b⟩ := h
    simp at e
    subst e
    exact ⟨v, rfl, a⟩
  | x :: ds, _, i + 1, d, h, e => by
    obtain ⟨v, r, rfl, a, b⟩ := h
    simpa using Reps.get (i := i) b (by simpa using e)
theorem Reps.of_get : ∀ {ds : List D} {vs : List V} {i : Nat} {v : V}, Reps K F ds vs → vs[i]? = some v → ∃ d, ds[i]? = some d ∧ Rep K F d v
  | [], _, i, v, h, e => by cases h; simp at e
  | x :: ds, _, 0, v, h, e => by
    obtain ⟨v, r, rfl, a, b⟩ := h
    simp at e
    subst e
    exact ⟨x, rfl, a⟩
  | x :: ds, _, i + 1, v, h, e => by
    obtain ⟨v, r, rfl, a, b⟩ := h
    simpa using Reps.of_get (i := i) b (by simpa using e)
theorem Reps.append : ∀ {ds es : List D} {vs ws : List V}, Reps K F ds vs → Reps K F es ws → Reps K F (ds ++ es) (vs ++ ws)
  | [], _, _, _, h, k => by cases h; exact k
  | d :: ds, es, _, ws, h, k => by
    obtain ⟨v, r, rfl, a, b⟩ := h
    exact ⟨v, r ++ ws, rfl, a, Reps.append b k⟩
theorem Reps.snoc {ds : List D} {vs : List V} {d : D} {v : V} (h : Reps K F ds vs) (r : Rep K F d v) : Reps K F (ds ++ [d]) (vs ++ [v]) := h.append (.cons r .nil)
theorem Reps.take : ∀ (n : Nat) {ds : List D} {vs : List V}, Reps K F ds vs → Reps K F (ds.take n) (vs.take n)
  | 0, _, _, _ => by simp [Reps]
  | n + 1, [], _, h => by cases h; simp [Reps]
  | n + 1, d :: ds, _, h => by
    obtain ⟨v, r, rfl, a, b⟩ := h
    exact ⟨v, r.take n, rfl, a, Reps.take n b⟩
theorem Reps.drop : ∀ (n : Nat) {ds : List D} {vs : List V}, Reps K F ds vs → Reps K F (ds.drop n) (vs.drop n)
  | 0, _, _, h => by simpa using h
  | n + 1, [], _, h => by cases h; simp [Reps]
  | n + 1, d :: ds, _, h => by
    obtain ⟨v, r, rfl, a, b⟩ := h
    simpa using Reps.drop n b
theorem Reps.set : ∀ {ds : List D} {vs : List V} (i : Nat) {d : D} {v : V}, Reps K F ds vs → Rep K F d v → Reps K F (ds.set i d) (vs.set i v)
  | [], _, i, d, v, h, r => by cases h; simp [Reps]
  | x :: ds, _, 0, d, v, h, r => by
    obtain ⟨w, t, rfl, a, b⟩ := h
    exact ⟨v, t, rfl, r, b⟩
  | x :: ds, _, i + 1, d, v, h, r => by
    obtain ⟨w, t, rfl, a, b⟩ := h
    exact ⟨w, t.set i v, rfl, a, Reps.set i b r⟩
theorem Reps.rev : ∀ {ds : List D} {vs : List V}, Reps K F ds vs → Reps K F ds.reverse vs.reverse
  | [], _, h => by cases h; exact .nil
  | d :: ds, _, h => by
    obtain ⟨v, r, rfl, a, b⟩ := h
    rw [List.reverse_cons, List.reverse_cons]
    exact (Reps.rev b).snoc a
theorem Reps.ints : ∀ {ns : List Int} {vs : List V}, Reps K F (ns.map .int) vs → vs = ns.map V.int
  | [], _, h => h
  | n :: ns, _, h => by
    obtain ⟨v, r, rfl, a, b⟩ := h
    rw [Reps.ints b]
    exact congrArg (· :: _) a
theorem Reps.strs : ∀ {ns : List Str} {vs : List V}, Reps K F (ns.map .str) vs → vs = ns.map V.str
  | [], _, h => h
  | n :: ns, _, h => by
    obtain ⟨v, r, rfl, a, b⟩ := h
    rw [Reps.strs b]
    exact congrArg (· :: _) a
theorem Reps.bools : ∀ {ns : List Bool} {vs : List V}, Reps K F (ns.map .bl) vs → vs = ns.map V.bl
  | [], _, h => h
  | n :: ns, _, h => by
    obtain ⟨v, r, rfl, a, b⟩ := h
    rw [Reps.bools b]
    exact congrArg (· :: _) a
theorem Reps.mk_ints (ns : List Int) : Reps K F (ns.map .int) (ns.map V.int) := by
  induction ns with
  | nil => exact .nil
  | cons n r ih => exact .cons rfl ih
theorem Reps.mk_strs (ns : List Str) : Reps K F (ns.map .str) (ns.map V.str) := by
  induction ns with
  | nil => exact .nil
  | cons n r ih => exact .cons rfl ih
end

/-- what is owned at a: a list or a dict that may be changed -/
def Cell (K : PySem.W.Frag) (F H : Hp) (a : Addr) : D → Prop
  | .lst xs => ∃ vs, H a = some (.lst vs) ∧ Reps K F xs vs
  | .dic ks xs => ∃ vs, H a = some (.dK (ks.zip vs)) ∧ ks.length = xs.length ∧ ks.Nodup ∧ Reps K F xs vs
  | _ => False
theorem Cell.there {K : PySem.W.Frag} {F H : Hp} {a : Addr} : ∀ {d : D}, Cell K F H a d → ∃ o, H a = Option.some o
  | .lst _, h => let ⟨_, e, _⟩ := h; ⟨_, e⟩
  | .dic _ _, h => let ⟨_, e, _⟩ := h; ⟨_, e⟩
  | .non, h => h.elim
  | .bl _, h => h.elim
  | .int _, h => h.elim
  | .str _, h => h.elim
  | .tup _, h => h.elim
  | .scr _, h => h.elim
  | .raw _, h => h.elim
theorem Cell.mono {K : PySem.W.Frag} {F F' H H' : Hp} {a : Addr} (s : Sub F F') (e : ∀ o, H a = some o → H' a = some o) : ∀ {d : D}, Cell K F H a d → Cell K F' H' a d
  | .lst _, h => let ⟨vs, q, r⟩ := h; ⟨vs, e _ q, Reps.mono s _ _ r⟩
  | .dic _ _, h => let ⟨vs, q, l, n, r⟩ := h; ⟨vs, e _ q, l, n, Reps.mono s _ _ r⟩
  | .non, h => h.elim
  | .bl _, h => h.elim
  | .int _, h => h.elim
  | .str _, h => h.elim
  | .tup _, h => h.elim
  | .scr _, h => h.elim
  | .raw _, h => h.elim
/-- frozen: what is owned at a becomes plain data -/
theorem Cell.freeze {K : PySem.W.Frag} {F F' H : Hp} {a : Addr} (s : Sub F F') (e : ∀ o, H a = Option.some o → F' a = Option.some o) : ∀ {d : D}, Cell K F H a d → Rep K F' d (.ref a)
  | .lst _, h => let ⟨vs, q, r⟩ := h; ⟨a, vs, rfl, e _ q, Reps.mono s _ _ r⟩
  | .dic _ _, h => let ⟨vs, q, l, n, r⟩ := h; ⟨a, vs, rfl, .inl (e _ q), l, n, Reps.mono s _ _ r⟩
  | .non, h => h.elim
  | .bl _, h => h.elim
  | .int _, h => h.elim
  | .str _, h => h.elim
  | .tup _, h => h.elim
  | .scr _, h => h.elim
  | .raw _, h => h.elim

/-- what a name holds: nothing, plain data, something of its own that may be changed (bor: lent by the caller) -/
inductive Slot where
  | non | val (d : D) | own (d : D) | bor (d : D)
abbrev Env := List Slot

/-- what a name's value is, by F (data), H (what is owned), α (where what is lent stands) -/
def SlotOk (K : PySem.W.Frag) (F G H : Hp) (x : Option V) (α : Addr) : Slot → Prop
  | .non => True
  | .val d => ∃ v, x = some v ∧ Rep K F d v
  | .own d => ∃ a, x = some (.ref a) ∧ F a = none ∧ G a = none ∧ Cell K F H a d
  | .bor d => x = some (.ref α) ∧ F α = none ∧ G α = none ∧ Cell K F H α d
def Slot.owns : Slot → Bool
  | .own _ => true
  | .bor _ => true
  | _ => false

/-- the names' values σ and the heap H bear ρ: F the data, G the ground that stays as it is -/
structure Fits (K : PySem.W.Frag) (α : Nat → Addr) (ρ : Env) (σ : L2.St) (H F G : Hp) : Prop where
  fh : Sub F H
  gh : Sub G H
  len : σ.length = ρ.length
  slot : ∀ (i : Nat) (s : Slot), ρ[i]? = some s → ∃ x, σ[i]? = some x ∧ SlotOk K F G H x (α i) s
  sep : ∀ (i j : Nat) (s t : Slot) (a : Addr), ρ[i]? = some s → ρ[j]? = some t → s.owns = true → t.owns = true → σ[i]? = some (some (.ref a)) → σ[j]? = some (some (.ref a)) → i = j

/-- the data grow by what is new -/
structure Grow (G F F' : Hp) : Prop where
  sub : Sub F F'
  new : ∀ a o, F' a = some o → F a = some o ∨ (F a = none ∧ G a = none)
theorem Grow.refl (G F : Hp) : Grow G F F := ⟨Sub.refl F, fun _ _ e => .inl e⟩
theorem Grow.trans {G F F' F'' : Hp} (a : Grow G F F') (b : Grow G F' F'') : Grow G F F'' := ⟨a.sub.trans b.sub, fun c o e => by
  rcases b.new c o e with h | ⟨h1, h2⟩
  · exact a.new c o h
  · exact .inr ⟨a.sub.free h1, h2⟩⟩

/-- the heap grows by new objects, the data by some of them -/
structure Ext (H F H' F' : Hp) : Prop where
  hh : Sub H H'
  ff : Sub F F'
  fh : Sub F' H'
  new : ∀ a o, F' a = some o → F a = some o ∨ H a = none
theorem Ext.refl {H F : Hp} (h : Sub F H) : Ext H F H F := ⟨Sub.refl H, Sub.refl F, h, fun _ _ e => .inl e⟩
theorem Ext.trans {H F H1 F1 H2 F2 : Hp} (a : Ext H F H1 F1) (b : Ext H1 F1 H2 F2) : Ext H F H2 F2 :=
  ⟨a.hh.trans b.hh, a.ff.trans b.ff, b.fh, fun c o e => by
    rcases b.new c o e with h | h
    · exact a.new c o h
    · exact .inr (a.hh.free h)⟩
theorem Sub.upd_none {H : Hp} {p : Addr} {o : HO} (h : H p = none) : Sub H (upd H p o) := fun b u q => by rw [upd_ne (ne_of_none q h)]; exact q
theorem Sub.upd2 {F H : Hp} {p : Addr} {o : HO} (s : Sub F H) : Sub (upd F p o) (upd H p o) := fun b u q => by
  by_cases e : b = p
  · subst e; rw [upd_same] at q ⊢; exact q
  · rw [upd_ne e] at q ⊢; exact s _ _ q
/-- a new object, as data -/
theorem Ext.alloc {H F : Hp} {p : Addr} {o : HO} (s : Sub F H) (h : H p = none) : Ext H F (upd H p o) (upd F p o) :=
  ⟨Sub.upd_none h, Sub.upd_none (s.free h), s.upd2, fun b u q => by
    by_cases e : b = p
    · subst e; exact .inr h
    · rw [upd_ne e] at q; exact .inl q⟩
/-- a new object, not (yet) data -/
theorem Ext.allocO {H F : Hp} {p : Addr} {o : HO} (s : Sub F H) (h : H p = none) : Ext H F (upd H p o) F :=
  ⟨Sub.upd_none h, Sub.refl F, s.trans (Sub.upd_none h), fun b u q => .inl q⟩

section
variable {K : PySem.W.Frag} {α : Nat → Addr} {ρ : Env} {σ : L2.St} {H F G H' F' : Hp}
theorem SlotOk.ext {x : Option V} {a : Addr} (e : Ext H F H' F') (gh : Sub G H) : ∀ {s : Slot}, SlotOk K F G H x a s → SlotOk K F' G H' x a s
  | .non, h => trivial
  | .val d, h => let ⟨v, q, r⟩ := h; ⟨v, q, Rep.mono e.ff _ _ r⟩
  | .own d, h => by
    obtain ⟨b, q, f, g, c⟩ := h
    refine ⟨b, q, ?_, g, c.mono e.ff fun o z => e.hh _ _ z⟩
    obtain ⟨o, ho⟩ := c.there
    cases z : F' b with
    | none => rfl
    | some u =>
      rcases e.new _ _ z with w | w
      · rw [f] at w; cases w
      · rw [ho] at w; cases w
  | .bor d, h => by
    obtain ⟨q, f, g, c⟩ := h
    refine ⟨q, ?_, g, c.mono e.ff fun o z => e.hh _ _ z⟩
    obtain ⟨o, ho⟩ := c.there
    cases z : F' a with
    | none => rfl
    | some u =>
      rcases e.new _ _ z with w | w
      · rw [f] at w; cases w
      · rw [ho] at w; cases w
theorem Fits.ext (h : Fits K α ρ σ H F G) (e : Ext H F H' F') : Fits K α ρ σ H' F' G :=
  ⟨e.fh, h.gh.trans e.hh, h.len, fun i s q => let ⟨x, z, k⟩ := h.slot i s q; ⟨x, z, k.ext e h.gh⟩, h.sep⟩
theorem Fits.grow (h : Fits K α ρ σ H F G) (e : Ext H F H' F') : Grow G F F' := ⟨e.ff, fun a o q => by
  cases w : F a with
  | some u => left; rw [e.ff _ _ w] at q; cases q; rfl
  | none =>
    rcases e.new a o q with z | z
    · rw [w] at z; cases z
    · exact .inr ⟨rfl, h.gh.free z⟩⟩
end
end DL

namespace DL
open PySem PySem.Spec L2

/-- what an expression gives: data; the thing that a name owns; something new -/
inductive RV where | val (d : D) | loc (i : Nat) | new (d : D)
/-- a class of exceptions: one of the program's own, a built-in one -/
inductive ECls where | own (x : Str) | bi (T : String)
  deriving DecidableEq
/-- an exception: its class, what its own dict holds -/
structure Exn where
  cls : ECls
  fs : List (Str × D)
/-- the class object -/
def ClsIs (K : PySem.W.Frag) : ECls → Value → Prop
  | .own x, v => PySem.W.nsIn K mainGlobals x = some (some v)
  | .bi T, v => v = .type T
theorem ClsIs.eq {K : PySem.W.Frag} {c : ECls} {u v : Value} (a : ClsIs K c u) (b : ClsIs K c v) : u = v := by
  cases c with
  | own x => have a' : PySem.W.nsIn K mainGlobals x = some (some u) := a; have b' : PySem.W.nsIn K mainGlobals x = some (some v) := b; rw [a'] at b'; cases b'; rfl
  | bi T => exact Eq.trans (show u = _ from a) (Eq.symm (show v = _ from b))
inductive ER where | ok (r : RV) (ρ : Env) | ex (x : Exn) (ρ : Env) | no
abbrev Ev := Env → ER
def RV.settle : RV → RV
  | .new d => .val d
  | r => r
def ER.settle : ER → ER
  | .ok r ρ => .ok r.settle ρ
  | e => e
def ER.bind (e : ER) (k : RV → Env → ER) : ER := match e with
  | .ok r ρ => k r ρ
  | .ex x ρ => .ex x ρ
  | .no => .no
def ER.of (r : Option RV) (ρ : Env) : ER := match r with
  | some r => .ok r ρ
  | none => .no
/-- what is read -/
def peek (r : RV) (ρ : Env) : Option D := match r with
  | .val d => some d
  | .loc i => match ρ[i]? with
    | some (.val d) => some d
    | some (.own d) => some d
    | some (.bor d) => some d
    | _ => none
  | .new _ => none
/-- made plain data for good -/
def frz (r : RV) (ρ : Env) : Option (D × Env) := match r with
  | .val d => some (d, ρ)
  | .loc i => match ρ[i]? with
    | some (.val d) => some (d, ρ)
    | some (.own d) => some (d, ρ.set i (.val d))
    | _ => none
  | .new _ => none
def frzs : List RV → Env → Option (List D × Env)
  | [], ρ => some ([], ρ)
  | r :: rs, ρ => match frz r ρ with
    | some (d, ρ1) => match frzs rs ρ1 with
      | some (ds, ρ2) => some (d :: ds, ρ2)
      | none => none
    | none => none
def peeks : List RV → Env → Option (List D)
  | [], _ => some []
  | r :: rs, ρ => match peek r ρ, peeks rs ρ with
    | some d, some ds => some (d :: ds)
    | _, _ => none

/-- v is what r says -/
def RRep (K : PySem.W.Frag) (F G H : Hp) (σ : L2.St) (ρ : Env) : RV → V → Prop
  | .val d, v => Rep K F d v
  | .loc i, v => σ[i]? = some (some v)
  | .new d, v => ∃ a, v = .ref a ∧ F a = none ∧ G a = none ∧ Cell K F H a d ∧ ∀ (i : Nat) (s : Slot), ρ[i]? = some s → s.owns = true → σ[i]? ≠ some (some (V.ref a))
/-- .. of what is settled -/
def SRep (K : PySem.W.Frag) (F : Hp) (σ : L2.St) : RV → V → Prop
  | .val d, v => Rep K F d v
  | .loc i, v => σ[i]? = some (some v)
  | .new _, _ => False
def SReps (K : PySem.W.Frag) (F : Hp) (σ : L2.St) : List RV → List V → Prop
  | [], vs => vs = []
  | r :: rs, vs => ∃ v t, vs = v :: t ∧ SRep K F σ r v ∧ SReps K F σ rs t
def RepX (K : PySem.W.Frag) (F H : Hp) (x : Exn) (cls : Value) (d : Option Addr) : Prop :=
  ClsIs K x.cls cls ∧ (x.fs = [] ∨ ∃ dd vs, d = some dd ∧ H dd = some (.xd ((x.fs.map (·.1)).zip vs)) ∧ Reps K F (x.fs.map (·.2)) vs)

/-- what must follow -/
def EC (K : PySem.W.Frag) (W : WX) (α : Nat → Addr) (σ : L2.St) (F G : Hp) (Q : VK) : ER → Prop
  | .ok r ρ => ∀ v H' F', Grow G F F' → Fits K α ρ σ H' F' G → RRep K F' G H' σ ρ r v → Q v H'
  | .ex x ρ => ∀ cls d H' F', Grow G F F' → Fits K α ρ σ H' F' G → RepX K F' H' x cls d → W cls d σ H'
  | .no => False
/-- the reading of an expression that does g -/
def tE (K : PySem.W.Frag) (W : WX) (g : Ev) : TE := fun σ H Q => ∃ (α : Nat → Addr) (ρ : Env) (F G : Hp), Fits K α ρ σ H F G ∧ EC K W α σ F G Q (g ρ)

section
variable {K : PySem.W.Frag} {W : WX} {α : Nat → Addr} {ρ : Env} {σ : L2.St} {H F G H' F' : Hp} {Q : VK}
theorem EC.mono (g : Grow G F F') : ∀ {e : ER}, EC K W α σ F G Q e → EC K W α σ F' G Q e
  | .ok r ρ, h => fun v H1 F1 g1 f1 r1 => h v H1 F1 (g.trans g1) f1 r1
  | .ex x ρ, h => fun c d H1 F1 g1 f1 r1 => h c d H1 F1 (g.trans g1) f1 r1
  | .no, h => h
theorem EC.imp {Q' : VK} (w : ∀ v H, Q v H → Q' v H) : ∀ {e : ER}, EC K W α σ F G Q e → EC K W α σ F G Q' e
  | .ok r ρ, h => fun v H1 F1 g1 f1 r1 => w _ _ (h v H1 F1 g1 f1 r1)
  | .ex x ρ, h => h
  | .no, h => h
/-- one after another: k reads what the first gave -/
theorem EC.bind {g : Ev} {k : RV → Env → ER} {R : V → Hp → Prop} (hk : ∀ r ρ1, ∀ v H1 F1, Grow G F F1 → Fits K α ρ1 σ H1 F1 G → RRep K F1 G H1 σ ρ1 r v → EC K W α σ F1 G Q (k r ρ1) → R v H1) :
    ∀ {e : ER}, EC K W α σ F G Q (e.bind k) → EC K W α σ F G R e
  | .ok r ρ1, h => fun v H1 F1 g1 f1 r1 => hk r ρ1 v H1 F1 g1 f1 r1 (EC.mono g1 h)
  | .ex x ρ1, h => h
  | .no, h => h
/-- what is new is settled -/
theorem RRep.settle (f : Fits K α ρ σ H F G) : ∀ {r : RV} {v : V}, RRep K F G H σ ρ r v → ∃ F', Grow G F F' ∧ Fits K α ρ σ H F' G ∧ SRep K F' σ r.settle v
  | .val d, v, h => ⟨F, Grow.refl _ _, f, h⟩
  | .loc i, v, h => ⟨F, Grow.refl _ _, f, h⟩
  | .new d, v, h => by
    obtain ⟨a, rfl, fa, ga, c, sp⟩ := h
    obtain ⟨o, ho⟩ := c.there
    have s1 : Sub F (upd F a o) := Sub.upd_none fa
    refine ⟨upd F a o, ⟨s1, fun b u q => ?_⟩, ⟨fun b u q => ?_, f.gh, f.len, fun i s q => ?_, f.sep⟩, ?_⟩
    · by_cases e : b = a
      · subst e; exact .inr ⟨fa, ga⟩
      · rw [upd_ne e] at q; exact .inl q
    · by_cases e : b = a
      · subst e; rw [upd_same] at q; cases q; exact ho
      · rw [upd_ne e] at q; exact f.fh _ _ q
    · obtain ⟨x, hx, so⟩ := f.slot i s q
      refine ⟨x, hx, ?_⟩
      cases s with
      | non => trivial
      | val d' => obtain ⟨v, e, r⟩ := so; exact ⟨v, e, Rep.mono s1 _ _ r⟩
      | own d' =>
        obtain ⟨b, e, fb, gb, cb⟩ := so
        have ne : b ≠ a := fun z => sp i _ q rfl (by rw [hx, e, z])
        exact ⟨b, e, by rw [upd_ne ne]; exact fb, gb, cb.mono s1 fun _ z => z⟩
      | bor d' =>
        obtain ⟨e, fb, gb, cb⟩ := so
        have ne : α i ≠ a := fun z => sp i _ q rfl (by rw [hx, e, z])
        exact ⟨e, by rw [upd_ne ne]; exact fb, gb, cb.mono s1 fun _ z => z⟩
    · exact c.freeze s1 fun u hu => by rw [ho] at hu; cases hu; exact upd_same
theorem SRep.rrep : ∀ {r : RV} {v : V}, SRep K F σ r v → RRep K F G H σ ρ r v
  | .val _, _, h => h
  | .loc _, _, h => h
  | .new _, _, h => h.elim
theorem SRep.mono (s : Sub F F') : ∀ {r : RV} {v : V}, SRep K F σ r v → SRep K F' σ r v
  | .val _, _, h => Rep.mono s _ _ h
  | .loc _, _, h => h
  | .new _, _, h => h.elim
theorem SReps.mono (s : Sub F F') : ∀ {rs : List RV} {vs : List V}, SReps K F σ rs vs → SReps K F' σ rs vs
  | [], _, h => h
  | r :: rs, _, h => by
    obtain ⟨v, t, rfl, a, b⟩ := h
    exact ⟨v, t, rfl, a.mono s, SReps.mono s b⟩
theorem EC.settle : ∀ {e : ER}, EC K W α σ F G Q e.settle → EC K W α σ F G Q e
  | .ok r ρ1, h => fun v H1 F1 g1 f1 r1 => by
    obtain ⟨F2, g2, f2, s2⟩ := r1.settle f1
    exact h v H1 F2 (g1.trans g2) f2 s2.rrep
  | .ex x ρ1, h => h
  | .no, h => h
theorem settle_srep : ∀ {r : RV} {v : V}, RRep K F G H σ ρ r.settle v → SRep K F σ r.settle v
  | .val _, _, h => h
  | .loc _, _, h => h
  | .new _, _, h => h
/-- one operand after another -/
theorem EC.bindS {k : RV → Env → ER} {R : V → Hp → Prop} (hk : ∀ r ρ1, ∀ v H1 F1, Grow G F F1 → Fits K α ρ1 σ H1 F1 G → SRep K F1 σ r v → EC K W α σ F1 G Q (k r ρ1) → R v H1) :
    ∀ {e : ER}, EC K W α σ F G Q (e.settle.bind k) → EC K W α σ F G R e
  | .ok r ρ1, h => fun v H1 F1 g1 f1 r1 => by
    obtain ⟨F2, g2, f2, s2⟩ := r1.settle f1
    exact hk r.settle ρ1 v H1 F2 (g1.trans g2) f2 s2 (EC.mono (g1.trans g2) h)
  | .ex x ρ1, h => h
  | .no, h => h
end

theorem _root_.L2.PE.weak {X : Cx} {e : Expr} {t t' : TE} (h : PE X e t) (w : ∀ σ H Q, t' σ H Q → t σ H Q) : PE X e t' := ⟨fun pins s σ H Q I q => h.run pins s σ H Q I (w σ H Q q)⟩
theorem _root_.L2.PT.weak {X : Cx} {e : Expr} {t t' : TT} (h : PT X e t) (w : ∀ σ H Q, t' σ H Q → t σ H Q) : PT X e t' := ⟨fun pins s σ H Q I q => h.run pins s σ H Q I (w σ H Q q)⟩
theorem _root_.L2.PW.weak {X : Cx} {e : Expr} {t t' : TT} (h : PW X e t) (w : ∀ σ H Q, t' σ H Q → t σ H Q) : PW X e t' := ⟨fun wh pins s σ H Q I q => h.run wh pins s σ H Q I (w σ H Q q)⟩
theorem _root_.L2.PA.weak {X : Cx} {es : List Expr} {t t' : TA} (h : PA X es t) (w : ∀ σ H Q, t' σ H Q → t σ H Q) : PA X es t' := ⟨fun pos pins s σ H Q I q => h.run pos pins s σ H Q I (w σ H Q q)⟩
theorem _root_.L2.PS.weak {X : Cx} {st : Stmt} {t t' : TS} (h : PS X st t) (w : ∀ D σ H, t' D σ H → t D σ H) : PS X st t' := ⟨fun pins s σ H D I q => h.run pins s σ H D I (w D σ H q)⟩
theorem _root_.L2.PSs.weak {X : Cx} {st : List Stmt} {t t' : TS} (h : PSs X st t) (w : ∀ D σ H, t' D σ H → t D σ H) : PSs X st t' := ⟨fun pins s σ H D I q => h.run pins s σ H D I (w D σ H q)⟩

/-- one level seen: what an operator reads -/
def View (K : PySem.W.Frag) (F H : Hp) : D → V → Prop
  | .tup xs, v => ∃ a vs, v = .ref a ∧ SqT K F a vs ∧ Reps K F xs vs
  | .lst xs, v => ∃ a vs, v = .ref a ∧ H a = some (.lst vs) ∧ Reps K F xs vs
  | .scr xs, v => ∃ a vs, v = .ref a ∧ SqL K F a vs ∧ Reps K F xs vs
  | .dic ks xs, v => ∃ a vs, v = .ref a ∧ Rd H a (.dK (ks.zip vs)) ∧ ks.length = xs.length ∧ ks.Nodup ∧ Reps K F xs vs
  | d, v => Rep K F d v
def Views (K : PySem.W.Frag) (F H : Hp) : List D → List V → Prop
  | [], vs => vs = []
  | d :: ds, vs => ∃ v t, vs = v :: t ∧ View K F H d v ∧ Views K F H ds t
section
variable {K : PySem.W.Frag} {W : WX} {α : Nat → Addr} {ρ ρ' : Env} {σ : L2.St} {H F G H' F' : Hp} {Q : VK}
theorem Rep.view (s : Sub F H) : ∀ {d : D} {v : V}, Rep K F d v → View K F H d v
  | .non, _, h => h
  | .bl _, _, h => h
  | .int _, _, h => h
  | .str _, _, h => h
  | .raw _, _, h => h
  | .tup _, _, h => h
  | .lst _, _, h => let ⟨a, vs, e, q, r⟩ := h; ⟨a, vs, e, s _ _ q, r⟩
  | .scr _, _, h => h
  | .dic _ _, _, h => let ⟨a, vs, e, q, l, n, r⟩ := h; ⟨a, vs, e, s.rd q, l, n, r⟩
theorem Cell.view {a : Addr} : ∀ {d : D}, Cell K F H a d → View K F H d (.ref a)
  | .lst _, h => let ⟨vs, q, r⟩ := h; ⟨a, vs, rfl, q, r⟩
  | .dic _ _, h => let ⟨vs, q, l, n, r⟩ := h; ⟨a, vs, rfl, .inl q, l, n, r⟩
  | .non, h => h.elim
  | .bl _, h => h.elim
  | .int _, h => h.elim
  | .str _, h => h.elim
  | .tup _, h => h.elim
  | .scr _, h => h.elim
  | .raw _, h => h.elim
theorem Fits.peek (f : Fits K α ρ σ H F G) {r : RV} {v : V} {d : D} (s : SRep K F σ r v) (p : peek r ρ = some d) : View K F H d v := by
  cases r with
  | val d' => cases p; exact Rep.view f.fh s
  | new d' => cases p
  | loc i =>
    unfold DL.peek at p
    cases e : ρ[i]? with
    | none => simp [e] at p
    | some sl =>
      obtain ⟨x, hx, so⟩ := f.slot i sl e
      have hv : σ[i]? = some (some v) := s
      rw [hx] at hv
      cases hv
      cases sl with
      | non => simp [e] at p
      | val d' =>
        simp [e] at p
        subst p
        obtain ⟨w, q, r⟩ := so
        cases q
        exact Rep.view f.fh r
      | own d' =>
        simp [e] at p
        subst p
        obtain ⟨a, q, _, _, c⟩ := so
        cases q
        exact c.view
      | bor d' =>
        simp [e] at p
        subst p
        obtain ⟨q, _, _, c⟩ := so
        cases q
        exact c.view
theorem Fits.peeks (f : Fits K α ρ σ H F G) : ∀ {rs : List RV} {vs : List V} {ds : List D}, SReps K F σ rs vs → peeks rs ρ = some ds → Views K F H ds vs
  | [], _, ds, s, p => by cases p; exact s
  | r :: rs, _, ds, s, p => by
    obtain ⟨v, t, rfl, a, b⟩ := s
    unfold DL.peeks at p
    cases e1 : DL.peek r ρ with
    | none => simp [e1] at p
    | some d =>
      cases e2 : DL.peeks rs ρ with
      | none => simp [e1, e2] at p
      | some ds' =>
        simp [e1, e2] at p
        subst p
        exact ⟨v, t, rfl, f.peek a e1, f.peeks b e2⟩
/-- a name's own thing becomes data -/
theorem Fits.freeze (f : Fits K α ρ σ H F G) {i : Nat} {d : D} {v : V} (e : ρ[i]? = some (.own d)) (hv : σ[i]? = some (some v)) :
    ∃ F', Grow G F F' ∧ Fits K α (ρ.set i (.val d)) σ H F' G ∧ Rep K F' d v := by
  obtain ⟨x, hx, a, q, fa, ga, c⟩ := f.slot i _ e
  rw [hx] at hv
  cases hv
  cases q
  obtain ⟨o, ho⟩ := c.there
  have s1 : Sub F (upd F a o) := Sub.upd_none fa
  have hi : i < ρ.length := (List.getElem?_eq_some_iff.mp e).1
  have rp : Rep K (upd F a o) d (.ref a) := c.freeze s1 fun u hu => by rw [ho] at hu; cases hu; exact upd_same
  refine ⟨upd F a o, ⟨s1, fun b u q => ?_⟩, ⟨fun b u q => ?_, f.gh, by rw [List.length_set]; exact f.len, fun j s q => ?_, fun j k s t b q1 q2 o1 o2 => ?_⟩, rp⟩
  · by_cases z : b = a
    · subst z; exact .inr ⟨fa, ga⟩
    · rw [upd_ne z] at q; exact .inl q
  · by_cases z : b = a
    · subst z; rw [upd_same] at q; cases q; exact ho
    · rw [upd_ne z] at q; exact f.fh _ _ q
  · by_cases hj : i = j
    · subst hj
      rw [List.getElem?_set_self hi] at q
      cases q
      exact ⟨_, hx, .ref a, rfl, rp⟩
    · rw [List.getElem?_set_ne hj] at q
      obtain ⟨y, hy, so⟩ := f.slot j s q
      refine ⟨y, hy, ?_⟩
      cases s with
      | non => trivial
      | val d' => obtain ⟨w, z, r⟩ := so; exact ⟨w, z, Rep.mono s1 _ _ r⟩
      | own d' =>
        obtain ⟨b, z, fb, gb, cb⟩ := so
        have ne : b ≠ a := fun w => hj (f.sep i j _ _ a e q rfl rfl hx (by rw [hy, z, w]))
        exact ⟨b, z, by rw [upd_ne ne]; exact fb, gb, cb.mono s1 fun _ z => z⟩
      | bor d' =>
        obtain ⟨z, fb, gb, cb⟩ := so
        have ne : α j ≠ a := fun w => hj (f.sep i j _ _ a e q rfl rfl hx (by rw [hy, z, w]))
        exact ⟨z, by rw [upd_ne ne]; exact fb, gb, cb.mono s1 fun _ z => z⟩
  · have go : ∀ {k : Nat} {s : Slot}, (ρ.set i (.val d))[k]? = some s → s.owns = true → ρ[k]? = some s := fun {k s} q o => by
      by_cases hk : i = k
      · subst hk
        rw [List.getElem?_set_self hi] at q
        cases q
        cases o
      · rwa [List.getElem?_set_ne hk] at q
    exact f.sep j k s t b (go q1 o1) (go q2 o2) o1 o2
theorem Fits.frz (f : Fits K α ρ σ H F G) {r : RV} {v : V} {d : D} (s : SRep K F σ r v) (p : frz r ρ = some (d, ρ')) : ∃ F', Grow G F F' ∧ Fits K α ρ' σ H F' G ∧ Rep K F' d v := by
  cases r with
  | val d' => cases p; exact ⟨F, Grow.refl _ _, f, s⟩
  | new d' => cases p
  | loc i =>
    unfold DL.frz at p
    have hv : σ[i]? = some (some v) := s
    cases e : ρ[i]? with
    | none => simp [e] at p
    | some sl =>
      cases sl with
      | non => simp [e] at p
      | bor d' => simp [e] at p
      | val d' =>
        simp [e] at p
        obtain ⟨rfl, rfl⟩ := p
        obtain ⟨x, hx, w, q, r⟩ := f.slot i _ e
        rw [hx] at hv
        cases hv
        cases q
        exact ⟨F, Grow.refl _ _, f, r⟩
      | own d' =>
        simp [e] at p
        obtain ⟨rfl, rfl⟩ := p
        exact f.freeze e hv
theorem Fits.frzs : ∀ {rs : List RV} {vs : List V} {ds : List D} {ρ ρ' : Env} {F : Hp}, Fits K α ρ σ H F G → SReps K F σ rs vs → frzs rs ρ = some (ds, ρ') → ∃ F', Grow G F F' ∧ Fits K α ρ' σ H F' G ∧ Reps K F' ds vs
  | [], _, ds, ρ, ρ', F, f, s, p => by cases p; exact ⟨F, Grow.refl _ _, f, s⟩
  | r :: rs, _, ds, ρ, ρ', F, f, s, p => by
    obtain ⟨v, t, rfl, a, b⟩ := s
    unfold DL.frzs at p
    cases e1 : DL.frz r ρ with
    | none => simp [e1] at p
    | some w =>
      obtain ⟨d, ρ1⟩ := w
      cases e2 : DL.frzs rs ρ1 with
      | none => simp [e1, e2] at p
      | some w2 =>
        obtain ⟨ds', ρ2⟩ := w2
        simp [e1, e2] at p
        obtain ⟨rfl, rfl⟩ := p
        obtain ⟨F1, g1, f1, r1⟩ := f.frz a e1
        obtain ⟨F2, g2, f2, r2⟩ := Fits.frzs f1 (b.mono g1.sub) e2
        exact ⟨F2, g1.trans g2, f2, .cons (Rep.mono g2.sub _ _ r1) r2⟩
end

/-! ### what an operator gives -/
/-- w is what r says, behind the heap H -/
def ORep (K : PySem.W.Frag) (H F' H' : Hp) : RV → V → Prop
  | .val d, v => Rep K F' d v
  | .new d, v => ∃ a, v = .ref a ∧ H a = none ∧ F' a = none ∧ Cell K F' H' a d
  | .loc _, _ => False
/-- an operation of one, of two, of several values by what it computes -/
def Op1 (K : PySem.W.Frag) (r : V → Hp → VK → Prop) (f : D → Option RV) : Prop :=
  ∀ (F H : Hp) (d : D) (v : V) (z : RV) (Q : VK), Sub F H → View K F H d v → f d = some z → (∀ w H' F', Ext H F H' F' → ORep K H F' H' z w → Q w H') → r v H Q
def Op2 (K : PySem.W.Frag) (r : V → V → Hp → VK → Prop) (f : D → D → Option RV) : Prop :=
  ∀ (F H : Hp) (d e : D) (v u : V) (z : RV) (Q : VK), Sub F H → View K F H d v → View K F H e u → f d e = some z → (∀ w H' F', Ext H F H' F' → ORep K H F' H' z w → Q w H') → r v u H Q
def OpN (K : PySem.W.Frag) (r : List V → Hp → VK → Prop) (f : List D → Option RV) : Prop :=
  ∀ (F H : Hp) (ds : List D) (vs : List V) (z : RV) (Q : VK), Sub F H → Views K F H ds vs → f ds = some z → (∀ w H' F', Ext H F H' F' → ORep K H F' H' z w → Q w H') → r vs H Q
section
variable {K : PySem.W.Frag} {W : WX} {α : Nat → Addr} {ρ ρ' : Env} {σ : L2.St} {H F G H' F' : Hp} {Q : VK}
theorem ORep.rrep (f : Fits K α ρ σ H F G) (e : Ext H F H' F') : ∀ {z : RV} {w : V}, ORep K H F' H' z w → RRep K F' G H' σ ρ z w
  | .val _, _, h => h
  | .loc _, _, h => h.elim
  | .new d, w, h => by
    obtain ⟨a, rfl, ha, fa, c⟩ := h
    refine ⟨a, rfl, fa, f.gh.free ha, c, fun i s q o z => ?_⟩
    obtain ⟨x, hx, so⟩ := f.slot i s q
    rw [hx] at z
    cases z
    cases s with
    | non => cases o
    | val d' => cases o
    | own d' =>
      obtain ⟨b, e', _, _, cb⟩ := so
      cases e'
      obtain ⟨u, hu⟩ := cb.there
      rw [ha] at hu
      cases hu
    | bor d' =>
      obtain ⟨e', _, _, cb⟩ := so
      cases e'
      obtain ⟨u, hu⟩ := cb.there
      rw [ha] at hu
      cases hu
/-- an operator's end -/
theorem EC.op (f : Fits K α ρ σ H F G) {z : RV} (h : EC K W α σ F G Q (.ok z ρ)) : ∀ w H' F', Ext H F H' F' → ORep K H F' H' z w → Q w H' := fun w H' F' e o =>
  h w H' F' (f.grow e) (f.ext e) (o.rrep f e)
end

/-! ### expressions -/
section
variable {X : Cx} {W : WX} {e a b : Expr} {g ga gb : Ev} {pos : Pos}
/-- a name's value -/
def dVar (i : Nat) : Ev := fun ρ => match ρ[i]? with
  | some (.val d) => .ok (.val d) ρ
  | some (.own _) => .ok (.loc i) ρ
  | some (.bor _) => .ok (.loc i) ρ
  | _ => .no
theorem ed_var (i : Nat) {x : Str} (hN : X.N[i]? = some x := by rfl) (hv : Vis X.env.scope x := by first | exact Or.inl rfl | exact Or.inr (Or.inl rfl) | exact Or.inr (Or.inr rfl)) (hd : (x == ("__debug__" : Str)) = false := by decide)
    (hcd : (x == ("__classdict__" : Str)) = false := by decide) : PE X (.Name x pos) (tE X.K W (dVar i)) := by
  refine (pe_var hN hv hd hcd).weak fun σ H Q h => ?_
  obtain ⟨α, ρ, F, G, f, h⟩ := h
  unfold dVar at h
  cases q : ρ[i]? with
  | none => simp [q, EC] at h
  | some s =>
    obtain ⟨x, hx, so⟩ := f.slot i s q
    cases s with
    | non => simp [q, EC] at h
    | val d =>
      simp only [q] at h
      obtain ⟨v, rfl, r⟩ := so
      exact ⟨v, hx, h v H F (Grow.refl _ _) f r⟩
    | own d =>
      simp only [q] at h
      obtain ⟨c, rfl, _⟩ := so
      exact ⟨_, hx, h _ H F (Grow.refl _ _) f hx⟩
    | bor d =>
      simp only [q] at h
      obtain ⟨rfl, _⟩ := so
      exact ⟨_, hx, h _ H F (Grow.refl _ _) f hx⟩
/-- a constant -/
def dC (d : D) : Ev := fun ρ => .ok (.val d) ρ
theorem ed_const {v : V} {d : D} (h : PE X e (tC v)) (r : ∀ F, Rep X.K F d v) : PE X e (tE X.K W (dC d)) :=
  h.weak fun σ H Q ⟨α, ρ, F, G, f, q⟩ => q v H F (Grow.refl _ _) f (r F)
theorem ed_int {i : Int} {j} : PE X (.Constant (.int i) j pos) (tE X.K W (dC (.int i))) := ed_const pe_int fun _ => rfl
theorem ed_bl {i : Bool} {j} : PE X (.Constant (.bool i) j pos) (tE X.K W (dC (.bl i))) := ed_const pe_bl fun _ => rfl
theorem ed_non {j} : PE X (.Constant .none j pos) (tE X.K W (dC .non)) := ed_const pe_non fun _ => rfl
theorem ed_str {x : Str} {j} : PE X (.Constant (.str x) j pos) (tE X.K W (dC (.str x))) := ed_const pe_str fun _ => rfl
/-- a module's constant -/
theorem ed_glob {x : Str} {v : V} {u : Value} {d : D} (hg : Gl X x) (hm : X.mg x = some u) (r : RelV v u) (rd : ∀ F, Rep X.K F d v) (hd : (x == ("__debug__" : Str)) = false := by decide) : PE X (.Name x pos) (tE X.K W (dC d)) := ed_const (pe_glob hg hm r hd) rd
/-- a built-in's name as a value -/
theorem ed_bltn {x : Str} {v : V} {u : Value} (hg : Gl X x) (hm : X.mg x = none) (hv : bootBuiltins x = some u) (r : RelV v u) (hn : x ≠ "__name__" := by decide) (hd : (x == ("__debug__" : Str)) = false := by decide) : PE X (.Name x pos) (tE X.K W (dC (.raw v))) := ed_const (pe_bltn hg hm hv r hn hd) fun _ => rfl
/-- two operands, an operator -/
def dOp2 (f : D → D → Option RV) (ga gb : Ev) : Ev := fun ρ => (ga ρ).settle.bind fun r1 ρ1 => (gb ρ1).settle.bind fun r2 ρ2 => match peek r1 ρ2, peek r2 ρ2 with
  | some x, some y => ER.of (f x y) ρ2
  | _, _ => .no
theorem ec_op2 {K : PySem.W.Frag} {r : V → V → Hp → VK → Prop} {f : D → D → Option RV} (o : Op2 K r f) {σ : L2.St} {H : Hp} {Q : VK} (h : tE K W (dOp2 f ga gb) σ H Q) : tE K W ga σ H fun x H1 => tE K W gb σ H1 fun y H2 => r x y H2 Q := by
  obtain ⟨α, ρ, F, G, ft, h⟩ := h
  refine ⟨α, ρ, F, G, ft, EC.bindS (fun r1 ρ1 v H1 F1 g1 f1 s1 h1 => ?_) h⟩
  refine ⟨α, ρ1, F1, G, f1, EC.bindS (fun r2 ρ2 u H2 F2 g2 f2 s2 h2 => ?_) h1⟩
  cases e1 : peek r1 ρ2 with
  | none => simp [e1, EC] at h2
  | some x =>
    cases e2 : peek r2 ρ2 with
    | none => simp [e1, e2, EC] at h2
    | some y =>
      simp only [e1, e2] at h2
      cases e3 : f x y with
      | none => simp [e3, ER.of, EC] at h2
      | some z =>
        simp only [e3, ER.of] at h2
        exact o F2 H2 x y v u z Q f2.fh (f2.peek (s1.mono g2.sub) e1) (f2.peek s2 e2) e3 (EC.op f2 h2)
theorem ed_bin {op : Operator} {r : R2} {f : D → D → Option RV} (ho : OpR X (binaryOp op) r) (o : Op2 X.K r f) (ha : PE X a (tE X.K W ga)) (hb : PE X b (tE X.K W gb)) : PE X (.BinOp a op b pos) (tE X.K W (dOp2 f ga gb)) :=
  (pe_op ho ha hb).weak fun _ _ _ h => ec_op2 o h
theorem ed_cmp {op : CmpOp} {r : R2} {f : D → D → Option RV} (ho : OpR X (compareOp op) r) (o : Op2 X.K r f) (ha : PE X a (tE X.K W ga)) (hb : PE X b (tE X.K W gb)) (hm : behindInMarks op b = false := by first | exact nomark _ | rfl) : PE X (.Compare a [op] [b] pos) (tE X.K W (dOp2 f ga gb)) :=
  (pe_cmpR ho ha hb hm).weak fun _ _ _ h => ec_op2 o h
theorem ed_ix {r : R2} {f : D → D → Option RV} (ho : IxR X r) (o : Op2 X.K r f) (ha : PE X a (tE X.K W ga)) (hb : PE X b (tE X.K W gb)) (hs : PlainIx b := by exact fun _ _ => rfl) : PE X (.Subscript a b pos) (tE X.K W (dOp2 f ga gb)) :=
  (pe_ix ho ha hb hs).weak fun _ _ _ h => ec_op2 o h
def dOp1 (f : D → Option RV) (ga : Ev) : Ev := fun ρ => (ga ρ).settle.bind fun r1 ρ1 => match peek r1 ρ1 with
  | some x => ER.of (f x) ρ1
  | _ => .no
theorem ec_op1 {K : PySem.W.Frag} {r : V → Hp → VK → Prop} {f : D → Option RV} (o : Op1 K r f) {σ : L2.St} {H : Hp} {Q : VK} (h : tE K W (dOp1 f ga) σ H Q) : tE K W ga σ H fun x H1 => r x H1 Q := by
  obtain ⟨α, ρ, F, G, ft, h⟩ := h
  refine ⟨α, ρ, F, G, ft, EC.bindS (fun r1 ρ1 v H1 F1 g1 f1 s1 h1 => ?_) h⟩
  cases e1 : peek r1 ρ1 with
  | none => simp [e1, EC] at h1
  | some x =>
    simp only [e1] at h1
    cases e3 : f x with
    | none => simp [e3, ER.of, EC] at h1
    | some z =>
      simp only [e3, ER.of] at h1
      exact o F1 H1 x v z Q f1.fh (f1.peek s1 e1) e3 (EC.op f1 h1)
theorem ed_un {op : UnaryOp} {r : V → Hp → VK → Prop} {f : D → Option RV} (ho : UnR X (unaryOp op) r) (o : Op1 X.K r f) (ha : PE X a (tE X.K W ga)) : PE X (.UnaryOp op a pos) (tE X.K W (dOp1 f ga)) :=
  (pe_un ho ha).weak fun _ _ _ h => ec_op1 o h
end
end DL

namespace DL
open PySem PySem.Spec L2

/-! ### tests -/
def BC (K : PySem.W.Frag) (W : WX) (α : Nat → Addr) (σ : L2.St) (F G : Hp) (Q : Bool → Hp → Prop) : ER → Prop
  | .ok (.val (.bl b)) ρ => ∀ H' F', Grow G F F' → Fits K α ρ σ H' F' G → Q b H'
  | .ok _ _ => False
  | .ex x ρ => ∀ cls d H' F', Grow G F F' → Fits K α ρ σ H' F' G → RepX K F' H' x cls d → W cls d σ H'
  | .no => False
def tT (K : PySem.W.Frag) (W : WX) (g : Ev) : TT := fun σ H Q => ∃ (α : Nat → Addr) (ρ : Env) (F G : Hp), Fits K α ρ σ H F G ∧ BC K W α σ F G Q (g ρ)
def truth : D → Option Bool
  | .non => some false
  | .bl b => some b
  | .int i => some (i != 0)
  | .str x => if x.length ≤ sizeLine then some ((x.length : Int) != 0) else none
  | .tup xs => some (!xs.isEmpty)
  | .lst xs => some (!xs.isEmpty)
  | .scr xs => some (!xs.isEmpty)
  | .dic _ _ => none
  | .raw _ => none
def dTru (g : Ev) : Ev := fun ρ => (g ρ).settle.bind fun r ρ1 => match peek r ρ1 with
  | some d => match truth d with
    | some b => .ok (.val (.bl b)) ρ1
    | none => .no
  | none => .no
def dNot (g : Ev) : Ev := fun ρ => (g ρ).bind fun r ρ1 => match r with
  | .val (.bl b) => .ok (.val (.bl (!b))) ρ1
  | _ => .no
def dAndT (g g2 : Ev) : Ev := fun ρ => (g ρ).bind fun r ρ1 => match r with
  | .val (.bl true) => g2 ρ1
  | .val (.bl false) => .ok (.val (.bl false)) ρ1
  | _ => .no
def dOrT (g g2 : Ev) : Ev := fun ρ => (g ρ).bind fun r ρ1 => match r with
  | .val (.bl true) => .ok (.val (.bl true)) ρ1
  | .val (.bl false) => g2 ρ1
  | _ => .no
theorem Reps.isEmpty {K : PySem.W.Frag} {F : Hp} {ds : List D} {vs : List V} (r : Reps K F ds vs) : vs.isEmpty = ds.isEmpty := by
  cases ds with
  | nil => cases r; rfl
  | cons d ds => obtain ⟨v, t, rfl, _⟩ := r; rfl
theorem View.tru {K : PySem.W.Frag} {F H : Hp} (s : Sub F H) : ∀ {d : D} {v : V} {b : Bool}, View K F H d v → truth d = some b → TruV K v H b
  | .non, _, b, h, e => by cases h; cases e; rfl
  | .bl _, _, b, h, e => by cases h; cases e; rfl
  | .int _, _, b, h, e => by cases h; cases e; rfl
  | .raw _, _, b, h, e => by cases e
  | .str x, _, b, h, e => by
    cases h
    have e' : (if x.length ≤ sizeLine then some ((x.length : Int) != 0) else none) = some b := e
    by_cases hl : x.length ≤ sizeLine
    · rw [if_pos hl] at e'
      cases e'
      exact ⟨hl, rfl⟩
    · rw [if_neg hl] at e'
      cases e'
  | .tup xs, _, b, h, e => by
    obtain ⟨a, vs, rfl, q, r⟩ := h
    cases e
    exact .inr (.inl ⟨vs, s.sqT q, by rw [r.isEmpty]⟩)
  | .lst xs, _, b, h, e => by
    obtain ⟨a, vs, rfl, q, r⟩ := h
    cases e
    exact .inl ⟨vs, SqL.of q, by rw [r.isEmpty]⟩
  | .scr xs, _, b, h, e => by
    obtain ⟨a, vs, rfl, q, r⟩ := h
    cases e
    exact .inl ⟨vs, s.sqL q, by rw [r.isEmpty]⟩
  | .dic _ _, _, b, h, e => by cases e
section
variable {K : PySem.W.Frag} {W : WX} {α : Nat → Addr} {ρ : Env} {σ : L2.St} {H F G H' F' : Hp} {Q : Bool → Hp → Prop}
theorem BC.mono (g : Grow G F F') {e : ER} (h : BC K W α σ F G Q e) : BC K W α σ F' G Q e := by
  cases e with
  | no => exact h
  | ex x ρ => exact fun c d H1 F1 g1 f1 r1 => h c d H1 F1 (g.trans g1) f1 r1
  | ok r ρ =>
    cases r with
    | loc i => exact h
    | new d => exact h
    | val d =>
      cases d with
      | bl b => exact fun H1 F1 g1 f1 => h H1 F1 (g.trans g1) f1
      | _ => exact h
/-- an expression, then a test -/
theorem EC.bindB {k : RV → Env → ER} {R : V → Hp → Prop} (hk : ∀ r ρ1, ∀ v H1 F1, Grow G F F1 → Fits K α ρ1 σ H1 F1 G → SRep K F1 σ r v → BC K W α σ F1 G Q (k r ρ1) → R v H1) :
    ∀ {e : ER}, BC K W α σ F G Q (e.settle.bind k) → EC K W α σ F G R e
  | .ok r ρ1, h => fun v H1 F1 g1 f1 r1 => by
    obtain ⟨F2, g2, f2, s2⟩ := r1.settle f1
    exact hk r.settle ρ1 v H1 F2 (g1.trans g2) f2 s2 (BC.mono (g1.trans g2) h)
  | .ex x ρ1, h => h
  | .no, h => h
/-- a test, then a test -/
theorem BC.bindB {k : RV → Env → ER} {R : Bool → Hp → Prop} (hn : ∀ r ρ1, (∀ b, r ≠ .val (.bl b)) → k r ρ1 = .no) (hk : ∀ b ρ1, ∀ H1 F1, Grow G F F1 → Fits K α ρ1 σ H1 F1 G → BC K W α σ F1 G Q (k (.val (.bl b)) ρ1) → R b H1)
    {e : ER} (h : BC K W α σ F G Q (e.bind k)) : BC K W α σ F G R e := by
  cases e with
  | no => exact h
  | ex x ρ1 => exact h
  | ok r ρ1 =>
    have h' : BC K W α σ F G Q (k r ρ1) := h
    by_cases q : ∃ b, r = .val (.bl b)
    · obtain ⟨b, rfl⟩ := q
      exact fun H1 F1 g1 f1 => hk b ρ1 H1 F1 g1 f1 (BC.mono g1 h')
    · rw [hn r ρ1 fun b z => q ⟨b, z⟩] at h'
      exact h'.elim
/-- a test, then an expression -/
theorem BC.bindE {Q : VK} {k : RV → Env → ER} {R : Bool → Hp → Prop} (hn : ∀ r ρ1, (∀ b, r ≠ .val (.bl b)) → k r ρ1 = .no) (hk : ∀ b ρ1, ∀ H1 F1, Grow G F F1 → Fits K α ρ1 σ H1 F1 G → EC K W α σ F1 G Q (k (.val (.bl b)) ρ1) → R b H1)
    {e : ER} (h : EC K W α σ F G Q (e.bind k)) : BC K W α σ F G R e := by
  cases e with
  | no => exact h
  | ex x ρ1 => exact h
  | ok r ρ1 =>
    have h' : EC K W α σ F G Q (k r ρ1) := h
    by_cases q : ∃ b, r = .val (.bl b)
    · obtain ⟨b, rfl⟩ := q
      exact fun H1 F1 g1 f1 => hk b ρ1 H1 F1 g1 f1 (EC.mono g1 h')
    · rw [hn r ρ1 fun b z => q ⟨b, z⟩] at h'
      exact h'.elim
end
section
variable {X : Cx} {W : WX} {e a b : Expr} {g ga gb gc : Ev} {pos : Pos} {rest : List Expr}
theorem bc_tru {K : PySem.W.Frag} {σ : L2.St} {H : Hp} {Q : Bool → Hp → Prop} (h : tT K W (dTru g) σ H Q) : tE K W g σ H fun x H1 => ∃ k, TruV K x H1 k ∧ Q k H1 := by
  obtain ⟨α, ρ, F, G, f, h⟩ := h
  refine ⟨α, ρ, F, G, f, EC.bindB (fun r ρ1 v H1 F1 g1 f1 s1 h1 => ?_) h⟩
  cases e1 : peek r ρ1 with
  | none => simp [e1, BC] at h1
  | some d =>
    simp only [e1] at h1
    cases e2 : truth d with
    | none => simp [e2, BC] at h1
    | some b =>
      simp only [e2] at h1
      exact ⟨b, (f1.peek s1 e1).tru f1.fh e2, h1 H1 F1 (Grow.refl _ _) f1⟩
theorem td_truth (ha : PE X a (tE X.K W g)) (he : ∀ whole, isTrue a X.env whole = (do let v ← whole; standAt a.pos; holding [v] (truthy v)) := by intro _; rfl) : PT X a (tT X.K W (dTru g)) :=
  (pt_truth ha he).weak fun _ _ _ h => bc_tru h
theorem TruV.of_bool {K : PySem.W.Frag} {H : Hp} {k c : Bool} (h : TruV K (.bl c) H k) : c = k := by cases h; rfl
theorem td_cmp {op : CmpOp} {r : R2} {f : D → D → Option RV} (ho : OpR X (compareOp op) r) (o : Op2 X.K r f) (hf : ∀ x y z, f x y = some z → ∃ c, z = .val (.bl c)) (ha : PE X a (tE X.K W ga)) (hb : PE X b (tE X.K W gb)) (hm : behindInMarks op b = false := by first | exact nomark _ | rfl) :
    PT X (.Compare a [op] [b] pos) (tT X.K W (dOp2 f ga gb)) := by
  refine (pt_cmpR ho ha hb hm).weak fun σ H Q h => ?_
  obtain ⟨α, ρ, F, G, ft, h⟩ := h
  refine ec_op2 (Q := fun x H' => ∃ k, x = .bl k ∧ Q k H') o ⟨α, ρ, F, G, ft, ?_⟩
  -- the comparison's end is a bool
  have key : ∀ {e : ER}, (∀ r ρ', e = .ok r ρ' → ∃ c, r = .val (.bl c)) → BC X.K W α σ F G Q e → EC X.K W α σ F G (fun x H' => ∃ k, x = .bl k ∧ Q k H') e := by
    intro e he hb
    cases e with
    | no => exact hb
    | ex x ρ1 => exact hb
    | ok r ρ1 =>
      obtain ⟨c, rfl⟩ := he r ρ1 rfl
      exact fun v H1 F1 g1 f1 r1 => ⟨c, r1, hb H1 F1 g1 f1⟩
  refine key (fun r ρ' q => ?_) h
  unfold dOp2 at q
  cases e1 : (ga ρ).settle with
  | no => simp [e1, ER.bind] at q
  | ex x ρ1 => simp [e1, ER.bind] at q
  | ok r1 ρ1 =>
    simp only [e1, ER.bind] at q
    cases e2 : (gb ρ1).settle with
    | no => simp [e2] at q
    | ex x ρ1 => simp [e2] at q
    | ok r2 ρ2 =>
      simp only [e2] at q
      cases e3 : peek r1 ρ2 with
      | none => simp [e3] at q
      | some x =>
        cases e4 : peek r2 ρ2 with
        | none => simp [e3, e4] at q
        | some y =>
          simp only [e3, e4] at q
          cases e5 : f x y with
          | none => simp [e5, ER.of] at q
          | some z =>
            simp only [e5, ER.of] at q
            obtain ⟨c, hc⟩ := hf x y z e5
            cases q
            exact ⟨c, hc⟩
theorem td_not (ha : PT X a (tT X.K W g)) : PT X (.UnaryOp .Not a pos) (tT X.K W (dNot g)) := by
  refine (pt_not ha).weak fun σ H Q ⟨α, ρ, F, G, f, h⟩ => ⟨α, ρ, F, G, f, BC.bindB (fun r ρ1 hr => ?_) (fun b ρ1 H1 F1 g1 f1 h1 => ?_) h⟩
  · cases r with
    | val d =>
      cases d with
      | bl b => exact absurd rfl (hr b)
      | _ => rfl
    | _ => rfl
  · exact h1 H1 F1 (Grow.refl _ _) f1
theorem tw_and1 (ha : PT X a (tT X.K W g)) : PW X (.BoolOp .And [a] pos) (tT X.K W g) := pw_and1 ha
theorem tw_or1 (ha : PT X a (tT X.K W g)) : PW X (.BoolOp .Or [a] pos) (tT X.K W g) := pw_or1 ha
theorem tw_and (ha : PT X a (tT X.K W ga)) (hb : PW X (.BoolOp .And (b :: rest) pos) (tT X.K W gb)) : PW X (.BoolOp .And (a :: b :: rest) pos) (tT X.K W (dAndT ga gb)) := by
  refine (pw_and ha hb).weak fun σ H Q ⟨α, ρ, F, G, f, h⟩ => ⟨α, ρ, F, G, f, BC.bindB (fun r ρ1 hr => ?_) (fun b ρ1 H1 F1 g1 f1 h1 => ?_) h⟩
  · cases r with
    | val d =>
      cases d with
      | bl b => exact absurd rfl (hr b)
      | _ => rfl
    | _ => rfl
  · cases b with
    | true => exact iteT ⟨α, ρ1, F1, G, f1, h1⟩
    | false => exact iteF (h1 H1 F1 (Grow.refl _ _) f1)
theorem tw_or (ha : PT X a (tT X.K W ga)) (hb : PW X (.BoolOp .Or (b :: rest) pos) (tT X.K W gb)) : PW X (.BoolOp .Or (a :: b :: rest) pos) (tT X.K W (dOrT ga gb)) := by
  refine (pw_or ha hb).weak fun σ H Q ⟨α, ρ, F, G, f, h⟩ => ⟨α, ρ, F, G, f, BC.bindB (fun r ρ1 hr => ?_) (fun b ρ1 H1 F1 g1 f1 h1 => ?_) h⟩
  · cases r with
    | val d =>
      cases d with
      | bl b => exact absurd rfl (hr b)
      | _ => rfl
    | _ => rfl
  · cases b with
    | true => exact iteT (h1 H1 F1 (Grow.refl _ _) f1)
    | false => exact iteF ⟨α, ρ1, F1, G, f1, h1⟩
/-- not x, as a value -/
def dNotV (g : Ev) : Ev := fun ρ => (g ρ).settle.bind fun r ρ1 => match peek r ρ1 with
  | some d => match truth d with
    | some b => .ok (.val (.bl (!b))) ρ1
    | none => .no
  | none => .no
theorem ed_not (ha : PE X a (tE X.K W g)) : PE X (.UnaryOp .Not a pos) (tE X.K W (dNotV g)) := by
  refine (pe_notT ha).weak fun σ H Q ⟨α, ρ, F, G, f, h⟩ => ⟨α, ρ, F, G, f, EC.bindS (fun r ρ1 v H1 F1 g1 f1 s1 h1 => ?_) h⟩
  cases e1 : peek r ρ1 with
  | none => simp [e1, EC] at h1
  | some d =>
    simp only [e1] at h1
    cases e2 : truth d with
    | none => simp [e2, EC] at h1
    | some b =>
      simp only [e2] at h1
      exact ⟨b, (f1.peek s1 e1).tru f1.fh e2, h1 _ H1 F1 (Grow.refl _ _) f1 rfl⟩
/-- x and y, x or y, as values -/
def dAndV (ga gb : Ev) : Ev := fun ρ => (ga ρ).settle.bind fun r ρ1 => match peek r ρ1 with
  | some d => match truth d with
    | some true => gb ρ1
    | some false => .ok r ρ1
    | none => .no
  | none => .no
def dOrV (ga gb : Ev) : Ev := fun ρ => (ga ρ).settle.bind fun r ρ1 => match peek r ρ1 with
  | some d => match truth d with
    | some true => .ok r ρ1
    | some false => gb ρ1
    | none => .no
  | none => .no
theorem ed_one {op} (ha : PE X a (tE X.K W g)) : PE X (.BoolOp op [a] pos) (tE X.K W g) := pe_one ha
theorem ed_and (ha : PE X a (tE X.K W ga)) (hb : PE X (.BoolOp .And (b :: rest) pos) (tE X.K W gb)) : PE X (.BoolOp .And (a :: b :: rest) pos) (tE X.K W (dAndV ga gb)) := by
  refine (pe_andT ha hb).weak fun σ H Q ⟨α, ρ, F, G, f, h⟩ => ⟨α, ρ, F, G, f, EC.bindS (fun r ρ1 v H1 F1 g1 f1 s1 h1 => ?_) h⟩
  cases e1 : peek r ρ1 with
  | none => simp [e1, EC] at h1
  | some d =>
    simp only [e1] at h1
    cases e2 : truth d with
    | none => simp [e2, EC] at h1
    | some b =>
      simp only [e2] at h1
      refine ⟨b, (f1.peek s1 e1).tru f1.fh e2, ?_⟩
      cases b with
      | true => exact iteT ⟨α, ρ1, F1, G, f1, h1⟩
      | false => exact iteF (h1 v H1 F1 (Grow.refl _ _) f1 s1.rrep)
theorem ed_or (ha : PE X a (tE X.K W ga)) (hb : PE X (.BoolOp .Or (b :: rest) pos) (tE X.K W gb)) : PE X (.BoolOp .Or (a :: b :: rest) pos) (tE X.K W (dOrV ga gb)) := by
  refine (pe_orT ha hb).weak fun σ H Q ⟨α, ρ, F, G, f, h⟩ => ⟨α, ρ, F, G, f, EC.bindS (fun r ρ1 v H1 F1 g1 f1 s1 h1 => ?_) h⟩
  cases e1 : peek r ρ1 with
  | none => simp [e1, EC] at h1
  | some d =>
    simp only [e1] at h1
    cases e2 : truth d with
    | none => simp [e2, EC] at h1
    | some b =>
      simp only [e2] at h1
      refine ⟨b, (f1.peek s1 e1).tru f1.fh e2, ?_⟩
      cases b with
      | true => exact iteT (h1 v H1 F1 (Grow.refl _ _) f1 s1.rrep)
      | false => exact iteF ⟨α, ρ1, F1, G, f1, h1⟩
/-- a if t else b -/
def dIf (gc ga gb : Ev) : Ev := fun ρ => (gc ρ).bind fun r ρ1 => match r with
  | .val (.bl true) => ga ρ1
  | .val (.bl false) => gb ρ1
  | _ => .no
theorem dIf_no {ga gb : Ev} (r : RV) (ρ1 : Env) (hr : ∀ b, r ≠ .val (.bl b)) : (match r with
  | .val (.bl true) => ga ρ1
  | .val (.bl false) => gb ρ1
  | _ => ER.no) = .no := by
  cases r with
  | val d =>
    cases d with
    | bl b => exact absurd rfl (hr b)
    | _ => rfl
  | _ => rfl
theorem ed_if {c : Expr} (hc : PT X c (tT X.K W gc)) (ha : PE X a (tE X.K W ga)) (hb : PE X b (tE X.K W gb)) : PE X (.IfExp c a b pos) (tE X.K W (dIf gc ga gb)) := by
  refine (pe_ifExp hc ha hb).weak fun σ H Q ⟨α, ρ, F, G, f, h⟩ => ⟨α, ρ, F, G, f, BC.bindE dIf_no (fun b ρ1 H1 F1 g1 f1 h1 => ?_) h⟩
  cases b with
  | true => exact iteT ⟨α, ρ1, F1, G, f1, h1⟩
  | false => exact iteF ⟨α, ρ1, F1, G, f1, h1⟩
/-- a < b < c -/
def dChain (f f' : D → D → Option RV) (ga gb gc : Ev) : Ev := fun ρ => (ga ρ).settle.bind fun r1 ρ1 => (gb ρ1).settle.bind fun r2 ρ2 => match peek r1 ρ2, peek r2 ρ2 with
  | some x, some y => match f x y with
    | some (.val (.bl true)) => (gc ρ2).settle.bind fun r3 ρ3 => match peek r2 ρ3, peek r3 ρ3 with
      | some y', some z => ER.of (f' y' z) ρ3
      | _, _ => .no
    | some (.val (.bl false)) => .ok (.val (.bl false)) ρ2
    | _ => .no
  | _, _ => .no
theorem ec_chain {K : PySem.W.Frag} {r r' : R2} {f f' : D → D → Option RV} (o : Op2 K r f) (o' : Op2 K r' f') {σ : L2.St} {H : Hp} {Q : VK} (h : tE K W (dChain f f' ga gb gc) σ H Q) : tChain r r' (tE K W ga) (tE K W gb) (tE K W gc) σ H Q := by
  obtain ⟨α, ρ, F, G, ft, h⟩ := h
  refine ⟨α, ρ, F, G, ft, EC.bindS (fun r1 ρ1 v H1 F1 g1 f1 s1 h1 => ?_) h⟩
  refine ⟨α, ρ1, F1, G, f1, EC.bindS (fun r2 ρ2 u H2 F2 g2 f2 s2 h2 => ?_) h1⟩
  cases e1 : peek r1 ρ2 with
  | none => simp [e1, EC] at h2
  | some x =>
    cases e2 : peek r2 ρ2 with
    | none => simp [e1, e2, EC] at h2
    | some y =>
      simp only [e1, e2] at h2
      cases e3 : f x y with
      | none => simp [e3, EC] at h2
      | some z =>
        have big : ∀ {c : Bool}, z = .val (.bl c) → r v u H2 fun z H3 => ∃ k, z = .bl k ∧ (if k = true then tE K W gc σ H3 fun w' H4 => r' u w' H4 Q else Q (.bl false) H3) := fun {c} hz => by
          refine o F2 H2 x y v u z _ f2.fh (f2.peek (s1.mono g2.sub) e1) (f2.peek s2 e2) e3 fun w H3 F3 ex or => ?_
          subst hz
          refine ⟨c, or, ?_⟩
          have f3 := f2.ext ex
          have g3 := f2.grow ex
          cases c with
          | true =>
            simp only [e3] at h2
            refine iteT ⟨α, ρ2, F3, G, f3, EC.bindS (fun r3 ρ3 w4 H4 F4 g4 f4 s4 h4 => ?_) (EC.mono g3 h2)⟩
            cases e4 : peek r2 ρ3 with
            | none => simp [e4, EC] at h4
            | some y' =>
              cases e5 : peek r3 ρ3 with
              | none => simp [e4, e5, EC] at h4
              | some z' =>
                simp only [e4, e5] at h4
                cases e6 : f' y' z' with
                | none => simp [e6, ER.of, EC] at h4
                | some z3 =>
                  simp only [e6, ER.of] at h4
                  exact o' F4 H4 y' z' u w4 z3 Q f4.fh (f4.peek (s2.mono (g3.trans g4).sub) e4) (f4.peek s4 e5) e6 (EC.op f4 h4)
          | false =>
            simp only [e3] at h2
            exact iteF (h2 _ H3 F3 g3 f3 rfl)
        cases z with
        | loc i => simp [e3, EC] at h2
        | new d => simp [e3, EC] at h2
        | val d =>
          cases d with
          | bl c => exact big rfl
          | _ => simp [e3, EC] at h2
theorem ed_chain {op op' : CmpOp} {r r' : R2} {f f' : D → D → Option RV} {c : Expr} (ho : OpR X (compareOp op) r) (ho' : OpR X (compareOp op') r') (o : Op2 X.K r f) (o' : Op2 X.K r' f') (ha : PE X a (tE X.K W ga)) (hb : PE X b (tE X.K W gb)) (hc : PE X c (tE X.K W gc))
    (h2 : PE X (.Compare a [op, op'] [b, c] pos) (tChain r r' (tE X.K W ga) (tE X.K W gb) (tE X.K W gc))) : PE X (.Compare a [op, op'] [b, c] pos) (tE X.K W (dChain f f' ga gb gc)) :=
  h2.weak fun _ _ _ h => ec_chain o o' h
/-- its value is a bool -/
def dBool (g : Ev) : Ev := fun ρ => (g ρ).bind fun r ρ1 => match r with
  | .val (.bl b) => .ok (.val (.bl b)) ρ1
  | _ => .no
theorem bc_bool {K : PySem.W.Frag} {σ : L2.St} {H : Hp} {Q : Bool → Hp → Prop} (h : tT K W (dBool g) σ H Q) : tE K W g σ H fun x H1 => ∃ k, x = .bl k ∧ Q k H1 := by
  obtain ⟨α, ρ, F, G, f, h⟩ := h
  refine ⟨α, ρ, F, G, f, ?_⟩
  unfold dBool at h
  cases e : g ρ with
  | no => rw [e] at h; exact h
  | ex x ρ1 => rw [e] at h; exact h
  | ok r ρ1 =>
    rw [e] at h
    cases r with
    | loc i => exact h.elim
    | new d => exact h.elim
    | val d =>
      cases d with
      | bl b => exact fun v H1 F1 g1 f1 r1 => ⟨b, r1, h H1 F1 g1 f1⟩
      | _ => exact h.elim
theorem td_chain {op op' : CmpOp} {r r' : R2} {f f' : D → D → Option RV} {c : Expr} (o : Op2 X.K r f) (o' : Op2 X.K r' f')
    (h2 : PT X (.Compare a [op, op'] [b, c] pos) (tTest (tChain r r' (tE X.K W ga) (tE X.K W gb) (tE X.K W gc)))) : PT X (.Compare a [op, op'] [b, c] pos) (tT X.K W (dBool (dChain f f' ga gb gc))) :=
  h2.weak fun _ _ _ h => ec_chain o o' (bc_bool h)
end

/-! ### arguments -/
inductive AR where | ok (rs : List RV) (ρ : Env) | ex (x : Exn) (ρ : Env) | no
abbrev Av := Env → AR
def AC (K : PySem.W.Frag) (W : WX) (α : Nat → Addr) (σ : L2.St) (F G : Hp) (Q : List V → Hp → Prop) : AR → Prop
  | .ok rs ρ => ∀ vs H' F', Grow G F F' → Fits K α ρ σ H' F' G → SReps K F' σ rs vs → Q vs H'
  | .ex x ρ => ∀ cls d H' F', Grow G F F' → Fits K α ρ σ H' F' G → RepX K F' H' x cls d → W cls d σ H'
  | .no => False
def tA (K : PySem.W.Frag) (W : WX) (g : Av) : TA := fun σ H Q => ∃ (α : Nat → Addr) (ρ : Env) (F G : Hp), Fits K α ρ σ H F G ∧ AC K W α σ F G Q (g ρ)
def dNil : Av := fun ρ => .ok [] ρ
def dCons (g : Ev) (gs : Av) : Av := fun ρ => match (g ρ).settle with
  | .ok r ρ1 => match gs ρ1 with
    | .ok rs ρ2 => .ok (r :: rs) ρ2
    | .ex x ρ2 => .ex x ρ2
    | .no => .no
  | .ex x ρ1 => .ex x ρ1
  | .no => .no
section
variable {X : Cx} {W : WX} {e : Expr} {es : List Expr} {g : Ev} {gs : Av} {pos : Pos}
theorem ad_nil : PA X [] (tA X.K W dNil) := pa_nil.weak fun σ H Q ⟨α, ρ, F, G, f, h⟩ => h [] H F (Grow.refl _ _) f rfl
theorem ad_cons (ha : PE X e (tE X.K W g)) (hr : PA X es (tA X.K W gs)) (hs : starEach (e :: es) X.env = (false, eval e X.env) :: starEach es X.env := by rfl) : PA X (e :: es) (tA X.K W (dCons g gs)) := by
  refine (pa_cons ha hr hs).weak fun σ H Q ⟨α, ρ, F, G, f, h⟩ => ⟨α, ρ, F, G, f, EC.settle ?_⟩
  unfold dCons at h
  cases e1 : (g ρ).settle with
  | no => simp [e1, AC] at h
  | ex x ρ1 => simp only [e1] at h; exact h
  | ok r ρ1 =>
    simp only [e1] at h
    intro v H1 F1 g1 f1 r1
    have rs : r.settle = r := by
      cases q : g ρ with
      | no => rw [q] at e1; cases e1
      | ex x ρ => rw [q] at e1; cases e1
      | ok r0 ρ0 =>
        rw [q] at e1
        have e2 : r0.settle = r := by cases e1; rfl
        rw [← e2]
        cases r0 <;> rfl
    have s1 : SRep X.K F1 σ r v := by
      rw [← rs] at r1 ⊢
      exact settle_srep r1
    refine ⟨α, ρ1, F1, G, f1, ?_⟩
    cases e2 : gs ρ1 with
    | no => simp [e2, AC] at h
    | ex x ρ2 =>
      simp only [e2] at h
      exact fun c d H2 F2 g2 f2 x2 => h c d H2 F2 (g1.trans g2) f2 x2
    | ok rs' ρ2 =>
      simp only [e2] at h
      exact fun vs H2 F2 g2 f2 r2 => h (v :: vs) H2 F2 (g1.trans g2) f2 ⟨v, vs, rfl, s1.mono g2.sub, r2⟩
/-- what is made of the arguments -/
def dFz (gs : Av) (k : List D → Env → ER) : Ev := fun ρ => match gs ρ with
  | .ok rs ρ1 => match frzs rs ρ1 with
    | some (ds, ρ2) => k ds ρ2
    | none => .no
  | .ex x ρ1 => .ex x ρ1
  | .no => .no
theorem ac_fz {K : PySem.W.Frag} {k : List D → Env → ER} {σ : L2.St} {H : Hp} {Q : VK} {R : List V → Hp → Prop} (h : tE K W (dFz gs k) σ H Q)
    (hk : ∀ (α : Nat → Addr) (ρ2 : Env) (F G H1 : Hp) ds vs, Fits K α ρ2 σ H1 F G → Reps K F ds vs → EC K W α σ F G Q (k ds ρ2) → R vs H1) : tA K W gs σ H R := by
  obtain ⟨α, ρ, F, G, f, h⟩ := h
  refine ⟨α, ρ, F, G, f, ?_⟩
  unfold dFz at h
  cases e1 : gs ρ with
  | no => simp [e1, EC] at h
  | ex x ρ1 => simp only [e1] at h; exact h
  | ok rs ρ1 =>
    simp only [e1] at h
    intro vs H1 F1 g1 f1 s1
    cases e2 : frzs rs ρ1 with
    | none => simp [e2, EC] at h
    | some w =>
      obtain ⟨ds, ρ2⟩ := w
      simp only [e2] at h
      obtain ⟨F2, g2, f2, r2⟩ := Fits.frzs f1 s1 e2
      exact hk α ρ2 F2 G H1 ds vs f2 r2 (EC.mono (g1.trans g2) h)
def dTup (gs : Av) : Ev := dFz gs fun ds ρ => if ds.length ≤ 1000 then .ok (.val (.tup ds)) ρ else .no
def dLst (gs : Av) : Ev := dFz gs fun ds ρ => if ds.length ≤ 1000 then .ok (.new (.lst ds)) ρ else .no
theorem le_line {n : Nat} (h : n ≤ 1000) : n ≤ sizeLine := Nat.le_of_lt (small1000 h)
theorem ed_tup {x1} (h : PA X es (tA X.K W gs)) : PE X (.Tuple es x1 pos) (tE X.K W (dTup gs)) := by
  refine (pe_tup h).weak fun σ H Q q => ac_fz q fun α ρ2 F G H1 ds vs f r hh => ?_
  by_cases hl : ds.length ≤ 1000
  · rw [if_pos hl] at hh
    refine ⟨by rw [r.length]; exact le_line hl, fun p hp => ?_⟩
    have ex : Ext H1 F (upd H1 p (.tup vs)) (upd F p (.tup vs)) := Ext.alloc f.fh hp
    exact hh _ _ _ (f.grow ex) (f.ext ex) ⟨p, vs, rfl, SqT.of upd_same, Reps.mono ex.ff _ _ r⟩
  · rw [if_neg hl] at hh
    exact hh.elim
theorem ed_lst (h : PA X es (tA X.K W gs)) : PE X (.List es pos) (tE X.K W (dLst gs)) := by
  refine (pe_lst h).weak fun σ H Q q => ac_fz q fun α ρ2 F G H1 ds vs f r hh => ?_
  by_cases hl : ds.length ≤ 1000
  · rw [if_pos hl] at hh
    refine ⟨by rw [r.length]; exact le_line hl, fun p hp => ?_⟩
    have ex : Ext H1 F (upd H1 p (.lst vs)) F := Ext.allocO f.fh hp
    exact EC.op f hh _ _ _ ex ⟨p, rfl, hp, f.fh.free hp, vs, upd_same, r⟩
  · rw [if_neg hl] at hh
    exact hh.elim
/-- a built-in's call -/
def dB (f : List D → Option RV) (gs : Av) : Ev := fun ρ => match gs ρ with
  | .ok rs ρ1 => match peeks rs ρ1 with
    | some ds => ER.of (f ds) ρ1
    | none => .no
  | .ex x ρ1 => .ex x ρ1
  | .no => .no
theorem ec_b {K : PySem.W.Frag} {r : List V → Hp → VK → Prop} {f : List D → Option RV} (o : OpN K r f) {σ : L2.St} {H : Hp} {Q : VK} (h : tE K W (dB f gs) σ H Q) : tA K W gs σ H fun vs H1 => r vs H1 Q := by
  obtain ⟨α, ρ, F, G, ft, h⟩ := h
  refine ⟨α, ρ, F, G, ft, ?_⟩
  unfold dB at h
  cases e1 : gs ρ with
  | no => simp [e1, EC] at h
  | ex x ρ1 => simp only [e1] at h; exact h
  | ok rs ρ1 =>
    simp only [e1] at h
    intro vs H1 F1 g1 f1 s1
    cases e2 : peeks rs ρ1 with
    | none => simp [e2, EC] at h
    | some ds =>
      simp only [e2] at h
      cases e3 : f ds with
      | none => simp [e3, ER.of, EC] at h
      | some z =>
        simp only [e3, ER.of] at h
        exact o F1 H1 ds vs z Q f1.fh (f1.peeks s1 e2) e3 (EC.op f1 (EC.mono g1 h))
theorem ed_callB {x : Str} {p : Pos} {id : String} {r : List V → Hp → VK → Prop} {f : List D → Option RV} (hc : CallR X (.builtin id) r) (o : OpN X.K r f) (hg : Gl X x) (hm : X.mg x = none) (hv : bootBuiltins x = some (.builtin id)) (ha : PA X (e :: es) (tA X.K W gs)) (hn : x ≠ "__name__" := by decide) (hdb : (x == ("__debug__" : Str)) = false := by decide)
    (he : starEach (e :: es) X.env = (false, eval e X.env) :: starEach es X.env := by rfl) (hpl : (backTo pos (starEach es X.env)).any (·.1) = false := by rfl) : PE X (.Call (.Name x p) (e :: es) [] pos) (tE X.K W (dB f gs)) :=
  (pe_callB hc hg hm hv ha hn hdb he hpl).weak fun _ _ _ h => ec_b o h
theorem ed_callTy {x : Str} {p : Pos} {T : String} {r : List V → Hp → VK → Prop} {f : List D → Option RV} (hc : CallR X (.type T) r) (o : OpN X.K r f) (hg : Gl X x) (hm : X.mg x = none) (hv : bootBuiltins x = some (.type T)) (ha : PA X (e :: es) (tA X.K W gs)) (hn : x ≠ "__name__" := by decide) (hdb : (x == ("__debug__" : Str)) = false := by decide)
    (he : starEach (e :: es) X.env = (false, eval e X.env) :: starEach es X.env := by rfl) (hpl : (backTo pos (starEach es X.env)).any (·.1) = false := by rfl) : PE X (.Call (.Name x p) (e :: es) [] pos) (tE X.K W (dB f gs)) :=
  (pe_callTy hc hg hm hv ha hn hdb he hpl).weak fun _ _ _ h => ec_b o h
end
end DL

namespace DL
open PySem PySem.Spec L2

/-! ### a def by what it computes -/
inductive DR where | ok (r : RV) (outs : List D) | ex (x : Exn) (outs : List D) | no
/-- the parameters' slots: true: lent -/
def argEnv : List Bool → List D → Env
  | true :: ms, d :: ds => .bor d :: argEnv ms ds
  | false :: ms, d :: ds => .val d :: argEnv ms ds
  | _, _ => []
theorem argEnv_length : ∀ {ms : List Bool} {ds : List D}, ds.length = ms.length → (argEnv ms ds).length = ms.length
  | [], [], _ => rfl
  | true :: ms, d :: ds, h => by simp [argEnv, argEnv_length (ms := ms) (ds := ds) (by simpa using h)]
  | false :: ms, d :: ds, h => by simp [argEnv, argEnv_length (ms := ms) (ds := ds) (by simpa using h)]
  | [], _ :: _, h => by simp at h
  | _ :: _, [], h => by simp at h
def DC (K : PySem.W.Frag) (ms : List Bool) (α : Nat → Addr) (vs : List V) (F G : Hp) (Q : VK) (E : XK) : DR → Prop
  | .ok r outs => ∀ v H' F', Grow G F F' → outs.length = ms.length → Fits K α (argEnv ms outs) (vs.map some) H' F' G → RRep K F' G H' (vs.map some) (argEnv ms outs) r v → Q v H'
  | .ex x outs => ∀ cls d H' F', Grow G F F' → outs.length = ms.length → Fits K α (argEnv ms outs) (vs.map some) H' F' G → RepX K F' H' x cls d → E cls d H'
  | .no => False
/-- the promise of a def that computes f -/
def spD (K : PySem.W.Frag) (ms : List Bool) (f : List D → DR) : Sp := fun vs H Q E => ∃ (α : Nat → Addr) (F G : Hp) (ds : List D), ds.length = ms.length ∧ Fits K α (argEnv ms ds) (vs.map some) H F G ∧ DC K ms α vs F G Q E (f ds)
theorem spD_len {K : PySem.W.Frag} {ms : List Bool} {f : List D → DR} (vs : List V) (H : Hp) (Q : VK) (E : XK) (h : spD K ms f vs H Q E) : vs.length = ms.length := by
  obtain ⟨α, F, G, ds, hl, ft, _⟩ := h
  have := ft.len
  rw [List.length_map, argEnv_length hl] at this
  exact this

/-- the arguments of a call: lent ones stand in a name's slot -/
def passes : List Bool → List RV → Env → Option (List D × Env)
  | [], [], ρ => some ([], ρ)
  | false :: ms, r :: rs, ρ => match frz r ρ with
    | some (d, ρ1) => match passes ms rs ρ1 with
      | some (ds, ρ2) => some (d :: ds, ρ2)
      | none => none
    | none => none
  | true :: ms, .loc i :: rs, ρ => match passes ms rs ρ with
    | some (ds, ρ2) => match ρ2[i]? with
      | some (.own d) => some (d :: ds, ρ2)
      | some (.bor d) => some (d :: ds, ρ2)
      | _ => none
    | none => none
  | _, _, _ => none
def lents : List Bool → List RV → List Nat
  | true :: ms, .loc i :: rs => i :: lents ms rs
  | _ :: ms, _ :: rs => lents ms rs
  | _, _ => []
def setO (ρ : Env) (i : Nat) (d : D) : Env := match ρ[i]? with
  | some (.own _) => ρ.set i (.own d)
  | some (.bor _) => ρ.set i (.bor d)
  | _ => ρ
def backs : List Bool → List RV → List D → Env → Env
  | true :: ms, .loc i :: rs, d :: ds, ρ => setO (backs ms rs ds ρ) i d
  | _ :: ms, _ :: rs, _ :: ds, ρ => backs ms rs ds ρ
  | _, _, _, ρ => ρ
def dCall (ms : List Bool) (f : List D → DR) (gs : Av) : Ev := fun ρ => match gs ρ with
  | .ok rs ρ1 => match passes ms rs ρ1 with
    | some (ds, ρ2) => if (lents ms rs).Nodup then match f ds with
        | .ok r outs => .ok r (backs ms rs outs ρ2)
        | .ex x outs => .ex x (backs ms rs outs ρ2)
        | .no => .no
      else .no
    | none => .no
  | .ex x ρ1 => .ex x ρ1
  | .no => .no

/-- what is passed, as it stands -/
inductive PassOk (K : PySem.W.Frag) (F : Hp) (ρ : Env) (σ : L2.St) : List Bool → List RV → List D → List V → Prop
  | nil : PassOk K F ρ σ [] [] [] []
  | val {ms rs ds vs} {r : RV} {d : D} {v : V} : Rep K F d v → PassOk K F ρ σ ms rs ds vs → PassOk K F ρ σ (false :: ms) (r :: rs) (d :: ds) (v :: vs)
  | lent {ms rs ds vs} {i : Nat} {d : D} {a : Addr} : σ[i]? = some (some (.ref a)) → (ρ[i]? = some (.own d) ∨ ρ[i]? = some (.bor d)) → PassOk K F ρ σ ms rs ds vs → PassOk K F ρ σ (true :: ms) (.loc i :: rs) (d :: ds) (.ref a :: vs)
section
variable {K : PySem.W.Frag} {W : WX} {α : Nat → Addr} {ρ ρ' : Env} {σ : L2.St} {H F G H' F' : Hp}
theorem PassOk.mono (s : Sub F F') : ∀ {ms rs ds vs}, PassOk K F ρ σ ms rs ds vs → PassOk K F' ρ σ ms rs ds vs := by
  intro ms rs ds vs h
  induction h with
  | nil => exact .nil
  | val r _ ih => exact .val (Rep.mono s _ _ r) ih
  | lent a b _ ih => exact .lent a b ih
theorem PassOk.lens : ∀ {ms rs ds vs}, PassOk K F ρ σ ms rs ds vs → ds.length = ms.length ∧ vs.length = ms.length := by
  intro ms rs ds vs h
  induction h with
  | nil => exact ⟨rfl, rfl⟩
  | val r _ ih => simp [ih.1, ih.2]
  | lent a b _ ih => simp [ih.1, ih.2]
theorem Fits.passes : ∀ {ms : List Bool} {rs : List RV} {vs : List V} {ds : List D} {ρ ρ' : Env} {F : Hp}, Fits K α ρ σ H F G → SReps K F σ rs vs → passes ms rs ρ = some (ds, ρ') → ∃ F', Grow G F F' ∧ Fits K α ρ' σ H F' G ∧ PassOk K F' ρ' σ ms rs ds vs
  | [], [], _, ds, ρ, ρ', F, f, s, p => by
    cases p
    cases s
    exact ⟨F, Grow.refl _ _, f, .nil⟩
  | false :: ms, r :: rs, _, ds, ρ, ρ', F, f, s, p => by
    obtain ⟨v, t, rfl, a, b⟩ := s
    unfold DL.passes at p
    cases e1 : DL.frz r ρ with
    | none => simp [e1] at p
    | some w =>
      obtain ⟨d, ρ1⟩ := w
      cases e2 : DL.passes ms rs ρ1 with
      | none => simp [e1, e2] at p
      | some w2 =>
        obtain ⟨ds', ρ2⟩ := w2
        simp [e1, e2] at p
        obtain ⟨rfl, rfl⟩ := p
        obtain ⟨F1, g1, f1, r1⟩ := f.frz a e1
        obtain ⟨F2, g2, f2, r2⟩ := Fits.passes f1 (b.mono g1.sub) e2
        exact ⟨F2, g1.trans g2, f2, .val (Rep.mono g2.sub _ _ r1) r2⟩
  | true :: ms, .loc i :: rs, _, ds, ρ, ρ', F, f, s, p => by
    obtain ⟨v, t, rfl, a, b⟩ := s
    unfold DL.passes at p
    cases e2 : DL.passes ms rs ρ with
    | none => simp [e2] at p
    | some w2 =>
      obtain ⟨ds', ρ2⟩ := w2
      obtain ⟨F2, g2, f2, r2⟩ := Fits.passes f b e2
      have hv : σ[i]? = some (some v) := a
      cases e3 : ρ2[i]? with
      | none => simp [e2, e3] at p
      | some sl =>
        obtain ⟨x, hx, so⟩ := f2.slot i sl e3
        rw [hx] at hv
        cases hv
        cases sl with
        | non => simp [e2, e3] at p
        | val d => simp [e2, e3] at p
        | own d =>
          simp [e2, e3] at p
          obtain ⟨rfl, rfl⟩ := p
          obtain ⟨c, q, _⟩ := so
          cases q
          exact ⟨F2, g2, f2, .lent hx (.inl e3) r2⟩
        | bor d =>
          simp [e2, e3] at p
          obtain ⟨rfl, rfl⟩ := p
          obtain ⟨q, _⟩ := so
          cases q
          exact ⟨F2, g2, f2, .lent hx (.inr e3) r2⟩
  | true :: ms, .val _ :: rs, _, ds, ρ, ρ', F, f, s, p => by cases p
  | true :: ms, .new _ :: rs, _, ds, ρ, ρ', F, f, s, p => by cases p
  | [], _ :: _, _, ds, ρ, ρ', F, f, s, p => by cases p
  | _ :: _, [], _, ds, ρ, ρ', F, f, s, p => by
    unfold DL.passes at p
    split at p <;> first | contradiction | cases p

/-- the ground of a callee: all but what is lent -/
def lentAt (ms : List Bool) (vs : List V) (a : Addr) : Prop := ∃ j : Nat, ms[j]? = some true ∧ vs[j]? = some (.ref a)
open Classical in
noncomputable def ground (ms : List Bool) (vs : List V) (H : Hp) : Hp := fun a => if lentAt ms vs a then none else H a
theorem ground_sub {ms : List Bool} {vs : List V} : Sub (ground ms vs H) H := fun a o e => by
  unfold ground at e
  split at e
  · cases e
  · exact e
theorem ground_at {ms : List Bool} {vs : List V} {a : Addr} (h : lentAt ms vs a) : ground ms vs H a = none := by unfold ground; rw [if_pos h]
theorem ground_of {ms : List Bool} {vs : List V} {a : Addr} (h : ¬ lentAt ms vs a) : ground ms vs H a = H a := by unfold ground; rw [if_neg h]
def refAt (vs : List V) (j : Nat) : Addr := match vs[j]? with
  | some (.ref a) => a
  | _ => 0
/-- what stands at a lent place -/
theorem PassOk.lentAt {ms : List Bool} {rs : List RV} {ds : List D} {vs : List V} (p : PassOk K F ρ σ ms rs ds vs) {a : Addr} (h : DL.lentAt ms vs a) :
    ∃ (i : Nat) (d : D), i ∈ lents ms rs ∧ σ[i]? = some (some (.ref a)) ∧ (ρ[i]? = some (.own d) ∨ ρ[i]? = some (.bor d)) := by
  obtain ⟨j, h1, h2⟩ := h
  induction p generalizing j with
  | nil => simp at h1
  | val r _ ih =>
    cases j with
    | zero => simp at h1
    | succ j => exact ih j (by simpa using h1) (by simpa using h2)
  | @lent ms rs ds vs i d b hs hr _ ih =>
    cases j with
    | zero =>
      simp at h2
      subst h2
      exact ⟨i, d, List.mem_cons_self, hs, hr⟩
    | succ j =>
      obtain ⟨i', d', m, q⟩ := ih j (by simpa using h1) (by simpa using h2)
      exact ⟨i', d', List.mem_cons_of_mem _ m, q⟩
theorem PassOk.argGet {ms : List Bool} {rs : List RV} {ds : List D} {vs : List V} (p : PassOk K F ρ σ ms rs ds vs) : ∀ {j : Nat} {s : Slot}, (argEnv ms ds)[j]? = some s →
    (∃ d v, s = .val d ∧ vs[j]? = some v ∧ Rep K F d v) ∨ ∃ d a i, s = .bor d ∧ vs[j]? = some (.ref a) ∧ ms[j]? = some true ∧ rs[j]? = some (.loc i) ∧ σ[i]? = some (some (.ref a)) ∧ (ρ[i]? = some (.own d) ∨ ρ[i]? = some (.bor d)) := by
  induction p with
  | nil => intro j s h; simp [argEnv] at h
  | @val ms rs ds vs r d v hr _ ih =>
    intro j s h
    cases j with
    | zero => simp [argEnv] at h; subst h; exact .inl ⟨d, v, rfl, rfl, hr⟩
    | succ j => simpa using ih (j := j) (s := s) (by simpa [argEnv] using h)
  | @lent ms rs ds vs i d a hs hr _ ih =>
    intro j s h
    cases j with
    | zero => simp [argEnv] at h; subst h; exact .inr ⟨d, a, i, rfl, rfl, rfl, rfl, hs, hr⟩
    | succ j => simpa using ih (j := j) (s := s) (by simpa [argEnv] using h)
theorem lents_mem : ∀ {ms : List Bool} {rs : List RV} {j i : Nat}, ms[j]? = some true → rs[j]? = some (.loc i) → i ∈ lents ms rs
  | [], _, j, i, h, _ => by simp at h
  | _ :: _, [], j, i, _, h => by simp at h
  | true :: ms, .loc k :: rs, 0, i, h1, h2 => by simp at h2; subst h2; exact List.mem_cons_self
  | true :: ms, .loc k :: rs, j + 1, i, h1, h2 => List.mem_cons_of_mem _ (lents_mem (ms := ms) (rs := rs) (j := j) (by simpa using h1) (by simpa using h2))
  | false :: ms, r :: rs, 0, i, h1, h2 => by simp at h1
  | false :: ms, r :: rs, j + 1, i, h1, h2 => by
    have := lents_mem (ms := ms) (rs := rs) (j := j) (i := i) (by simpa using h1) (by simpa using h2)
    cases r <;> exact this
  | true :: ms, .val _ :: rs, 0, i, h1, h2 => by simp at h2
  | true :: ms, .new _ :: rs, 0, i, h1, h2 => by simp at h2
  | true :: ms, .val _ :: rs, j + 1, i, h1, h2 => lents_mem (ms := ms) (rs := rs) (j := j) (by simpa using h1) (by simpa using h2)
  | true :: ms, .new _ :: rs, j + 1, i, h1, h2 => lents_mem (ms := ms) (rs := rs) (j := j) (by simpa using h1) (by simpa using h2)
/-- two lent places of one name are one place -/
theorem lents_inj : ∀ {ms : List Bool} {rs : List RV} {j k i : Nat}, (lents ms rs).Nodup → ms[j]? = some true → rs[j]? = some (.loc i) → ms[k]? = some true → rs[k]? = some (.loc i) → j = k
  | [], _, j, k, i, _, h, _, _, _ => by simp at h
  | _ :: _, [], j, k, i, _, _, h, _, _ => by simp at h
  | true :: ms, .loc x :: rs, 0, 0, i, _, _, _, _, _ => rfl
  | true :: ms, .loc x :: rs, 0, k + 1, i, n, _, h2, h3, h4 => by
    simp at h2
    subst h2
    exact absurd (lents_mem (ms := ms) (rs := rs) (j := k) (by simpa using h3) (by simpa using h4)) (List.nodup_cons.mp n).1
  | true :: ms, .loc x :: rs, j + 1, 0, i, n, h1, h2, _, h4 => by
    simp at h4
    subst h4
    exact absurd (lents_mem (ms := ms) (rs := rs) (j := j) (by simpa using h1) (by simpa using h2)) (List.nodup_cons.mp n).1
  | true :: ms, .loc x :: rs, j + 1, k + 1, i, n, h1, h2, h3, h4 => by
    rw [lents_inj (ms := ms) (rs := rs) (j := j) (k := k) (List.nodup_cons.mp n).2 (by simpa using h1) (by simpa using h2) (by simpa using h3) (by simpa using h4)]
  | false :: ms, r :: rs, j, k, i, n, h1, h2, h3, h4 => by
    cases j with
    | zero => simp at h1
    | succ j =>
      cases k with
      | zero => simp at h3
      | succ k =>
        have n' : (lents ms rs).Nodup := by cases r <;> exact n
        rw [lents_inj (ms := ms) (rs := rs) (j := j) (k := k) n' (by simpa using h1) (by simpa using h2) (by simpa using h3) (by simpa using h4)]
  | true :: ms, .val _ :: rs, j, k, i, n, h1, h2, h3, h4 => by
    cases j with
    | zero => simp at h2
    | succ j =>
      cases k with
      | zero => simp at h4
      | succ k => rw [lents_inj (ms := ms) (rs := rs) (j := j) (k := k) n (by simpa using h1) (by simpa using h2) (by simpa using h3) (by simpa using h4)]
  | true :: ms, .new _ :: rs, j, k, i, n, h1, h2, h3, h4 => by
    cases j with
    | zero => simp at h2
    | succ j =>
      cases k with
      | zero => simp at h4
      | succ k => rw [lents_inj (ms := ms) (rs := rs) (j := j) (k := k) n (by simpa using h1) (by simpa using h2) (by simpa using h3) (by simpa using h4)]
/-- an owner's slot -/
theorem Fits.owner (f : Fits K α ρ σ H F G) {i : Nat} {d : D} {a : Addr} (h : ρ[i]? = some (.own d) ∨ ρ[i]? = some (.bor d)) (hs : σ[i]? = some (some (.ref a))) : F a = none ∧ G a = none ∧ Cell K F H a d := by
  rcases h with h | h
  · obtain ⟨x, hx, b, e, fb, gb, c⟩ := f.slot i _ h
    rw [hx] at hs
    cases hs
    cases e
    exact ⟨fb, gb, c⟩
  · obtain ⟨x, hx, e, fb, gb, c⟩ := f.slot i _ h
    rw [hx] at hs
    cases hs
    cases e
    exact ⟨fb, gb, c⟩
theorem owns_of {i : Nat} {d : D} (h : ρ[i]? = some (.own d) ∨ ρ[i]? = some (.bor d)) : ∃ s, ρ[i]? = some s ∧ s.owns = true := by
  rcases h with h | h
  · exact ⟨_, h, rfl⟩
  · exact ⟨_, h, rfl⟩
/-- the state that a callee meets -/
theorem Fits.callee (f : Fits K α ρ σ H F G) {ms : List Bool} {rs : List RV} {ds : List D} {vs : List V} (p : PassOk K F ρ σ ms rs ds vs) (nd : (lents ms rs).Nodup) :
    Fits K (refAt vs) (argEnv ms ds) (vs.map some) H F (ground ms vs H) := by
  obtain ⟨l1, l2⟩ := p.lens
  refine ⟨f.fh, ground_sub, by rw [List.length_map, argEnv_length l1, l2], fun j s q => ?_, fun j k s t a q1 q2 o1 o2 h1 h2 => ?_⟩
  · rcases p.argGet q with ⟨d, v, rfl, hv, r⟩ | ⟨d, a, i, rfl, hv, hm, hr, hs, ho⟩
    · exact ⟨some v, by rw [List.getElem?_map, hv]; rfl, v, rfl, r⟩
    · obtain ⟨fa, ga, c⟩ := f.owner ho hs
      have e : refAt vs j = a := by unfold refAt; rw [hv]
      refine ⟨some (.ref a), by rw [List.getElem?_map, hv]; rfl, ?_⟩
      rw [e]
      exact ⟨rfl, fa, ground_at ⟨j, hm, hv⟩, c⟩
  · rcases p.argGet q1 with ⟨d, v, rfl, hv, r⟩ | ⟨d, b, i, rfl, hv, hm, hr, hs, ho⟩
    · cases o1
    · rcases p.argGet q2 with ⟨d', v', rfl, hv', r'⟩ | ⟨d', b', i', rfl, hv', hm', hr', hs', ho'⟩
      · cases o2
      · rw [List.getElem?_map, hv] at h1
        rw [List.getElem?_map, hv'] at h2
        cases h1
        cases h2
        obtain ⟨s1, e1, w1⟩ := owns_of ho
        obtain ⟨s2, e2, w2⟩ := owns_of ho'
        have ei : i = i' := f.sep i i' s1 s2 a e1 e2 w1 w2 hs hs'
        subst ei
        exact lents_inj nd hm hr hm' hr'
theorem setO_length (ρ : Env) (i : Nat) (d : D) : (setO ρ i d).length = ρ.length := by
  unfold setO
  split <;> simp
theorem backs_r0 (ms : List Bool) (ds : List D) (ρ : Env) : backs ms [] ds ρ = ρ := by
  cases ms with
  | nil => rfl
  | cons m ms => cases m <;> rfl
theorem backs_d0 (ms : List Bool) (rs : List RV) (ρ : Env) : backs ms rs [] ρ = ρ := by
  cases ms with
  | nil => rfl
  | cons m ms =>
    cases rs with
    | nil => exact backs_r0 _ _ _
    | cons r rs => cases m <;> cases r <;> rfl
theorem backs_length : ∀ (ms : List Bool) (rs : List RV) (ds : List D) (ρ : Env), (backs ms rs ds ρ).length = ρ.length
  | [], rs, ds, ρ => by unfold backs; rfl
  | m :: ms, [], ds, ρ => by rw [backs_r0]
  | m :: ms, r :: rs, [], ρ => by rw [backs_d0]
  | m :: ms, r :: rs, d :: ds, ρ => by
    have ih := backs_length ms rs ds ρ
    cases m <;> cases r <;> simp only [backs, setO_length, ih]
/-- a slot behind a call -/
theorem setO_get {ρ : Env} {i k : Nat} {d : D} {s : Slot} (h : (setO ρ i d)[k]? = some s) : (k ≠ i ∧ ρ[k]? = some s) ∨ (k = i ∧ ((∃ d', ρ[i]? = some (.own d') ∧ s = .own d) ∨ (∃ d', ρ[i]? = some (.bor d') ∧ s = .bor d) ∨ (ρ[i]? = some s ∧ s.owns = false))) := by
  unfold setO at h
  by_cases hk : k = i
  · subst hk
    right
    refine ⟨rfl, ?_⟩
    cases e : ρ[k]? with
    | none => simp [e] at h
    | some t =>
      have hl : k < ρ.length := (List.getElem?_eq_some_iff.mp e).1
      cases t with
      | own d' =>
        simp only [e] at h
        rw [List.getElem?_set_self hl] at h
        cases h
        exact .inl ⟨d', rfl, rfl⟩
      | bor d' =>
        simp only [e] at h
        rw [List.getElem?_set_self hl] at h
        cases h
        exact .inr (.inl ⟨d', rfl, rfl⟩)
      | non => simp [e] at h; subst h; exact .inr (.inr ⟨rfl, rfl⟩)
      | val d' => simp [e] at h; subst h; exact .inr (.inr ⟨rfl, rfl⟩)
  · left
    refine ⟨hk, ?_⟩
    split at h
    · rwa [List.getElem?_set_ne (Ne.symm hk)] at h
    · rwa [List.getElem?_set_ne (Ne.symm hk)] at h
    · exact h
theorem backs_get : ∀ {ms : List Bool} {rs : List RV} {ds : List D} {ρ : Env} {k : Nat} {s : Slot}, (lents ms rs).Nodup → (backs ms rs ds ρ)[k]? = some s →
    ρ[k]? = some s ∧ (∀ j : Nat, ms[j]? = some true → rs[j]? = some (.loc k) → s.owns = true → ds[j]? = none) ∨ ∃ (j : Nat) (d : D), ms[j]? = some true ∧ rs[j]? = some (.loc k) ∧ ds[j]? = some d ∧ ((∃ d', ρ[k]? = some (.own d') ∧ s = .own d) ∨ (∃ d', ρ[k]? = some (.bor d') ∧ s = .bor d))
  | [], rs, ds, ρ, k, s, nd, h => by
    unfold backs at h
    exact .inl ⟨h, fun j z => by simp at z⟩
  | m :: ms, [], ds, ρ, k, s, nd, h => by
    rw [backs_r0] at h
    exact .inl ⟨h, fun j _ z => by simp at z⟩
  | m :: ms, r :: rs, [], ρ, k, s, nd, h => by
    rw [backs_d0] at h
    exact .inl ⟨h, fun j _ _ _ => by simp⟩
  | m :: ms, r :: rs, d :: ds, ρ, k, s, nd, h => by
    by_cases hm : m = true ∧ ∃ i, r = .loc i
    · obtain ⟨rfl, i, rfl⟩ := hm
      obtain ⟨hni, nd'⟩ := List.nodup_cons.mp (show (i :: lents ms rs).Nodup from nd)
      have h' : (setO (backs ms rs ds ρ) i d)[k]? = some s := h
      rcases setO_get h' with ⟨hk, h1⟩ | ⟨rfl, h1⟩
      · rcases backs_get nd' h1 with ⟨a, b⟩ | ⟨j, d', a, b, c, e⟩
        · refine .inl ⟨a, fun j z1 z2 o => ?_⟩
          cases j with
          | zero => simp at z2; exact absurd z2.symm hk
          | succ j => simpa using b j (by simpa using z1) (by simpa using z2) o
        · exact .inr ⟨j + 1, d', by simpa using a, by simpa using b, by simpa using c, e⟩
      · have base : ∀ {t : Slot}, (backs ms rs ds ρ)[k]? = some t → ρ[k]? = some t := fun {t} z => by
          rcases backs_get nd' z with ⟨a, _⟩ | ⟨j, d', a, b, _, _⟩
          · exact a
          · exact absurd (lents_mem a b) hni
        rcases h1 with ⟨d', e, rfl⟩ | ⟨d', e, rfl⟩ | ⟨e, o⟩
        · exact .inr ⟨0, d, rfl, rfl, rfl, .inl ⟨d', base e, rfl⟩⟩
        · exact .inr ⟨0, d, rfl, rfl, rfl, .inr ⟨d', base e, rfl⟩⟩
        · exact .inl ⟨base e, fun j z1 z2 o' => by rw [o] at o'; cases o'⟩
    · have e1 : backs (m :: ms) (r :: rs) (d :: ds) ρ = backs ms rs ds ρ := by
        cases m with
        | false => cases r <;> rfl
        | true =>
          cases r with
          | loc i => exact absurd ⟨rfl, i, rfl⟩ hm
          | _ => rfl
      have e2 : lents (m :: ms) (r :: rs) = lents ms rs := by
        cases m with
        | false => cases r <;> rfl
        | true =>
          cases r with
          | loc i => exact absurd ⟨rfl, i, rfl⟩ hm
          | _ => rfl
      rw [e1] at h
      rw [e2] at nd
      rcases backs_get nd h with ⟨a, b⟩ | ⟨j, d', a, b, c, e⟩
      · refine .inl ⟨a, fun j z1 z2 o => ?_⟩
        cases j with
        | zero => simp at z1 z2; exact absurd ⟨z1, k, z2⟩ hm
        | succ j => simpa using b j (by simpa using z1) (by simpa using z2) o
      · exact .inr ⟨j + 1, d', by simpa using a, by simpa using b, by simpa using c, e⟩
theorem argEnv_at : ∀ {ms : List Bool} {ds : List D} {j : Nat}, ds.length = ms.length → ms[j]? = some true → ∃ d, ds[j]? = some d ∧ (argEnv ms ds)[j]? = some (.bor d)
  | [], _, j, _, h => by simp at h
  | _ :: _, [], j, h, _ => by simp at h
  | true :: ms, d :: ds, 0, _, _ => ⟨d, rfl, rfl⟩
  | false :: ms, d :: ds, 0, _, h => by simp at h
  | true :: ms, d :: ds, j + 1, hl, h => by simpa [argEnv] using argEnv_at (ms := ms) (ds := ds) (j := j) (by simpa using hl) (by simpa using h)
  | false :: ms, d :: ds, j + 1, hl, h => by simpa [argEnv] using argEnv_at (ms := ms) (ds := ds) (j := j) (by simpa using hl) (by simpa using h)
/-- back in the caller -/
theorem Fits.back (f : Fits K α ρ σ H F G) {ms : List Bool} {rs : List RV} {ds outs : List D} {vs : List V} (p : PassOk K F ρ σ ms rs ds vs) (nd : (lents ms rs).Nodup) (hl : outs.length = ms.length)
    (g : Grow (ground ms vs H) F F') (f' : Fits K (refAt vs) (argEnv ms outs) (vs.map some) H' F' (ground ms vs H)) : Fits K α (backs ms rs outs ρ) σ H' F' G ∧ Grow G F F' := by
  have stays : ∀ a o, H a = some o → ¬ lentAt ms vs a → H' a = some o := fun a o e n => f'.gh a o (by rw [ground_of n]; exact e)
  have gl : ∀ a o, G a = some o → ¬ lentAt ms vs a := fun a o e n => by
    obtain ⟨i, d, _, hs, ho⟩ := p.lentAt n
    obtain ⟨_, ga, _⟩ := f.owner ho hs
    rw [e] at ga
    cases ga
  have gr : Grow G F F' := ⟨g.sub, fun a o e => by
    rcases g.new a o e with z | ⟨z1, z2⟩
    · exact .inl z
    · refine .inr ⟨z1, ?_⟩
      cases q : G a with
      | none => rfl
      | some u =>
        have n := gl a u q
        rw [ground_of n, f.gh _ _ q] at z2
        cases z2⟩
  have fn : ∀ a o, H a = some o → F a = none → ¬ lentAt ms vs a → F' a = none := fun a o e z n => by
    cases q : F' a with
    | none => rfl
    | some u =>
      rcases g.new a u q with w | ⟨_, w⟩
      · rw [z] at w; cases w
      · rw [ground_of n, e] at w; cases w
  -- a slot that is not lent
  have keep : ∀ (k : Nat) (s : Slot), ρ[k]? = some s → (s.owns = true → k ∉ lents ms rs) → ∃ x, σ[k]? = some x ∧ SlotOk K F' G H' x (α k) s := fun k s q hn => by
    obtain ⟨x, hx, so⟩ := f.slot k s q
    refine ⟨x, hx, ?_⟩
    cases s with
    | non => trivial
    | val d => obtain ⟨v, e, r⟩ := so; exact ⟨v, e, Rep.mono g.sub _ _ r⟩
    | own d =>
      obtain ⟨a, e, fa, ga, c⟩ := so
      have n : ¬ lentAt ms vs a := fun z => by
        obtain ⟨i, d', mi, hs, ho⟩ := p.lentAt z
        obtain ⟨s2, e2, w2⟩ := owns_of ho
        have := f.sep k i _ s2 a q e2 rfl w2 (by rw [hx, e]) hs
        exact hn rfl (this ▸ mi)
      obtain ⟨o, ho⟩ := c.there
      exact ⟨a, e, fn a o ho fa n, ga, c.mono g.sub fun u hu => stays a u hu n⟩
    | bor d =>
      obtain ⟨e, fa, ga, c⟩ := so
      have n : ¬ lentAt ms vs (α k) := fun z => by
        obtain ⟨i, d', mi, hs, ho⟩ := p.lentAt z
        obtain ⟨s2, e2, w2⟩ := owns_of ho
        have := f.sep k i _ s2 (α k) q e2 rfl w2 (by rw [hx, e]) hs
        exact hn rfl (this ▸ mi)
      obtain ⟨o, ho⟩ := c.there
      exact ⟨e, fn _ o ho fa n, ga, c.mono g.sub fun u hu => stays _ u hu n⟩
  -- a lent slot
  have lent : ∀ (k j : Nat) (d : D), ms[j]? = some true → rs[j]? = some (.loc k) → outs[j]? = some d → ∃ a, σ[k]? = some (some (.ref a)) ∧ F' a = none ∧ G a = none ∧ Cell K F' H' a d := fun k j d hm hr hd => by
    obtain ⟨d', e1, e2⟩ := argEnv_at hl hm
    rw [hd] at e1
    cases e1
    obtain ⟨x, hx, so⟩ := f'.slot j _ e2
    obtain ⟨d0, e3, e4⟩ := argEnv_at (p.lens).1 hm
    rcases p.argGet e4 with ⟨_, _, z, _⟩ | ⟨_, a, i, z, hv, _, hr', hs, ho⟩
    · cases z
    · rw [hr] at hr'
      cases hr'
      have ea : refAt vs j = a := by unfold refAt; rw [hv]
      rw [ea] at so
      obtain ⟨_, fa, _, c⟩ := so
      exact ⟨a, hs, fa, (f.owner ho hs).2.1, c⟩
  refine ⟨⟨f'.fh, fun a o e => stays a o (f.gh _ _ e) (gl a o e), by rw [backs_length]; exact f.len, fun k s q => ?_, fun j k s t a q1 q2 o1 o2 h1 h2 => ?_⟩, gr⟩
  · rcases backs_get nd q with ⟨a, b⟩ | ⟨j, d, hm, hr, hd, hh⟩
    · refine keep k s a fun o m => ?_
      -- lent, and without an end: there is none
      have : ∀ {ms : List Bool} {rs : List RV}, k ∈ lents ms rs → ∃ j : Nat, ms[j]? = some true ∧ rs[j]? = some (.loc k) := by
        intro ms
        induction ms with
        | nil => intro rs z; simp [lents] at z
        | cons m ms ih =>
          intro rs z
          cases rs with
          | nil => cases m <;> simp [lents] at z
          | cons r rs =>
            by_cases hm : m = true ∧ ∃ i, r = .loc i
            · obtain ⟨rfl, i, rfl⟩ := hm
              have z' : k ∈ i :: lents ms rs := z
              rcases List.mem_cons.mp z' with rfl | z'
              · exact ⟨0, rfl, rfl⟩
              · obtain ⟨j, a, b⟩ := ih z'
                exact ⟨j + 1, by simpa using a, by simpa using b⟩
            · have z' : k ∈ lents ms rs := by
                cases m with
                | false => cases r <;> exact z
                | true =>
                  cases r with
                  | loc i => exact absurd ⟨rfl, i, rfl⟩ hm
                  | _ => exact z
              obtain ⟨j, a, b⟩ := ih z'
              exact ⟨j + 1, by simpa using a, by simpa using b⟩
      obtain ⟨j, j1, j2⟩ := this m
      have := b j j1 j2 o
      obtain ⟨d, e, _⟩ := argEnv_at hl j1
      rw [this] at e
      cases e
    · obtain ⟨a, hs, fa, ga, c⟩ := lent k j d hm hr hd
      refine ⟨_, hs, ?_⟩
      rcases hh with ⟨d', e, rfl⟩ | ⟨d', e, rfl⟩
      · exact ⟨a, rfl, fa, ga, c⟩
      · obtain ⟨x, hx, e', _⟩ := f.slot k _ e
        rw [hx] at hs
        cases hs
        cases e'
        exact ⟨rfl, fa, ga, c⟩
  · have old : ∀ {k : Nat} {s : Slot}, (backs ms rs outs ρ)[k]? = some s → s.owns = true → ∃ s', ρ[k]? = some s' ∧ s'.owns = true := fun {k s} q o => by
      rcases backs_get nd q with ⟨a, _⟩ | ⟨j, d, _, _, _, ⟨d', e, _⟩ | ⟨d', e, _⟩⟩
      · exact ⟨s, a, o⟩
      · exact ⟨_, e, rfl⟩
      · exact ⟨_, e, rfl⟩
    obtain ⟨s1, e1, w1⟩ := old q1 o1
    obtain ⟨s2, e2, w2⟩ := old q2 o2
    exact f.sep j k s1 s2 a e1 e2 w1 w2 h1 h2
theorem RRep.back (f : Fits K α ρ σ H F G) {ms : List Bool} {rs : List RV} {ds outs : List D} {vs : List V} (p : PassOk K F ρ σ ms rs ds vs) (hl : outs.length = ms.length) {v : V} (ρ2 : Env) (ho2 : ∀ (k : Nat) (s : Slot), ρ2[k]? = some s → s.owns = true → ∃ s', ρ[k]? = some s' ∧ s'.owns = true)
    (f' : Fits K (refAt vs) (argEnv ms outs) (vs.map some) H' F' (ground ms vs H)) :
    ∀ {r : RV}, (∀ i, r ≠ .loc i) → RRep K F' (ground ms vs H) H' (vs.map some) (argEnv ms outs) r v → RRep K F' G H' σ ρ2 r v
  | .val _, _, h => h
  | .loc i, n, _ => absurd rfl (n i)
  | .new d, _, h => by
    obtain ⟨a, rfl, fa, ga, c, sp⟩ := h
    have na : ¬ lentAt ms vs a := fun ⟨j, h1, h2⟩ => by
      obtain ⟨d', _, e2⟩ := argEnv_at hl h1
      exact sp j _ e2 rfl (by rw [List.getElem?_map, h2]; rfl)
    have ha : H a = none := by rw [← ground_of (H := H) na]; exact ga
    refine ⟨a, rfl, fa, f.gh.free ha, c, fun k s q o z => ?_⟩
    obtain ⟨s', e, w⟩ := ho2 k s q o
    have : ∃ d', ρ[k]? = some (.own d') ∨ ρ[k]? = some (.bor d') := by
      cases s' with
      | non => cases w
      | val d => cases w
      | own d => exact ⟨d, .inl e⟩
      | bor d => exact ⟨d, .inr e⟩
    obtain ⟨d', q'⟩ := this
    obtain ⟨u, hu⟩ := (f.owner q' z).2.2.there
    rw [ha] at hu
    cases hu
end
section
variable {X : Cx} {W : WX} {e : Expr} {es : List Expr} {gs : Av} {pos p : Pos} {k : Nat} {f : Addr} {fd : FuncData} {ps : List Str} {ms : List Bool} {den : List D → DR} {x : Str}
theorem ec_call {K : PySem.W.Frag} (hd : ∀ ds r outs, den ds = .ok r outs → ∀ i, r ≠ .loc i) {σ : L2.St} {H : Hp} {Q : VK} (h : tE K W (dCall ms den gs) σ H Q) : tA K W gs σ H fun vs H1 => spD K ms den vs H1 Q (WE W σ) := by
  obtain ⟨α, ρ, F, G, ft, h⟩ := h
  refine ⟨α, ρ, F, G, ft, ?_⟩
  unfold dCall at h
  cases e1 : gs ρ with
  | no => simp [e1, EC] at h
  | ex x ρ1 => simp only [e1] at h; exact h
  | ok rs ρ1 =>
    simp only [e1] at h
    intro vs H1 F1 g1 f1 s1
    cases e2 : passes ms rs ρ1 with
    | none => simp [e2, EC] at h
    | some w =>
      obtain ⟨ds, ρ2⟩ := w
      simp only [e2] at h
      by_cases nd : (lents ms rs).Nodup
      · rw [if_pos nd] at h
        obtain ⟨F2, g2, f2, pk⟩ := Fits.passes f1 s1 e2
        refine ⟨refAt vs, F2, ground ms vs H1, ds, pk.lens.1, f2.callee pk nd, ?_⟩
        have old : ∀ (outs : List D) (k : Nat) (s : Slot), (backs ms rs outs ρ2)[k]? = some s → s.owns = true → ∃ s', ρ2[k]? = some s' ∧ s'.owns = true := fun outs k s q o => by
          rcases backs_get nd q with ⟨a, _⟩ | ⟨j, d, _, _, _, ⟨d', e, _⟩ | ⟨d', e, _⟩⟩
          · exact ⟨s, a, o⟩
          · exact ⟨_, e, rfl⟩
          · exact ⟨_, e, rfl⟩
        cases e3 : den ds with
        | no => simp [e3, EC] at h
        | ok r outs =>
          simp only [e3] at h
          intro v H3 F3 g3 hl f3 r3
          obtain ⟨f4, g4⟩ := f2.back pk nd hl g3 f3
          exact h v H3 F3 ((g1.trans g2).trans g4) f4 (RRep.back f2 pk hl _ (old outs) f3 (hd _ _ _ e3) r3)
        | ex x outs =>
          simp only [e3] at h
          intro c d H3 F3 g3 hl f3 r3
          obtain ⟨f4, g4⟩ := f2.back pk nd hl g3 f3
          exact h c d H3 F3 ((g1.trans g2).trans g4) f4 r3
      · rw [if_neg nd] at h
        exact h.elim
theorem ed_call (hd : ∀ ds r outs, den ds = .ok r outs → ∀ i, r ≠ .loc i) (F : FnOk X.prog X.w X.K X.mg X.base (L2.CX X.prog X.w) k f fd ps (spD X.K ms den)) (hr : Room k X.A) (hg : Gl X x) (hm : X.mg x = some (.ref f)) (hk : PySem.W.keepIn X.K (.ref f) = true) (hb : Binds X.K fd ps []) (tk : Takes X W)
    (ha : PA X (e :: es) (tA X.K W gs)) (hdb : (x == ("__debug__" : Str)) = false := by decide) (he : starEach (e :: es) X.env = (false, eval e X.env) :: starEach es X.env := by rfl) (hpl : (backTo pos (starEach es X.env)).any (·.1) = false := by rfl) :
    PE X (.Call (.Name x p) (e :: es) [] pos) (tE X.K W (dCall ms den gs)) :=
  (pe_callS F hr hg hm hk hb (fun σ => passAt tk σ) ha hdb he hpl).weak fun _ _ _ h => ec_call hd h
end
end DL

namespace DL
open PySem PySem.Spec L2

/-! ### statements -/
inductive SR where | nx (ρ : Env) | rt (r : RV) (ρ : Env) | bk (ρ : Env) | ct (ρ : Env) | ex (x : Exn) (ρ : Env) | no
abbrev Sv := Env → SR
def SC (K : PySem.W.Frag) (W : WX) (α : Nat → Addr) (F G : Hp) (D : Ends) : SR → Prop
  | .nx ρ => ∀ σ' H' F', Grow G F F' → Fits K α ρ σ' H' F' G → D.nx σ' H'
  | .rt r ρ => ∀ v σ' H' F', Grow G F F' → Fits K α ρ σ' H' F' G → RRep K F' G H' σ' ρ r v → D.rt v H'
  | .bk ρ => ∀ σ' H' F', Grow G F F' → Fits K α ρ σ' H' F' G → D.bk σ' H'
  | .ct ρ => ∀ σ' H' F', Grow G F F' → Fits K α ρ σ' H' F' G → D.ct σ' H'
  | .ex x ρ => ∀ cls d σ' H' F', Grow G F F' → Fits K α ρ σ' H' F' G → RepX K F' H' x cls d → W cls d σ' H'
  | .no => False
def tS (K : PySem.W.Frag) (W : WX) (g : Sv) : TS := fun D σ H => ∃ (α : Nat → Addr) (ρ : Env) (F G : Hp), Fits K α ρ σ H F G ∧ SC K W α F G D (g ρ)
def SR.bind (s : SR) (k : Env → SR) : SR := match s with
  | .nx ρ => k ρ
  | .rt r ρ => .rt r ρ
  | .bk ρ => .bk ρ
  | .ct ρ => .ct ρ
  | .ex x ρ => .ex x ρ
  | .no => .no
def ER.st (e : ER) (k : RV → Env → SR) : SR := match e with
  | .ok r ρ => k r ρ
  | .ex x ρ => .ex x ρ
  | .no => .no
section
variable {K : PySem.W.Frag} {W : WX} {α : Nat → Addr} {ρ : Env} {σ : L2.St} {H F G H' F' : Hp} {D : Ends}
theorem SC.mono (g : Grow G F F') : ∀ {s : SR}, SC K W α F G D s → SC K W α F' G D s
  | .nx ρ, h => fun s H1 F1 g1 f1 => h s H1 F1 (g.trans g1) f1
  | .rt r ρ, h => fun v s H1 F1 g1 f1 r1 => h v s H1 F1 (g.trans g1) f1 r1
  | .bk ρ, h => fun s H1 F1 g1 f1 => h s H1 F1 (g.trans g1) f1
  | .ct ρ, h => fun s H1 F1 g1 f1 => h s H1 F1 (g.trans g1) f1
  | .ex x ρ, h => fun c d s H1 F1 g1 f1 r1 => h c d s H1 F1 (g.trans g1) f1 r1
  | .no, h => h
/-- an expression within a statement -/
theorem EC.st {k : RV → Env → SR} {R : V → Hp → Prop} (hk : ∀ r ρ1, ∀ v H1 F1, Grow G F F1 → Fits K α ρ1 σ H1 F1 G → RRep K F1 G H1 σ ρ1 r v → SC K W α F1 G D (k r ρ1) → R v H1) :
    ∀ {e : ER}, SC K W α F G D (e.st k) → EC K W α σ F G R e
  | .ok r ρ1, h => fun v H1 F1 g1 f1 r1 => hk r ρ1 v H1 F1 g1 f1 r1 (SC.mono g1 h)
  | .ex x ρ1, h => fun c d H1 F1 g1 f1 x1 => h c d σ H1 F1 g1 f1 x1
  | .no, h => h
theorem EC.stS {k : RV → Env → SR} {R : V → Hp → Prop} (hk : ∀ r ρ1, ∀ v H1 F1, Grow G F F1 → Fits K α ρ1 σ H1 F1 G → SRep K F1 σ r v → SC K W α F1 G D (k r ρ1) → R v H1) :
    ∀ {e : ER}, SC K W α F G D (e.settle.st k) → EC K W α σ F G R e
  | .ok r ρ1, h => fun v H1 F1 g1 f1 r1 => by
    obtain ⟨F2, g2, f2, s2⟩ := r1.settle f1
    exact hk r.settle ρ1 v H1 F2 (g1.trans g2) f2 s2 (SC.mono (g1.trans g2) h)
  | .ex x ρ1, h => fun c d H1 F1 g1 f1 x1 => h c d σ H1 F1 g1 f1 x1
  | .no, h => h
/-- a test within a statement -/
theorem BC.st {k : RV → Env → SR} {R : Bool → Hp → Prop} (hn : ∀ r ρ1, (∀ b, r ≠ .val (.bl b)) → k r ρ1 = .no) (hk : ∀ b ρ1, ∀ H1 F1, Grow G F F1 → Fits K α ρ1 σ H1 F1 G → SC K W α F1 G D (k (.val (.bl b)) ρ1) → R b H1)
    {e : ER} (h : SC K W α F G D (e.st k)) : BC K W α σ F G R e := by
  cases e with
  | no => exact h
  | ex x ρ1 => exact fun c d H1 F1 g1 f1 x1 => h c d σ H1 F1 g1 f1 x1
  | ok r ρ1 =>
    have h' : SC K W α F G D (k r ρ1) := h
    by_cases q : ∃ b, r = .val (.bl b)
    · obtain ⟨b, rfl⟩ := q
      exact fun H1 F1 g1 f1 => hk b ρ1 H1 F1 g1 f1 (SC.mono g1 h')
    · rw [hn r ρ1 fun b z => q ⟨b, z⟩] at h'
      exact h'.elim
/-- a name is bound -/
theorem Fits.setSlot (f : Fits K α ρ σ H F G) {i : Nat} {s t : Slot} {v : V} (e : ρ[i]? = some t) (ok : SlotOk K F G H (some v) (α i) s) (own : s.owns = true → ∀ (j : Nat) (u : Slot) a, v = .ref a → j ≠ i → ρ[j]? = some u → u.owns = true → σ[j]? ≠ some (some (.ref a))) :
    Fits K α (ρ.set i s) (σ.set i (some v)) H F G := by
  have hi : i < ρ.length := (List.getElem?_eq_some_iff.mp e).1
  have hσ : i < σ.length := by rw [f.len]; exact hi
  refine ⟨f.fh, f.gh, by rw [List.length_set, List.length_set]; exact f.len, fun j u q => ?_, fun j k u w a q1 q2 o1 o2 h1 h2 => ?_⟩
  · by_cases hj : i = j
    · subst hj
      rw [List.getElem?_set_self hi] at q
      cases q
      exact ⟨some v, List.getElem?_set_self hσ, ok⟩
    · rw [List.getElem?_set_ne hj] at q ⊢
      exact f.slot j u q
  · by_cases hj : i = j
    · subst hj
      by_cases hk : i = k
      · exact hk
      · rw [List.getElem?_set_self hi] at q1
        rw [List.getElem?_set_ne hk] at q2
        rw [List.getElem?_set_self hσ] at h1
        rw [List.getElem?_set_ne hk] at h2
        cases q1
        have e1 : v = .ref a := by cases h1; rfl
        exact absurd h2 (own o1 k w a e1 (Ne.symm hk) q2 o2)
    · rw [List.getElem?_set_ne hj] at q1 h1
      by_cases hk : i = k
      · subst hk
        rw [List.getElem?_set_self hi] at q2
        rw [List.getElem?_set_self hσ] at h2
        cases q2
        have e1 : v = .ref a := by cases h2; rfl
        exact absurd h1 (own o2 j u a e1 (Ne.symm hj) q1 o1)
      · rw [List.getElem?_set_ne hk] at q2 h2
        exact f.sep j k u w a q1 q2 o1 o2 h1 h2
end
def setV (ρ : Env) (i : Nat) (s : Slot) : Option Env := match ρ[i]? with
  | some (.bor _) => none
  | some _ => some (ρ.set i s)
  | none => none
theorem setV_some {ρ ρ' : Env} {i : Nat} {s : Slot} (h : setV ρ i s = some ρ') : (∃ t, ρ[i]? = some t ∧ t.owns = false ∨ ∃ d, ρ[i]? = some (.own d)) ∧ ρ' = ρ.set i s := by
  unfold setV at h
  cases e : ρ[i]? with
  | none => simp [e] at h
  | some t =>
    cases t with
    | bor d => simp [e] at h
    | own d => simp [e] at h; exact ⟨⟨.non, .inr ⟨d, rfl⟩⟩, h.symm⟩
    | non => simp [e] at h; exact ⟨⟨.non, .inl ⟨rfl, rfl⟩⟩, h.symm⟩
    | val d => simp [e] at h; exact ⟨⟨.val d, .inl ⟨rfl, rfl⟩⟩, h.symm⟩
theorem setV_there {ρ ρ' : Env} {i : Nat} {s : Slot} (h : setV ρ i s = some ρ') : ∃ t, ρ[i]? = some t ∧ ρ' = ρ.set i s := by
  obtain ⟨⟨t, ⟨e, _⟩ | ⟨d, e⟩⟩, q⟩ := setV_some h
  · exact ⟨t, e, q⟩
  · exact ⟨_, e, q⟩
/-- what a name is given -/
def asgn (i : Nat) (r : RV) (ρ : Env) : Option Env := match r with
  | .val d => setV ρ i (.val d)
  | .new d => setV ρ i (.own d)
  | .loc j => match frz (.loc j) ρ with
    | some (d, ρ1) => setV ρ1 i (.val d)
    | none => none
def SR.of (o : Option Env) : SR := match o with
  | some ρ => .nx ρ
  | none => .no
def dSet (i : Nat) (g : Ev) : Sv := fun ρ => (g ρ).st fun r ρ1 => SR.of (asgn i r ρ1)
section
variable {K : PySem.W.Frag} {W : WX} {α : Nat → Addr} {ρ ρ' : Env} {σ : L2.St} {H F G H' F' : Hp} {D : Ends}
theorem Fits.asgn (f : Fits K α ρ σ H F G) {i : Nat} {r : RV} {v : V} (rr : RRep K F G H σ ρ r v) (h : asgn i r ρ = some ρ') : ∃ F', Grow G F F' ∧ Fits K α ρ' (σ.set i (some v)) H F' G := by
  cases r with
  | val d =>
    obtain ⟨t, e, rfl⟩ := setV_there h
    exact ⟨F, Grow.refl _ _, f.setSlot e ⟨v, rfl, rr⟩ fun o => by cases o⟩
  | new d =>
    obtain ⟨t, e, rfl⟩ := setV_there h
    obtain ⟨a, rfl, fa, ga, c, sp⟩ := rr
    exact ⟨F, Grow.refl _ _, f.setSlot e ⟨a, rfl, fa, ga, c⟩ fun _ j u b q _ q1 q2 => by cases q; exact sp j u q1 q2⟩
  | loc j =>
    unfold DL.asgn at h
    cases e1 : DL.frz (.loc j) ρ with
    | none => simp [e1] at h
    | some w =>
      obtain ⟨d, ρ1⟩ := w
      simp only [e1] at h
      obtain ⟨F1, g1, f1, r1⟩ := f.frz (r := .loc j) (v := v) rr e1
      obtain ⟨t, e, rfl⟩ := setV_there h
      exact ⟨F1, g1, f1.setSlot e ⟨v, rfl, r1⟩ fun o => by cases o⟩
theorem sc_of {o : Option Env} (h : SC K W α F G D (SR.of o)) : ∃ ρ, o = some ρ ∧ ∀ σ' H' F', Grow G F F' → Fits K α ρ σ' H' F' G → D.nx σ' H' := by
  cases o with
  | none => exact h.elim
  | some ρ => exact ⟨ρ, rfl, h⟩
end
section
variable {X : Cx} {W : WX} {e : Expr} {g gc : Ev} {g1 g2 : Sv} {pos : Pos} {st : Stmt} {rest : List Stmt}
theorem sd_nil : PSs X [] (tS X.K W fun ρ => .nx ρ) := pss_nil.weak fun D σ H ⟨α, ρ, F, G, f, h⟩ => h σ H F (Grow.refl _ _) f
def dSeq (g1 g2 : Sv) : Sv := fun ρ => (g1 ρ).bind g2
theorem sd_cons (h1 : PS X st (tS X.K W g1)) (h2 : PSs X rest (tS X.K W g2)) : PSs X (st :: rest) (tS X.K W (dSeq g1 g2)) := by
  refine (pss_cons h1 h2).weak fun D σ H ⟨α, ρ, F, G, f, h⟩ => ⟨α, ρ, F, G, f, ?_⟩
  unfold dSeq at h
  cases e1 : g1 ρ with
  | nx ρ1 =>
    rw [e1] at h
    exact fun σ' H1 F1 gr f1 => ⟨α, ρ1, F1, G, f1, SC.mono gr h⟩
  | rt r ρ1 => rw [e1] at h; exact h
  | bk ρ1 => rw [e1] at h; exact h
  | ct ρ1 => rw [e1] at h; exact h
  | ex x ρ1 => rw [e1] at h; exact h
  | no => rw [e1] at h; exact h
theorem sd_one (h1 : PS X st (tS X.K W g1)) : PSs X [st] (tS X.K W g1) := pss_one h1
theorem sd_pass : PS X (.Pass pos) (tS X.K W fun ρ => .nx ρ) := ps_pass.weak fun D σ H ⟨α, ρ, F, G, f, h⟩ => h σ H F (Grow.refl _ _) f
theorem sd_break : PS X (.Break pos) (tS X.K W fun ρ => .bk ρ) := ps_break.weak fun D σ H ⟨α, ρ, F, G, f, h⟩ => h σ H F (Grow.refl _ _) f
theorem sd_continue : PS X (.Continue pos) (tS X.K W fun ρ => .ct ρ) := ps_continue.weak fun D σ H ⟨α, ρ, F, G, f, h⟩ => h σ H F (Grow.refl _ _) f
theorem sd_set {i : Nat} {x : Str} {pos' : Pos} (hN : X.N.Nodup) (he : PE X e (tE X.K W g)) (hi : X.N[i]? = some x := by rfl) (hx : Loc X.env.scope x := by first | exact .inl rfl | exact .inr rfl) (hs : swapsWith e (some (.Name x pos')) pos.line X.env = pure false := by rfl)
    (hf : X.fn x = true ∨ X.env.scope.names.lookup x = some .local := by first | exact .inl rfl | exact .inr rfl | assumption) : PS X (.Assign [.Name x pos'] e pos) (tS X.K W (dSet i g)) := by
  refine (ps_set hN hi hx he hs hf).weak fun D σ H ⟨α, ρ, F, G, f, h⟩ => ⟨α, ρ, F, G, f, EC.st (fun r ρ1 v H1 F1 g1 f1 r1 h1 => ?_) h⟩
  obtain ⟨ρ2, e2, h2⟩ := sc_of h1
  obtain ⟨F2, g2, f2⟩ := f1.asgn r1 e2
  exact h2 _ H1 F2 g2 f2
/-- return -/
def dRet (g : Ev) : Sv := fun ρ => (g ρ).st fun r ρ1 => match r with
  | .loc i => match ρ1[i]? with
    | some (.own d) => .rt (.new d) (ρ1.set i .non)
    | some (.val d) => .rt (.val d) ρ1
    | _ => .no
  | r => .rt r ρ1
theorem sd_ret (he : PE X e (tE X.K W g)) : PS X (.Return (some e) pos) (tS X.K W (dRet g)) := by
  refine (ps_ret he).weak fun D σ H ⟨α, ρ, F, G, f, h⟩ => ⟨α, ρ, F, G, f, EC.st (fun r ρ1 v H1 F1 g1 f1 r1 h1 => ?_) h⟩
  cases r with
  | val d => exact h1 v σ H1 F1 (Grow.refl _ _) f1 r1
  | new d => exact h1 v σ H1 F1 (Grow.refl _ _) f1 r1
  | loc i =>
    have hv : σ[i]? = some (some v) := r1
    cases q : ρ1[i]? with
    | none => simp [q, SC] at h1
    | some s =>
      obtain ⟨x, hx, so⟩ := f1.slot i s q
      rw [hx] at hv
      cases hv
      cases s with
      | non => simp [q, SC] at h1
      | bor d => simp [q, SC] at h1
      | val d =>
        simp only [q] at h1
        obtain ⟨w, e', rw'⟩ := so
        cases e'
        exact h1 v σ H1 F1 (Grow.refl _ _) f1 rw'
      | own d =>
        simp only [q] at h1
        obtain ⟨a, e', fa, ga, c⟩ := so
        cases e'
        have hi : i < ρ1.length := (List.getElem?_eq_some_iff.mp q).1
        have go : ∀ {k : Nat} {s : Slot}, (ρ1.set i .non)[k]? = some s → s.owns = true → ρ1[k]? = some s ∧ k ≠ i := fun {k s} q' o => by
          by_cases hk : i = k
          · subst hk
            rw [List.getElem?_set_self hi] at q'
            cases q'
            cases o
          · rw [List.getElem?_set_ne hk] at q'
            exact ⟨q', Ne.symm hk⟩
        refine h1 _ σ H1 F1 (Grow.refl _ _) ⟨f1.fh, f1.gh, by rw [List.length_set]; exact f1.len, fun j s q' => ?_, fun j k s t b q1 q2 o1 o2 => f1.sep j k s t b (go q1 o1).1 (go q2 o2).1 o1 o2⟩ ⟨a, rfl, fa, ga, c, fun k s q' o z => ?_⟩
        · by_cases hj : i = j
          · subst hj
            rw [List.getElem?_set_self hi] at q'
            cases q'
            exact ⟨_, hx, trivial⟩
          · rw [List.getElem?_set_ne hj] at q'
            exact f1.slot j s q'
        · obtain ⟨q2, n⟩ := go q' o
          exact n (f1.sep k i s _ a q2 q o rfl z hx)
theorem sd_retN : PS X (.Return none pos) (tS X.K W fun ρ => .rt (.val .non) ρ) := ps_retN.weak fun D σ H ⟨α, ρ, F, G, f, h⟩ => h .non σ H F (Grow.refl _ _) f rfl
/-- an expression as a statement -/
def dExpr (g : Ev) : Sv := fun ρ => (g ρ).settle.st fun _ ρ1 => .nx ρ1
theorem sd_expr (he : PE X e (tE X.K W g)) (hs : swapsWith e none pos.line X.env = pure false := by rfl) : PS X (.Expr e pos) (tS X.K W (dExpr g)) :=
  (ps_expr he hs).weak fun D σ H ⟨α, ρ, F, G, f, h⟩ => ⟨α, ρ, F, G, f, EC.stS (fun r ρ1 v H1 F1 g1 f1 r1 h1 => (show SC X.K W α F1 G D (.nx ρ1) from h1) σ H1 F1 (Grow.refl _ _) f1) h⟩
def dIfS (gc : Ev) (g1 g2 : Sv) : Sv := fun ρ => (gc ρ).st fun r ρ1 => match r with
  | .val (.bl true) => g1 ρ1
  | .val (.bl false) => g2 ρ1
  | _ => .no
theorem sd_if {c : Expr} {a b : List Stmt} (hc : PT X c (tT X.K W gc)) (ha : PSs X a (tS X.K W g1)) (hb : PSs X b (tS X.K W g2)) : PS X (.If c a b pos) (tS X.K W (dIfS gc g1 g2)) := by
  refine (ps_if hc ha hb).weak fun D σ H ⟨α, ρ, F, G, f, h⟩ => ⟨α, ρ, F, G, f, BC.st (fun r ρ1 hr => ?_) (fun b ρ1 H1 F1 gr f1 h1 => ?_) h⟩
  · cases r with
    | val d =>
      cases d with
      | bl b => exact absurd rfl (hr b)
      | _ => rfl
    | _ => rfl
  · cases b with
    | true => exact iteT ⟨α, ρ1, F1, G, f1, h1⟩
    | false => exact iteF ⟨α, ρ1, F1, G, f1, h1⟩
end

/-! ### targets -/
def tG (K : PySem.W.Frag) (tch : List Nat) (ft : D → Env → Option Env) : TG := fun v σ H Q => ∃ (α : Nat → Addr) (ρ : Env) (F G : Hp) (d : D), Fits K α ρ σ H F G ∧ Rep K F d v ∧ ∃ ρ', ft d ρ = some ρ' ∧
  ∀ σ' H' F', Grow G F F' → Fits K α ρ' σ' H' F' G → Sub H H' → σ'.length = σ.length → (∀ j, j ∉ tch → σ'[j]? = σ[j]?) → Q σ' H'
def tGs (K : PySem.W.Frag) (tch : List Nat) (ft : List D → Env → Option Env) : TGs := fun vs σ H Q => ∃ (α : Nat → Addr) (ρ : Env) (F G : Hp) (ds : List D), Fits K α ρ σ H F G ∧ Reps K F ds vs ∧ ∃ ρ', ft ds ρ = some ρ' ∧
  ∀ σ' H' F', Grow G F F' → Fits K α ρ' σ' H' F' G → Sub H H' → σ'.length = σ.length → (∀ j, j ∉ tch → σ'[j]? = σ[j]?) → Q σ' H'
theorem _root_.L2.PG.weak {X : Cx} {e : Expr} {t t' : TG} (h : PG X e t) (w : ∀ v σ H Q, t' v σ H Q → t v σ H Q) : PG X e t' := ⟨fun pins s σ H v u Q I r q => h.run pins s σ H v u Q I r (w v σ H Q q)⟩
theorem _root_.L2.PGs.weak {X : Cx} {e : List Expr} {t t' : TGs} (h : PGs X e t) (w : ∀ v σ H Q, t' v σ H Q → t v σ H Q) : PGs X e t' := ⟨fun pins s σ H v u Q I r q => h.run pins s σ H v u Q I r (w v σ H Q q)⟩
def gtName (i : Nat) : D → Env → Option Env := fun d ρ => setV ρ i (.val d)
def gtNil : List D → Env → Option Env := fun ds ρ => if ds.isEmpty then some ρ else none
def gtCons (f : D → Env → Option Env) (fs : List D → Env → Option Env) : List D → Env → Option Env
  | d :: ds, ρ => match f d ρ with
    | some ρ1 => fs ds ρ1
    | none => none
  | [], _ => none
def gtTup (n : Nat) (fs : List D → Env → Option Env) : D → Env → Option Env
  | .tup ds, ρ => if ds.length = n then fs ds ρ else none
  | _, _ => none
section
variable {X : Cx} {pos : Pos}
theorem gd_name {i : Nat} {x : Str} (hN : X.N.Nodup) (hi : X.N[i]? = some x := by rfl) (hx : Loc X.env.scope x := by first | exact .inl rfl | exact .inr rfl) (hf : X.fn x = true ∨ X.env.scope.names.lookup x = some .local := by first | exact .inl rfl | exact .inr rfl | assumption) :
    PG X (.Name x pos) (tG X.K [i] (gtName i)) := by
  refine (pg_name hN hi hx hf).weak fun v σ H Q ⟨α, ρ, F, G, d, f, r, ρ', e, h⟩ => ?_
  obtain ⟨t, e1, rfl⟩ := setV_there e
  refine h _ H F (Grow.refl _ _) (f.setSlot e1 ⟨v, rfl, r⟩ fun o => by cases o) (Sub.refl _) (by rw [List.length_set]) fun j hj => ?_
  rw [List.getElem?_set_ne]
  exact fun z => hj (by simp [z])
theorem gd_nil : PGs X [] (tGs X.K [] gtNil) := by
  refine pgs_nil.weak fun vs σ H Q ⟨α, ρ, F, G, ds, f, r, ρ', e, h⟩ => ?_
  unfold gtNil at e
  cases ds with
  | cons d ds => simp at e
  | nil =>
    simp at e
    subst e
    cases r
    exact ⟨rfl, h σ H F (Grow.refl _ _) f (Sub.refl _) rfl fun _ _ => rfl⟩
theorem gd_cons {e : Expr} {es : List Expr} {t1 t2 : List Nat} {f1 : D → Env → Option Env} {f2 : List D → Env → Option Env} (h1 : PG X e (tG X.K t1 f1)) (h2 : PGs X es (tGs X.K t2 f2))
    (hs : (assignEach (e :: es) X.env).map (·.2) = assign e X.env :: (assignEach es X.env).map (·.2) := by rfl) : PGs X (e :: es) (tGs X.K (t1 ++ t2) (gtCons f1 f2)) := by
  refine (pgs_cons h1 h2 hs).weak fun vs σ H Q ⟨α, ρ, F, G, ds, f, r, ρ', e, h⟩ => ?_
  cases ds with
  | nil => cases e
  | cons d ds =>
    obtain ⟨v, t, rfl, rv, rt⟩ := r
    unfold gtCons at e
    cases e1 : f1 d ρ with
    | none => simp [e1] at e
    | some ρ1 =>
      simp only [e1] at e
      refine ⟨v, t, rfl, α, ρ, F, G, d, f, rv, ρ1, e1, fun σ1 H1 F1 g1 ft1 sb1 l1 k1 => ?_⟩
      refine ⟨α, ρ1, F1, G, ds, ft1, Reps.mono g1.sub _ _ rt, ρ', e, fun σ2 H2 F2 g2 ft2 sb2 l2 k2 => ?_⟩
      exact h σ2 H2 F2 (g1.trans g2) ft2 (sb1.trans sb2) (l2.trans l1) fun j hj => (k2 j fun z => hj (List.mem_append_right _ z)).trans (k1 j fun z => hj (List.mem_append_left _ z))
theorem gd_tup {es : List Expr} {k : Nat} {t : List Nat} {fs : List D → Env → Option Env} {n : Nat} (hc : X.calm = true) (h : PGs X es (tGs X.K t fs))
    (hn : (assignEach es X.env).length = n := by rfl) (hst : (assignEach es X.env).findIdx? (·.1) = none := by rfl) : PG X (.Tuple es k pos) (tG X.K t (gtTup n fs)) := by
  refine (pg_tup hc h hn hst).weak fun v σ H Q ⟨α, ρ, F, G, d, f, r, ρ', e, q⟩ => ?_
  cases d with
  | tup ds =>
    obtain ⟨a, vs, rfl, hq, rs⟩ := r
    replace e : (if ds.length = n then fs ds ρ else none) = some ρ' := e
    by_cases hl : ds.length = n
    · rw [if_pos hl] at e
      exact ⟨a, vs, rfl, f.fh.sqT hq, by rw [rs.length]; exact hl, α, ρ, F, G, ds, f, rs, ρ', e, q⟩
    · rw [if_neg hl] at e
      cases e
  | _ => cases e
end
/-- target = value -/
def dAsg (ft : D → Env → Option Env) (g : Ev) : Sv := fun ρ => (g ρ).settle.st fun r ρ1 => match frz r ρ1 with
  | some (d, ρ2) => SR.of (ft d ρ2)
  | none => .no
section
variable {X : Cx} {W : WX} {e tg : Expr} {g : Ev} {pos : Pos}
theorem sd_asg {tch : List Nat} {ft : D → Env → Option Env} (he : PE X e (tE X.K W g)) (hg : PG X tg (tG X.K tch ft)) (hs : swapsWithSole [tg] e pos.line X.env = pure false := by rfl) (hw : swappedStores [tg] e X.env = pure none := by rfl)
    (h1 : (assignEach [tg] X.env).map (·.2) = [assign tg X.env] := by rfl) : PS X (.Assign [tg] e pos) (tS X.K W (dAsg ft g)) := by
  refine (ps_asg he hg hs hw h1).weak fun D σ H ⟨α, ρ, F, G, f, h⟩ => ⟨α, ρ, F, G, f, EC.stS (fun r ρ1 v H1 F1 g1 f1 r1 h1 => ?_) h⟩
  cases e1 : frz r ρ1 with
  | none => simp [e1, SC] at h1
  | some w =>
    obtain ⟨d, ρ2⟩ := w
    simp only [e1] at h1
    obtain ⟨F2, g2, f2, r2⟩ := f1.frz r1 e1
    obtain ⟨ρ3, e3, h3⟩ := sc_of h1
    exact ⟨α, ρ2, F2, G, d, f2, r2, ρ3, e3, fun σ' H' F' gr ft' _ _ _ => h3 σ' H' F' (g2.trans gr) ft'⟩
/-- a, b = x, y with plain local names -/
def dPar (i j : Nat) (ga gb : Ev) : Sv := fun ρ => (ga ρ).settle.st fun r1 ρ1 => (gb ρ1).settle.st fun r2 ρ2 => match frz r1 ρ2 with
  | some (d, ρ3) => match frz r2 ρ3 with
    | some (e, ρ4) => match setV ρ4 i (.val d) with
      | some ρ5 => SR.of (setV ρ5 j (.val e))
      | none => .no
    | none => .no
  | none => .no
theorem sd_par {i j : Nat} {x y : Str} {a b : Expr} {px py pt : Pos} {kt k2 pt2} {ga gb : Ev} (hc : X.calm = true) (hN : X.N.Nodup) (ha : PE X a (tE X.K W ga)) (hb : PE X b (tE X.K W gb)) (hij : i ≠ j)
    (hi : X.N[i]? = some x := by rfl) (hj : X.N[j]? = some y := by rfl)
    (hx : X.env.scope.names.lookup x = some .local := by rfl) (hy : X.env.scope.names.lookup y = some .local := by rfl) (h1 : starEach [a, b] X.env = (false, eval a X.env) :: starEach [b] X.env := by rfl) (h2 : starEach [b] X.env = (false, eval b X.env) :: starEach [] X.env := by rfl)
    (hw : swappedStores [.Tuple [.Name x px, .Name y py] kt pt] (.Tuple [a, b] k2 pt2) X.env = pure (some [x, y]) := by rfl)
    (hs : swapsWithSole [.Tuple [.Name x px, .Name y py] kt pt] (.Tuple [a, b] k2 pt2) pos.line X.env = pure false := by rfl) :
    PS X (.Assign [.Tuple [.Name x px, .Name y py] kt pt] (.Tuple [a, b] k2 pt2) pos) (tS X.K W (dPar i j ga gb)) := by
  refine (ps_par hc hN hi hj hij hx hy (pa_cons ha (pa_cons hb pa_nil h2) h1) hw hs).weak fun D σ H ⟨α, ρ, F, G, f, h⟩ => ⟨α, ρ, F, G, f, EC.stS (fun r1 ρ1 v H1 F1 g1 f1 s1 h1 => ?_) h⟩
  refine ⟨α, ρ1, F1, G, f1, EC.stS (fun r2 ρ2 u H2 F2 g2 f2 s2 h2 => ?_) h1⟩
  cases e1 : frz r1 ρ2 with
  | none => simp [e1, SC] at h2
  | some w =>
    obtain ⟨d, ρ3⟩ := w
    simp only [e1] at h2
    obtain ⟨F3, g3, f3, r3⟩ := f2.frz (s1.mono g2.sub) e1
    cases e2 : frz r2 ρ3 with
    | none => simp [e2, SC] at h2
    | some w =>
      obtain ⟨d', ρ4⟩ := w
      simp only [e2] at h2
      obtain ⟨F4, g4, f4, r4⟩ := f3.frz (s2.mono g3.sub) e2
      cases e3 : setV ρ4 i (.val d) with
      | none => simp [e3, SC] at h2
      | some ρ5 =>
        simp only [e3] at h2
        obtain ⟨ρ6, e4, h4⟩ := sc_of h2
        obtain ⟨t, e5, rfl⟩ := setV_there e3
        have f5 := f4.setSlot (s := .val d) (v := v) e5 ⟨v, rfl, Rep.mono g4.sub _ _ r3⟩ fun o => by cases o
        obtain ⟨t', e6, rfl⟩ := setV_there e4
        have f6 := f5.setSlot (s := .val d') (v := u) e6 ⟨u, rfl, r4⟩ fun o => by cases o
        exact ⟨v, u, rfl, h4 _ H2 F4 (g3.trans g4) f6⟩
end

/-! ### what a loop walks -/
inductive IR where | ok (ds : List D) (ρ : Env) | ex (x : Exn) (ρ : Env) | no
abbrev Iv := Env → IR
/-- the iterator J gives the items ds as long as the data F and what H has stand -/
def JD (K : PySem.W.Frag) (F : Hp) (J : It) (ds : List D) : Prop := ∀ (H1 F1 : Hp), Sub F F1 → Sub F1 H1 →
  (∀ (i : Nat) (d : D), ds[i]? = some d → J.go i H1 ∧ ∀ x H2, J.yld i H1 x H2 → ∃ F2, Ext H1 F1 H2 F2 ∧ Rep K F2 d x) ∧ J.stop ds.length H1
def IC (K : PySem.W.Frag) (W : WX) (α : Nat → Addr) (σ : L2.St) (F G : Hp) (R : It → Hp → Prop) : IR → Prop
  | .ok ds ρ => ∀ J H' F', Grow G F F' → Fits K α ρ σ H' F' G → JD K F' J ds → R J H'
  | .ex x ρ => ∀ cls d H' F', Grow G F F' → Fits K α ρ σ H' F' G → RepX K F' H' x cls d → W cls d σ H'
  | .no => False
def tI (K : PySem.W.Frag) (W : WX) (g : Iv) : TI := fun σ H R => ∃ (α : Nat → Addr) (ρ : Env) (F G : Hp), Fits K α ρ σ H F G ∧ IC K W α σ F G R (g ρ)
theorem _root_.L2.PI.weak {X : Cx} {tg e : Expr} {t t' : TI} (h : PI X tg e t) (w : ∀ σ H R, t' σ H R → t σ H R) : PI X tg e t' := ⟨fun pins s σ H R I q => h.run pins s σ H R I (w σ H R q)⟩
/-- for -/
def forGo (ft : D → Env → Option Env) (gb : Sv) : List D → Env → SR
  | [], ρ => .nx ρ
  | d :: ds, ρ => match ft d ρ with
    | some ρ1 => match gb ρ1 with
      | .nx ρ2 => forGo ft gb ds ρ2
      | .ct ρ2 => forGo ft gb ds ρ2
      | .bk ρ2 => .nx ρ2
      | .rt r ρ2 => .rt r ρ2
      | .ex x ρ2 => .ex x ρ2
      | .no => .no
    | none => .no
def dFor (gi : Iv) (ft : D → Env → Option Env) (gb : Sv) : Sv := fun ρ => match gi ρ with
  | .ok ds ρ1 => forGo ft gb ds ρ1
  | .ex x ρ1 => .ex x ρ1
  | .no => .no
theorem drop_cons {α : Type} {l : List α} {i : Nat} (h : i < l.length) : ∃ x, l[i]? = some x ∧ l.drop i = x :: l.drop (i + 1) := ⟨l[i], List.getElem?_eq_getElem h, List.drop_eq_getElem_cons h⟩
section
variable {X : Cx} {W : WX} {tg iter : Expr} {body : List Stmt} {gi : Iv} {ft : D → Env → Option Env} {gb : Sv} {tch : List Nat} {pos : Pos}
theorem sd_for (hp : PassesOwn (model X.prog X.w) X.A X.env X.xe) (hc : X.calm = true) (hi : PI X tg iter (tI X.K W gi)) (hg : PG X tg (tG X.K tch ft)) (hb : PSs X body (tS X.K W gb))
    (hs : ∀ x, foldedSetIterable iter X.env x = pure x := by intro _; rfl) : PS X (.For tg iter body [] pos) (tS X.K W (dFor gi ft gb)) := by
  refine (ps_for hp hc hi hg hb hs).weak fun D σ H ⟨α, ρ, F, G, f, h⟩ => ⟨α, ρ, F, G, f, ?_⟩
  unfold dFor at h
  cases e1 : gi ρ with
  | no => simp [e1, SC] at h
  | ex x ρ1 => simp only [e1] at h; exact fun c d H1 F1 g1 f1 x1 => h c d σ H1 F1 g1 f1 x1
  | ok ds ρ1 =>
    simp only [e1] at h
    intro J H1 F1 g1 f1 jd
    refine ⟨fun i m σ H => m = ds.length - i ∧ i ≤ ds.length ∧ ∃ ρ F', Grow G F1 F' ∧ Fits X.K α ρ σ H F' G ∧ SC X.K W α F' G D (forGo ft gb (ds.drop i) ρ), ⟨ds.length, rfl, Nat.zero_le _, ρ1, F1, Grow.refl _ _, f1, by simpa using SC.mono g1 h⟩, ?_⟩
    rintro i m σ H ⟨rfl, hi, ρ, F2, g2, f2, h2⟩
    obtain ⟨j1, j2⟩ := jd H F2 g2.sub f2.fh
    by_cases hlt : i < ds.length
    · obtain ⟨d, hd, hdr⟩ := drop_cons hlt
      obtain ⟨go, yl⟩ := j1 i d hd
      rw [hdr] at h2
      refine .inr ⟨go, fun σ' H' => i + 1 ≤ ds.length ∧ ∃ ρ F', Grow G F1 F' ∧ Fits X.K α ρ σ' H' F' G ∧ SC X.K W α F' G D (forGo ft gb (ds.drop (i + 1)) ρ), fun σ' H' n => ⟨ds.length - (i + 1), by omega, rfl, n⟩, fun x H' y => ?_⟩
      obtain ⟨F3, ex, r3⟩ := yl x H' y
      have f3 := f2.ext ex
      have g3 := f2.grow ex
      unfold forGo at h2
      cases e2 : ft d ρ with
      | none => simp [e2, SC] at h2
      | some ρ2 =>
        simp only [e2] at h2
        refine ⟨α, ρ, F3, G, d, f3, r3, ρ2, e2, fun σ4 H4 F4 g4 f4 _ _ _ => ⟨α, ρ2, F4, G, f4, ?_⟩⟩
        have h4 := SC.mono (g3.trans g4) h2
        cases e3 : gb ρ2 with
        | no => simp [e3, SC] at h4
        | nx ρ5 =>
          simp only [e3] at h4
          exact fun σ5 H5 F5 g5 f5 => ⟨hlt, ρ5, F5, ((g2.trans g3).trans g4).trans g5, f5, SC.mono g5 h4⟩
        | ct ρ5 =>
          simp only [e3] at h4
          exact fun σ5 H5 F5 g5 f5 => ⟨hlt, ρ5, F5, ((g2.trans g3).trans g4).trans g5, f5, SC.mono g5 h4⟩
        | bk ρ5 =>
          simp only [e3] at h4
          exact fun σ5 H5 F5 g5 f5 => h4 σ5 H5 F5 g5 f5
        | rt r ρ5 =>
          simp only [e3] at h4
          exact h4
        | ex x ρ5 =>
          simp only [e3] at h4
          exact h4
    · have e : i = ds.length := by omega
      subst e
      rw [List.drop_length] at h2
      exact .inl ⟨j2, h2 σ H F2 (Grow.refl _ _) f2⟩
/-- while, n turns at the most -/
def whileGo (gc : Ev) (gb : Sv) : Nat → Env → SR
  | 0, _ => .no
  | n + 1, ρ => (gc ρ).st fun r ρ1 => match r with
    | .val (.bl true) => match gb ρ1 with
      | .nx ρ2 => whileGo gc gb n ρ2
      | .ct ρ2 => whileGo gc gb n ρ2
      | .bk ρ2 => .nx ρ2
      | .rt r ρ2 => .rt r ρ2
      | .ex x ρ2 => .ex x ρ2
      | .no => .no
    | .val (.bl false) => .nx ρ1
    | _ => .no
theorem sd_while {c : Expr} {gc : Ev} (n : Nat) (hp : PassesOwn (model X.prog X.w) X.A X.env X.xe) (hc : PT X c (tT X.K W gc)) (hb : PSs X body (tS X.K W gb)) : PS X (.While c body [] pos) (tS X.K W (whileGo gc gb n)) := by
  refine (ps_while hp hc hb).weak fun D σ H ⟨α, ρ, F, G, f, h⟩ => ?_
  refine ⟨fun m σ H => ∃ ρ F', Fits X.K α ρ σ H F' G ∧ SC X.K W α F' G D (whileGo gc gb m ρ), ⟨n, ρ, F, f, h⟩, fun m σ1 H1 ⟨ρ1, F1, f1, h1⟩ => ?_⟩
  cases m with
  | zero => exact h1.elim
  | succ m =>
    refine ⟨α, ρ1, F1, G, f1, BC.st (fun r ρ2 hr => ?_) (fun b ρ2 H2 F2 g2 f2 h2 => ?_) h1⟩
    · cases r with
      | val d =>
        cases d with
        | bl b => exact absurd rfl (hr b)
        | _ => rfl
      | _ => rfl
    · cases b with
      | false => exact iteF (h2 σ1 H2 F2 (Grow.refl _ _) f2)
      | true =>
        refine iteT ⟨fun σ' H' => ∃ ρ F', Fits X.K α ρ σ' H' F' G ∧ SC X.K W α F' G D (whileGo gc gb m ρ), fun σ' H' q => ⟨m, Nat.lt_succ_self _, q⟩, α, ρ2, F2, G, f2, ?_⟩
        cases e3 : gb ρ2 with
        | no => simp [e3, SC] at h2
        | nx ρ5 => simp only [e3] at h2; exact fun σ5 H5 F5 g5 f5 => ⟨ρ5, F5, f5, SC.mono g5 h2⟩
        | ct ρ5 => simp only [e3] at h2; exact fun σ5 H5 F5 g5 f5 => ⟨ρ5, F5, f5, SC.mono g5 h2⟩
        | bk ρ5 => simp only [e3] at h2; exact fun σ5 H5 F5 g5 f5 => h2 σ5 H5 F5 g5 f5
        | rt r ρ5 => simp only [e3] at h2; exact h2
        | ex x ρ5 => simp only [e3] at h2; exact h2
end

/-! ### a def -/
def outsOf : List Bool → List D → Env → Option (List D)
  | [], [], _ => some []
  | true :: ms, _ :: ds, .bor d :: ρ => match outsOf ms ds ρ with
    | some os => some (d :: os)
    | none => none
  | false :: ms, d :: ds, _ :: ρ => match outsOf ms ds ρ with
    | some os => some (d :: os)
    | none => none
  | _, _, _ => none
def dDef (n : Nat) (ms : List Bool) (g : Sv) : List D → DR := fun ds => if ds.length = ms.length then match g (argEnv ms ds ++ List.replicate (n - ms.length) .non) with
    | .nx ρ => match outsOf ms ds ρ with
      | some os => .ok (.val .non) os
      | none => .no
    | .rt r ρ => match r with
      | .loc _ => .no
      | r => match outsOf ms ds ρ with
        | some os => .ok r os
        | none => .no
    | .ex x ρ => match outsOf ms ds ρ with
      | some os => .ex x os
      | none => .no
    | _ => .no
  else .no
theorem dDef_loc (n : Nat) (ms : List Bool) (g : Sv) (ds : List D) (r : RV) (outs : List D) (h : dDef n ms g ds = .ok r outs) : ∀ i, r ≠ .loc i := by
  intro i e
  subst e
  unfold dDef at h
  split at h
  · split at h
    · split at h
      · cases h
      · cases h
    · split at h
      · cases h
      · split at h
        · rename_i hn _ _ _
          cases h
          exact hn i rfl
        · cases h
    · split at h <;> cases h
    · cases h
  · cases h
theorem outsOf_env : ∀ {ms : List Bool} {ds os : List D} {ρ : Env}, outsOf ms ds ρ = some os → os.length = ms.length ∧ ds.length = ms.length ∧
    ∀ {j : Nat} {s : Slot}, (argEnv ms os)[j]? = some s → (∃ d, s = .bor d ∧ ms[j]? = some true ∧ ρ[j]? = some (.bor d)) ∨ ∃ d, s = .val d ∧ (argEnv ms ds)[j]? = some (.val d)
  | [], [], os, ρ, h => by
    cases h
    exact ⟨rfl, rfl, fun {j s} q => by simp [argEnv] at q⟩
  | true :: ms, d :: ds, os, .bor d' :: ρ, h => by
    unfold outsOf at h
    cases e : outsOf ms ds ρ with
    | none => simp [e] at h
    | some os' =>
      simp [e] at h
      subst h
      obtain ⟨a, b, c⟩ := outsOf_env e
      refine ⟨by simp [a], by simp [b], fun {j s} q => ?_⟩
      cases j with
      | zero => simp [argEnv] at q; subst q; exact .inl ⟨d', rfl, rfl, rfl⟩
      | succ j => simpa [argEnv] using c (j := j) (s := s) (by simpa [argEnv] using q)
  | false :: ms, d :: ds, os, t :: ρ, h => by
    unfold outsOf at h
    cases e : outsOf ms ds ρ with
    | none => simp [e] at h
    | some os' =>
      simp [e] at h
      subst h
      obtain ⟨a, b, c⟩ := outsOf_env e
      refine ⟨by simp [a], by simp [b], fun {j s} q => ?_⟩
      cases j with
      | zero => simp [argEnv] at q; subst q; exact .inr ⟨d, rfl, rfl⟩
      | succ j => simpa [argEnv] using c (j := j) (s := s) (by simpa [argEnv] using q)
  | [], _ :: _, os, ρ, h => by simp [outsOf] at h
  | true :: ms, [], os, ρ, h => by simp [outsOf] at h
  | false :: ms, [], os, ρ, h => by simp [outsOf] at h
  | true :: ms, d :: ds, os, [], h => by simp [outsOf] at h
  | false :: ms, d :: ds, os, [], h => by simp [outsOf] at h
  | true :: ms, d :: ds, os, .non :: ρ, h => by simp [outsOf] at h
  | true :: ms, d :: ds, os, .val _ :: ρ, h => by simp [outsOf] at h
  | true :: ms, d :: ds, os, .own _ :: ρ, h => by simp [outsOf] at h
/-- the entry's state, with the def's other names -/
theorem Fits.start {K : PySem.W.Frag} {α : Nat → Addr} {ms : List Bool} {ds : List D} {vs : List V} {H F G : Hp} {N : List Str} (f : Fits K α (argEnv ms ds) (vs.map some) H F G) (hl : ds.length = ms.length) (hn : vs.length = ms.length) :
    Fits K α (argEnv ms ds ++ List.replicate (N.length - ms.length) .non) (L2.start N vs) H F G := by
  have l1 : (argEnv ms ds).length = ms.length := argEnv_length hl
  have hs : ∀ {j : Nat} {s : Slot}, (argEnv ms ds ++ List.replicate (N.length - ms.length) Slot.non)[j]? = some s → ((argEnv ms ds)[j]? = some s ∧ j < ms.length) ∨ (s = .non ∧ ms.length ≤ j ∧ j < ms.length + (N.length - ms.length)) := fun {j s} q => by
    by_cases hj : j < ms.length
    · rw [List.getElem?_append_left (by rw [l1]; exact hj)] at q
      exact .inl ⟨q, hj⟩
    · rw [List.getElem?_append_right (by rw [l1]; omega), List.getElem?_replicate] at q
      split at q
      · cases q
        rename_i hlt
        rw [l1] at hlt
        exact .inr ⟨rfl, by omega, by omega⟩
      · cases q
  refine ⟨f.fh, f.gh, ?_, fun j s q => ?_, fun j k s t a q1 q2 o1 o2 h1 h2 => ?_⟩
  · unfold L2.start
    rw [List.length_append, List.length_append, List.length_map, List.length_replicate, List.length_replicate, l1, hn]
  · unfold L2.start
    rcases hs q with ⟨q', hj⟩ | ⟨rfl, h1, h2⟩
    · obtain ⟨x, hx, so⟩ := f.slot j s q'
      exact ⟨x, by rw [List.getElem?_append_left (by rw [List.length_map, hn]; exact hj)]; exact hx, so⟩
    · refine ⟨none, ?_, trivial⟩
      rw [List.getElem?_append_right (by rw [List.length_map, hn]; exact h1), List.getElem?_replicate, if_pos (by rw [List.length_map]; omega)]
  · unfold L2.start at h1 h2
    rcases hs q1 with ⟨q1', hj⟩ | ⟨rfl, _, _⟩
    · rcases hs q2 with ⟨q2', hk⟩ | ⟨rfl, _, _⟩
      · rw [List.getElem?_append_left (by rw [List.length_map, hn]; exact hj)] at h1
        rw [List.getElem?_append_left (by rw [List.length_map, hn]; exact hk)] at h2
        exact f.sep j k s t a q1' q2' o1 o2 h1 h2
      · cases o2
    · cases o1
/-- the exit's state, of the parameters alone -/
theorem Fits.exit {K : PySem.W.Frag} {α : Nat → Addr} {ms : List Bool} {ds os : List D} {vs : List V} {H F G H' F' : Hp} {ρ : Env} {σ : L2.St} (f : Fits K α (argEnv ms ds) (vs.map some) H F G) (e : outsOf ms ds ρ = some os) (hn : vs.length = ms.length) (g : Grow G F F') (f' : Fits K α ρ σ H' F' G) :
    os.length = ms.length ∧ Fits K α (argEnv ms os) (vs.map some) H' F' G := by
  obtain ⟨a, b, c⟩ := outsOf_env e
  have lent : ∀ {j : Nat}, ms[j]? = some true → (vs.map some)[j]? = some (some (.ref (α j))) := fun {j} hm => by
    obtain ⟨d, _, q⟩ := argEnv_at b hm
    obtain ⟨x, hx, so⟩ := f.slot j _ q
    rw [hx, so.1]
  refine ⟨a, f'.fh, f'.gh, by rw [List.length_map, argEnv_length a, hn], fun j s q => ?_, fun j k s t z q1 q2 o1 o2 h1 h2 => ?_⟩
  · rcases c q with ⟨d, rfl, hm, hr⟩ | ⟨d, rfl, hr⟩
    · obtain ⟨x, hx, so⟩ := f'.slot j _ hr
      obtain ⟨_, fa, ga, cc⟩ := so
      exact ⟨_, lent hm, rfl, fa, ga, cc⟩
    · obtain ⟨x, hx, v, rfl, r⟩ := f.slot j _ hr
      exact ⟨_, hx, v, rfl, Rep.mono g.sub _ _ r⟩
  · rcases c q1 with ⟨d, rfl, hm, hr⟩ | ⟨d, rfl, hr⟩
    · rcases c q2 with ⟨d', rfl, hm', hr'⟩ | ⟨d', rfl, hr'⟩
      · obtain ⟨_, _, w1⟩ := argEnv_at b hm
        obtain ⟨_, _, w2⟩ := argEnv_at b hm'
        exact f.sep j k _ _ z w1 w2 rfl rfl h1 h2
      · cases o2
    · cases o1
section
variable {P : Program} {w : World} {K : PySem.W.Frag} {mg : Str → Option Value} {base : Heap}
/-- THE RULE of a def -/
theorem def_ok {x qual : Str} {st : Stmt} {f : Addr} {fd : FuncData} {N ps : List Str} {k : Nat} {ms : List Bool} {g : Sv} (F : Fun K x qual st f fd) (S : FnScope N ps (defScope st)) (hm : ms.length = ps.length)
    (hb : ∀ (cdv : Value) (A : Around) (outer : List PySem.Env) (s : Shared) (H : Hp) (E : XK), Room k (A.deeper (PyProof.Rows.envOfC qual (defScope st) s.heap.objs.size f cdv)) →
      PSs (cxOf (L2.CX P w) P w K mg base N qual (defScope st) f cdv A outer s H E) (defBody st) (tS K (fun cls d _ H' => E cls d H') g)) :
    FnOk P w K mg base (L2.CX P w) (k + 1) f fd ps (spD K ms (dDef N.length ms g)) := by
  refine F.okX S (fun vs H Q E h => (spD_len vs H Q E h).trans hm) (fun cdv A outer s H vs Q E hr h => ⟨_, hb cdv A outer s H E hr, ?_⟩)
  have hn := spD_len vs H Q E h
  obtain ⟨α, F0, G, ds, hl, ft, h⟩ := h
  refine ⟨α, _, F0, G, ft.start hl hn, ?_⟩
  unfold dDef at h
  rw [if_pos hl] at h
  cases e1 : g (argEnv ms ds ++ List.replicate (N.length - ms.length) .non) with
  | no => simp [e1, DC] at h
  | bk ρ => simp [e1, DC] at h
  | ct ρ => simp [e1, DC] at h
  | nx ρ =>
    simp only [e1] at h
    cases e2 : outsOf ms ds ρ with
    | none => simp [e2, DC] at h
    | some os =>
      simp only [e2] at h
      exact fun σ' H' F' g1 f1 => h .non H' F' g1 (ft.exit e2 hn g1 f1).1 (ft.exit e2 hn g1 f1).2 rfl
  | ex x ρ =>
    simp only [e1] at h
    cases e2 : outsOf ms ds ρ with
    | none => simp [e2, DC] at h
    | some os =>
      simp only [e2] at h
      exact fun c d σ' H' F' g1 f1 x1 => h c d H' F' g1 (ft.exit e2 hn g1 f1).1 (ft.exit e2 hn g1 f1).2 x1
  | rt r ρ =>
    simp only [e1] at h
    cases r with
    | loc i => simp [DC] at h
    | val d =>
      simp only at h
      cases e2 : outsOf ms ds ρ with
      | none => simp [e2, DC] at h
      | some os =>
        simp only [e2] at h
        exact fun v σ' H' F' g1 f1 r1 => h v H' F' g1 (ft.exit e2 hn g1 f1).1 (ft.exit e2 hn g1 f1).2 r1
    | new d =>
      simp only at h
      cases e2 : outsOf ms ds ρ with
      | none => simp [e2, DC] at h
      | some os =>
        simp only [e2] at h
        refine fun v σ' H' F' g1 f1 r1 => h v H' F' g1 (ft.exit e2 hn g1 f1).1 (ft.exit e2 hn g1 f1).2 ?_
        obtain ⟨a, rfl, fa, ga, c, sp⟩ := r1
        refine ⟨a, rfl, fa, ga, c, fun j s q o z => ?_⟩
        obtain ⟨l1, l2, k⟩ := outsOf_env e2
        rcases k q with ⟨d', rfl, hmm, hr'⟩ | ⟨d', rfl, _⟩
        · obtain ⟨_, _, q0⟩ := argEnv_at l2 hmm
          obtain ⟨x0, hx0, so0⟩ := ft.slot j _ q0
          obtain ⟨x1, hx1, so1⟩ := f1.slot j _ hr'
          have e3 : x0 = some (V.ref (α j)) := so0.1
          have e4 : x1 = some (V.ref (α j)) := so1.1
          rw [hx0, e3] at z
          cases z
          exact sp j _ hr' rfl (by rw [hx1, e4])
        · cases o
end
end DL

namespace DL
open PySem PySem.Spec L2

/-! ### a list comprehension -/
def wipeE (ρ : Env) : List Nat → Env
  | [] => ρ
  | v :: vs => (wipeE ρ vs).set v .non
def restE (ρ2 ρ1 : Env) : List Nat → Env
  | [] => ρ2
  | v :: vs => match ρ1[v]? with
    | some s => (restE ρ2 ρ1 vs).set v s
    | none => restE ρ2 ρ1 vs
/-- none of these slots owns -/
def idle (ρ : Env) : List Nat → Bool
  | [] => true
  | v :: vs => (match ρ[v]? with
    | some s => !s.owns
    | none => true) && idle ρ vs
def compGo (vs : List Nat) (ft : D → Env → Option Env) (gt ge : Ev) : List D → Env → Option (List D × Env)
  | [], ρ => some ([], ρ)
  | d :: ds, ρ => match ft d ρ with
    | some ρ1 => match gt ρ1 with
      | .ok (.val (.bl true)) ρ2 => match (ge ρ2).settle with
        | .ok r ρ3 => match frz r ρ3 with
          | some (y, ρ4) => match compGo vs ft gt ge ds (wipeE ρ4 vs) with
            | some (ys, ρ5) => some (y :: ys, ρ5)
            | none => none
          | none => none
        | _ => none
      | .ok (.val (.bl false)) ρ2 => compGo vs ft gt ge ds (wipeE ρ2 vs)
      | _ => none
    | none => none
def dLc (gi : Iv) (vs : List Nat) (ft : D → Env → Option Env) (gt ge : Ev) : Ev := fun ρ => match gi ρ with
  | .ok ds ρ1 => if idle ρ1 vs = true ∧ ds.length ≤ 1000000 then match compGo vs ft gt ge ds (wipeE ρ1 vs) with
      | some (ys, ρ2) => .ok (.new (.lst ys)) (restE ρ2 ρ1 vs)
      | none => .no
    else .no
  | .ex x ρ1 => .ex x ρ1
  | .no => .no
theorem wipeE_length (ρ : Env) : ∀ vs : List Nat, (wipeE ρ vs).length = ρ.length
  | [] => rfl
  | v :: vs => by unfold wipeE; rw [List.length_set, wipeE_length ρ vs]
theorem wipeE_get {ρ : Env} : ∀ {vs : List Nat} {j : Nat} {s : Slot}, (wipeE ρ vs)[j]? = some s → (j ∉ vs ∧ ρ[j]? = some s) ∨ (j ∈ vs ∧ s = .non)
  | [], j, s, h => .inl ⟨by simp, h⟩
  | v :: vs, j, s, h => by
    unfold wipeE at h
    by_cases e : v = j
    · subst e
      have hl : v < (wipeE ρ vs).length := by
        have := (List.getElem?_eq_some_iff.mp h).1
        rwa [List.length_set] at this
      rw [List.getElem?_set_self hl] at h
      cases h
      exact .inr ⟨List.mem_cons_self, rfl⟩
    · rw [List.getElem?_set_ne e] at h
      rcases wipeE_get h with ⟨a, b⟩ | ⟨a, b⟩
      · exact .inl ⟨by simp only [List.mem_cons, not_or]; exact ⟨fun z => e z.symm, a⟩, b⟩
      · exact .inr ⟨List.mem_cons_of_mem _ a, b⟩
theorem wipe_get {σ : L2.St} : ∀ {vs : List Nat} {j : Nat}, (j ∉ vs → (wipe σ vs)[j]? = σ[j]?) ∧ (j < σ.length → ∃ x, (wipe σ vs)[j]? = some x)
  | [], j => ⟨fun _ => rfl, fun h => ⟨_, List.getElem?_eq_getElem h⟩⟩
  | v :: vs, j => by
    obtain ⟨a, b⟩ := wipe_get (σ := σ) (vs := vs) (j := j)
    unfold wipe
    refine ⟨fun n => ?_, fun h => ?_⟩
    · simp only [List.mem_cons, not_or] at n
      rw [List.getElem?_set_ne (Ne.symm n.1)]
      exact a n.2
    · have : j < ((wipe σ vs).set v none).length := by rw [List.length_set, wipe_length]; exact h
      exact ⟨_, List.getElem?_eq_getElem this⟩
theorem restE_length (ρ2 ρ1 : Env) : ∀ vs : List Nat, (restE ρ2 ρ1 vs).length = ρ2.length
  | [] => rfl
  | v :: vs => by
    unfold restE
    split
    · rw [List.length_set, restE_length ρ2 ρ1 vs]
    · exact restE_length ρ2 ρ1 vs
theorem restE_get {ρ2 ρ1 : Env} : ∀ {vs : List Nat} {j : Nat} {s : Slot}, ρ1.length = ρ2.length → (restE ρ2 ρ1 vs)[j]? = some s → (j ∉ vs ∧ ρ2[j]? = some s) ∨ (j ∈ vs ∧ ρ1[j]? = some s)
  | [], j, s, _, h => .inl ⟨by simp, h⟩
  | v :: vs, j, s, hl, h => by
    unfold restE at h
    by_cases e : v = j
    · subst e
      cases q : ρ1[v]? with
      | some t =>
        simp only [q] at h
        have hv : v < (restE ρ2 ρ1 vs).length := by rw [restE_length, ← hl]; exact (List.getElem?_eq_some_iff.mp q).1
        rw [List.getElem?_set_self hv] at h
        cases h
        exact .inr ⟨List.mem_cons_self, rfl⟩
      | none =>
        simp only [q] at h
        have h1 := (List.getElem?_eq_some_iff.mp h).1
        rw [restE_length, ← hl] at h1
        have h2 := List.getElem?_eq_none_iff.mp q
        omega
    · have h' : (restE ρ2 ρ1 vs)[j]? = some s := by
        cases q : ρ1[v]? with
        | some t =>
          simp only [q] at h
          rwa [List.getElem?_set_ne e] at h
        | none =>
          simp only [q] at h
          exact h
      rcases restE_get hl h' with ⟨a, b⟩ | ⟨a, b⟩
      · exact .inl ⟨by simp only [List.mem_cons, not_or]; exact ⟨fun z => e z.symm, a⟩, b⟩
      · exact .inr ⟨List.mem_cons_of_mem _ a, b⟩
theorem idle_get {ρ : Env} : ∀ {vs : List Nat} {j : Nat} {s : Slot}, idle ρ vs = true → j ∈ vs → ρ[j]? = some s → s.owns = false
  | [], j, s, _, h, _ => by simp at h
  | v :: vs, j, s, h, hj, e => by
    unfold idle at h
    rw [Bool.and_eq_true] at h
    rcases List.mem_cons.mp hj with rfl | hj
    · rw [e] at h
      simpa using h.1
    · exact idle_get h.2 hj e
section
variable {K : PySem.W.Frag} {W : WX} {α : Nat → Addr} {ρ ρ' ρ1 ρ2 : Env} {σ : L2.St} {H F G H' F' H1 F1 : Hp}
theorem Fits.wiped (f : Fits K α ρ σ H F G) (vs : List Nat) : Fits K α (wipeE ρ vs) (wipe σ vs) H F G := by
  refine ⟨f.fh, f.gh, by rw [wipe_length, wipeE_length]; exact f.len, fun j s q => ?_, fun j k s t a q1 q2 o1 o2 h1 h2 => ?_⟩
  · rcases wipeE_get q with ⟨n, e⟩ | ⟨m, rfl⟩
    · obtain ⟨x, hx, so⟩ := f.slot j s e
      exact ⟨x, by rw [(wipe_get (σ := σ)).1 n]; exact hx, so⟩
    · have hj : j < σ.length := by
        have := (List.getElem?_eq_some_iff.mp q).1
        rw [wipeE_length] at this
        rw [f.len]; exact this
      obtain ⟨x, hx⟩ := (wipe_get (σ := σ) (vs := vs)).2 hj
      exact ⟨x, hx, trivial⟩
  · rcases wipeE_get q1 with ⟨n1, e1⟩ | ⟨_, rfl⟩
    · rcases wipeE_get q2 with ⟨n2, e2⟩ | ⟨_, rfl⟩
      · rw [(wipe_get (σ := σ)).1 n1] at h1
        rw [(wipe_get (σ := σ)).1 n2] at h2
        exact f.sep j k s t a e1 e2 o1 o2 h1 h2
      · cases o2
    · cases o1
theorem Fits.restored {vs : List Nat} (f1 : Fits K α ρ1 σ H1 F1 G) (hid : idle ρ1 vs = true) (f2 : Fits K α ρ2 (wipe σ vs) H' F' G) (s : Sub F1 F') : Fits K α (restE ρ2 ρ1 vs) σ H' F' G := by
  have hl : ρ1.length = ρ2.length := by
    have a := f1.len
    have b := f2.len
    rw [wipe_length] at b
    omega
  refine ⟨f2.fh, f2.gh, by rw [restE_length, ← hl]; exact f1.len, fun j t q => ?_, fun j k t u a q1 q2 o1 o2 h1 h2 => ?_⟩
  · rcases restE_get hl q with ⟨n, e⟩ | ⟨m, e⟩
    · obtain ⟨x, hx, so⟩ := f2.slot j t e
      rw [(wipe_get (σ := σ)).1 n] at hx
      exact ⟨x, hx, so⟩
    · obtain ⟨x, hx, so⟩ := f1.slot j t e
      have no := idle_get hid m e
      refine ⟨x, hx, ?_⟩
      cases t with
      | non => trivial
      | val d => obtain ⟨v, z, r⟩ := so; exact ⟨v, z, Rep.mono s _ _ r⟩
      | own d => cases no
      | bor d => cases no
  · have go : ∀ {j : Nat} {t : Slot}, (restE ρ2 ρ1 vs)[j]? = some t → t.owns = true → j ∉ vs ∧ ρ2[j]? = some t := fun {j t} q o => by
      rcases restE_get hl q with z | ⟨m, e⟩
      · exact z
      · rw [idle_get hid m e] at o; cases o
    obtain ⟨n1, e1⟩ := go q1 o1
    obtain ⟨n2, e2⟩ := go q2 o2
    exact f2.sep j k t u a e1 e2 o1 o2 (by rw [(wipe_get (σ := σ)).1 n1]; exact h1) (by rw [(wipe_get (σ := σ)).1 n2]; exact h2)
/-- an object apart is held still -/
theorem Fits.hold (f : Fits K α ρ σ H F G) {P : Addr} {o : HO} (hp : H P = some o) (ha : ∀ (j : Nat) (s : Slot), ρ[j]? = some s → s.owns = true → σ[j]? ≠ some (some (.ref P))) : Fits K α ρ σ H F (upd G P o) := by
  refine ⟨f.fh, fun b u q => ?_, f.len, fun j s q => ?_, f.sep⟩
  · by_cases e : b = P
    · subst e; rw [upd_same] at q; cases q; exact hp
    · rw [upd_ne e] at q; exact f.gh _ _ q
  · obtain ⟨x, hx, so⟩ := f.slot j s q
    refine ⟨x, hx, ?_⟩
    cases s with
    | non => trivial
    | val d => exact so
    | own d =>
      obtain ⟨a, e, fa, ga, c⟩ := so
      have n : a ≠ P := fun z => ha j _ q rfl (by rw [hx, e, z])
      exact ⟨a, e, fa, by rw [upd_ne n]; exact ga, c⟩
    | bor d =>
      obtain ⟨e, fa, ga, c⟩ := so
      have n : α j ≠ P := fun z => ha j _ q rfl (by rw [hx, e, z])
      exact ⟨e, fa, by rw [upd_ne n]; exact ga, c⟩
/-- .. is changed -/
theorem Fits.turn (f : Fits K α ρ σ H F (upd G P o)) {P : Addr} {o o' : HO} (hF : F P = none) (hG : G P = none) (f : Fits K α ρ σ H F (upd G P o)) : Fits K α ρ σ (upd H P o') F (upd G P o') := by
  have gh' : Sub G H := fun b u q => f.gh b u (by rw [upd_ne (ne_of_none q hG)]; exact q)
  refine ⟨fun b u q => by rw [upd_ne (ne_of_none q hF)]; exact f.fh _ _ q, fun b u q => ?_, f.len, fun j s q => ?_, f.sep⟩
  · by_cases e : b = P
    · subst e; rw [upd_same] at q ⊢; exact q
    · rw [upd_ne e] at q ⊢; exact gh' _ _ q
  · obtain ⟨x, hx, so⟩ := f.slot j s q
    refine ⟨x, hx, ?_⟩
    cases s with
    | non => trivial
    | val d => exact so
    | own d =>
      obtain ⟨a, e, fa, ga, c⟩ := so
      have n : a ≠ P := fun z => by rw [z, upd_same] at ga; cases ga
      rw [upd_ne n] at ga
      exact ⟨a, e, fa, by rw [upd_ne n]; exact ga, c.mono (Sub.refl _) fun u hu => by rw [upd_ne n]; exact hu⟩
    | bor d =>
      obtain ⟨e, fa, ga, c⟩ := so
      have n : α j ≠ P := fun z => by rw [z, upd_same] at ga; cases ga
      rw [upd_ne n] at ga
      exact ⟨e, fa, by rw [upd_ne n]; exact ga, c.mono (Sub.refl _) fun u hu => by rw [upd_ne n]; exact hu⟩
/-- .. is let go -/
theorem Fits.loose {P : Addr} {o : HO} (hG : G P = none) (f : Fits K α ρ σ H F (upd G P o)) : Fits K α ρ σ H F G ∧ ∀ (j : Nat) (s : Slot), ρ[j]? = some s → s.owns = true → σ[j]? ≠ some (some (.ref P)) := by
  have sl : ∀ (j : Nat) (s : Slot), ρ[j]? = some s → ∃ x, σ[j]? = some x ∧ SlotOk K F G H x (α j) s ∧ (s.owns = true → x ≠ some (.ref P)) := fun j s q => by
    obtain ⟨x, hx, so⟩ := f.slot j s q
    refine ⟨x, hx, ?_⟩
    cases s with
    | non => exact ⟨trivial, fun o => by cases o⟩
    | val d => exact ⟨so, fun o => by cases o⟩
    | own d =>
      obtain ⟨a, e, fa, ga, c⟩ := so
      have n : a ≠ P := fun z => by rw [z, upd_same] at ga; cases ga
      rw [upd_ne n] at ga
      exact ⟨⟨a, e, fa, ga, c⟩, fun _ z => n (by rw [e] at z; cases z; rfl)⟩
    | bor d =>
      obtain ⟨e, fa, ga, c⟩ := so
      have n : α j ≠ P := fun z => by rw [z, upd_same] at ga; cases ga
      rw [upd_ne n] at ga
      exact ⟨⟨e, fa, ga, c⟩, fun _ z => n (by rw [e] at z; cases z; rfl)⟩
  exact ⟨⟨f.fh, fun b u q => f.gh b u (by rw [upd_ne (ne_of_none q hG)]; exact q), f.len, fun j s q => let ⟨x, hx, so, _⟩ := sl j s q; ⟨x, hx, so⟩, f.sep⟩, fun j s q o z => by
    obtain ⟨x, hx, _, n⟩ := sl j s q
    rw [hx] at z
    cases z
    exact n o rfl⟩
theorem Grow.loose {P : Addr} {o : HO} (g : Grow (upd G P o) F F') : Grow G F F' := ⟨g.sub, fun a u q => by
  rcases g.new a u q with z | ⟨z, w⟩
  · exact .inl z
  · refine .inr ⟨z, ?_⟩
    by_cases e : a = P
    · subst e; rw [upd_same] at w; cases w
    · rwa [upd_ne e] at w⟩
theorem Grow.apart {P : Addr} {o : HO} (g : Grow (upd G P o) F F') (h : F P = none) : F' P = none := by
  cases q : F' P with
  | none => rfl
  | some u =>
    rcases g.new P u q with z | ⟨_, w⟩
    · rw [h] at z; cases z
    · rw [upd_same] at w; cases w
end
abbrev W0 : WX := fun _ _ _ _ => False
section
variable {X : Cx} {W : WX} {elt tg iter : Expr} {ifs : List Expr} {scope : Scope} {own : List (Str × Nat)} {gi : Iv} {ft : D → Env → Option Env} {gt ge : Ev} {tch : List Nat} {pos : Pos}
theorem wipe_same {σ σ2 : L2.St} {vs tch : List Nat} (hl : σ2.length = (wipe σ vs).length) (h : ∀ j, j ∉ tch → σ2[j]? = (wipe σ vs)[j]?) (ht : ∀ j ∈ tch, j ∈ vs) : wipe σ2 vs = wipe σ vs := by
  have wn : ∀ {σ : L2.St} {vs : List Nat} {j : Nat}, j ∈ vs → j < σ.length → (wipe σ vs)[j]? = some none := by
    intro σ vs
    induction vs with
    | nil => intro j hj; simp at hj
    | cons v vs ih =>
      intro j hj hlt
      unfold wipe
      by_cases e : v = j
      · subst e
        rw [List.getElem?_set_self (by rw [wipe_length]; exact hlt)]
      · rw [List.getElem?_set_ne e]
        rcases List.mem_cons.mp hj with z | z
        · exact absurd z.symm e
        · exact ih z hlt
  have hl2 : σ2.length = σ.length := by rw [hl, wipe_length]
  apply List.ext_getElem?
  intro j
  by_cases hj : j ∈ vs
  · by_cases hlt : j < σ.length
    · rw [wn hj (by rw [hl2]; exact hlt), wn hj hlt]
    · rw [List.getElem?_eq_none (by rw [wipe_length, hl2]; omega), List.getElem?_eq_none (by rw [wipe_length]; omega)]
  · rw [(wipe_get (σ := σ2)).1 hj, h j fun z => hj (ht j z)]
theorem ec_lc_at {K : PySem.W.Frag} {vs : List Nat} {ti : TI} (ht : ∀ j ∈ tch, j ∈ vs) {α : Nat → Addr} {ρ : Env} {F G : Hp} {σ : L2.St} {H : Hp} {Q : VK} (f : Fits K α ρ σ H F G) (hti : ∀ R, IC K W α σ F G R (gi ρ) → ti σ H R) (h : EC K W α σ F G Q (dLc gi vs ft gt ge ρ)) :
    tLc ti (tG K tch ft) (tT K W0 gt) (tE K W0 ge) vs σ H Q := by
  refine hti _ ?_
  unfold dLc at h
  cases e1 : gi ρ with
  | no => simp [e1, EC] at h
  | ex x ρ1 => simp only [e1] at h; exact h
  | ok ds ρ1 =>
    simp only [e1] at h
    by_cases hc : idle ρ1 vs = true ∧ ds.length ≤ 1000000
    · rw [if_pos hc] at h
      obtain ⟨hid, hsz⟩ := hc
      cases e2 : compGo vs ft gt ge ds (wipeE ρ1 vs) with
      | none => simp [e2, EC] at h
      | some w =>
        obtain ⟨ys, ρe⟩ := w
        simp only [e2] at h
        intro J H1 F1 g1 f1 jd P hP
        have fP : F1 P = none := f1.fh.free hP
        have gP : G P = none := f1.gh.free hP
        have ap : ∀ (j : Nat) (s : Slot), ρ1[j]? = some s → s.owns = true → σ[j]? ≠ some (some (.ref P)) := fun j s q o z => by
          have so : ∃ d, ρ1[j]? = some (.own d) ∨ ρ1[j]? = some (.bor d) := by
            cases s with
            | non => cases o
            | val d => cases o
            | own d => exact ⟨d, .inl q⟩
            | bor d => exact ⟨d, .inr q⟩
          obtain ⟨d, so⟩ := so
          obtain ⟨u, hu⟩ := (f1.owner so z).2.2.there
          rw [hP] at hu
          cases hu
        have fx := f1.ext (Ext.allocO (o := .lst []) f1.fh hP)
        have fh := (fx.hold upd_same ap).wiped vs
        refine ⟨fun i m H => m = ds.length - i ∧ i ≤ ds.length ∧ ∃ ρ F acc accv rest, Fits K α ρ (wipe σ vs) H F (upd G P (.lst accv)) ∧ F P = none ∧ Grow G F1 F ∧ Reps K F acc accv ∧ acc.length ≤ i ∧ compGo vs ft gt ge (ds.drop i) ρ = some (rest, ρe) ∧ acc ++ rest = ys,
          ⟨ds.length, rfl, Nat.zero_le _, wipeE ρ1 vs, F1, [], [], ys, fh, fP, Grow.refl _ _, rfl, Nat.le_refl _, by simpa using e2, rfl⟩, ?_⟩
        rintro i m H2 ⟨rfl, hi, ρ, F2, acc, accv, rest, f2, n2, g2, ra, la, eg, ey⟩
        have gsub : Sub G H2 := fun b u q => f2.gh b u (by rw [upd_ne (ne_of_none q gP)]; exact q)
        obtain ⟨j1, j2⟩ := jd H2 F2 g2.sub f2.fh
        by_cases hlt : i < ds.length
        · obtain ⟨d, hd, hdr⟩ := drop_cons hlt
          obtain ⟨go, yl⟩ := j1 i d hd
          rw [hdr] at eg
          refine .inr ⟨go, fun H' => i + 1 ≤ ds.length ∧ ∃ ρ F acc accv rest, Fits K α ρ (wipe σ vs) H' F (upd G P (.lst accv)) ∧ F P = none ∧ Grow G F1 F ∧ Reps K F acc accv ∧ acc.length ≤ i + 1 ∧ compGo vs ft gt ge (ds.drop (i + 1)) ρ = some (rest, ρe) ∧ acc ++ rest = ys,
            fun H' ⟨a, b⟩ => ⟨ds.length - (i + 1), by omega, rfl, a, b⟩, fun x H' y => ?_⟩
          obtain ⟨F3, ex, r3⟩ := yl x H' y
          have f3 := f2.ext ex
          have g3 := f2.grow ex
          unfold compGo at eg
          cases e3 : ft d ρ with
          | none => simp [e3] at eg
          | some ρ2 =>
            simp only [e3] at eg
            refine ⟨α, ρ, F3, _, d, f3, r3, ρ2, e3, fun σ4 H4 F4 g4 f4 sb4 l4 k4 => ?_⟩
            have ws : wipe σ4 vs = wipe σ vs := wipe_same l4 k4 ht
            refine ⟨ws, α, ρ2, F4, _, f4, ?_⟩
            have bad : ∀ {q : ER}, gt ρ2 = q → (∀ b ρ', q ≠ .ok (.val (.bl b)) ρ') → False := fun {q} e n => by
              subst e
              cases e4 : gt ρ2 with
              | no => simp [e4] at eg
              | ex x ρ' => simp [e4] at eg
              | ok r ρ' =>
                cases r with
                | loc i => simp [e4] at eg
                | new d => simp [e4] at eg
                | val d =>
                  cases d with
                  | bl b => exact n b ρ' e4
                  | _ => simp [e4] at eg
            cases e4 : gt ρ2 with
            | no => exact (bad e4 fun b ρ' z => by cases z).elim
            | ex x ρ' => exact (bad e4 fun b ρ' z => by cases z).elim
            | ok r ρ3 =>
              cases r with
              | loc i => exact (bad e4 fun b ρ' z => by cases z).elim
              | new d => exact (bad e4 fun b ρ' z => by cases z).elim
              | val dd =>
                by_cases hb : ∃ b, dd = .bl b
                · obtain ⟨b, rfl⟩ := hb
                  intro H5 F5 g5 f5
                  cases b with
                  | false =>
                    simp only [e4] at eg
                    refine iteF ⟨hlt, wipeE ρ3 vs, F5, acc, accv, rest, by rw [← ws]; exact f5.wiped vs, g5.apart (g4.apart (g3.apart n2)), ((g2.trans g3.loose).trans g4.loose).trans g5.loose, Reps.mono ((g3.sub.trans g4.sub).trans g5.sub) _ _ ra, by omega, eg, ey⟩
                  | true =>
                    simp only [e4] at eg
                    refine iteT ⟨α, ρ3, F5, _, f5, EC.settle ?_⟩
                    cases e5 : (ge ρ3).settle with
                    | no => simp [e5] at eg
                    | ex x ρ' => simp [e5] at eg
                    | ok r4 ρ4 =>
                      simp only [e5] at eg
                      intro v H6 F6 g6 f6 r6
                      have rs : r4.settle = r4 := by
                        cases q : ge ρ3 with
                        | no => rw [q] at e5; cases e5
                        | ex x ρ => rw [q] at e5; cases e5
                        | ok r0 ρ0 =>
                          rw [q] at e5
                          have e6 : r0.settle = r4 := by cases e5; rfl
                          rw [← e6]
                          cases r0 <;> rfl
                      have s6 : SRep K F6 σ4 r4 v := by
                        rw [← rs] at r6 ⊢
                        exact settle_srep r6
                      cases e6 : frz r4 ρ4 with
                      | none => simp [e6] at eg
                      | some w =>
                        obtain ⟨yd, ρ5⟩ := w
                        simp only [e6] at eg
                        obtain ⟨F7, g7, f7, r7⟩ := f6.frz s6 e6
                        cases e7 : compGo vs ft gt ge (ds.drop (i + 1)) (wipeE ρ5 vs) with
                        | none => simp [e7] at eg
                        | some w =>
                          obtain ⟨zs, ρ6⟩ := w
                          simp [e7] at eg
                          obtain ⟨rfl, rfl⟩ := eg
                          have ac : F7 P = none := g7.apart (g6.apart (g5.apart (g4.apart (g3.apart n2))))
                          have hPv : H6 P = some (.lst accv) := f7.gh P _ upd_same
                          have ra7 := Reps.mono ((((g3.sub.trans g4.sub).trans g5.sub).trans g6.sub).trans g7.sub) _ _ ra
                          have lv := ra.length
                          refine ⟨accv, hPv, ?_, hlt, wipeE ρ5 vs, F7, acc ++ [yd], accv ++ [v], zs, ?_, ac, ((((g2.trans g3.loose).trans g4.loose).trans g5.loose).trans g6.loose).trans g7.loose, ra7.snoc r7, by simp; omega, e7, by simpa using ey⟩
                          · have : sizeLine = 16777216 := sizeLine_eq
                            omega
                          · rw [← ws]
                            exact ((f7.turn ac gP f7).wiped vs)
                · exact (bad e4 fun b ρ' z => hb ⟨b, by cases z; rfl⟩).elim
        · have e : i = ds.length := by omega
          subst e
          rw [List.drop_length] at eg
          unfold compGo at eg
          cases eg
          refine .inl ⟨j2, ?_⟩
          obtain ⟨f5, ap5⟩ := f2.loose gP
          have f6 := f1.restored hid f5 g2.sub
          refine h _ H2 F2 (g1.trans g2) f6 ⟨P, rfl, n2, gP, ?_, fun j s q o z => ?_⟩
          · have e6 : acc = ys := by simpa using ey
            rw [← e6]
            exact ⟨accv, f2.gh P _ upd_same, ra⟩
          · have hl : ρ1.length = ρe.length := by
              have a := f1.len
              have b := f5.len
              rw [wipe_length] at b
              omega
            rcases restE_get hl q with ⟨n, e⟩ | ⟨m, e⟩
            · exact ap5 j s e o (by rw [(wipe_get (σ := σ)).1 n]; exact z)
            · rw [idle_get hid m e] at o
              cases o
    · rw [if_neg hc] at h
      exact h.elim
theorem ec_lc {K : PySem.W.Frag} {vs : List Nat} (ht : ∀ j ∈ tch, j ∈ vs) {σ : L2.St} {H : Hp} {Q : VK} (h : tE K W (dLc gi vs ft gt ge) σ H Q) :
    tLc (tI K W gi) (tG K tch ft) (tT K W0 gt) (tE K W0 ge) vs σ H Q := by
  obtain ⟨α, ρ, F, G, f, h⟩ := h
  exact ec_lc_at ht f (fun R q => ⟨α, ρ, F, G, f, q⟩) h
theorem ed_lc (hc : X.calm = true) (hN : X.N.Nodup) (ok : BlkOk X.N X.env.scope scope own) (ht : ∀ j ∈ tch, j ∈ own.map (·.2)) (hi : PI X tg iter (tI X.K W gi))
    (hg : ∀ (s : Shared) (H : Hp) (C : Addr) (cl : List (Str × Addr)) (fp : List Addr), PG (X.blk s H scope (compEnvC scope cl C X.env) fp) tg (tG X.K tch ft)) (hif : ∀ (s : Shared) (H : Hp) (C : Addr) (cl : List (Str × Addr)) (fp : List Addr), PTs (X.blk s H scope (compEnvC scope cl C X.env) fp) ifs (tT X.K W0 gt))
    (he : ∀ (s : Shared) (H : Hp) (C : Addr) (cl : List (Str × Addr)) (fp : List Addr), PE (X.blk s H scope (compEnvC scope cl C X.env) fp) elt (tE X.K W0 ge)) (hs : ∀ x, foldedSetIterable iter X.env x = pure x := by intro _; rfl) :
    PE X (.ListComp elt [⟨tg, iter, ifs, 0⟩] scope pos) (tE X.K W (dLc gi (own.map (·.2)) ft gt ge)) :=
  (pe_lc hc hN hi ok hg hif he hs).weak fun σ H Q h => ec_lc ht h
/-- no test -/
def dYes : Ev := fun ρ => .ok (.val (.bl true)) ρ
theorem id_yes : PTs X [] (tT X.K W dYes) := ⟨fun pins s σ H Q I h => pts_nil.run pins s σ H Q I (let ⟨α, ρ, F, G, f, h⟩ := h; h H F (Grow.refl _ _) f)⟩
theorem id_test {c : Expr} (h : PT X c (tT X.K W gt)) : PTs X [c] (tT X.K W gt) := pts_one h
/-- name = [..] -/
def dSetLc (i : Nat) (g : Ev) : Sv := dSet i g
theorem sd_setLc {i : Nat} {y : Str} {py spos : Pos} (hc : X.calm = true) (hN : X.N.Nodup) (ok : BlkOk X.N X.env.scope scope own) (ht : ∀ j ∈ tch, j ∈ own.map (·.2)) (hi : PI X tg iter (tI X.K W gi))
    (hg : ∀ (s : Shared) (H : Hp) (C : Addr) (cl : List (Str × Addr)) (fp : List Addr), PG (X.blk s H scope (compEnvC scope cl C X.env) fp) tg (tG X.K tch ft)) (hif : ∀ (s : Shared) (H : Hp) (C : Addr) (cl : List (Str × Addr)) (fp : List Addr), PTs (X.blk s H scope (compEnvC scope cl C X.env) fp) ifs (tT X.K W0 gt))
    (he : ∀ (s : Shared) (H : Hp) (C : Addr) (cl : List (Str × Addr)) (fp : List Addr), PE (X.blk s H scope (compEnvC scope cl C X.env) fp) elt (tE X.K W0 ge))
    (hy : X.N[i]? = some y := by rfl) (hyl : X.env.scope.names.lookup y = some .local := by rfl) (hsw : swapsWith (.ListComp elt [⟨tg, iter, ifs, 0⟩] scope pos) (some (.Name y py)) spos.line X.env = pure true := by exact sw_true rfl rfl rfl (by decide +kernel)) (hs : ∀ x, foldedSetIterable iter X.env x = pure x := by intro _; rfl) :
    PS X (.Assign [.Name y py] (.ListComp elt [⟨tg, iter, ifs, 0⟩] scope pos) spos) (tS X.K W (dSet i (dLc gi (own.map (·.2)) ft gt ge))) := by
  refine (ps_setLc hc hN hy hyl hsw hi ok hg hif he hs).weak fun D σ H ⟨α, ρ, F, G, f, h⟩ => ?_
  refine ec_lc (Q := fun x H1 => gName i x σ H1 D.nx) ht ⟨α, ρ, F, G, f, EC.st (fun r ρ1 v H1 F1 g1 f1 r1 h1 => ?_) h⟩
  obtain ⟨ρ2, e2, h2⟩ := sc_of h1
  obtain ⟨F2, g2, f2⟩ := f1.asgn r1 e2
  exact h2 _ H1 F2 g2 f2
end

/-! ### what is walked -/
section
variable {X : Cx} {W : WX} {l tg : Expr} {g : Ev} {gs : Av} {pos p : Pos}
def seqOf : D → Option (List D)
  | .lst xs => some xs
  | .tup xs => some xs
  | .scr xs => some xs
  | .str z => some (z.cps.toList.map fun c => .str ⟨#[c]⟩)
  | _ => none
def iSeq (g : Ev) : Iv := fun ρ => match (g ρ).settle with
  | .ok r ρ1 => match frz r ρ1 with
    | some (d, ρ2) => match seqOf d with
      | some xs => .ok xs ρ2
      | none => .no
    | none => .no
  | .ex x ρ1 => .ex x ρ1
  | .no => .no
theorem jd_list {K : PySem.W.Frag} {F : Hp} {a : Addr} {xs : List D} {vs : List V} (q : SqL K F a vs) (r : Reps K F xs vs) : JD K F (Itl K a) xs := fun H1 F1 s1 s2 => by
  have q1 : SqL K H1 a vs := s2.sqL (s1.sqL q)
  have r1 := Reps.mono s1 _ _ r
  refine ⟨fun i d hd => ?_, ⟨vs, q1, by rw [r.length]; exact Nat.le_refl _⟩⟩
  obtain ⟨v, hv, rv⟩ := r1.get hd
  refine ⟨⟨vs, v, q1, hv⟩, fun x H2 y => ?_⟩
  obtain ⟨rfl, y⟩ := y
  have e := y vs q1
  rw [hv] at e
  cases e
  exact ⟨F1, Ext.refl s2, rv⟩
theorem jd_tup {K : PySem.W.Frag} {F : Hp} {a : Addr} {xs : List D} {vs : List V} (q : SqT K F a vs) (r : Reps K F xs vs) : JD K F (Itt K a) xs := fun H1 F1 s1 s2 => by
  have q1 : SqT K H1 a vs := s2.sqT (s1.sqT q)
  have r1 := Reps.mono s1 _ _ r
  refine ⟨fun i d hd => ?_, ⟨vs, q1, by rw [r.length]; exact Nat.le_refl _⟩⟩
  obtain ⟨v, hv, rv⟩ := r1.get hd
  refine ⟨⟨vs, v, q1, hv⟩, fun x H2 y => ?_⟩
  obtain ⟨rfl, y⟩ := y
  have e := y vs q1
  rw [hv] at e
  cases e
  exact ⟨F1, Ext.refl s2, rv⟩
theorem jd_str {K : PySem.W.Frag} {F : Hp} (z : Str) : JD K F (Its z) (z.cps.toList.map fun c => .str ⟨#[c]⟩) := fun H1 F1 s1 s2 => by
  refine ⟨fun i d hd => ?_, by rw [List.length_map, Array.length_toList]; exact Nat.le_refl _⟩
  rw [List.getElem?_map] at hd
  cases e : z.cps.toList[i]? with
  | none => rw [e] at hd; cases hd
  | some c =>
    rw [e] at hd
    cases hd
    have e' : z.cps[i]? = some c := by rw [← Array.getElem?_toList]; exact e
    refine ⟨?_, fun x H2 y => ?_⟩
    · have := (Array.getElem?_eq_some_iff.mp e').1
      exact this
    · obtain ⟨rfl, c', e2, rfl⟩ := y
      rw [e'] at e2
      cases e2
      exact ⟨F1, Ext.refl s2, rfl⟩
theorem id_seq (he : PE X l (tE X.K W g)) : PI X tg l (tI X.K W (iSeq g)) := by
  refine ⟨fun pins s σ H R I h => ?_⟩
  obtain ⟨α, ρ, F, G, f, h⟩ := h
  unfold iSeq at h
  cases e1 : (g ρ).settle with
  | no => simp [e1, IC] at h
  | ex x ρ1 =>
    refine (pi_list he).run pins s σ H R I ⟨α, ρ, F, G, f, EC.settle ?_⟩
    rw [e1]
    simp only [e1] at h
    exact h
  | ok r ρ1 =>
    simp only [e1] at h
    cases e2 : frz r ρ1 with
    | none => simp [e2, IC] at h
    | some w =>
      obtain ⟨d, ρ2⟩ := w
      simp only [e2] at h
      cases e3 : seqOf d with
      | none => simp [e3, IC] at h
      | some xs =>
        simp only [e3] at h
        have rs : r.settle = r := by
          cases q : g ρ with
          | no => rw [q] at e1; cases e1
          | ex x ρ => rw [q] at e1; cases e1
          | ok r0 ρ0 =>
            rw [q] at e1
            have e6 : r0.settle = r := by cases e1; rfl
            rw [← e6]
            cases r0 <;> rfl
        have key : ∀ v H1 F1, Grow G F F1 → Fits X.K α ρ1 σ H1 F1 G → RRep X.K F1 G H1 σ ρ1 r v → ∃ F2, Grow G F F2 ∧ Fits X.K α ρ2 σ H1 F2 G ∧ Rep X.K F2 d v := fun v H1 F1 g1 f1 r1 => by
          have s1 : SRep X.K F1 σ r v := by
            rw [← rs] at r1 ⊢
            exact settle_srep r1
          obtain ⟨F2, g2, f2, r2⟩ := f1.frz s1 e2
          exact ⟨F2, g1.trans g2, f2, r2⟩
        have lst : ∀ {a : Addr} {vs : List V} {F2 H1 : Hp}, Grow G F F2 → Fits X.K α ρ2 σ H1 F2 G → SqL X.K F2 a vs → Reps X.K F2 xs vs → ∃ b, V.ref a = .ref b ∧ (∃ xs, SqL X.K H1 b xs) ∧ R (Itl X.K b) H1 := fun {a vs F2 H1} g2 f2 q r =>
          ⟨a, rfl, ⟨vs, f2.fh.sqL q⟩, h _ H1 F2 g2 f2 (jd_list q r)⟩
        cases d with
        | lst ys =>
          cases e3
          refine (pi_list he).run pins s σ H R I ⟨α, ρ, F, G, f, EC.settle ?_⟩
          rw [e1]
          intro v H1 F1 g1 f1 r1
          obtain ⟨F2, g2, f2, a, vs, rfl, q, rr⟩ := key v H1 F1 g1 f1 r1
          exact lst g2 f2 (SqL.of q) rr
        | scr ys =>
          cases e3
          refine (pi_list he).run pins s σ H R I ⟨α, ρ, F, G, f, EC.settle ?_⟩
          rw [e1]
          intro v H1 F1 g1 f1 r1
          obtain ⟨F2, g2, f2, a, vs, rfl, q, rr⟩ := key v H1 F1 g1 f1 r1
          exact lst g2 f2 q rr
        | tup ys =>
          cases e3
          refine (pi_tup he).run pins s σ H R I ⟨α, ρ, F, G, f, EC.settle ?_⟩
          rw [e1]
          intro v H1 F1 g1 f1 r1
          obtain ⟨F2, g2, f2, a, vs, rfl, q, rr⟩ := key v H1 F1 g1 f1 r1
          exact ⟨a, rfl, ⟨vs, f2.fh.sqT q⟩, h _ H1 F2 g2 f2 (jd_tup q rr)⟩
        | str z =>
          cases e3
          refine (pi_str he).run pins s σ H R I ⟨α, ρ, F, G, f, EC.settle ?_⟩
          rw [e1]
          intro v H1 F1 g1 f1 r1
          obtain ⟨F2, g2, f2, r2⟩ := key v H1 F1 g1 f1 r1
          exact ⟨z, r2, h _ H1 F2 g2 f2 (jd_str z)⟩
        | _ => cases e3
/-- the values of arguments, walked -/
def iArgs (k : List D → Option (List D)) (gs : Av) : Iv := fun ρ => match gs ρ with
  | .ok rs ρ1 => match frzs rs ρ1 with
    | some (ds, ρ2) => match k ds with
      | some xs => .ok xs ρ2
      | none => .no
    | none => .no
  | .ex x ρ1 => .ex x ρ1
  | .no => .no
theorem ac_args {K : PySem.W.Frag} {k : List D → Option (List D)} {σ : L2.St} {H : Hp} {R : It → Hp → Prop} {T : List V → Hp → Prop} (h : tI K W (iArgs k gs) σ H R)
    (hk : ∀ (F H1 : Hp) ds vs xs, Sub F H1 → Reps K F ds vs → k ds = some xs → (∀ J, JD K F J xs → R J H1) → T vs H1) : tA K W gs σ H T := by
  obtain ⟨α, ρ, F, G, f, h⟩ := h
  refine ⟨α, ρ, F, G, f, ?_⟩
  unfold iArgs at h
  cases e1 : gs ρ with
  | no => simp [e1, IC] at h
  | ex x ρ1 => simp only [e1] at h; exact h
  | ok rs ρ1 =>
    simp only [e1] at h
    intro vs H1 F1 g1 f1 s1
    cases e2 : frzs rs ρ1 with
    | none => simp [e2, IC] at h
    | some w =>
      obtain ⟨ds, ρ2⟩ := w
      simp only [e2] at h
      obtain ⟨F2, g2, f2, r2⟩ := Fits.frzs f1 s1 e2
      cases e3 : k ds with
      | none => simp [e3, IC] at h
      | some xs =>
        simp only [e3] at h
        exact hk F2 H1 ds vs xs f2.fh r2 e3 fun J jd => h J H1 F2 (g1.trans g2) f2 jd
def kRange1 : List D → Option (List D)
  | [.int j] => if j ≤ 1000000 ∧ -1000000 ≤ j then some ((List.range j.toNat).map fun (k : Nat) => .int (k : Int)) else none
  | _ => none
def kRange2 : List D → Option (List D)
  | [.int i, .int j] => if (j ≤ 1000000 ∧ -1000000 ≤ j) ∧ (i ≤ 1000000 ∧ -1000000 ≤ i) then some ((List.range (j - i).toNat).map fun (k : Nat) => .int (i + (k : Int))) else none
  | _ => none
theorem kRange1_some {ds xs : List D} (h : kRange1 ds = some xs) : ∃ j : Int, ds = [.int j] ∧ (j ≤ 1000000 ∧ -1000000 ≤ j) ∧ xs = (List.range j.toNat).map fun (k : Nat) => .int (k : Int) := by
  unfold kRange1 at h
  split at h
  · split at h
    · cases h
      exact ⟨_, rfl, by assumption, rfl⟩
    · cases h
  · cases h
theorem kRange2_some {ds xs : List D} (h : kRange2 ds = some xs) : ∃ i j : Int, ds = [.int i, .int j] ∧ ((j ≤ 1000000 ∧ -1000000 ≤ j) ∧ (i ≤ 1000000 ∧ -1000000 ≤ i)) ∧ xs = (List.range (j - i).toNat).map fun (k : Nat) => .int (i + (k : Int)) := by
  unfold kRange2 at h
  split at h
  · split at h
    · cases h
      exact ⟨_, _, rfl, by assumption, rfl⟩
    · cases h
  · cases h
theorem jd_range {K : PySem.W.Frag} {F : Hp} (lo : Int) (n : Nat) : JD K F (Itr lo n) ((List.range n).map fun (k : Nat) => .int (lo + (k : Int))) := fun H1 F1 s1 s2 => by
  refine ⟨fun i d hd => ?_, by rw [List.length_map, List.length_range]; exact Nat.le_refl _⟩
  rw [List.getElem?_map] at hd
  cases e : (List.range n)[i]? with
  | none => rw [e] at hd; cases hd
  | some j =>
    rw [e] at hd
    obtain ⟨h1, h2⟩ := List.getElem?_eq_some_iff.mp e
    rw [List.length_range] at h1
    rw [List.getElem_range] at h2
    subst h2
    cases hd
    refine ⟨h1, fun x H2 y => ?_⟩
    obtain ⟨rfl, rfl⟩ := y
    exact ⟨F1, Ext.refl s2, rfl⟩
theorem id_range1 {a : Expr} (hm : X.mg "range" = none) (ha : PA X [a] (tA X.K W gs)) (hg : Gl X "range" := by rfl) (hs : starEach [a] X.env = [(false, eval a X.env)] := by rfl) : PI X tg (.Call (.Name "range" p) [a] [] pos) (tI X.K W (iArgs kRange1 gs)) := by
  refine (pi_range1 hg hm ha hs).weak fun σ H R h => ac_args h fun F H1 ds vs xs s r e k => ?_
  obtain ⟨j, rfl, hj, rfl⟩ := kRange1_some e
  obtain ⟨v, t, rfl, rfl, rfl⟩ := r
  refine ⟨j, rfl, by omega, by omega, k _ ?_⟩
  have := jd_range (K := X.K) (F := F) 0 j.toNat
  simpa using this
theorem id_range2 {a b : Expr} (hm : X.mg "range" = none) (ha : PA X [a, b] (tA X.K W gs)) (hg : Gl X "range" := by rfl) (hs : starEach [a, b] X.env = [(false, eval a X.env), (false, eval b X.env)] := by rfl) (hs2 : starEach [b] X.env = [(false, eval b X.env)] := by rfl) :
    PI X tg (.Call (.Name "range" p) [a, b] [] pos) (tI X.K W (iArgs kRange2 gs)) := by
  refine (pi_range2 hg hm ha hs hs2).weak fun σ H R h => ac_args h fun F H1 ds vs xs s r e k => ?_
  obtain ⟨i, j, rfl, hj, rfl⟩ := kRange2_some e
  obtain ⟨v, t, rfl, rfl, v2, t2, rfl, rfl, rfl⟩ := r
  exact ⟨i, j, rfl, ⟨by omega, by omega, by omega, by omega⟩, k _ (jd_range i _)⟩
/-- zip of two lists, of two tuples -/
def kZip : List D → Option (List D)
  | [.lst xs, .lst ys] => some (List.zipWith (fun x y => .tup [x, y]) xs ys)
  | [.tup xs, .tup ys] => some (List.zipWith (fun x y => .tup [x, y]) xs ys)
  | _ => none
theorem zip_get {xs ys : List D} {i : Nat} {d : D} (h : (List.zipWith (fun x y => D.tup [x, y]) xs ys)[i]? = some d) : ∃ x y, xs[i]? = some x ∧ ys[i]? = some y ∧ d = .tup [x, y] := by
  rw [List.getElem?_zipWith] at h
  cases e1 : xs[i]? with
  | none => simp [e1] at h
  | some x =>
    cases e2 : ys[i]? with
    | none => simp [e1, e2] at h
    | some y =>
      simp [e1, e2] at h
      exact ⟨x, y, rfl, rfl, h.symm⟩
theorem rep_pair {K : PySem.W.Frag} {F1 : Hp} {T : Addr} {x y : V} {d e : D} (hT : F1 T = none) (r1 : Rep K F1 d x) (r2 : Rep K F1 e y) : Rep K (upd F1 T (.tup [x, y])) (.tup [d, e]) (.ref T) :=
  ⟨T, [x, y], rfl, SqT.of upd_same, .cons (Rep.mono (Sub.upd_none hT) _ _ r1) (.cons (Rep.mono (Sub.upd_none hT) _ _ r2) .nil)⟩
theorem jd_zipL {K : PySem.W.Frag} {F : Hp} {a b : Addr} {xs ys : List D} {vs ws : List V} (q1 : SqL K F a vs) (r1 : Reps K F xs vs) (q2 : SqL K F b ws) (r2 : Reps K F ys ws) : JD K F (Itz K a b) (List.zipWith (fun x y => .tup [x, y]) xs ys) := fun H1 F1 s1 s2 => by
  have p1 : SqL K H1 a vs := s2.sqL (s1.sqL q1)
  have p2 : SqL K H1 b ws := s2.sqL (s1.sqL q2)
  have t1 := Reps.mono s1 _ _ r1
  have t2 := Reps.mono s1 _ _ r2
  refine ⟨fun i d hd => ?_, ⟨vs, ws, p1, p2, ?_⟩⟩
  · obtain ⟨x, y, hx, hy, rfl⟩ := zip_get hd
    obtain ⟨v, hv, rv⟩ := t1.get hx
    obtain ⟨w, hw, rw'⟩ := t2.get hy
    refine ⟨⟨vs, ws, v, w, p1, p2, hv, hw⟩, fun z H2 yy => ?_⟩
    obtain ⟨T, x', y', rfl, hT, rfl, e1, e2⟩ := yy
    have e1 := e1 vs p1
    have e2 := e2 ws p2
    rw [hv] at e1
    rw [hw] at e2
    cases e1
    cases e2
    exact ⟨_, Ext.alloc s2 hT, rep_pair (s2.free hT) rv rw'⟩
  · have l1 := t1.length
    have l2 := t2.length
    rw [List.length_zipWith, l1, l2]
    omega
theorem jd_zipT {K : PySem.W.Frag} {F : Hp} {a b : Addr} {xs ys : List D} {vs ws : List V} (q1 : SqT K F a vs) (r1 : Reps K F xs vs) (q2 : SqT K F b ws) (r2 : Reps K F ys ws) : JD K F (RZ.ItzT K a b) (List.zipWith (fun x y => .tup [x, y]) xs ys) := fun H1 F1 s1 s2 => by
  have p1 : SqT K H1 a vs := s2.sqT (s1.sqT q1)
  have p2 : SqT K H1 b ws := s2.sqT (s1.sqT q2)
  have t1 := Reps.mono s1 _ _ r1
  have t2 := Reps.mono s1 _ _ r2
  refine ⟨fun i d hd => ?_, ⟨vs, ws, p1, p2, ?_⟩⟩
  · obtain ⟨x, y, hx, hy, rfl⟩ := zip_get hd
    obtain ⟨v, hv, rv⟩ := t1.get hx
    obtain ⟨w, hw, rw'⟩ := t2.get hy
    refine ⟨⟨vs, ws, v, w, p1, p2, hv, hw⟩, fun z H2 yy => ?_⟩
    obtain ⟨T, x', y', rfl, hT, rfl, e1, e2⟩ := yy
    have e1 := e1 vs p1
    have e2 := e2 ws p2
    rw [hv] at e1
    rw [hw] at e2
    cases e1
    cases e2
    exact ⟨_, Ext.alloc s2 hT, rep_pair (s2.free hT) rv rw'⟩
  · have l1 := t1.length
    have l2 := t2.length
    rw [List.length_zipWith, l1, l2]
    omega
theorem id_zip {a b : Expr} {tpos : Pos} {elts : List Expr} {kk : Nat} (hm : X.mg "zip" = none) (ha : PA X [a, b] (tA X.K W gs)) (hg : Gl X "zip" := by rfl) (hs : starEach [a, b] X.env = (false, eval a X.env) :: starEach [b] X.env := by rfl) (hpl : (backTo pos (starEach [b] X.env)).any (·.1) = false := by rfl) :
    PI X (.Tuple elts kk tpos) (.Call (.Name "zip" p) [a, b] [] pos) (tI X.K W (iArgs kZip gs)) := by
  refine (RZ.pi_zipA hg hm ha hs hpl).weak fun σ H R h => ac_args h fun F H1 ds vs xs s r e k => ?_
  unfold kZip at e
  split at e
  · cases e
    obtain ⟨v, t, rfl, ⟨a, vs, rfl, q1, r1⟩, w, t2, rfl, ⟨b, ws, rfl, q2, r2⟩, rfl⟩ := r
    exact ⟨a, b, vs, ws, rfl, .inl ⟨s.sqL (SqL.of q1), s.sqL (SqL.of q2), k _ (jd_zipL (SqL.of q1) r1 (SqL.of q2) r2)⟩⟩
  · cases e
    obtain ⟨v, t, rfl, ⟨a, vs, rfl, q1, r1⟩, w, t2, rfl, ⟨b, ws, rfl, q2, r2⟩, rfl⟩ := r
    exact ⟨a, b, vs, ws, rfl, .inr ⟨s.sqT q1, s.sqT q2, k _ (jd_zipT q1 r1 q2 r2)⟩⟩
  · cases e
/-- enumerate of a list -/
def enumD : Nat → List D → List D
  | _, [] => []
  | i, d :: ds => .tup [.int (i : Int), d] :: enumD (i + 1) ds
theorem enumD_length : ∀ (i : Nat) (ds : List D), (enumD i ds).length = ds.length
  | _, [] => rfl
  | i, d :: ds => by simp [enumD, enumD_length (i + 1) ds]
theorem enumD_get : ∀ (i : Nat) (ds : List D) (j : Nat) (e : D), (enumD i ds)[j]? = some e → ∃ d, ds[j]? = some d ∧ e = .tup [.int ((i + j : Nat) : Int), d]
  | i, [], j, e, h => by simp [enumD] at h
  | i, d :: ds, 0, e, h => by simp [enumD] at h; exact ⟨d, rfl, h.symm⟩
  | i, d :: ds, j + 1, e, h => by
    obtain ⟨d', a, b⟩ := enumD_get (i + 1) ds j e (by simpa [enumD] using h)
    exact ⟨d', by simpa using a, by rw [b]; congr 4; omega⟩
def kEnum : List D → Option (List D)
  | [.lst xs] => some (enumD 0 xs)
  | _ => none
theorem jd_enum {K : PySem.W.Frag} {F : Hp} {a : Addr} {xs : List D} {vs : List V} (q1 : SqL K F a vs) (r1 : Reps K F xs vs) : JD K F (Ite K a) (enumD 0 xs) := fun H1 F1 s1 s2 => by
  have p1 : SqL K H1 a vs := s2.sqL (s1.sqL q1)
  have t1 := Reps.mono s1 _ _ r1
  refine ⟨fun i d hd => ?_, ⟨vs, p1, by rw [t1.length, enumD_length]; exact Nat.le_refl _⟩⟩
  obtain ⟨x, hx, rfl⟩ := enumD_get 0 xs i d hd
  obtain ⟨v, hv, rv⟩ := t1.get hx
  refine ⟨⟨vs, v, p1, hv⟩, fun z H2 yy => ?_⟩
  obtain ⟨T, x', rfl, hT, rfl, e1⟩ := yy
  have e1 := e1 vs p1
  rw [hv] at e1
  cases e1
  refine ⟨_, Ext.alloc s2 hT, ?_⟩
  have := rep_pair (K := K) (d := .int ((0 + i : Nat) : Int)) (x := .int ((i : Nat) : Int)) (s2.free hT) (by show V.int _ = V.int _; simp) rv
  exact this
theorem id_enum {a : Expr} {tpos : Pos} {elts : List Expr} {kk : Nat} (hm : X.mg "enumerate" = none) (ha : PA X [a] (tA X.K W gs)) (hg : Gl X "enumerate" := by rfl)
    (h2 : PI X (.Tuple elts kk tpos) (.Call (.Name "enumerate" p) [a] [] pos) (iEnum X.K (tA X.K W gs)) := by exact pi_enum (by assumption) (by assumption) (by assumption)) :
    PI X (.Tuple elts kk tpos) (.Call (.Name "enumerate" p) [a] [] pos) (tI X.K W (iArgs kEnum gs)) := by
  refine h2.weak fun σ H R h => ac_args h fun F H1 ds vs xs s r e k => ?_
  unfold kEnum at e
  split at e
  · cases e
    obtain ⟨v, t, rfl, ⟨a, vs, rfl, q1, r1⟩, rfl⟩ := r
    exact ⟨a, vs, rfl, s.sqL (SqL.of q1), k _ (jd_enum (SqL.of q1) r1)⟩
  · cases e
end
end DL

/-! Defs whose bodies may ask that nothing is being shown around them (repr wants that). -/
namespace DL
open PySem PySem.Spec L2 PyProof.Rows

/-- room for k calls, and no list or dict is being shown around -/
structure RoomG (k : Nat) (A : Around) : Prop where
  room : Room k A
  quiet : A.guards = some []
theorem RoomG.mono {j k : Nat} {A : Around} (r : RoomG k A) (h : j ≤ k) : RoomG j A := ⟨r.room.mono h, r.quiet⟩
theorem RoomG.deeper {k : Nat} {A : Around} (r : RoomG (k + 1) A) (env : PySem.Env) : RoomG k (A.deeper env) := ⟨r.room.deeper env, r.quiet⟩
theorem roomG_caller {k : Nat} (h : Room k callerA) : RoomG k callerA := ⟨h, rfl⟩

structure FnG (P : Program) (w : World) (K : PySem.W.Frag) (mg : Str → Option Value) (base : Heap) (k : Nat) (f : Addr) (fd : FuncData) (ps : List Str) (sp : Sp) : Prop where
  len : ∀ vs H Q E, sp vs H Q E → vs.length = ps.length
  run : ∀ (A : Around) (up : List PySem.Env) (s : Shared) (H : Hp) (args : Args) (us : List Value) (vs : List V) (Q : VK) (E : XK), RoomG k A → Env0 P w K mg base A up s H → BindsTo s fd args (ps.zip us) → Vals vs us → sp vs H Q E →
    codeAny (model P w) A (.call (.ref f) args) (CR (L2.CX P w) up P w H s Q E) s
section
variable {P : Program} {w : World} {K : PySem.W.Frag} {mg : Str → Option Value} {base : Heap}
theorem FnG.mono {j k : Nat} {f : Addr} {fd : FuncData} {ps : List Str} {sp : Sp} (F : FnG P w K mg base j f fd ps sp) (h : j ≤ k) : FnG P w K mg base k f fd ps sp :=
  ⟨F.len, fun A up s H args us vs Q E r => F.run A up s H args us vs Q E (r.mono h)⟩
theorem FnG.weak {k : Nat} {f : Addr} {fd : FuncData} {ps : List Str} {sp sp' : Sp} (F : FnG P w K mg base k f fd ps sp) (h : ∀ vs H Q E, sp' vs H Q E → sp vs H Q E) : FnG P w K mg base k f fd ps sp' :=
  ⟨fun vs H Q E q => F.len vs H Q E (h vs H Q E q), fun A up s H args us vs Q E r e b v q => F.run A up s H args us vs Q E r e b v (h vs H Q E q)⟩
/-- a def by its body -/
theorem fnG_of {x qual : Str} {st : Stmt} {f : Addr} {fd : FuncData} {N ps : List Str} {k : Nat} {sp : Sp} (F : Fun K x qual st f fd) (S : FnScope N ps (defScope st)) (len : ∀ vs H Q E, sp vs H Q E → vs.length = ps.length)
    (body : ∀ (cdv : Value) (A : Around) (up : List PySem.Env) (s : Shared) (H : Hp) (vs : List V) (Q : VK) (E : XK), RoomG k (A.deeper (envOfC qual (defScope st) s.heap.objs.size f cdv)) → sp vs H Q E →
      ∃ t, PSs (cxOf (L2.CX P w) P w K mg base N qual (defScope st) f cdv A up s H E) (defBody st) t ∧ t { nx := fun _ H' => Q .non H', rt := Q } (start N vs) H) :
    FnG P w K mg base (k + 1) f fd ps sp := by
  obtain ⟨oc, od, kV, doc, pm, an, cdv, ct, osl, rfl, look, code⟩ := F.ex
  constructor
  · exact len
  intro A up s H args us vs Q E room e0 bind rv want
  have n := len vs H Q E want
  have same : ∀ b o, base.get? b = some o → s.heap.get? b = some o := fun b o z => (e0.bs b o z).1
  have inK : K.In s.heap := e0.mod.kin.keeps same
  have noLim : s.heap.NoLimit := e0.mod.nolimit.keeps same
  have kinds : ∀ y ∈ ps.zip us, (defScope st).names.lookup y.1 = some .local ∨ ((defScope st).names.lookup y.1 = some .cell ∧ ((cellsFrom (s.heap.objs.size + 1) (defScope st).names []).lookup y.1).isSome = true) := by
    rintro ⟨nm, v⟩ hy
    rcases S.par nm (List.of_mem_zip hy).1 with q | q
    · left; exact q
    · right; exact ⟨q, PySem.W.cellsFrom_some _ _ _ (.inl q)⟩
  refine codeAny_call_function room.room.depth (inK _ _ look) rfl S.co S.gen rfl (PySem.W.codeRec_of inK code) (bind _ _ _ _ ?_)
  refine wpAny_newFunctionEnv_cells S.kind kinds ?_
  rintro env rfl s1 x
  constructor
  · exact noLim.keeps x.toInCall.keep
  refine codeAny_func ?_
  obtain ⟨t, ht, q0⟩ := body cdv A up s H vs Q E (room.deeper _) want
  have I := inv_start (CX := L2.CX P w) (E := E) S room.room.hd e0 n rv x
  refine wpAny_mono (ht.run [] s1 _ H _ I q0) ?_ (fun e s' z => z)
  intro fl s' z
  cases fl with
  | brk => obtain ⟨_, _, _, z⟩ := z; exact z.elim
  | cont => obtain ⟨_, _, _, z⟩ := z; exact z.elim
  | next => obtain ⟨σ', H', J, z⟩ := z; exact ⟨.non, H', J.os, J.bare, J.base, J.hok, rfl, z⟩
  | ret u => obtain ⟨v, σ', H', J, r, z⟩ := z; exact ⟨v, H', J.os, J.bare, J.base, J.hok, r, z⟩
end
section
variable {X : Cx} {W : WX} {e : Expr} {es : List Expr} {gs : Av} {pos p : Pos} {k : Nat} {f : Addr} {fd : FuncData} {ps : List Str} {ms : List Bool} {den : List D → DR} {x : Str}
theorem FnG.call {sp : Sp} {E : XK} {pins : List (Addr × Obj)} {σ : L2.St} {H : Hp} {s : Shared} {Q : VK} {us : List Value} {vs : List V} (F : FnG X.prog X.w X.K X.mg X.base k f fd ps sp) (hr : RoomG k X.A) (hb : Binds X.K fd ps []) (hx : PassesAt (L2.CX X.prog X.w) X σ E)
    (I : Inv X pins σ H s) (r : Vals vs us) (h : sp vs H Q E) : wpAny (model X.prog X.w) X.A (PySem.call (.ref f) us) (EP X pins σ Q) X.xe s := by
  have n : us.length = ps.length := r.length.symm.trans (F.len vs H Q E h)
  have b := hb s us I.kIn ((List.append_nil us).symm ▸ n)
  rw [List.append_nil us] at b
  refine wpAny_call (codeAny_mono (F.run X.A X.stack s H ⟨us, []⟩ us vs Q E hr I.env0 b r h) ?_)
  intro res s' z
  match res, z with
  | .error e, z => exact hx pins H s e s' I z
  | .ok (.ret u), z => exact I.after z
  | .ok .next, z => exact False.elim z
  | .ok .brk, z => exact False.elim z
  | .ok .cont, z => exact False.elim z
/-- f(..) -/
theorem ed_callG (hd : ∀ ds r outs, den ds = .ok r outs → ∀ i, r ≠ .loc i) (F : FnG X.prog X.w X.K X.mg X.base k f fd ps (spD X.K ms den)) (hr : RoomG k X.A) (hm : X.mg x = some (.ref f)) (hk : PySem.W.keepIn X.K (.ref f) = true) (hb : Binds X.K fd ps []) (tk : Takes X W)
    (ha : PA X (e :: es) (tA X.K W gs)) (hg : Gl X x := by rfl) (hdb : (x == ("__debug__" : Str)) = false := by decide) (he : starEach (e :: es) X.env = (false, eval e X.env) :: starEach es X.env := by rfl) (hpl : (backTo pos (starEach es X.env)).any (·.1) = false := by rfl) :
    PE X (.Call (.Name x p) (e :: es) [] pos) (tE X.K W (dCall ms den gs)) := by
  constructor
  intro pins s σ H Q I h
  refine wpAny_Call_Name_kw (ld_glob I hg hm ?_ hdb)
  refine PySem.W.callWith_K (h₀ := X.base) I.ok.mod.kin hk ?_ he hpl
  refine thn (ha.run pos pins s σ H _ I (ec_call hd h)) ?_
  rintro us s1 ⟨vs, H1, I1, r, q⟩
  exact ⟨I1.kIn, F.call hr hb (passAt tk σ) I1 r q⟩
end
section
variable {P : Program} {w : World} {K : PySem.W.Frag} {mg : Str → Option Value} {base : Heap}
theorem def_okG {x qual : Str} {st : Stmt} {f : Addr} {fd : FuncData} {N ps : List Str} {k : Nat} {ms : List Bool} {g : Sv} (F : Fun K x qual st f fd) (S : FnScope N ps (defScope st)) (hm : ms.length = ps.length)
    (hb : ∀ (cdv : Value) (A : Around) (outer : List PySem.Env) (s : Shared) (H : Hp) (E : XK), RoomG k (A.deeper (envOfC qual (defScope st) s.heap.objs.size f cdv)) →
      PSs (cxOf (L2.CX P w) P w K mg base N qual (defScope st) f cdv A outer s H E) (defBody st) (tS K (fun cls d _ H' => E cls d H') g)) :
    FnG P w K mg base (k + 1) f fd ps (spD K ms (dDef N.length ms g)) := by
  refine fnG_of F S (fun vs H Q E h => (spD_len vs H Q E h).trans hm) (fun cdv A outer s H vs Q E hr h => ⟨_, hb cdv A outer s H E hr, ?_⟩)
  have hn := spD_len vs H Q E h
  obtain ⟨α, F0, G, ds, hl, ft, h⟩ := h
  refine ⟨α, _, F0, G, ft.start hl hn, ?_⟩
  unfold dDef at h
  rw [if_pos hl] at h
  cases e1 : g (argEnv ms ds ++ List.replicate (N.length - ms.length) .non) with
  | no => simp [e1, DC] at h
  | bk ρ => simp [e1, DC] at h
  | ct ρ => simp [e1, DC] at h
  | nx ρ =>
    simp only [e1] at h
    cases e2 : outsOf ms ds ρ with
    | none => simp [e2, DC] at h
    | some os =>
      simp only [e2] at h
      exact fun σ' H' F' g1 f1 => h .non H' F' g1 (ft.exit e2 hn g1 f1).1 (ft.exit e2 hn g1 f1).2 rfl
  | ex x ρ =>
    simp only [e1] at h
    cases e2 : outsOf ms ds ρ with
    | none => simp [e2, DC] at h
    | some os =>
      simp only [e2] at h
      exact fun c d σ' H' F' g1 f1 x1 => h c d H' F' g1 (ft.exit e2 hn g1 f1).1 (ft.exit e2 hn g1 f1).2 x1
  | rt r ρ =>
    simp only [e1] at h
    cases r with
    | loc i => simp [DC] at h
    | val d =>
      simp only at h
      cases e2 : outsOf ms ds ρ with
      | none => simp [e2, DC] at h
      | some os =>
        simp only [e2] at h
        exact fun v σ' H' F' g1 f1 r1 => h v H' F' g1 (ft.exit e2 hn g1 f1).1 (ft.exit e2 hn g1 f1).2 r1
    | new d =>
      simp only at h
      cases e2 : outsOf ms ds ρ with
      | none => simp [e2, DC] at h
      | some os =>
        simp only [e2] at h
        refine fun v σ' H' F' g1 f1 r1 => h v H' F' g1 (ft.exit e2 hn g1 f1).1 (ft.exit e2 hn g1 f1).2 ?_
        obtain ⟨a, rfl, fa, ga, c, sp⟩ := r1
        refine ⟨a, rfl, fa, ga, c, fun j s q o z => ?_⟩
        obtain ⟨l1, l2, k⟩ := outsOf_env e2
        rcases k q with ⟨d', rfl, hmm, hr'⟩ | ⟨d', rfl, _⟩
        · obtain ⟨_, _, q0⟩ := argEnv_at l2 hmm
          obtain ⟨x0, hx0, so0⟩ := ft.slot j _ q0
          obtain ⟨x1, hx1, so1⟩ := f1.slot j _ hr'
          have e3 : x0 = some (V.ref (α j)) := so0.1
          have e4 : x1 = some (V.ref (α j)) := so1.1
          rw [hx0, e3] at z
          cases z
          exact sp j _ hr' rfl (by rw [hx1, e4])
        · cases o
/-- no exception comes out where none is wanted -/
theorem cx_none {outer : List PySem.Env} {H : Hp} {s : Shared} {e : Value} {s' : Shared} (h : L2.CX P w outer H s (fun _ _ _ => False) e s') : False := by
  obtain ⟨_, _, _, _, _, _, _, _, _, _, _, _, z⟩ := h
  exact z
/-- THE HEAD of a law, at the heap behind the program's top, H telling of the script alone -/
theorem head_at {mb : Str → Option Value} {k : Nat} {fa a : Addr} {fd : FuncData} {x : Str} {sp : Sp} {s : Shared} {vs : List Value} {H : Hp}
    (inK : K.In s.heap) (nsM : s.heap.Ns mainGlobals mg) (nsB : s.heap.Ns builtinsNs mb) (boot : ∀ x : Str, x ≠ "__name__" → mb x = bootBuiltins x) (lim : s.heap.NoLimit) (gens : s.gens = #[])
    (scr : s.heap.get? a = some { cls := .type "list", data := .seq vs.toArray }) (r : Room k callerA)
    (F : ∀ base : Heap, K.In base → base.Ns mainGlobals mg → FnG P w K mg base k fa fd [x] sp) (bind : ∀ (s : Shared) (u : Value), BindsTo s fd ⟨[u], []⟩ [(x, u)])
    (law : sp [.ref a] H (fun v _ => v = .bl true) fun _ _ _ => False) (only : Only H) (ok : HOk P w H s.heap) (one : ∀ b, H b ≠ none → b = a) (own : H a ≠ none → K.lookup a = none) :
    codeAny (model P w) callerA (.call (.ref fa) ⟨[.ref a], []⟩) (fun res s' => res = .ok (.ret (.bool true)) ∧ OldK s.heap s'.heap ∧ s'.os = s.os ∧ AllBare s'.gens) s := by
  have free : ∀ {b : Addr} {o : Obj}, s.heap.get? b = some o → (b = a → H a = none) → H b = none := fun {b o} _ n => by
    by_cases q : H b = none
    · exact q
    · have := one b q
      subst this
      exact n rfl
  have dic : ∀ {b : Addr} {m : Str → Option Value}, s.heap.Ns b m → (hidT s.heap H).Ns b m := fun {b m} ⟨o, es, ep, e, d, t⟩ => by
    refine ⟨o, es, ep, hidT_get e ?_, d, t⟩
    by_cases q : H b = none
    · exact q
    · have := one b q
      subst this
      rw [scr] at e
      cases e
      cases d
  have inB : K.In (hidT s.heap H) := fun b o e => hidT_get (inK b o e) <| by
    by_cases q : H b = none
    · exact q
    · have := one b q
      subst this
      have := own q
      rw [this] at e
      cases e
  have md : Mod K mg (hidT s.heap H) := by
    obtain ⟨mc, l1, l2⟩ := lim
    exact ⟨inB, dic nsM, ⟨mb, dic nsB, boot⟩, ⟨mc, dic l1, l2⟩⟩
  have bare0 : AllBare s.gens := .of_eq gens
  have e0 : Env0 P w K mg (hidT s.heap H) callerA [] s H := by
    refine ⟨rfl, md, fun b o e => of_hidT e, Nat.le_of_eq (hidT_size _ _), trivial, ?_, ok, bare0⟩
    intro b z
    have z' : b ∈ ([] : List Addr) := z
    cases z'
  have rel : Vals [V.ref a] [Value.ref a] := .cons rfl .nil
  refine codeAny_mono ((F _ inB (dic nsM)).run callerA [] s H ⟨[.ref a], []⟩ [.ref a] [.ref a] _ _ (roomG_caller r) e0 (bind s (.ref a)) rel law) ?_
  intro res s' z
  match res, z with
  | .error e, z => exact (cx_none z).elim
  | .ok .next, z => exact False.elim z
  | .ok .brk, z => exact False.elim z
  | .ok .cont, z => exact False.elim z
  | .ok (.ret u), ⟨v, H', os, bare, un, ok', rv, q⟩ =>
    obtain rfl : v = V.bl true := q
    obtain rfl : u = Value.bool true := rv
    refine ⟨rfl, OldK.of_keep ?_, os, bare⟩
    intro b o e
    rcases only b with z | ⟨ob, xs, z⟩
    · refine un.keep b o e z ?_ ?_
      · intro m
        have m' : b ∈ ([] : List Addr) := m
        cases m'
      · simp
    · have was := (ok b _ z).1
      have is := (ok' b _ (un.frzs b ob _ z)).1
      rw [e] at was
      cases was
      exact is
theorem head_G {mb : Str → Option Value} {k : Nat} {fa a : Addr} {fd : FuncData} {x : Str} {sp : Sp} {s : Shared} {vs : List Value} {ns : List Int}
    (inK : K.In s.heap) (nsM : s.heap.Ns mainGlobals mg) (nsB : s.heap.Ns builtinsNs mb) (boot : ∀ x : Str, x ≠ "__name__" → mb x = bootBuiltins x) (lim : s.heap.NoLimit) (gens : s.gens = #[])
    (scr : s.heap.get? a = some { cls := .type "list", data := .seq vs.toArray }) (hints : IntsAre vs ns) (len : ns.length ≤ sizeLine) (r : Room k callerA)
    (F : ∀ base : Heap, K.In base → base.Ns mainGlobals mg → FnG P w K mg base k fa fd [x] sp) (bind : ∀ (s : Shared) (u : Value), BindsTo s fd ⟨[u], []⟩ [(x, u)])
    (law : ∀ H : Hp, Only H → SqL K H a (ns.map V.int) → sp [.ref a] H (fun v _ => v = .bl true) fun _ _ _ => False) :
    codeAny (model P w) callerA (.call (.ref fa) ⟨[.ref a], []⟩) (fun res s' => res = .ok (.ret (.bool true)) ∧ OldK s.heap s'.heap ∧ s'.os = s.os ∧ AllBare s'.gens) s := by
  have rv := vals_ints hints
  have n : vs.length = ns.length := hints.length
  by_cases hk : K.lookup a = none
  · -- a frozen list, told to the heap
    let o : Obj := { cls := .type "list", data := .seq vs.toArray }
    let H : Hp := fun b => if b = a then some (.frz o (.lst (ns.map V.int))) else none
    have ata : H a = some (.frz o (.lst (ns.map V.int))) := if_pos rfl
    have off : ∀ b, b ≠ a → H b = none := fun b q => if_neg q
    have on : Only H := fun b => by
      by_cases q : b = a
      · subst q; exact .inr ⟨o, _, ata⟩
      · exact .inl (off b q)
    refine head_at inK nsM nsB boot lim gens scr r F bind (law H on (.inl (.inr ⟨o, ata⟩))) on ?_ ?_ ?_
    · intro b u z
      by_cases q : b = a
      · subst q
        rw [ata] at z
        cases z
        refine ⟨scr, ?_, vs, _, rv, scr⟩
        rw [List.length_map]
        exact len
      · rw [off b q] at z
        cases z
    · intro b z
      by_cases q : b = a
      · exact q
      · exact absurd (off b q) z
    · intro _
      exact hk
  · -- the script is one of the module's own objects
    obtain ⟨o, ho⟩ := Option.ne_none_iff_exists'.mp hk
    have e := inK a o ho
    rw [scr] at e
    cases e
    let H : Hp := fun _ => none
    have no : ∀ b, ¬ (H b ≠ none) := fun b z => z rfl
    have on : Only H := fun _ => .inl rfl
    refine head_at inK nsM nsB boot lim gens scr r F bind (law H on (.inr ⟨_, vs.toArray, _, ho, rfl, rfl, rfl, ?_, ?_⟩)) on ?_ ?_ ?_
    · rw [List.size_toArray, n]
      exact len
    · simpa using rv
    · intro b u z
      have z' : (none : Option HO) = some u := z
      cases z'
    · exact fun b z => (no b z).elim
    · exact fun z => (no a z).elim
/-- what is asked of a law's def: at every script it computes True -/
theorem sp_of_den {den : List D → DR} {H : Hp} {a : Addr} {ns : List Int} (only : Only H) (S : SqL K H a (ns.map V.int)) (h : ∃ outs, den [.scr (ns.map .int)] = .ok (.val (.bl true)) outs) :
    spD K [false] den [.ref a] H (fun v _ => v = .bl true) fun _ _ _ => False := by
  obtain ⟨outs, h⟩ := h
  refine ⟨fun _ => a, H, fun _ => none, [.scr (ns.map .int)], rfl, ⟨Sub.refl _, fun _ _ e => (nomatch e), rfl, ?_, ?_⟩, ?_⟩
  · intro i s q
    match i with
    | 0 =>
      have q' : Slot.val (.scr (ns.map .int)) = s := by simpa [argEnv] using q
      subst q'
      exact ⟨some (.ref a), rfl, .ref a, rfl, a, _, rfl, S, Reps.mk_ints ns⟩
    | i + 1 => simp [argEnv] at q
  · intro i j s t b q1 q2 o1
    match i with
    | 0 =>
      have q' : Slot.val (.scr (ns.map .int)) = s := by simpa [argEnv] using q1
      subst q'
      cases o1
    | i + 1 => simp [argEnv] at q1
  · rw [h]
    intro v H' F' g hl f r
    exact r
end
section
open PySem.W
/-- THE END: the goal that the kit's head leaves, from what the law's def computes -/
theorem walk_G {l : PySem.W.OpenLaw} {n k : Nat} {q : Program} {loose : List Str} {XP : (Str → Option Value) → Heap → Prop} {YP : World → Heap → Prop} {d : DefRec} {K : Params → PySem.W.Frag} {den : List D → DR} {x : Str}
    (hn : l.most = some n) (hn2 : n ≤ sizeLine) (hdf : d.params.defaults = []) (hr : Room k callerA) (hY : ∀ (w : World) (h : Heap), YP w h → (K w.params).In h)
    (F : ∀ (w : World) (mg : Str → Option Value) (fa : Addr) (h : Heap), (K w.params).In h → h.Ns mainGlobals mg → mg d.name = some (.ref fa) →
      ∃ fd : FuncData, (∀ (s : Shared) (u : Value), BindsTo s fd ⟨[u], []⟩ [(x, u)]) ∧ ∀ base : Heap, (K w.params).In base → base.Ns mainGlobals mg → FnG l.prog w (K w.params) mg base k fa fd [x] (spD (K w.params) [false] den))
    (law : ∀ ns : List Int, ns.length ≤ n → ∃ outs, den [.scr (ns.map .int)] = .ok (.val (.bl true)) outs) :
    PySem.W.WalkO q loose XP YP l.row.toRowW d [] (fun f vs => PySem.call f vs) := by
  refine Att.attach_call hn hdf ?_
  intro w s₀ s₁ mg mb fa o pm cd doc a vs ns G Y ho hd hcd hmg hobj hints hlen hg
  have inK := hY w _ Y
  obtain ⟨fd, hb, hF⟩ := F w mg fa _ inK G.T.g hmg
  exact head_G inK G.T.g G.T.b G.T.builtins G.T.nolimit hg hobj hints (Nat.le_trans hlen hn2) hr hF hb fun H on S => sp_of_den on S (law ns hlen)
end
end DL

/-! Operators, built-in calls, slices, subscripts by what they compute over plain data. -/
namespace DL
open PySem PySem.Spec L2

/-! ### data as the kit's data -/
mutual
def py : D → Option PyData
  | .non => some .none
  | .bl b => some (.bool b)
  | .int i => some (.int i)
  | .str x => some (.str x)
  | .tup xs => (pys xs).map .tuple
  | .lst xs => (pys xs).map .list
  | .scr xs => (pys xs).map .list
  | .dic _ _ => none
  | .raw _ => none
def pys : List D → Option (List PyData)
  | [] => some []
  | x :: xs => match py x, pys xs with
    | some p, some ps => some (p :: ps)
    | _, _ => none
end
section
variable {K : PySem.W.Frag} {F H : Hp}
mutual
theorem Rep.dp : ∀ (d : D) (v : V) (p : PyData), Rep K F d v → py d = some p → Dp K F v p
  | .non, _, _, h, e => by cases h; cases e; exact .non
  | .bl b, _, _, h, e => by cases h; cases e; exact .bl b
  | .int i, _, _, h, e => by cases h; cases e; exact .int i
  | .str x, _, _, h, e => by cases h; cases e; exact .str x
  | .dic _ _, _, _, h, e => by cases e
  | .raw _, _, _, h, e => by cases e
  | .tup xs, v, p, h, e => by
    obtain ⟨a, vs, rfl, q, r⟩ := h
    obtain ⟨ps, e1, rfl⟩ := Option.map_eq_some_iff.mp (show (pys xs).map PyData.tuple = some p from e)
    exact .tup q (Reps.dp xs vs ps r e1)
  | .lst xs, v, p, h, e => by
    obtain ⟨a, vs, rfl, q, r⟩ := h
    obtain ⟨ps, e1, rfl⟩ := Option.map_eq_some_iff.mp (show (pys xs).map PyData.list = some p from e)
    exact .lst (SqL.of q) (Reps.dp xs vs ps r e1)
  | .scr xs, v, p, h, e => by
    obtain ⟨a, vs, rfl, q, r⟩ := h
    obtain ⟨ps, e1, rfl⟩ := Option.map_eq_some_iff.mp (show (pys xs).map PyData.list = some p from e)
    exact .lst q (Reps.dp xs vs ps r e1)
theorem Reps.dp : ∀ (ds : List D) (vs : List V) (ps : List PyData), Reps K F ds vs → pys ds = some ps → DpAll K F vs ps
  | [], _, _, h, e => by cases h; cases e; exact .nil
  | d :: ds, _, ps, h, e => by
    obtain ⟨v, r, rfl, a, b⟩ := h
    have e' : (match py d, pys ds with | some p, some ps => some (p :: ps) | _, _ => none) = some ps := e
    cases e1 : py d with
    | none => rw [e1] at e'; cases e'
    | some p =>
      cases e2 : pys ds with
      | none => rw [e1, e2] at e'; cases e'
      | some qs =>
        rw [e1, e2] at e'
        cases e'
        exact .cons (Rep.dp d v p a e1) (Reps.dp ds r qs b e2)
end
theorem View.dp (s : Sub F H) : ∀ {d : D} {v : V} {p : PyData}, View K F H d v → py d = some p → Dp K H v p
  | .non, _, _, h, e => by cases h; cases e; exact .non
  | .bl b, _, _, h, e => by cases h; cases e; exact .bl b
  | .int i, _, _, h, e => by cases h; cases e; exact .int i
  | .str x, _, _, h, e => by cases h; cases e; exact .str x
  | .dic _ _, _, _, h, e => by cases e
  | .raw _, _, _, h, e => by cases e
  | .tup xs, v, p, h, e => by
    obtain ⟨a, vs, rfl, q, r⟩ := h
    obtain ⟨ps, e1, rfl⟩ := Option.map_eq_some_iff.mp (show (pys xs).map PyData.tuple = some p from e)
    exact .tup (s.sqT q) (Reps.dp xs vs ps (Reps.mono s _ _ r) e1)
  | .lst xs, v, p, h, e => by
    obtain ⟨a, vs, rfl, q, r⟩ := h
    obtain ⟨ps, e1, rfl⟩ := Option.map_eq_some_iff.mp (show (pys xs).map PyData.list = some p from e)
    exact .lst (SqL.of q) (Reps.dp xs vs ps (Reps.mono s _ _ r) e1)
  | .scr xs, v, p, h, e => by
    obtain ⟨a, vs, rfl, q, r⟩ := h
    obtain ⟨ps, e1, rfl⟩ := Option.map_eq_some_iff.mp (show (pys xs).map PyData.list = some p from e)
    exact .lst (s.sqL q) (Reps.dp xs vs ps (Reps.mono s _ _ r) e1)
end

/-! ### comparisons -/
section
variable {X : Cx} {W : WX} {a b : Expr} {op : CmpOp} {g ga gb : Ev} {pos : Pos}
theorem _root_.L2.PC.weak {X : Cx} {op : CmpOp} {a b : Expr} {t t' : TE} (h : PC X op a b t) (w : ∀ σ H Q, t' σ H Q → t σ H Q) : PC X op a b t' := ⟨fun pins s σ H Q I q => h.run pins s σ H Q I (w σ H Q q)⟩
theorem pc_opR {r : R2} {ta tb : TE} (ho : OpR X (compareOp op) r) (ha : PE X a ta) (hb : PE X b tb) : PC X op a b (tOp r ta tb) :=
  ⟨fun pins s σ H Q I h => binT ha hb I h fun v u s2 x y H2 I2 rx ry q => ho pins s2 σ H2 x y v u Q I2 rx ry q⟩
theorem cd_op {r : R2} {f : D → D → Option RV} (ho : OpR X (compareOp op) r) (o : Op2 X.K r f) (ha : PE X a (tE X.K W ga)) (hb : PE X b (tE X.K W gb)) : PC X op a b (tE X.K W (dOp2 f ga gb)) :=
  (pc_opR ho ha hb).weak fun _ _ _ h => ec_op2 o h
/-- of two rules the one that fits -/
theorem cd_or {f f1 f2 : D → D → Option RV} (h1 : PC X op a b (tE X.K W (dOp2 f1 ga gb))) (h2 : PC X op a b (tE X.K W (dOp2 f2 ga gb))) (hf : ∀ x y, f x y = f1 x y ∨ f x y = f2 x y) : PC X op a b (tE X.K W (dOp2 f ga gb)) := by
  refine ⟨fun pins s σ H Q I ⟨α, ρ, F, G, ft, h⟩ => ?_⟩
  have key : dOp2 f ga gb ρ = dOp2 f1 ga gb ρ ∨ dOp2 f ga gb ρ = dOp2 f2 ga gb ρ := by
    unfold dOp2
    cases (ga ρ).settle with
    | no => exact .inl rfl
    | ex x ρ1 => exact .inl rfl
    | ok r1 ρ1 =>
      show (gb ρ1).settle.bind _ = (gb ρ1).settle.bind _ ∨ (gb ρ1).settle.bind _ = (gb ρ1).settle.bind _
      cases (gb ρ1).settle with
      | no => exact .inl rfl
      | ex x ρ1 => exact .inl rfl
      | ok r2 ρ2 =>
        show (match peek r1 ρ2, peek r2 ρ2 with | some x, some y => ER.of (f x y) ρ2 | _, _ => ER.no) = (match peek r1 ρ2, peek r2 ρ2 with | some x, some y => ER.of (f1 x y) ρ2 | _, _ => ER.no) ∨ (match peek r1 ρ2, peek r2 ρ2 with | some x, some y => ER.of (f x y) ρ2 | _, _ => ER.no) = (match peek r1 ρ2, peek r2 ρ2 with | some x, some y => ER.of (f2 x y) ρ2 | _, _ => ER.no)
        cases peek r1 ρ2 with
        | none => exact .inl rfl
        | some x =>
          cases peek r2 ρ2 with
          | none => exact .inl rfl
          | some y =>
            rcases hf x y with e | e
            · left; simp only [e]
            · right; simp only [e]
  rcases key with e | e
  · exact h1.run pins s σ H Q I ⟨α, ρ, F, G, ft, e ▸ h⟩
  · exact h2.run pins s σ H Q I ⟨α, ρ, F, G, ft, e ▸ h⟩
/-- its value is a bool -/
def BoolF (f : D → D → Option RV) : Prop := ∀ x y z, f x y = some z → ∃ c, z = .val (.bl c)
def nmk (op : CmpOp) (b : Expr) : Prop := behindInMarks op b = false
theorem ed_ofC {g : Ev} (h : PC X op a b (tE X.K W g)) (hm : behindInMarks op b = false := by first | exact nomark _ | rfl) : PE X (.Compare a [op] [b] pos) (tE X.K W g) := pe_cmp h hm
theorem td_ofC {f : D → D → Option RV} (h : PC X op a b (tE X.K W (dOp2 f ga gb))) (hf : BoolF f) (hm : behindInMarks op b = false := by first | exact nomark _ | rfl) : PT X (.Compare a [op] [b] pos) (tT X.K W (dOp2 f ga gb)) := by
  refine (pt_cmp h hm).weak fun σ H Q ⟨α, ρ, F, G, ft, h⟩ => ⟨α, ρ, F, G, ft, ?_⟩
  have key : ∀ {e : ER}, (∀ r ρ', e = .ok r ρ' → ∃ c, r = .val (.bl c)) → BC X.K W α σ F G Q e → EC X.K W α σ F G (fun x H' => ∃ c, x = .bl c ∧ Q c H') e := by
    intro e he hb
    cases e with
    | no => exact hb
    | ex x ρ1 => exact hb
    | ok r ρ1 =>
      obtain ⟨c, rfl⟩ := he r ρ1 rfl
      exact fun v H1 F1 g1 f1 r1 => ⟨c, r1, hb H1 F1 g1 f1⟩
  refine key (fun r ρ' q => ?_) h
  unfold dOp2 at q
  cases e1 : (ga ρ).settle with
  | no => simp [e1, ER.bind] at q
  | ex x ρ1 => simp [e1, ER.bind] at q
  | ok r1 ρ1 =>
    simp only [e1, ER.bind] at q
    cases e2 : (gb ρ1).settle with
    | no => simp [e2] at q
    | ex x ρ1 => simp [e2] at q
    | ok r2 ρ2 =>
      simp only [e2] at q
      cases e3 : peek r1 ρ2 with
      | none => simp [e3] at q
      | some x =>
        cases e4 : peek r2 ρ2 with
        | none => simp [e3, e4] at q
        | some y =>
          simp only [e3, e4] at q
          cases e5 : f x y with
          | none => simp [e5, ER.of] at q
          | some z =>
            simp only [e5, ER.of] at q
            obtain ⟨c, hc⟩ := hf x y z e5
            cases q
            exact ⟨c, hc⟩
end

/-! ### int operators -/
def onInts (f : Int → Int → Option RV) : D → D → Option RV
  | .int i, .int j => f i j
  | _, _ => none
theorem onInts_some {f : Int → Int → Option RV} {d e : D} {z : RV} (h : onInts f d e = some z) : ∃ i j, d = .int i ∧ e = .int j ∧ f i j = some z := by
  unfold onInts at h
  split at h
  · exact ⟨_, _, rfl, rfl, h⟩
  · cases h
theorem o2_ints {K : PySem.W.Frag} {g : Int → Int → D} {v : Int → Int → V} (hv : ∀ F i j, Rep K F (g i j) (v i j)) : Op2 K (rI0 v) (onInts fun i j => some (.val (g i j))) := by
  intro F H d e x y z Q s a b h q
  obtain ⟨i, j, rfl, rfl, h⟩ := onInts_some h
  cases h
  cases a
  cases b
  exact ⟨i, j, rfl, rfl, q _ H F (Ext.refl s) (hv F i j)⟩
theorem o2_intsC {K : PySem.W.Frag} {C : Int → Int → Prop} [∀ i j, Decidable (C i j)] {g : Int → Int → D} {v : Int → Int → V} (hv : ∀ F i j, Rep K F (g i j) (v i j)) :
    Op2 K (rI C v) (onInts fun i j => if C i j then some (.val (g i j)) else none) := by
  intro F H d e x y z Q s a b h q
  obtain ⟨i, j, rfl, rfl, h'⟩ := onInts_some h
  have h2 : (if C i j then some (RV.val (g i j)) else none) = some z := h'
  clear h h'
  cases a
  cases b
  by_cases c : C i j
  · rw [if_pos c] at h2
    cases h2
    exact ⟨i, j, rfl, rfl, c, q _ H F (Ext.refl s) (hv F i j)⟩
  · rw [if_neg c] at h2
    cases h2
instance (i j : Int) : Decidable (CMul i j) := inferInstanceAs (Decidable ((-(2 ^ 64) < i ∧ i < 2 ^ 64) ∨ (-(2 ^ 64) < j ∧ j < 2 ^ 64)))
instance (i j : Int) : Decidable (CDiv i j) := inferInstanceAs (Decidable (0 < j ∧ j < 1073741824))
instance (i j : Int) : Decidable (CPow i j) := inferInstanceAs (Decidable (0 ≤ j ∧ j ≤ 1000000 ∧ i.natAbs < 2 ^ 64))
theorem Op2.or {K : PySem.W.Frag} {r r' : R2} {f f1 f2 : D → D → Option RV} (h1 : Op2 K r f1) (h2 : Op2 K r' f2) (hf : ∀ x y, f x y = f1 x y ∨ f x y = f2 x y) : Op2 K (fun x y H Q => r x y H Q ∨ r' x y H Q) f := by
  intro F H d e x y z Q s a b h q
  rcases hf d e with w | w
  · exact .inl (h1 F H d e x y z Q s a b (w ▸ h) q)
  · exact .inr (h2 F H d e x y z Q s a b (w ▸ h) q)
def opSub : D → D → Option RV := onInts fun i j => some (.val (.int (i - j)))
def opFdiv : D → D → Option RV := onInts fun i j => if CDiv i j then some (.val (.int (i / j))) else none
def opMod : D → D → Option RV := onInts fun i j => if 0 < j then some (.val (.int (i % j))) else none
def opPow : D → D → Option RV := onInts fun i j => if CPow i j then some (.val (.int (i ^ j.toNat))) else none
def opMulI : D → D → Option RV := onInts fun i j => if CMul i j then some (.val (.int (i * j))) else none
def opAddI : D → D → Option RV := onInts fun i j => some (.val (.int (i + j)))
def opLt : D → D → Option RV := onInts fun i j => some (.val (.bl (decide (i < j))))
def opLe : D → D → Option RV := onInts fun i j => some (.val (.bl (decide (i ≤ j))))
def opGt : D → D → Option RV := onInts fun i j => some (.val (.bl (decide (j < i))))
def opGe : D → D → Option RV := onInts fun i j => some (.val (.bl (decide (j ≤ i))))
section
variable {K : PySem.W.Frag}
theorem o_sub : Op2 K (rI0 fun i j => .int (i - j)) opSub := o2_ints fun _ _ _ => rfl
theorem o_addI : Op2 K (rI0 fun i j => .int (i + j)) opAddI := o2_ints fun _ _ _ => rfl
theorem o_mulI : Op2 K (rI CMul fun i j => .int (i * j)) opMulI := o2_intsC (C := CMul) fun _ _ _ => rfl
theorem o_fdiv : Op2 K (rI CDiv fun i j => .int (i / j)) opFdiv := o2_intsC (C := CDiv) fun _ _ _ => rfl
theorem o_mod : Op2 K (rI (fun _ j => 0 < j) fun i j => .int (i % j)) opMod := o2_intsC (C := fun _ j => 0 < j) fun _ _ _ => rfl
theorem o_pow : Op2 K (rI CPow fun i j => .int (i ^ j.toNat)) opPow := o2_intsC (C := CPow) fun _ _ _ => rfl
theorem o_lt : Op2 K (rI0 fun i j => .bl (decide (i < j))) opLt := o2_ints fun _ _ _ => rfl
theorem o_le : Op2 K (rI0 fun i j => .bl (decide (i ≤ j))) opLe := o2_ints fun _ _ _ => rfl
theorem o_gt : Op2 K (rI0 fun i j => .bl (decide (j < i))) opGt := o2_ints fun _ _ _ => rfl
theorem o_ge : Op2 K (rI0 fun i j => .bl (decide (j ≤ i))) opGe := o2_ints fun _ _ _ => rfl
theorem bf_ints {g : Int → Int → Bool} : BoolF (onInts fun i j => some (.val (.bl (g i j)))) := fun x y z h => by
  obtain ⟨i, j, rfl, rfl, h⟩ := onInts_some h
  cases h
  exact ⟨_, rfl⟩
end
/-! ### + -/
def opAddS : D → D → Option RV
  | .str a, .str b => if a.length + b.length ≤ sizeLine then some (.val (.str (a ++ b))) else none
  | _, _ => none
def opAddT : D → D → Option RV
  | .tup xs, .tup ys => if xs.length + ys.length ≤ sizeLine then some (.val (.tup (xs ++ ys))) else none
  | _, _ => none
def opAddL : D → D → Option RV
  | .lst xs, .lst ys => if xs.length + ys.length ≤ sizeLine then some (.new (.lst (xs ++ ys))) else none
  | _, _ => none
def opAdd : D → D → Option RV
  | .int i, .int j => some (.val (.int (i + j)))
  | .str a, .str b => if a.length + b.length ≤ sizeLine then some (.val (.str (a ++ b))) else none
  | .tup xs, .tup ys => if xs.length + ys.length ≤ sizeLine then some (.val (.tup (xs ++ ys))) else none
  | .lst xs, .lst ys => if xs.length + ys.length ≤ sizeLine then some (.new (.lst (xs ++ ys))) else none
  | _, _ => none
section
variable {K : PySem.W.Frag}
theorem o_addS : Op2 K (fun x y H Q => ∃ i j, x = .str i ∧ y = .str j ∧ i.length + j.length ≤ sizeLine ∧ Q (.str (i ++ j)) H) opAddS := by
  intro F H d e x y z Q s a b h q
  unfold opAddS at h
  split at h
  · split at h
    · cases h
      cases a
      cases b
      exact ⟨_, _, rfl, rfl, by assumption, q _ H F (Ext.refl s) rfl⟩
    · cases h
  · cases h
theorem o_addT : Op2 K (rCatA K) opAddT := by
  intro F H d e x y z Q s a b h q
  unfold opAddT at h
  split at h
  · rename_i xs ys
    split at h
    · rename_i hl
      cases h
      obtain ⟨p, vs, rfl, q1, r1⟩ := a
      obtain ⟨p2, ws, rfl, q2, r2⟩ := b
      refine ⟨p, p2, vs, ws, rfl, rfl, s.sqT q1, s.sqT q2, by rw [r1.length, r2.length]; exact hl, fun e1 => ?_, fun _ e2 => ?_, fun _ _ pp hp => ?_⟩
      · -- nothing ahead
        have : xs = [] := by
          have := r1.length
          rw [e1] at this
          exact List.length_eq_zero_iff.mp this.symm
        subst this
        exact q _ H F (Ext.refl s) ⟨p2, ws, rfl, q2, r2⟩
      · have : ys = [] := by
          have := r2.length
          rw [e2] at this
          exact List.length_eq_zero_iff.mp this.symm
        subst this
        exact q _ H F (Ext.refl s) ⟨p, vs, rfl, q1, by rw [List.append_nil]; exact r1⟩
      · refine q _ _ _ (Ext.alloc s hp) ⟨pp, _, rfl, SqT.of upd_same, ?_⟩
        exact Reps.mono (Sub.upd_none (s.free hp)) _ _ (r1.append r2)
    · cases h
  · cases h
theorem o_addL : Op2 K rCat opAddL := by
  intro F H d e x y z Q s a b h q
  unfold opAddL at h
  split at h
  · rename_i xs ys
    split at h
    · rename_i hl
      cases h
      obtain ⟨p, vs, rfl, q1, r1⟩ := a
      obtain ⟨p2, ws, rfl, q2, r2⟩ := b
      refine ⟨p, p2, vs, ws, rfl, rfl, q1, q2, by rw [r1.length, r2.length]; exact hl, fun pp hp => ?_⟩
      exact q _ _ _ (Ext.allocO s hp) ⟨pp, rfl, hp, s.free hp, _, upd_same, r1.append r2⟩
    · cases h
  · cases h
/-- the reading of + -/
abbrev rAdd (K : PySem.W.Frag) : R2 := fun x y H Q => rI0 (fun i j => .int (i + j)) x y H Q ∨ (∃ i j, x = .str i ∧ y = .str j ∧ i.length + j.length ≤ sizeLine ∧ Q (.str (i ++ j)) H) ∨ rCatA K x y H Q ∨ rCat x y H Q
theorem opAdd_or (x y : D) : opAdd x y = opAddI x y ∨ opAdd x y = opAddS x y ∨ opAdd x y = opAddT x y ∨ opAdd x y = opAddL x y := by
  unfold opAdd
  split
  · exact .inl rfl
  · exact .inr (.inl rfl)
  · exact .inr (.inr (.inl rfl))
  · exact .inr (.inr (.inr rfl))
  · left
    unfold opAddI onInts
    split
    · rename_i h _ _ _ _ _
      rename_i i j hi
      first
        | exact absurd rfl (hi _ _ rfl)
        | simp_all
    · rfl
theorem o_add : Op2 K (rAdd K) opAdd := by
  intro F H d e x y z Q s a b h q
  rcases opAdd_or d e with w | w | w | w
  · exact .inl (o_addI F H d e x y z Q s a b (w ▸ h) q)
  · exact .inr (.inl (o_addS F H d e x y z Q s a b (w ▸ h) q))
  · exact .inr (.inr (.inl (o_addT F H d e x y z Q s a b (w ▸ h) q)))
  · exact .inr (.inr (.inr (o_addL F H d e x y z Q s a b (w ▸ h) q)))
end
section
variable {X : Cx} {W : WX} {a b : Expr} {g ga gb gc : Ev} {gs : Av} {pos p : Pos}
theorem op_addA : OpR X (binaryOp .Add) (rAdd X.K) := op_add.or (op_add_str.or (op_catA.or op_cat))
theorem ed_add (ha : PE X a (tE X.K W ga)) (hb : PE X b (tE X.K W gb)) : PE X (.BinOp a .Add b pos) (tE X.K W (dOp2 opAdd ga gb)) := ed_bin op_addA o_add ha hb
theorem ed_sub (ha : PE X a (tE X.K W ga)) (hb : PE X b (tE X.K W gb)) : PE X (.BinOp a .Sub b pos) (tE X.K W (dOp2 opSub ga gb)) := ed_bin op_sub o_sub ha hb
theorem ed_fdiv (ha : PE X a (tE X.K W ga)) (hb : PE X b (tE X.K W gb)) : PE X (.BinOp a .FloorDiv b pos) (tE X.K W (dOp2 opFdiv ga gb)) := ed_bin op_fdiv o_fdiv ha hb
theorem ed_mod (ha : PE X a (tE X.K W ga)) (hb : PE X b (tE X.K W gb)) : PE X (.BinOp a .Mod b pos) (tE X.K W (dOp2 opMod ga gb)) := ed_bin op_mod o_mod ha hb
theorem ed_pow (ha : PE X a (tE X.K W ga)) (hb : PE X b (tE X.K W gb)) : PE X (.BinOp a .Pow b pos) (tE X.K W (dOp2 opPow ga gb)) := ed_bin op_pow o_pow ha hb
/-! ### * -/
def opRepL : D → D → Option RV
  | .lst xs, .int k => if -(2 ^ 63) ≤ k ∧ k < 2 ^ 63 ∧ xs.length * k.toNat ≤ sizeLine then some (.new (.lst (List.replicate k.toNat xs).flatten)) else none
  | _, _ => none
def opRepT : D → D → Option RV
  | .tup xs, .int k => if xs ≠ [] ∧ 2 ≤ k ∧ k ≤ 1000 ∧ xs.length ≤ 1000 then some (.val (.tup (List.replicate k.toNat xs).flatten)) else none
  | _, _ => none
def opMul : D → D → Option RV
  | .int i, .int j => if CMul i j then some (.val (.int (i * j))) else none
  | .lst xs, .int k => if -(2 ^ 63) ≤ k ∧ k < 2 ^ 63 ∧ xs.length * k.toNat ≤ sizeLine then some (.new (.lst (List.replicate k.toNat xs).flatten)) else none
  | .tup xs, .int k => if xs ≠ [] ∧ 2 ≤ k ∧ k ≤ 1000 ∧ xs.length ≤ 1000 then some (.val (.tup (List.replicate k.toNat xs).flatten)) else none
  | _, _ => none
theorem Reps.rep {K : PySem.W.Frag} {F : Hp} {ds : List D} {vs : List V} (r : Reps K F ds vs) : ∀ n : Nat, Reps K F (List.replicate n ds).flatten (List.replicate n vs).flatten
  | 0 => .nil
  | n + 1 => by
    rw [List.replicate_succ, List.replicate_succ, List.flatten_cons, List.flatten_cons]
    exact r.append (Reps.rep r n)
end
end DL

/-! * , ==, in, subscripts, slices, built-in calls. -/
namespace DL
open PySem PySem.Spec L2
section
variable {K : PySem.W.Frag}
theorem o_repL : Op2 K rRep opRepL := by
  intro F H d e x y z Q s a b h q
  unfold opRepL at h
  split at h
  · rename_i xs k
    split at h
    · rename_i hl
      cases h
      obtain ⟨p, vs, rfl, q1, r1⟩ := a
      cases b
      refine ⟨p, k, vs, rfl, rfl, q1, hl.1, hl.2.1, by rw [r1.length]; exact hl.2.2, fun pp hp => ?_⟩
      exact q _ _ _ (Ext.allocO s hp) ⟨pp, rfl, hp, s.free hp, _, upd_same, r1.rep _⟩
    · cases h
  · cases h
theorem o_repT : Op2 K (rRepT K) opRepT := by
  intro F H d e x y z Q s a b h q
  unfold opRepT at h
  split at h
  · rename_i xs k
    split at h
    · rename_i hl
      cases h
      obtain ⟨p, vs, rfl, q1, r1⟩ := a
      cases b
      have ne : vs ≠ [] := fun e => by
        have := r1.length
        rw [e] at this
        exact hl.1 (List.length_eq_zero_iff.mp this.symm)
      refine ⟨p, k, vs, rfl, rfl, s.sqT q1, ne, hl.2.1, hl.2.2.1, by rw [r1.length]; exact hl.2.2.2, fun pp hp => ?_⟩
      refine q _ _ _ (Ext.alloc s hp) ⟨pp, _, rfl, SqT.of upd_same, ?_⟩
      exact Reps.mono (Sub.upd_none (s.free hp)) _ _ (r1.rep _)
    · cases h
  · cases h
abbrev rMul (K : PySem.W.Frag) : R2 := fun x y H Q => rI CMul (fun i j => .int (i * j)) x y H Q ∨ rRep x y H Q ∨ rRepT K x y H Q
theorem opMul_or (x y : D) : opMul x y = opMulI x y ∨ opMul x y = opRepL x y ∨ opMul x y = opRepT x y := by
  unfold opMul
  split
  · exact .inl rfl
  · exact .inr (.inl rfl)
  · exact .inr (.inr rfl)
  · left
    unfold opMulI onInts
    split
    · rename_i i j hi _ _
      exact absurd rfl (hi _ _ rfl)
    · rfl
theorem o_mul : Op2 K (rMul K) opMul := by
  intro F H d e x y z Q s a b h q
  rcases opMul_or d e with w | w | w
  · exact .inl (o_mulI F H d e x y z Q s a b (w ▸ h) q)
  · exact .inr (.inl (o_repL F H d e x y z Q s a b (w ▸ h) q))
  · exact .inr (.inr (o_repT F H d e x y z Q s a b (w ▸ h) q))
/-! ### == != -/
/-- by the kit's data -/
def eqDeep (d e : D) : Option Bool := match py d, py e with
  | some p, some q => if SeqAt.shaped p = true ∧ SeqAt.shaped q = true then some (PyData.eqv p q) else none
  | _, _ => none
def eqD (d e : D) : Option Bool := match d, e with
  | .int i, .int j => some (decide (i = j))
  | .str a, .str b => some (decide (a = b))
  | .bl a, .bl b => some (decide (a = b))
  | d, e => eqDeep d e
def opEq (d e : D) : Option RV := (eqD d e).map fun b => .val (.bl b)
def opNe (d e : D) : Option RV := (eqD d e).map fun b => .val (.bl (!b))
theorem eqDeep_some {d e : D} {b : Bool} (h : eqDeep d e = some b) : ∃ p q, py d = some p ∧ py e = some q ∧ SeqAt.shaped p = true ∧ SeqAt.shaped q = true ∧ b = PyData.eqv p q := by
  unfold eqDeep at h
  split at h
  · split at h
    · rename_i hs
      cases h
      exact ⟨_, _, by assumption, by assumption, hs.1, hs.2, rfl⟩
    · cases h
  · cases h
abbrev rEqA (K : PySem.W.Frag) : R2 := fun x y H Q => rEq x y H Q ∨ rEqD K x y H Q
abbrev rNeA (K : PySem.W.Frag) : R2 := fun x y H Q => rNe x y H Q ∨ rNeD K x y H Q
theorem eqD_sound {F H : Hp} {d e : D} {x y : V} {b : Bool} {Q : VK} (s : Sub F H) (a : View K F H d x) (c : View K F H e y) (h : eqD d e = some b) : (Q (.bl b) H → rEqA K x y H Q) ∧ (Q (.bl (!b)) H → rNeA K x y H Q) := by
  have deep : eqDeep d e = some b → (Q (.bl b) H → rEqA K x y H Q) ∧ (Q (.bl (!b)) H → rNeA K x y H Q) := fun h => by
    obtain ⟨p, q, e1, e2, h1, h2, rfl⟩ := eqDeep_some h
    exact ⟨fun z => .inr ⟨p, q, a.dp s e1, c.dp s e2, h1, h2, z⟩, fun z => .inr ⟨p, q, a.dp s e1, c.dp s e2, h1, h2, z⟩⟩
  unfold eqD at h
  split at h
  · cases h
    cases a
    cases c
    exact ⟨fun q => .inl ⟨rfl, by simpa using q⟩, fun q => .inl ⟨rfl, by simpa using q⟩⟩
  · cases h
    cases a
    cases c
    exact ⟨fun q => .inl ⟨rfl, by simpa using q⟩, fun q => .inl ⟨rfl, by simpa using q⟩⟩
  · cases h
    cases a
    cases c
    exact ⟨fun q => .inl ⟨rfl, by simpa using q⟩, fun q => .inl ⟨rfl, by simpa using q⟩⟩
  · exact deep h
theorem o_eq : Op2 K (rEqA K) opEq := by
  intro F H d e x y z Q s a b h q
  obtain ⟨c, hc, rfl⟩ := Option.map_eq_some_iff.mp (show (eqD d e).map (fun b => RV.val (.bl b)) = some z from h)
  exact (eqD_sound s a b hc).1 (q _ H F (Ext.refl s) rfl)
theorem o_ne : Op2 K (rNeA K) opNe := by
  intro F H d e x y z Q s a b h q
  obtain ⟨c, hc, rfl⟩ := Option.map_eq_some_iff.mp (show (eqD d e).map (fun b => RV.val (.bl (!b))) = some z from h)
  exact (eqD_sound s a b hc).2 (q _ H F (Ext.refl s) rfl)
theorem bf_eq : BoolF opEq := fun x y z h => by
  obtain ⟨c, hc, rfl⟩ := Option.map_eq_some_iff.mp (show (eqD x y).map (fun b => RV.val (.bl b)) = some z from h)
  exact ⟨_, rfl⟩
theorem bf_ne : BoolF opNe := fun x y z h => by
  obtain ⟨c, hc, rfl⟩ := Option.map_eq_some_iff.mp (show (eqD x y).map (fun b => RV.val (.bl (!b))) = some z from h)
  exact ⟨_, rfl⟩
theorem bf_lt : BoolF opLt := bf_ints
theorem bf_le : BoolF opLe := bf_ints
theorem bf_gt : BoolF opGt := bf_ints
theorem bf_ge : BoolF opGe := bf_ints
end
section
variable {X : Cx} {W : WX} {a b : Expr} {op : CmpOp} {g ga gb gc : Ev} {gs : Av} {pos p : Pos}
theorem op_mulA : OpR X (binaryOp .Mult) (rMul X.K) := op_mul.or (op_rep.or op_repT)
theorem ed_mul (ha : PE X a (tE X.K W ga)) (hb : PE X b (tE X.K W gb)) : PE X (.BinOp a .Mult b pos) (tE X.K W (dOp2 opMul ga gb)) := ed_bin op_mulA o_mul ha hb
theorem cd_lt (ha : PE X a (tE X.K W ga)) (hb : PE X b (tE X.K W gb)) : PC X .Lt a b (tE X.K W (dOp2 opLt ga gb)) := cd_op op_lt o_lt ha hb
theorem cd_le (ha : PE X a (tE X.K W ga)) (hb : PE X b (tE X.K W gb)) : PC X .LtE a b (tE X.K W (dOp2 opLe ga gb)) := cd_op op_le o_le ha hb
theorem cd_gt (ha : PE X a (tE X.K W ga)) (hb : PE X b (tE X.K W gb)) : PC X .Gt a b (tE X.K W (dOp2 opGt ga gb)) := cd_op op_gt o_gt ha hb
theorem cd_ge (ha : PE X a (tE X.K W ga)) (hb : PE X b (tE X.K W gb)) : PC X .GtE a b (tE X.K W (dOp2 opGe ga gb)) := cd_op op_ge o_ge ha hb
theorem u64 {k : Nat} (hr : RoomG k X.A) : X.A.units + 64 < cLine := hr.room.units
theorem u65 {k : Nat} (hr : RoomG k X.A) : X.A.units + 65 < cLine := by have := hr.room.un; omega
theorem u1 {k : Nat} (hr : RoomG k X.A) : X.A.units + 1 < cLine := by have := hr.room.un; omega
theorem cd_eq {k : Nat} (hr : RoomG k X.A) (ha : PE X a (tE X.K W ga)) (hb : PE X b (tE X.K W gb)) : PC X .Eq a b (tE X.K W (dOp2 opEq ga gb)) := cd_op (op_eq.or (op_eqD (u64 hr))) o_eq ha hb
theorem cd_ne {k : Nat} (hr : RoomG k X.A) (ha : PE X a (tE X.K W ga)) (hb : PE X b (tE X.K W gb)) : PC X .NotEq a b (tE X.K W (dOp2 opNe ga gb)) := cd_op (op_ne.or (op_neD (u64 hr))) o_ne ha hb
end

/-! ### in -/
def rInDT (K : PySem.W.Frag) : R2 := fun x y H Q => ∃ d ds, Dp K H x d ∧ Dp K H y (.tuple ds) ∧ SeqAt.shaped d = true ∧ SeqAt.shaped (.tuple ds) = true ∧ Q (.bl (ds.any fun z => PyData.eqv z d)) H
def rNotInDT (K : PySem.W.Frag) : R2 := fun x y H Q => ∃ d ds, Dp K H x d ∧ Dp K H y (.tuple ds) ∧ SeqAt.shaped d = true ∧ SeqAt.shaped (.tuple ds) = true ∧ Q (.bl (!ds.any fun z => PyData.eqv z d)) H
theorem room_inT {A : Around} {d : PyData} {n : Nat} (h : SeqAt.shaped d = true) (hu : A.units + 65 < cLine) : A.units + 1 + min n d.depth < cLine := by
  have h1 := SeqAt.depth_of_shaped h
  have h2 : min n d.depth ≤ d.depth := Nat.min_le_right _ _
  omega
section
variable {X : Cx}
theorem op_inDT (hu : X.A.units + 65 < cLine) : OpR X (compareOp .In) (rInDT X.K) := by
  rintro pins s σ H x y v u Q I rx ry ⟨d, ds, hd, he, sd, se, q⟩
  obtain ⟨as, r1⟩ := Dp.reads I d x v hd rx
  obtain ⟨bs, r2⟩ := Dp.reads I (.tuple ds) y u he ry
  exact SeqAt.in_tuple_reads r2 r1 (SeqAt.canLay_of_shaped se) (SeqAt.canLay_of_shaped sd) (room_inT sd hu) ⟨.bl _, H, I, rfl, q⟩
theorem op_notInDT (hu : X.A.units + 65 < cLine) : OpR X (compareOp .NotIn) (rNotInDT X.K) := by
  rintro pins s σ H x y v u Q I rx ry ⟨d, ds, hd, he, sd, se, q⟩
  obtain ⟨as, r1⟩ := Dp.reads I d x v hd rx
  obtain ⟨bs, r2⟩ := Dp.reads I (.tuple ds) y u he ry
  exact SeqAt.notIn_tuple_reads r2 r1 (SeqAt.canLay_of_shaped se) (SeqAt.canLay_of_shaped sd) (room_inT sd hu) ⟨.bl _, H, I, rfl, q⟩
end
/-- a text in a text: of one sign by its place in the list -/
def inStr (x z : Str) : Bool := match x.cps.toList with
  | [c] => decide (c ∈ z.cps.toList)
  | _ => !(Builtin.Str.occurrences z x 0 z.length 1).isEmpty
def keyOf : D → Option Key
  | .int i => some (.inl i)
  | .str x => some (.inr x)
  | _ => none
/-- is d among the items -/
def among (d : D) (xs : List D) (mk : List PyData → PyData) : Option Bool := match py d, pys xs with
  | some p, some ps => if SeqAt.shaped p = true ∧ SeqAt.shaped (mk ps) = true then some (ps.any fun z => PyData.eqv z p) else none
  | _, _ => none
def hasKey (ks : List Key) (k : Key) : Bool := ks.any fun k' => decide (k' = k)
def memD (x y : D) : Option Bool := match y with
  | .str z => match x with
    | .str w => some (inStr w z)
    | _ => none
  | .lst ys => among x ys .list
  | .scr ys => among x ys .list
  | .tup ys => among x ys .tuple
  | .dic ks _ => match keyOf x with
    | some k => some (hasKey ks k)
    | none => none
  | _ => none
def isDic : D → Bool
  | .dic _ _ => true
  | _ => false
def opIn (x y : D) : Option RV := (memD x y).map fun b => .val (.bl b)
def opNotIn (x y : D) : Option RV := (memD x y).map fun b => .val (.bl (!b))
def opInK (x y : D) : Option RV := if isDic y then (memD x y).map fun b => .val (.bl b) else none
def opNotInK (x y : D) : Option RV := if isDic y then (memD x y).map fun b => .val (.bl (!b)) else none
def opInS (x y : D) : Option RV := if isDic y then none else (memD x y).map fun b => .val (.bl b)
def opNotInS (x y : D) : Option RV := if isDic y then none else (memD x y).map fun b => .val (.bl (!b))

def dGet : List Key → List D → Key → Option D
  | k' :: ks, x :: xs, k => if k' = k then some x else dGet ks xs k
  | _, _, _ => none
theorem dGet_rep {K : PySem.W.Frag} {F : Hp} {k : Key} : ∀ {ks : List Key} {xs : List D} {vs : List V}, Reps K F xs vs → ks.length = xs.length →
    (∀ d, dGet ks xs k = some d → ∃ v, valV (ks.zip vs) k = some v ∧ Rep K F d v) ∧ (dGet ks xs k = none → valV (ks.zip vs) k = none) ∧ (valV (ks.zip vs) k).isSome = hasKey ks k
  | [], [], vs, r, l => by cases r; exact ⟨fun d e => by simp [dGet] at e, fun _ => rfl, by simp [valV_nil, hasKey]⟩
  | [], _ :: _, _, _, l => by simp at l
  | _ :: _, [], _, _, l => by simp at l
  | k' :: ks, x :: xs, _, r, l => by
    obtain ⟨v, t, rfl, a, b⟩ := r
    obtain ⟨i1, i2, i3⟩ := dGet_rep (k := k) b (by simpa using l)
    by_cases e : k' = k
    · subst e
      refine ⟨fun d h => ?_, fun h => ?_, ?_⟩
      · simp [dGet] at h
        subst h
        exact ⟨v, valV_pos rfl, a⟩
      · simp [dGet] at h
      · rw [List.zip_cons_cons, valV_pos rfl]
        simp [hasKey]
    · refine ⟨fun d h => ?_, fun h => ?_, ?_⟩
      · rw [List.zip_cons_cons, valV_neg e]
        exact i1 d (by simpa [dGet, e] using h)
      · rw [List.zip_cons_cons, valV_neg e]
        exact i2 (by simpa [dGet, e] using h)
      · rw [List.zip_cons_cons, valV_neg e, i3]
        simp [hasKey, e]
theorem key_rep {K : PySem.W.Frag} {F : Hp} {d : D} {v : V} {k : Key} (r : Rep K F d v) (e : keyOf d = some k) : v = kV k := by
  cases d with
  | int i => cases e; exact r
  | str x => cases e; exact r
  | _ => cases e
theorem view_flat {K : PySem.W.Frag} {F H : Hp} {d : D} {v : V} {k : Key} (r : View K F H d v) (e : keyOf d = some k) : v = kV k := by
  cases d with
  | int i => cases e; exact r
  | str x => cases e; exact r
  | _ => cases e
def rDIn (neg : Bool) : R2 := fun y x H Q => ∃ a o, x = .ref a ∧ DGet H a y o ∧ Q (.bl (if neg then !o.isSome else o.isSome)) H
section
variable {K : PySem.W.Frag}
theorem memDic {F H : Hp} {d e : D} {x y : V} {b : Bool} (s : Sub F H) (a : View K F H d x) (c : View K F H e y) (hd : isDic e = true) (h : memD d e = some b) : ∃ p o, y = .ref p ∧ DGet H p x o ∧ o.isSome = b := by
  cases e with
  | dic ks xs =>
    have h' : (match keyOf d with | some k => some (hasKey ks k) | none => none) = some b := h
    cases ek : keyOf d with
    | none => rw [ek] at h'; cases h'
    | some k =>
      rw [ek] at h'
      cases h'
      obtain ⟨p, vs, rfl, q, l, nd, r⟩ := c
      have ex := view_flat a ek
      subst ex
      exact ⟨p, _, rfl, .inl ⟨_, k, q, rfl, rfl⟩, (dGet_rep r l).2.2⟩
  | _ => cases hd
theorem o_inK : Op2 K (rDIn false) opInK := by
  intro F H d e x y z Q s a b h q
  unfold opInK at h
  split at h
  · rename_i hd
    obtain ⟨c, hm, rfl⟩ := Option.map_eq_some_iff.mp h
    obtain ⟨p, o, rfl, g, rfl⟩ := memDic s a b hd hm
    exact ⟨p, o, rfl, g, q _ H F (Ext.refl s) rfl⟩
  · cases h
theorem o_notInK : Op2 K (rDIn true) opNotInK := by
  intro F H d e x y z Q s a b h q
  unfold opNotInK at h
  split at h
  · rename_i hd
    obtain ⟨c, hm, rfl⟩ := Option.map_eq_some_iff.mp h
    obtain ⟨p, o, rfl, g, rfl⟩ := memDic s a b hd hm
    exact ⟨p, o, rfl, g, q _ H F (Ext.refl s) rfl⟩
  · cases h
abbrev rInA (K : PySem.W.Frag) : R2 := fun x y H Q => (∃ (c : Nat) (z : Str), x = .str ⟨#[c]⟩ ∧ y = .str z ∧ Q (.bl (decide (c ∈ z.cps.toList))) H) ∨ (∃ i j, x = .str i ∧ y = .str j ∧ Q (.bl (!(Builtin.Str.occurrences j i 0 j.length 1).isEmpty)) H) ∨ rInD K x y H Q ∨ rInDT K x y H Q
abbrev rNotInA (K : PySem.W.Frag) : R2 := fun x y H Q => (∃ (c : Nat) (z : Str), x = .str ⟨#[c]⟩ ∧ y = .str z ∧ Q (.bl (!decide (c ∈ z.cps.toList))) H) ∨ (∃ i j, x = .str i ∧ y = .str j ∧ Q (.bl (!(!(Builtin.Str.occurrences j i 0 j.length 1).isEmpty))) H) ∨ rNotInD K x y H Q ∨ rNotInDT K x y H Q
theorem one_sign {x : Str} {c : Nat} (h : x.cps.toList = [c]) : x = ⟨#[c]⟩ := by
  obtain ⟨cps⟩ := x
  have : cps = #[c] := Array.toList_inj.mp h
  rw [this]
theorem among_some {d : D} {xs : List D} {mk : List PyData → PyData} {b : Bool} (h : among d xs mk = some b) : ∃ p ps, py d = some p ∧ pys xs = some ps ∧ SeqAt.shaped p = true ∧ SeqAt.shaped (mk ps) = true ∧ b = ps.any fun z => PyData.eqv z p := by
  unfold among at h
  split at h
  · split at h
    · rename_i hs
      cases h
      exact ⟨_, _, by assumption, by assumption, hs.1, hs.2, rfl⟩
    · cases h
  · cases h
theorem memSeq {F H : Hp} {d e : D} {x y : V} {b : Bool} {Q : VK} (s : Sub F H) (a : View K F H d x) (c : View K F H e y) (hd : isDic e = false) (h : memD d e = some b) : (Q (.bl b) H → rInA K x y H Q) ∧ (Q (.bl (!b)) H → rNotInA K x y H Q) := by
  cases e with
  | str z =>
    cases c
    cases d with
    | str w =>
      cases a
      have h' : some (inStr w z) = some b := h
      cases h'
      unfold inStr
      split
      · rename_i c hc
        have := one_sign hc
        subst this
        exact ⟨fun q => .inl ⟨c, z, rfl, rfl, q⟩, fun q => .inl ⟨c, z, rfl, rfl, q⟩⟩
      · exact ⟨fun q => .inr (.inl ⟨w, z, rfl, rfl, q⟩), fun q => .inr (.inl ⟨w, z, rfl, rfl, q⟩)⟩
    | _ => cases h
  | lst ys =>
    obtain ⟨p, ps, e1, e2, h1, h2, rfl⟩ := among_some (show among d ys .list = some b from h)
    have hy : Dp K H y (.list ps) := c.dp s (show (pys ys).map PyData.list = _ by rw [e2]; rfl)
    exact ⟨fun q => .inr (.inr (.inl ⟨p, ps, a.dp s e1, hy, h1, h2, q⟩)), fun q => .inr (.inr (.inl ⟨p, ps, a.dp s e1, hy, h1, h2, q⟩))⟩
  | scr ys =>
    obtain ⟨p, ps, e1, e2, h1, h2, rfl⟩ := among_some (show among d ys .list = some b from h)
    have hy : Dp K H y (.list ps) := c.dp s (show (pys ys).map PyData.list = _ by rw [e2]; rfl)
    exact ⟨fun q => .inr (.inr (.inl ⟨p, ps, a.dp s e1, hy, h1, h2, q⟩)), fun q => .inr (.inr (.inl ⟨p, ps, a.dp s e1, hy, h1, h2, q⟩))⟩
  | tup ys =>
    obtain ⟨p, ps, e1, e2, h1, h2, rfl⟩ := among_some (show among d ys .tuple = some b from h)
    have hy : Dp K H y (.tuple ps) := c.dp s (show (pys ys).map PyData.tuple = _ by rw [e2]; rfl)
    exact ⟨fun q => .inr (.inr (.inr ⟨p, ps, a.dp s e1, hy, h1, h2, q⟩)), fun q => .inr (.inr (.inr ⟨p, ps, a.dp s e1, hy, h1, h2, q⟩))⟩
  | dic ks xs => cases hd
  | _ => cases h
theorem o_inS : Op2 K (rInA K) opInS := by
  intro F H d e x y z Q s a b h q
  unfold opInS at h
  split at h
  · cases h
  · rename_i hd
    obtain ⟨c, hm, rfl⟩ := Option.map_eq_some_iff.mp h
    exact (memSeq s a b (by simpa using hd) hm).1 (q _ H F (Ext.refl s) rfl)
theorem o_notInS : Op2 K (rNotInA K) opNotInS := by
  intro F H d e x y z Q s a b h q
  unfold opNotInS at h
  split at h
  · cases h
  · rename_i hd
    obtain ⟨c, hm, rfl⟩ := Option.map_eq_some_iff.mp h
    exact (memSeq s a b (by simpa using hd) hm).2 (q _ H F (Ext.refl s) rfl)
theorem bf_map {g : D → D → Option Bool} {n : Bool → Bool} : BoolF fun x y => (g x y).map fun b => .val (.bl (n b)) := fun x y z h => by
  obtain ⟨c, _, rfl⟩ := Option.map_eq_some_iff.mp h
  exact ⟨_, rfl⟩
theorem bf_in : BoolF opIn := bf_map (n := id)
theorem bf_notIn : BoolF opNotIn := bf_map (n := not)
end
section
variable {X : Cx} {W : WX} {a b : Expr} {g ga gb gc : Ev} {gs : Av} {pos p : Pos} {k : Nat}
theorem op_inAll (hr : RoomG k X.A) : OpR X (compareOp .In) (rInA X.K) := op_in_sign.or (op_in_str.or ((op_inD (u65 hr)).or (op_inDT (u65 hr))))
theorem op_notInAll (hr : RoomG k X.A) : OpR X (compareOp .NotIn) (rNotInA X.K) := op_notIn_sign.or (op_notIn_str.or ((op_notInD (u65 hr)).or (op_notInDT (u65 hr))))
theorem cd_in (hr : RoomG k X.A) (ha : PE X a (tE X.K W ga)) (hb : PE X b (tE X.K W gb)) : PC X .In a b (tE X.K W (dOp2 opIn ga gb)) := by
  refine cd_or (f1 := opInS) (f2 := opInK) (cd_op (op_inAll hr) o_inS ha hb) ?_ fun x y => ?_
  · exact (pc_din (u1 hr) ha hb).weak fun σ H Q h => by
      have := ec_op2 o_inK h
      exact this
  · unfold opIn opInS opInK
    cases isDic y
    · exact .inl rfl
    · exact .inr rfl
theorem cd_notIn (hr : RoomG k X.A) (ha : PE X a (tE X.K W ga)) (hb : PE X b (tE X.K W gb)) : PC X .NotIn a b (tE X.K W (dOp2 opNotIn ga gb)) := by
  refine cd_or (f1 := opNotInS) (f2 := opNotInK) (cd_op (op_notInAll hr) o_notInS ha hb) ?_ fun x y => ?_
  · exact (pc_dnotin (u1 hr) ha hb).weak fun σ H Q h => by
      have := ec_op2 o_notInK h
      exact this
  · unfold opNotIn opNotInS opNotInK
    cases isDic y
    · exact .inl rfl
    · exact .inr rfl
end
end DL

/-! subscripts, slices, built-in calls. -/
namespace DL
open PySem PySem.Spec L2
theorem dOp2_or {f f1 f2 : D → D → Option RV} {ga gb : Ev} (hf : ∀ x y, f x y = f1 x y ∨ f x y = f2 x y) (ρ : Env) : dOp2 f ga gb ρ = dOp2 f1 ga gb ρ ∨ dOp2 f ga gb ρ = dOp2 f2 ga gb ρ := by
  unfold dOp2
  cases (ga ρ).settle with
  | no => exact .inl rfl
  | ex x ρ1 => exact .inl rfl
  | ok r1 ρ1 =>
    show (gb ρ1).settle.bind _ = (gb ρ1).settle.bind _ ∨ (gb ρ1).settle.bind _ = (gb ρ1).settle.bind _
    cases (gb ρ1).settle with
    | no => exact .inl rfl
    | ex x ρ1 => exact .inl rfl
    | ok r2 ρ2 =>
      show (match peek r1 ρ2, peek r2 ρ2 with | some x, some y => ER.of (f x y) ρ2 | _, _ => ER.no) = (match peek r1 ρ2, peek r2 ρ2 with | some x, some y => ER.of (f1 x y) ρ2 | _, _ => ER.no) ∨ (match peek r1 ρ2, peek r2 ρ2 with | some x, some y => ER.of (f x y) ρ2 | _, _ => ER.no) = (match peek r1 ρ2, peek r2 ρ2 with | some x, some y => ER.of (f2 x y) ρ2 | _, _ => ER.no)
      cases peek r1 ρ2 with
      | none => exact .inl rfl
      | some x =>
        cases peek r2 ρ2 with
        | none => exact .inl rfl
        | some y =>
          rcases hf x y with e | e
          · left; simp only [e]
          · right; simp only [e]
theorem ed_or2 {X : Cx} {W : WX} {e : Expr} {f f1 f2 : D → D → Option RV} {ga gb : Ev} (h1 : PE X e (tE X.K W (dOp2 f1 ga gb))) (h2 : PE X e (tE X.K W (dOp2 f2 ga gb))) (hf : ∀ x y, f x y = f1 x y ∨ f x y = f2 x y) : PE X e (tE X.K W (dOp2 f ga gb)) := by
  refine ⟨fun pins s σ H Q I ⟨α, ρ, F, G, ft, h⟩ => ?_⟩
  rcases dOp2_or hf ρ with e | e
  · exact h1.run pins s σ H Q I ⟨α, ρ, F, G, ft, e ▸ h⟩
  · exact h2.run pins s σ H Q I ⟨α, ρ, F, G, ft, e ▸ h⟩
/-! ### x[i] -/
def ixD (x y : D) : Option D := match x with
  | .lst xs => match y with
    | .int i => atI xs i
    | _ => none
  | .scr xs => match y with
    | .int i => atI xs i
    | _ => none
  | .tup xs => match y with
    | .int i => atI xs i
    | _ => none
  | .str z => match y with
    | .int i => if z.length ≤ sizeLine then (atI z.cps.toList i).map fun c => .str ⟨#[c]⟩ else none
    | _ => none
  | .dic ks xs => match keyOf y with
    | some k => dGet ks xs k
    | none => none
  | _ => none
def opIx (x y : D) : Option RV := (ixD x y).map .val
def opIxK (x y : D) : Option RV := if isDic x then (ixD x y).map .val else none
def opIxS (x y : D) : Option RV := if isDic x then none else (ixD x y).map .val
def rIxK : R2 := fun x y H Q => ∃ a v, x = .ref a ∧ DGet H a y (some v) ∧ Q v H
section
variable {K : PySem.W.Frag}
theorem Reps.atI {F : Hp} {ds : List D} {vs : List V} {i : Int} {d : D} (r : Reps K F ds vs) (e : L2.atI ds i = some d) : ∃ v, L2.atI vs i = some v ∧ Rep K F d v := by
  unfold L2.atI at e ⊢
  rw [r.length]
  cases h : ixN ds.length i with
  | none => rw [h] at e; cases e
  | some j =>
    rw [h] at e
    exact r.get e
theorem o_ixK : Op2 K rIxK opIxK := by
  intro F H d e x y z Q s a b h q
  unfold opIxK at h
  split at h
  · rename_i hd
    obtain ⟨c, hm, rfl⟩ := Option.map_eq_some_iff.mp h
    cases d with
    | dic ks xs =>
      have h' : (match keyOf e with | some k => dGet ks xs k | none => none) = some c := hm
      cases ek : keyOf e with
      | none => rw [ek] at h'; cases h'
      | some k =>
        rw [ek] at h'
        obtain ⟨p, vs, rfl, q1, l, nd, r⟩ := a
        have ex := view_flat b ek
        subst ex
        obtain ⟨v, hv, rv⟩ := (dGet_rep r l).1 c h'
        exact ⟨p, v, rfl, .inl ⟨_, k, q1, rfl, hv.symm⟩, q _ H F (Ext.refl s) rv⟩
    | _ => cases hd
  · cases h
theorem o_ixS : Op2 K (rIx K) opIxS := by
  intro F H d e x y z Q s a b h q
  unfold opIxS at h
  split at h
  · cases h
  · rename_i hd
    obtain ⟨c, hm, rfl⟩ := Option.map_eq_some_iff.mp h
    cases d with
    | lst xs =>
      cases e with
      | int i =>
        cases b
        obtain ⟨p, vs, rfl, q1, r⟩ := a
        obtain ⟨v, hv, rv⟩ := r.atI (show L2.atI xs i = some c from hm)
        exact .inl ⟨p, vs, i, v, rfl, rfl, SqL.of q1, hv, q _ H F (Ext.refl s) rv⟩
      | _ => cases hm
    | scr xs =>
      cases e with
      | int i =>
        cases b
        obtain ⟨p, vs, rfl, q1, r⟩ := a
        obtain ⟨v, hv, rv⟩ := r.atI (show L2.atI xs i = some c from hm)
        exact .inl ⟨p, vs, i, v, rfl, rfl, s.sqL q1, hv, q _ H F (Ext.refl s) rv⟩
      | _ => cases hm
    | tup xs =>
      cases e with
      | int i =>
        cases b
        obtain ⟨p, vs, rfl, q1, r⟩ := a
        obtain ⟨v, hv, rv⟩ := r.atI (show L2.atI xs i = some c from hm)
        exact .inr (.inl ⟨p, vs, i, v, rfl, rfl, s.sqT q1, hv, q _ H F (Ext.refl s) rv⟩)
      | _ => cases hm
    | str zz =>
      cases e with
      | int i =>
        cases a
        cases b
        have h' : (if zz.length ≤ sizeLine then (L2.atI zz.cps.toList i).map fun c => D.str ⟨#[c]⟩ else none) = some c := hm
        split at h'
        · rename_i hz
          obtain ⟨u, hu, rfl⟩ := Option.map_eq_some_iff.mp h'
          exact .inr (.inr ⟨zz, i, u, rfl, rfl, hz, hu, q _ H F (Ext.refl s) rfl⟩)
        · cases h'
      | _ => cases hm
    | dic ks xs => exact absurd rfl hd
    | _ => cases hm
end
section
variable {X : Cx} {W : WX} {a b : Expr} {g ga gb gc : Ev} {gs : Av} {pos p : Pos} {k : Nat}
theorem ed_ixA (hr : RoomG k X.A) (ha : PE X a (tE X.K W ga)) (hb : PE X b (tE X.K W gb)) (hs : PlainIx b := by exact fun _ _ => rfl) (hn : NoSl b := by exact fun _ _ => rfl) : PE X (.Subscript a b pos) (tE X.K W (dOp2 opIx ga gb)) := by
  refine ed_or2 (f1 := opIxS) (f2 := opIxK) (ed_ix ix_seq o_ixS ha hb hs) ?_ fun x y => ?_
  · exact (pe_dget (u1 hr) ha hb hn).weak fun σ H Q h => by
      have := ec_op2 o_ixK h
      exact this
  · unfold opIx opIxS opIxK
    cases isDic x
    · exact .inl rfl
    · exact .inr rfl
end
/-! ### x[a:b] -/
inductive PR where | ok (o : Option Int) (ρ : Env) | ex (x : Exn) (ρ : Env) | no
/-- a bound, or none -/
def dPart : Option Ev → Env → PR
  | none, ρ => .ok none ρ
  | some g, ρ => match (g ρ).settle with
    | .ok r ρ1 => match peek r ρ1 with
      | some (.int i) => .ok (some i) ρ1
      | _ => .no
    | .ex x ρ1 => .ex x ρ1
    | .no => .no
def PC0 (K : PySem.W.Frag) (W : WX) (α : Nat → Addr) (σ : L2.St) (F G : Hp) (Q : Option Int → Hp → Prop) : PR → Prop
  | .ok o ρ => ∀ H' F', Grow G F F' → Fits K α ρ σ H' F' G → Q o H'
  | .ex x ρ => ∀ cls d H' F', Grow G F F' → Fits K α ρ σ H' F' G → RepX K F' H' x cls d → W cls d σ H'
  | .no => False
def tP (K : PySem.W.Frag) (W : WX) (o : Option Ev) : TO := fun σ H Q => ∃ (α : Nat → Addr) (ρ : Env) (F G : Hp), Fits K α ρ σ H F G ∧ PC0 K W α σ F G Q (dPart o ρ)
theorem _root_.L2.PO.weak {X : Cx} {e : Option Expr} {t t' : TO} (h : PO X e t) (w : ∀ σ H Q, t' σ H Q → t σ H Q) : PO X e t' := ⟨fun pins s σ H Q I q => h.run pins s σ H Q I (w σ H Q q)⟩
section
variable {X : Cx} {W : WX} {e : Expr} {a b : Option Expr} {g ge : Ev} {ga gb : Option Ev} {pos p2 : Pos} {k : Nat}
theorem od_none : PO X none (tP X.K W none) := po_none.weak fun σ H Q ⟨α, ρ, F, G, f, h⟩ => h H F (Grow.refl _ _) f
theorem od_some (h : PE X e (tE X.K W g)) : PO X (some e) (tP X.K W (some g)) := by
  refine (po_some h).weak fun σ H Q ⟨α, ρ, F, G, f, h⟩ => ⟨α, ρ, F, G, f, EC.settle ?_⟩
  unfold dPart at h
  cases e1 : (g ρ).settle with
  | no => simp [e1, PC0] at h
  | ex x ρ1 => simp only [e1] at h; exact h
  | ok r ρ1 =>
    simp only [e1] at h
    have rs : r.settle = r := by
      cases q : g ρ with
      | no => rw [q] at e1; cases e1
      | ex x ρ => rw [q] at e1; cases e1
      | ok r0 ρ0 =>
        rw [q] at e1
        have e6 : r0.settle = r := by cases e1; rfl
        rw [← e6]
        cases r0 <;> rfl
    intro v H1 F1 g1 f1 r1
    have s1 : SRep X.K F1 σ r v := by
      rw [← rs] at r1 ⊢
      exact settle_srep r1
    cases e2 : peek r ρ1 with
    | none => simp [e2, PC0] at h
    | some d =>
      cases d with
      | int i =>
        simp only [e2] at h
        have hv : v = .int i := f1.peek s1 e2
        exact ⟨i, hv, h H1 F1 g1 f1⟩
      | _ => simp [e2, PC0] at h
/-- a[lo:hi] -/
def dSl (f : D → Option Int → Option Int → Option RV) (ge : Ev) (ga gb : Option Ev) : Ev := fun ρ => (ge ρ).settle.bind fun r ρ1 => match dPart ga ρ1 with
  | .ok lo ρ2 => match dPart gb ρ2 with
    | .ok hi ρ3 => match peek r ρ3 with
      | some d => ER.of (f d lo hi) ρ3
      | none => .no
    | .ex x ρ3 => .ex x ρ3
    | .no => .no
  | .ex x ρ2 => .ex x ρ2
  | .no => .no
def cutD (xs : List D) (lo hi : Option Int) : List D := (xs.drop (HT.sIx xs.length 0 lo)).take (HT.sIx xs.length xs.length hi - HT.sIx xs.length 0 lo)
def opSl : D → Option Int → Option Int → Option RV
  | .lst xs, lo, hi => some (.new (.lst (cutD xs lo hi)))
  | .scr xs, lo, hi => some (.new (.lst (cutD xs lo hi)))
  | .tup xs, lo, hi => some (.val (.tup (cutD xs lo hi)))
  | .str z, lo, hi => if z.length ≤ sizeLine then some (.val (.str (cutS z lo hi))) else none
  | _, _, _ => none
theorem Reps.cut {K : PySem.W.Frag} {F : Hp} {ds : List D} {vs : List V} (r : Reps K F ds vs) (lo hi : Option Int) : Reps K F (cutD ds lo hi) (cutV vs lo hi) := by
  unfold cutD cutV
  rw [r.length]
  exact (r.drop _).take _
abbrev rSlAll (K : PySem.W.Frag) : V → Option Int → Option Int → Hp → VK → Prop := fun x lo hi H Q => rSlL K x lo hi H Q ∨ rSlA K x lo hi H Q ∨ rSlS x lo hi H Q
theorem sl_sound {K : PySem.W.Frag} {F H : Hp} {d : D} {v : V} {lo hi : Option Int} {z : RV} {Q : VK} (s : Sub F H) (a : View K F H d v) (h : opSl d lo hi = some z) (q : ∀ w H' F', Ext H F H' F' → ORep K H F' H' z w → Q w H') : rSlAll K v lo hi H Q := by
  cases d with
  | lst xs =>
    cases h
    obtain ⟨p, vs, rfl, q1, r⟩ := a
    exact .inl ⟨p, vs, rfl, SqL.of q1, fun pp hp => q _ _ _ (Ext.allocO s hp) ⟨pp, rfl, hp, s.free hp, _, upd_same, r.cut lo hi⟩⟩
  | scr xs =>
    cases h
    obtain ⟨p, vs, rfl, q1, r⟩ := a
    exact .inl ⟨p, vs, rfl, s.sqL q1, fun pp hp => q _ _ _ (Ext.allocO s hp) ⟨pp, rfl, hp, s.free hp, _, upd_same, r.cut lo hi⟩⟩
  | tup xs =>
    cases h
    obtain ⟨p, vs, rfl, q1, r⟩ := a
    refine .inr (.inl ⟨p, vs, rfl, s.sqT q1, fun hw => ?_, fun _ pp hp => ?_⟩)
    · refine q _ H F (Ext.refl s) ⟨p, vs, rfl, q1, ?_⟩
      have : cutV vs lo hi = vs := by
        unfold cutV
        rw [hw.1, hw.2]
        simp
      rw [← this]
      exact r.cut lo hi
    · exact q _ _ _ (Ext.alloc s hp) ⟨pp, _, rfl, SqT.of upd_same, Reps.mono (Sub.upd_none (s.free hp)) _ _ (r.cut lo hi)⟩
  | str zz =>
    cases a
    have h' : (if zz.length ≤ sizeLine then some (RV.val (.str (cutS zz lo hi))) else none) = some z := h
    split at h'
    · rename_i hz
      cases h'
      exact .inr (.inr ⟨zz, rfl, hz, q _ H F (Ext.refl s) rfl⟩)
    · cases h'
  | _ => cases h
theorem ed_slice (he : PE X e (tE X.K W ge)) (ha : PO X a (tP X.K W ga)) (hb : PO X b (tP X.K W gb)) : PE X (.Subscript e (.Slice a b none p2) pos) (tE X.K W (dSl opSl ge ga gb)) := by
  refine (pe_slice (sl_list.or (sl_tupA.or sl_str)) he ha hb).weak fun σ H Q ⟨α, ρ, F, G, f, h⟩ => ⟨α, ρ, F, G, f, EC.bindS (fun r ρ1 v H1 F1 g1 f1 s1 h1 => ?_) h⟩
  refine ⟨α, ρ1, F1, G, f1, ?_⟩
  cases e1 : dPart ga ρ1 with
  | no => simp [e1, EC] at h1
  | ex x ρ2 => simp only [e1] at h1; exact h1
  | ok lo ρ2 =>
    simp only [e1] at h1
    intro H2 F2 g2 f2
    refine ⟨α, ρ2, F2, G, f2, ?_⟩
    have h2 := EC.mono g2 h1
    cases e2 : dPart gb ρ2 with
    | no => simp [e2, EC] at h2
    | ex x ρ3 => simp only [e2] at h2; exact h2
    | ok hi ρ3 =>
      simp only [e2] at h2
      intro H3 F3 g3 f3
      have h3 := EC.mono g3 h2
      cases e3 : peek r ρ3 with
      | none => simp [e3, EC] at h3
      | some d =>
        simp only [e3] at h3
        cases e4 : opSl d lo hi with
        | none => simp [e4, ER.of, EC] at h3
        | some z =>
          simp only [e4, ER.of] at h3
          exact sl_sound f3.fh (f3.peek (s1.mono (g2.trans g3).sub) e3) e4 (EC.op f3 h3)
end
end DL

/-! built-in calls. -/
namespace DL
open PySem PySem.Spec L2
/-! ### what they compute -/
def fLen : List D → Option RV
  | [.lst xs] => some (.val (.int xs.length))
  | [.scr xs] => some (.val (.int xs.length))
  | [.tup xs] => some (.val (.int xs.length))
  | [.dic ks _] => some (.val (.int ks.length))
  | [.str z] => if z.length ≤ sizeLine then some (.val (.int z.length)) else none
  | _ => none
def fAbs : List D → Option RV
  | [.int i] => some (.val (.int (if i < 0 then -i else i)))
  | _ => none
def fInt : List D → Option RV
  | [.int i] => some (.val (.int i))
  | [.bl b] => some (.val (.int (if b then 1 else 0)))
  | _ => none
def fMax2 : List D → Option RV
  | [.int i, .int j] => some (.val (.int (if j > i then j else i)))
  | _ => none
def fMin2 : List D → Option RV
  | [.int i, .int j] => some (.val (.int (if j < i then j else i)))
  | _ => none
/-- boolsD, intsD of data -/
def boolsD : List D → Option (List Bool)
  | [] => some []
  | .bl b :: r => (boolsD r).map (b :: ·)
  | _ => none
def intsD : List D → Option (List Int)
  | [] => some []
  | .int b :: r => (intsD r).map (b :: ·)
  | _ => none
theorem bools_eq : ∀ {ds : List D} {bs : List Bool}, boolsD ds = some bs → ds = bs.map .bl
  | [], bs, h => by cases h; rfl
  | d :: r, bs, h => by
    cases d with
    | bl b =>
      obtain ⟨cs, h1, rfl⟩ := Option.map_eq_some_iff.mp (show (boolsD r).map (b :: ·) = some bs from h)
      rw [bools_eq h1]
      rfl
    | _ => cases h
theorem ints_eq : ∀ {ds : List D} {bs : List Int}, intsD ds = some bs → ds = bs.map .int
  | [], bs, h => by cases h; rfl
  | d :: r, bs, h => by
    cases d with
    | int b =>
      obtain ⟨cs, h1, rfl⟩ := Option.map_eq_some_iff.mp (show (intsD r).map (b :: ·) = some bs from h)
      rw [ints_eq h1]
      rfl
    | _ => cases h
theorem ints_map : ∀ ns : List Int, intsD (ns.map .int) = some ns
  | [] => rfl
  | n :: r => by show (intsD (r.map .int)).map (n :: ·) = _; rw [ints_map r]; rfl
theorem bools_map : ∀ ns : List Bool, boolsD (ns.map .bl) = some ns
  | [] => rfl
  | n :: r => by show (boolsD (r.map .bl)).map (n :: ·) = _; rw [bools_map r]; rfl
/-- the items of a list -/
def listOf : List D → Option (List D)
  | [.lst xs] => some xs
  | [.scr xs] => some xs
  | _ => none
def seqsOf : List D → Option (List D)
  | [.lst xs] => some xs
  | [.scr xs] => some xs
  | [.tup xs] => some xs
  | _ => none
def fAll (ds : List D) : Option RV := ((listOf ds).bind boolsD).map fun bs => .val (.bl (bs.all id))
def fAny (ds : List D) : Option RV := ((listOf ds).bind boolsD).map fun bs => .val (.bl (bs.any id))
def fSum (ds : List D) : Option RV := ((listOf ds).bind intsD).map fun bs => .val (.int bs.sum)
def fTuple (ds : List D) : Option RV := (seqsOf ds).map fun xs => .val (.tup xs)
def fList (ds : List D) : Option RV := (seqsOf ds).map fun xs => .new (.lst xs)
def tyName : D → Option String
  | .non => some "NoneType"
  | .bl _ => some "bool"
  | .int _ => some "int"
  | .str _ => some "str"
  | .tup _ => some "tuple"
  | .lst _ => some "list"
  | .scr _ => some "list"
  | .dic _ _ => some "dict"
  | .raw _ => none
def fIsi : List D → Option RV
  | [d, .raw (.ty T)] => match tyName d with
    | some t => (kitB t T).map fun b => .val (.bl b)
    | none => none
  | _ => none
def fRepr : List D → Option RV
  | [d] => match py d with
    | some p => if p.showable = true ∧ p.depth ≤ 64 ∧ p.shown.length ≤ sizeLine then some (.val (.str p.shown)) else none
    | none => none
  | _ => none
/-! ### soundness -/
section
variable {K : PySem.W.Frag} {F H : Hp}
theorem listOf_view {ds : List D} {vs : List V} {xs : List D} (s : Sub F H) (v : Views K F H ds vs) (h : listOf ds = some xs) : ∃ a ws, vs = [.ref a] ∧ SqL K H a ws ∧ Reps K F xs ws := by
  unfold listOf at h
  split at h
  · cases h
    obtain ⟨u, t, rfl, ⟨a, ws, rfl, q, r⟩, rfl⟩ := v
    exact ⟨a, ws, rfl, SqL.of q, r⟩
  · cases h
    obtain ⟨u, t, rfl, ⟨a, ws, rfl, q, r⟩, rfl⟩ := v
    exact ⟨a, ws, rfl, s.sqL q, r⟩
  · cases h
theorem on_all : OpN K (rAll K) fAll := by
  intro F H ds vs z Q s v h q
  obtain ⟨bs, h1, rfl⟩ := Option.map_eq_some_iff.mp (show ((listOf ds).bind boolsD).map (fun bs => RV.val (.bl (bs.all id))) = some z from h)
  obtain ⟨xs, h2, h3⟩ := Option.bind_eq_some_iff.mp h1
  obtain ⟨a, ws, rfl, q1, r⟩ := listOf_view s v h2
  have := bools_eq h3
  subst this
  rw [r.bools] at q1
  exact ⟨a, bs, rfl, q1, q _ H F (Ext.refl s) rfl⟩
theorem on_any : OpN K (rAny K) fAny := by
  intro F H ds vs z Q s v h q
  obtain ⟨bs, h1, rfl⟩ := Option.map_eq_some_iff.mp (show ((listOf ds).bind boolsD).map (fun bs => RV.val (.bl (bs.any id))) = some z from h)
  obtain ⟨xs, h2, h3⟩ := Option.bind_eq_some_iff.mp h1
  obtain ⟨a, ws, rfl, q1, r⟩ := listOf_view s v h2
  have := bools_eq h3
  subst this
  rw [r.bools] at q1
  exact ⟨a, bs, rfl, q1, q _ H F (Ext.refl s) rfl⟩
theorem on_sum : OpN K (rSum K) fSum := by
  intro F H ds vs z Q s v h q
  obtain ⟨bs, h1, rfl⟩ := Option.map_eq_some_iff.mp (show ((listOf ds).bind intsD).map (fun bs => RV.val (.int bs.sum)) = some z from h)
  obtain ⟨xs, h2, h3⟩ := Option.bind_eq_some_iff.mp h1
  obtain ⟨a, ws, rfl, q1, r⟩ := listOf_view s v h2
  have := ints_eq h3
  subst this
  rw [r.ints] at q1
  exact ⟨a, bs, rfl, q1, q _ H F (Ext.refl s) rfl⟩
theorem on_tuple : OpN K (fun xs H Q => ∃ p ys, xs = [.ref p] ∧ ((SqL K H p ys ∧ ∀ l, H l = none → Q (.ref l) (upd H l (.tup ys))) ∨ (SqT K H p ys ∧ Q (.ref p) H))) fTuple := by
  intro F H ds vs z Q s v h q
  obtain ⟨xs, h1, rfl⟩ := Option.map_eq_some_iff.mp (show (seqsOf ds).map (fun xs => RV.val (.tup xs)) = some z from h)
  unfold seqsOf at h1
  split at h1
  · cases h1
    obtain ⟨u, t, rfl, ⟨a, ws, rfl, q1, r⟩, rfl⟩ := v
    exact ⟨a, ws, rfl, .inl ⟨SqL.of q1, fun l hl => q _ _ _ (Ext.alloc s hl) ⟨l, _, rfl, SqT.of upd_same, Reps.mono (Sub.upd_none (s.free hl)) _ _ r⟩⟩⟩
  · cases h1
    obtain ⟨u, t, rfl, ⟨a, ws, rfl, q1, r⟩, rfl⟩ := v
    exact ⟨a, ws, rfl, .inl ⟨s.sqL q1, fun l hl => q _ _ _ (Ext.alloc s hl) ⟨l, _, rfl, SqT.of upd_same, Reps.mono (Sub.upd_none (s.free hl)) _ _ r⟩⟩⟩
  · cases h1
    obtain ⟨u, t, rfl, ⟨a, ws, rfl, q1, r⟩, rfl⟩ := v
    exact ⟨a, ws, rfl, .inr ⟨s.sqT q1, q _ H F (Ext.refl s) ⟨a, ws, rfl, q1, r⟩⟩⟩
  · cases h1
theorem on_list : OpN K (fun xs H Q => ∃ p ys, xs = [.ref p] ∧ (SqL K H p ys ∨ SqT K H p ys) ∧ ∀ l, H l = none → Q (.ref l) (upd H l (.lst ys))) fList := by
  intro F H ds vs z Q s v h q
  obtain ⟨xs, h1, rfl⟩ := Option.map_eq_some_iff.mp (show (seqsOf ds).map (fun xs => RV.new (.lst xs)) = some z from h)
  unfold seqsOf at h1
  split at h1
  · cases h1
    obtain ⟨u, t, rfl, ⟨a, ws, rfl, q1, r⟩, rfl⟩ := v
    exact ⟨a, ws, rfl, .inl (SqL.of q1), fun l hl => q _ _ _ (Ext.allocO s hl) ⟨l, rfl, hl, s.free hl, _, upd_same, r⟩⟩
  · cases h1
    obtain ⟨u, t, rfl, ⟨a, ws, rfl, q1, r⟩, rfl⟩ := v
    exact ⟨a, ws, rfl, .inl (s.sqL q1), fun l hl => q _ _ _ (Ext.allocO s hl) ⟨l, rfl, hl, s.free hl, _, upd_same, r⟩⟩
  · cases h1
    obtain ⟨u, t, rfl, ⟨a, ws, rfl, q1, r⟩, rfl⟩ := v
    exact ⟨a, ws, rfl, .inr (s.sqT q1), fun l hl => q _ _ _ (Ext.allocO s hl) ⟨l, rfl, hl, s.free hl, _, upd_same, r⟩⟩
  · cases h1
abbrev rLen (K : PySem.W.Frag) : List V → Hp → VK → Prop := fun xs H Q => (∃ p ys, xs = [.ref p] ∧ (SqL K H p ys ∨ SqT K H p ys) ∧ Q (.int ys.length) H) ∨ (∃ z, xs = [.str z] ∧ z.length ≤ sizeLine ∧ Q (.int z.length) H) ∨ (∃ a kvs, xs = [V.ref a] ∧ Rd H a (.dK kvs) ∧ Q (.int kvs.length) H)
theorem call_lenR {X : Cx} : CallR X (.builtin "len") (fun xs H Q => ∃ a kvs, xs = [V.ref a] ∧ Rd H a (.dK kvs) ∧ Q (.int kvs.length) H) := by
  intro pins s σ H xs us Q I r h
  obtain ⟨a, kvs, rfl, ha, q⟩ := h
  obtain ⟨u, rfl, rx⟩ := vals1 r
  cases rx
  exact d_len I ha fun t s' I' => ⟨.int _, H, I', ⟨_, rfl⟩, q⟩
theorem call_lenA {X : Cx} : CallR X (.builtin "len") (rLen X.K) := call_len_seq.or (call_len_str.or call_lenR)
theorem on_len : OpN K (rLen K) fLen := by
  intro F H ds vs z Q s v h q
  unfold fLen at h
  split at h
  · cases h
    obtain ⟨u, t, rfl, ⟨a, ws, rfl, q1, r⟩, rfl⟩ := v
    exact .inl ⟨a, ws, rfl, .inl (SqL.of q1), q _ H F (Ext.refl s) (show V.int _ = V.int _ by rw [r.length])⟩
  · cases h
    obtain ⟨u, t, rfl, ⟨a, ws, rfl, q1, r⟩, rfl⟩ := v
    exact .inl ⟨a, ws, rfl, .inl (s.sqL q1), q _ H F (Ext.refl s) (show V.int _ = V.int _ by rw [r.length])⟩
  · cases h
    obtain ⟨u, t, rfl, ⟨a, ws, rfl, q1, r⟩, rfl⟩ := v
    exact .inl ⟨a, ws, rfl, .inr (s.sqT q1), q _ H F (Ext.refl s) (show V.int _ = V.int _ by rw [r.length])⟩
  · cases h
    obtain ⟨u, t, rfl, ⟨a, ws, rfl, q1, l, nd, r⟩, rfl⟩ := v
    refine .inr (.inr ⟨a, _, rfl, q1, q _ H F (Ext.refl s) (show V.int _ = V.int _ by rw [List.length_zip, r.length, l, Nat.min_self])⟩)
  · split at h
    · rename_i hz
      cases h
      obtain ⟨u, t, rfl, hu, rfl⟩ := v
      cases hu
      exact .inr (.inl ⟨_, rfl, hz, q _ H F (Ext.refl s) rfl⟩)
    · cases h
  · cases h
theorem on_abs : OpN K (fun xs H Q => ∃ i, xs = [.int i] ∧ Q (.int (if i < 0 then -i else i)) H) fAbs := by
  intro F H ds vs z Q s v h q
  unfold fAbs at h
  split at h
  · cases h
    obtain ⟨u, t, rfl, rfl, rfl⟩ := v
    exact ⟨_, rfl, q _ H F (Ext.refl s) rfl⟩
  · cases h
theorem on_int : OpN K (fun xs H Q => (∃ i, xs = [.int i] ∧ Q (.int i) H) ∨ ∃ k, xs = [.bl k] ∧ Q (.int (if k then 1 else 0)) H) fInt := by
  intro F H ds vs z Q s v h q
  unfold fInt at h
  split at h
  · cases h
    obtain ⟨u, t, rfl, rfl, rfl⟩ := v
    exact .inl ⟨_, rfl, q _ H F (Ext.refl s) rfl⟩
  · cases h
    obtain ⟨u, t, rfl, rfl, rfl⟩ := v
    exact .inr ⟨_, rfl, q _ H F (Ext.refl s) rfl⟩
  · cases h
theorem on_max2 : OpN K (fun xs H Q => ∃ i j, xs = [.int i, .int j] ∧ Q (.int (if j > i then j else i)) H) fMax2 := by
  intro F H ds vs z Q s v h q
  unfold fMax2 at h
  split at h
  · cases h
    obtain ⟨u, t, rfl, rfl, u2, t2, rfl, rfl, rfl⟩ := v
    exact ⟨_, _, rfl, q _ H F (Ext.refl s) rfl⟩
  · cases h
theorem on_min2 : OpN K (fun xs H Q => ∃ i j, xs = [.int i, .int j] ∧ Q (.int (if j < i then j else i)) H) fMin2 := by
  intro F H ds vs z Q s v h q
  unfold fMin2 at h
  split at h
  · cases h
    obtain ⟨u, t, rfl, rfl, u2, t2, rfl, rfl, rfl⟩ := v
    exact ⟨_, _, rfl, q _ H F (Ext.refl s) rfl⟩
  · cases h
theorem ty_view {d : D} {v : V} {t : String} (s : Sub F H) (a : View K F H d v) (h : tyName d = some t) : TyX K H v (.type t) := by
  cases d with
  | non => cases h; cases a; exact .base .non
  | bl b => cases h; cases a; exact .base (.bl b)
  | int b => cases h; cases a; exact .base (.int b)
  | str b => cases h; cases a; exact .base (.str b)
  | lst xs =>
    cases h
    obtain ⟨p, vs, rfl, q, r⟩ := a
    exact .base (.lst q)
  | scr xs =>
    cases h
    obtain ⟨p, vs, rfl, q, r⟩ := a
    rcases s.sqL q with (q | ⟨o, q⟩) | ⟨o, its, n, e, c, _⟩
    · exact .base (.lst q)
    · exact .base (.frz q)
    · exact .kList e c
  | tup xs =>
    cases h
    obtain ⟨p, vs, rfl, q, r⟩ := a
    rcases s.sqT q with (q | ⟨o, q⟩) | ⟨o, its, n, e, c, _⟩
    · exact .base (.tup q)
    · exact .fTuple q
    · exact .kTuple e c
  | dic ks xs =>
    cases h
    obtain ⟨p, vs, rfl, q, _⟩ := a
    rcases q with q | ⟨o, q⟩
    · exact .base (.dK q)
    · exact .fDict q
  | raw x => cases h
theorem on_isi : OpN K (rIsi K) fIsi := by
  intro F H ds vs z Q s v h q
  unfold fIsi at h
  split at h
  · split at h
    · rename_i t ht
      obtain ⟨b, hb, rfl⟩ := Option.map_eq_some_iff.mp h
      obtain ⟨u, tt, rfl, hu, u2, t2, rfl, rfl, rfl⟩ := v
      exact ⟨_, _, _, _, b, rfl, .ty _, ty_view s hu ht, kit_ty hb, q _ H F (Ext.refl s) rfl⟩
    · cases h
  · cases h
/-! ### repr -/
def rRepr (K : PySem.W.Frag) : List V → Hp → VK → Prop := fun xs H Q => ∃ x d, xs = [x] ∧ Dp K H x d ∧ d.showable = true ∧ d.depth ≤ 64 ∧ d.shown.length ≤ sizeLine ∧ Q (.str d.shown) H
theorem on_repr : OpN K (rRepr K) fRepr := by
  intro F H ds vs z Q s v h q
  unfold fRepr at h
  split at h
  · split at h
    · rename_i p hp
      split at h
      · rename_i hs
        cases h
        obtain ⟨u, t, rfl, hu, rfl⟩ := v
        exact ⟨u, p, rfl, hu.dp s hp, hs.1, hs.2.1, hs.2.2, q _ H F (Ext.refl s) rfl⟩
      · cases h
    · cases h
  · cases h
mutual
theorem dp_noDict : ∀ {d : PyData} {v : V}, Dp K H v d → d.hasDict = false
  | .none, _, h => by simp only [PyData.hasDict]
  | .bool b, _, h => by simp only [PyData.hasDict]
  | .int i, _, h => by simp only [PyData.hasDict]
  | .str x, _, h => by simp only [PyData.hasDict]
  | .list ds, _, h => by
    cases h with
    | lst _ ha => simp only [PyData.hasDict]; exact dpAll_noDict ha
  | .tuple ds, _, h => by
    cases h with
    | tup _ ha => simp only [PyData.hasDict]; exact dpAll_noDict ha
  | .dict _, _, h => by cases h
theorem dpAll_noDict : ∀ {ds : List PyData} {vs : List V}, DpAll K H vs ds → PyData.hasDictAll ds = false
  | [], _, h => by simp only [PyData.hasDictAll]
  | d :: ds, _, h => by
    cases h with
    | cons h1 h2 => simp only [PyData.hasDictAll, Bool.or_eq_false_iff]; exact ⟨dp_noDict h1, dpAll_noDict h2⟩
end
end
section
variable {X : Cx} {W : WX} {k : Nat} {gs : Av} {e f : Expr} {es : List Expr} {pos p : Pos}
theorem call_repr (hr : RoomG k X.A) : CallR X (.builtin "repr") (rRepr X.K) := by
  intro pins s σ H xs us Q I r h
  obtain ⟨x, d, rfl, hd, h1, h2, h3, q⟩ := h
  obtain ⟨u, rfl, rx⟩ := vals1 r
  have un := hr.room.un
  obtain ⟨as, rd⟩ := Dp.reads I d x u hd rx
  cases hd with
  | non =>
    cases rx
    exact call_repr_gives (typeIs_none s) F.slot_NoneType_repr F.entry_NoneType_repr (F.args_NoneType_repr_1 _) gives_none_repr ⟨.str _, H, I.tok _, ⟨_, rfl⟩, q⟩
  | bl b =>
    cases rx
    exact call_repr_gives (typeIs_bool s b) F.slot_bool_repr F.entry_bool_repr (F.args_bool_repr_1 _) (gives_bool_repr b) ⟨.str _, H, I.tok _, ⟨_, rfl⟩, by simpa [PyData.shown] using q⟩ (hx := by cases b <;> decide)
  | int i =>
    obtain ⟨t, rfl⟩ := rx
    have hz : i.natAbs.log2 < 1920 := by simpa [PyData.showable] using h1
    exact PySem.P.repr_of_int hz ⟨.str _, H, I.tok _, ⟨_, rfl⟩, by simpa [PyData.shown] using q⟩
  | str y =>
    obtain ⟨t, rfl⟩ := rx
    exact call_repr_gives (typeIs_str s y t) F.slot_str_repr F.entry_str_repr (F.args_str_repr_1 _) (gives_str_repr y t) ⟨.str _, H, I.tok _, ⟨_, rfl⟩, by simpa [PyData.shown] using q⟩ (hx := by simpa [PyData.shown] using h3)
  | lst hs ha =>
    cases rx
    exact repr_of_reads' rd h1 (fun z => by rw [dp_noDict (.lst hs ha)] at z; cases z) hr.quiet (by omega) (fun _ _ z => z) (fun h' u tk kp => ⟨.str _, H, I.kept kp, ⟨_, rfl⟩, q⟩) h3
  | tup hs ha =>
    cases rx
    exact repr_of_reads' rd h1 (fun z => by rw [dp_noDict (.tup hs ha)] at z; cases z) hr.quiet (by omega) (fun _ _ z => z) (fun h' u tk kp => ⟨.str _, H, I.kept kp, ⟨_, rfl⟩, q⟩) h3
end
end DL

/-! what changes a list or a dict; raise, try. -/
namespace DL
open PySem PySem.Spec L2

/-! ### what is owned is written -/
section
variable {K : PySem.W.Frag} {α : Nat → Addr} {ρ : Env} {σ : L2.St} {H F G : Hp}
/-- the owner's thing is another -/
theorem Fits.write (f : Fits K α ρ σ H F G) {i : Nat} {d d' : D} {a : Addr} {o : HO} (h : ρ[i]? = some (.own d) ∨ ρ[i]? = some (.bor d)) (hs : σ[i]? = some (some (.ref a))) (c : Cell K F (upd H a o) a d') :
    Fits K α (setO ρ i d') σ (upd H a o) F G := by
  obtain ⟨fa, ga, _⟩ := f.owner h hs
  have frame : ∀ {b : Addr}, b ≠ a → ∀ u, H b = some u → upd H a o b = some u := fun n u e => by rw [upd_ne n]; exact e
  refine ⟨fun b u e => ?_, fun b u e => ?_, by rw [setO_length]; exact f.len, fun j s q => ?_, fun j k s t b q1 q2 o1 o2 h1 h2 => ?_⟩
  · rw [upd_ne (fun z => by rw [z, fa] at e; cases e)]
    exact f.fh _ _ e
  · rw [upd_ne (fun z => by rw [z, ga] at e; cases e)]
    exact f.gh _ _ e
  · have keep : ∀ {s : Slot}, ρ[j]? = some s → j ≠ i → ∃ x, σ[j]? = some x ∧ SlotOk K F G (upd H a o) x (α j) s := fun {s} q n => by
      obtain ⟨x, hx, so⟩ := f.slot j s q
      refine ⟨x, hx, ?_⟩
      have apart : ∀ {b : Addr}, s.owns = true → x = some (.ref b) → b ≠ a := fun {b} os e z => by
        rcases h with h | h
        · exact n (f.sep j i s _ a q h os rfl (by rw [hx, e, z]) hs)
        · exact n (f.sep j i s _ a q h os rfl (by rw [hx, e, z]) hs)
      cases s with
      | non => trivial
      | val d0 => exact so
      | own d0 =>
        obtain ⟨b, e, fb, gb, cb⟩ := so
        exact ⟨b, e, fb, gb, cb.mono (Sub.refl F) (frame (apart rfl e))⟩
      | bor d0 =>
        obtain ⟨e, fb, gb, cb⟩ := so
        exact ⟨e, fb, gb, cb.mono (Sub.refl F) (frame (apart rfl e))⟩
    rcases setO_get q with ⟨n, q0⟩ | ⟨rfl, z⟩
    · exact keep q0 n
    · rcases z with ⟨d0, e, rfl⟩ | ⟨d0, e, rfl⟩ | ⟨e, z⟩
      · exact ⟨_, hs, a, rfl, fa, ga, c⟩
      · obtain ⟨x, hx, e', _⟩ := f.slot j _ e
        rw [hx] at hs
        cases hs
        cases e'
        exact ⟨_, hx, rfl, fa, ga, c⟩
      · rcases h with h | h
        · rw [h] at e; cases e; cases z
        · rw [h] at e; cases e; cases z
  · have old : ∀ {k : Nat} {s : Slot}, (setO ρ i d')[k]? = some s → s.owns = true → ∃ s', ρ[k]? = some s' ∧ s'.owns = true := fun {k s} q o => by
      rcases setO_get q with ⟨_, q0⟩ | ⟨rfl, ⟨d0, e, _⟩ | ⟨d0, e, _⟩ | ⟨e, _⟩⟩
      · exact ⟨s, q0, o⟩
      · exact ⟨_, e, rfl⟩
      · exact ⟨_, e, rfl⟩
      · exact ⟨s, e, o⟩
    obtain ⟨s1, e1, w1⟩ := old q1 o1
    obtain ⟨s2, e2, w2⟩ := old q2 o2
    exact f.sep j k s1 s2 b e1 e2 w1 w2 h1 h2
end
/-- what an owner owns -/
def ownAt (ρ : Env) (i : Nat) : Option D := match ρ[i]? with
  | some (.own d) => some d
  | some (.bor d) => some d
  | _ => none
theorem ownAt_some {ρ : Env} {i : Nat} {d : D} (h : ownAt ρ i = some d) : ρ[i]? = some (.own d) ∨ ρ[i]? = some (.bor d) := by
  unfold ownAt at h
  split at h
  · cases h; exact .inl (by assumption)
  · cases h; exact .inr (by assumption)
  · cases h
theorem ownAt_ref {K : PySem.W.Frag} {α : Nat → Addr} {ρ : Env} {σ : L2.St} {H F G : Hp} (f : Fits K α ρ σ H F G) {i : Nat} {d : D} (h : ownAt ρ i = some d) : ∃ a, σ[i]? = some (some (.ref a)) ∧ F a = none ∧ G a = none ∧ Cell K F H a d := by
  rcases ownAt_some h with e | e
  · obtain ⟨x, hx, a, rfl, r⟩ := f.slot i _ e
    exact ⟨a, hx, r⟩
  · obtain ⟨x, hx, rfl, r⟩ := f.slot i _ e
    exact ⟨_, hx, r⟩
/-- a method of what a name owns: what it gives back, what is there behind it -/
def dMut (T : String) (i : Nat) (f : D → List D → Option (D × D)) (gs : Av) : Ev := fun ρ => match (ownAt ρ i).bind tyName with
  | none => .no
  | some T' => if T' = T then match gs ρ with
    | .ok rs ρ1 => match frzs rs ρ1 with
      | some (ds, ρ2) => match ownAt ρ2 i with
        | some d => match f d ds with
          | some (ret, d') => .ok (.val ret) (setO ρ2 i d')
          | none => .no
        | none => .no
      | none => .no
    | .ex x ρ1 => .ex x ρ1
    | .no => .no
    else .no
/-- soundness of such a method -/
def MtD (K : PySem.W.Frag) (T : String) (r : V → List V → Hp → VK → Prop) (f : D → List D → Option (D × D)) : Prop :=
  ∀ (F H : Hp) (a : Addr) (d : D) (ds : List D) (vs : List V) (ret d' : D) (Q : VK), Sub F H → F a = none → Cell K F H a d → Reps K F ds vs → f d ds = some (ret, d') →
    (∀ w o, Rep K F ret w → Cell K F (upd H a o) a d' → Q w (upd H a o)) → r (.ref a) vs H Q
theorem cell_ty {K : PySem.W.Frag} {F H : Hp} {a : Addr} {d : D} (c : Cell K F H a d) : ∀ {T : String}, tyName d = some T → tyV K T (.ref a) H := fun {T} h => by
  cases d with
  | lst xs => cases h; obtain ⟨vs, e, _⟩ := c; exact .inl ⟨rfl, vs, SqL.of e⟩
  | dic ks xs => cases h; obtain ⟨vs, e, _⟩ := c; exact .inr (.inr (.inl ⟨rfl, .inl ⟨_, e⟩⟩))
  | _ => exact c.elim
section
variable {X : Cx} {W : WX} {e o : Expr} {es : List Expr} {gs : Av} {pos p cpos apos : Pos} {x : Str} {i : Nat}
/-- x.m(e, ..) of an owned list or dict -/
theorem ec_mut {K : PySem.W.Frag} {T : String} {r : V → List V → Hp → VK → Prop} {f : D → List D → Option (D × D)} (m : MtD K T r f) {σ : L2.St} {H : Hp} {Q : VK} (h : tE K W (dMut T i f gs) σ H Q) :
    tE K W (dVar i) σ H fun x H1 => tyV K T x H1 ∧ tA K W gs σ H1 fun xs H2 => r x xs H2 Q := by
  obtain ⟨α, ρ, F, G, ft, h⟩ := h
  refine ⟨α, ρ, F, G, ft, ?_⟩
  unfold dMut at h
  cases e1 : ownAt ρ i with
  | none => simp [e1, EC] at h
  | some d0 =>
    simp only [e1, Option.bind_some] at h
    cases e2 : tyName d0 with
    | none => simp [e2, EC] at h
    | some T' =>
      simp only [e2] at h
      by_cases hT : T' = T
      · subst hT
        rw [if_pos rfl] at h
        have go : ∀ v H1 F1, Grow G F F1 → Fits K α ρ σ H1 F1 G → RRep K F1 G H1 σ ρ (.loc i) v → tyV K T' v H1 ∧ tA K W gs σ H1 fun xs H2 => r v xs H2 Q := fun v H1 F1 g1 f1 r1 => by
          have hv : σ[i]? = some (some v) := r1
          obtain ⟨a, ha, fa, ga, c⟩ := ownAt_ref f1 e1
          rw [hv] at ha
          cases ha
          refine ⟨cell_ty c e2, α, ρ, F1, G, f1, ?_⟩
          cases e3 : gs ρ with
          | no => simp [e3, EC] at h
          | ex x ρ1 =>
            simp only [e3] at h
            exact EC.mono (e := .ex x ρ1) g1 h
          | ok rs ρ1 =>
            simp only [e3] at h
            intro vs H2 F2 g2 f2 s2
            cases e4 : frzs rs ρ1 with
            | none => simp [e4, EC] at h
            | some w =>
              obtain ⟨ds, ρ2⟩ := w
              simp only [e4] at h
              obtain ⟨F3, g3, f3, r3⟩ := Fits.frzs f2 s2 e4
              cases e5 : ownAt ρ2 i with
              | none => simp [e5, EC] at h
              | some d =>
                simp only [e5] at h
                cases e6 : f d ds with
                | none => simp [e6, EC] at h
                | some w =>
                  obtain ⟨ret, d'⟩ := w
                  simp only [e6] at h
                  obtain ⟨b, hb, fb, gb, cb⟩ := ownAt_ref f3 e5
                  rw [hv] at hb
                  cases hb
                  refine m F3 H2 a d ds vs ret d' Q f3.fh fb cb r3 e6 fun w o rw' co => ?_
                  exact h w _ F3 ((g1.trans g2).trans g3) (f3.write (ownAt_some e5) hv co) rw'
        unfold dVar
        rcases ownAt_some e1 with e3 | e3
        · simp only [e3]; exact go
        · simp only [e3]; exact go
      · rw [if_neg hT] at h
        exact h.elim
theorem ed_mut {T name id : String} {r : V → List V → Hp → VK → Prop} {f : D → List D → Option (D × D)} (pa : PlainAttrs T) (slot : PySem.Slot T name id) (hty : typeOf (.builtin id) = pure (.type "method_descriptor")) (hm : MtR X id r) (m : MtD X.K T r f)
    (ho : PE X o (tE X.K W (dVar i))) (ha : PA X (e :: es) (tA X.K W gs)) (hbase : attributeBase o name X.env (eval o X.env) = eval o X.env := by rfl)
    (hfew : ((backTo cpos (starEach (e :: es) X.env)).all (fun x => !x.1) && (backToKw cpos (keywordEach [] X.env)).all (fun x => x.1.isSome)
      && decide ((e :: es).length + ([] : List Keyword).length + (if ([] : List Keyword).isEmpty then 0 else 1) < 30)) = true := by rfl)
    (hline : (apos.endLine == cpos.line) = true := by rfl) (hs : starEach (e :: es) X.env = (false, eval e X.env) :: starEach es X.env := by rfl) (hplain : (backTo cpos (starEach es X.env)).any (·.1) = false := by rfl) :
    PE X (.Call (.Attribute o name apos) (e :: es) [] cpos) (tE X.K W (dMut T i f gs)) :=
  (pe_bm pa slot hty hm ho ha hbase hfew hline hs hplain).weak fun _ _ _ h => ec_mut m h
/-- x.m() -/
theorem ed_mut0 {T name id : String} {r : V → List V → Hp → VK → Prop} {f : D → List D → Option (D × D)} (pa : PlainAttrs T) (slot : PySem.Slot T name id) (hty : typeOf (.builtin id) = pure (.type "method_descriptor")) (hm : MtR X id r) (m : MtD X.K T r f)
    (ho : PE X o (tE X.K W (dVar i)))
    (h2 : PE X (.Call (.Attribute o name apos) [] [] cpos) (tBM0 X.K T r (tE X.K W (dVar i))) := by exact pe_bm0 (by assumption) (by assumption) (by assumption) (by assumption) (by assumption)) :
    PE X (.Call (.Attribute o name apos) [] [] cpos) (tE X.K W (dMut T i f fun ρ => .ok [] ρ)) :=
  h2.weak fun σ H Q h => by
    obtain ⟨α, ρ, F, G, ft, h⟩ := ec_mut m h
    refine ⟨α, ρ, F, G, ft, ?_⟩
    refine EC.imp (fun v H1 q => ?_) h
    obtain ⟨t, α', ρ', F', G', f', q⟩ := q
    exact ⟨t, q [] H1 F' (Grow.refl _ _) f' rfl⟩
end
/-! ### append, extend, pop, .. -/
def mAppend : D → List D → Option (D × D)
  | .lst xs, [d] => if xs.length < sizeLine then some (.non, .lst (xs ++ [d])) else none
  | _, _ => none
def mExtend : D → List D → Option (D × D)
  | .lst xs, [.lst ys] => if xs.length + ys.length ≤ sizeLine then some (.non, .lst (xs ++ ys)) else none
  | _, _ => none
section
variable {K : PySem.W.Frag}
theorem m_append : MtD K "list" rAppend mAppend := by
  intro F H a d ds vs ret d' Q s fa c r h q
  unfold mAppend at h
  split at h
  · rename_i xs e
    split at h
    · rename_i hl
      cases h
      obtain ⟨ws, hw, rw'⟩ := c
      obtain ⟨v, t, rfl, rv, rfl⟩ := r
      refine ⟨a, ws, v, rfl, rfl, hw, by rw [rw'.length]; exact hl, ?_⟩
      exact q .non _ rfl ⟨_, upd_same, rw'.snoc rv⟩
    · cases h
  · cases h
theorem m_extend : MtD K "list" rExtend mExtend := by
  intro F H a d ds vs ret d' Q s fa c r h q
  unfold mExtend at h
  split at h
  · rename_i xs ys
    split at h
    · rename_i hl
      cases h
      obtain ⟨ws, hw, rw'⟩ := c
      obtain ⟨v, t, rfl, ⟨b, us, rfl, hb, rb⟩, rfl⟩ := r
      refine ⟨a, b, ws, us, rfl, rfl, hw, s _ _ hb, by rw [rw'.length, rb.length]; exact hl, ?_⟩
      exact q .non _ rfl ⟨_, upd_same, rw'.append rb⟩
    · cases h
  · cases h
end
section
variable {X : Cx} {W : WX} {e o : Expr} {gs : Av} {cpos apos : Pos} {i : Nat}
theorem ed_append (ho : PE X o (tE X.K W (dVar i))) (ha : PA X [e] (tA X.K W gs)) (hbase : attributeBase o "append" X.env (eval o X.env) = eval o X.env := by rfl) (hfew : ((backTo cpos (starEach [e] X.env)).all (fun x => !x.1) && (backToKw cpos (keywordEach [] X.env)).all (fun x => x.1.isSome)
      && decide ([e].length + ([] : List Keyword).length + (if ([] : List Keyword).isEmpty then 0 else 1) < 30)) = true := by rfl) (hline : (apos.endLine == cpos.line) = true := by rfl) (hs : starEach [e] X.env = (false, eval e X.env) :: starEach [] X.env := by rfl) (hplain : (backTo cpos (starEach [] X.env)).any (·.1) = false := by rfl) :
    PE X (.Call (.Attribute o "append" apos) [e] [] cpos) (tE X.K W (dMut "list" i mAppend gs)) := ed_mut PySem.F.plainAttrs_list PySem.F.slot_list_append PySem.F.type_list_append mt_append m_append ho ha hbase hfew hline hs hplain
theorem ed_extend (ho : PE X o (tE X.K W (dVar i))) (ha : PA X [e] (tA X.K W gs)) (hbase : attributeBase o "extend" X.env (eval o X.env) = eval o X.env := by rfl) (hfew : ((backTo cpos (starEach [e] X.env)).all (fun x => !x.1) && (backToKw cpos (keywordEach [] X.env)).all (fun x => x.1.isSome)
      && decide ([e].length + ([] : List Keyword).length + (if ([] : List Keyword).isEmpty then 0 else 1) < 30)) = true := by rfl) (hline : (apos.endLine == cpos.line) = true := by rfl) (hs : starEach [e] X.env = (false, eval e X.env) :: starEach [] X.env := by rfl) (hplain : (backTo cpos (starEach [] X.env)).any (·.1) = false := by rfl) :
    PE X (.Call (.Attribute o "extend" apos) [e] [] cpos) (tE X.K W (dMut "list" i mExtend gs)) := ed_mut PySem.F.plainAttrs_list PySem.F.slot_list_extend PySem.F.type_list_extend mt_extend m_extend ho ha hbase hfew hline hs hplain
end
end DL

/-! stores, op=, raise, try. -/
namespace DL
open PySem PySem.Spec L2
/-! ### x[k] = v -/
def putXs : List Key → List D → Key → D → List D
  | k' :: ks, x :: xs, k, d => if k' = k then d :: xs else x :: putXs ks xs k d
  | _, xs, _, _ => xs
/-- a dict with k told d -/
def dicPut (ks : List Key) (xs : List D) (k : Key) (d : D) : D := if hasKey ks k then .dic ks (putXs ks xs k d) else .dic (ks ++ [k]) (xs ++ [d])
def stored (x k d : D) : Option D := match x with
  | .lst xs => match k with
    | .int i => (ixN xs.length i).map fun j => .lst (xs.set j d)
    | _ => none
  | .dic ks xs => match keyOf k with
    | some k => if ks.length < sizeLine then some (dicPut ks xs k d) else none
    | none => none
  | _ => none
def stAt (i : Nat) (k d : D) (ρ : Env) : Option Env := match ownAt ρ i with
  | some x => (stored x k d).map fun x' => setO ρ i x'
  | none => none
section
variable {K : PySem.W.Frag} {F : Hp}
theorem putXs_length : ∀ (ks : List Key) (xs : List D) (k : Key) (d : D), (putXs ks xs k d).length = xs.length
  | [], xs, k, d => by unfold putXs; rfl
  | _ :: _, [], k, d => rfl
  | k' :: ks, x :: xs, k, d => by
    unfold putXs
    split
    · rfl
    · simp [putXs_length ks xs k d]
theorem map_same {κ : Type} [DecidableEq κ] {k : κ} {v : V} : ∀ (l : List (κ × V)), (∀ p ∈ l, ¬ p.1 = k) → l.map (fun kv => if kv.1 = k then (kv.1, v) else kv) = l
  | [], _ => rfl
  | p :: l, h => by
    rw [List.map_cons, if_neg (h p List.mem_cons_self), map_same l fun q hq => h q (List.mem_cons_of_mem _ hq)]
theorem put_rep {k : Key} {d : D} {v : V} (rv : Rep K F d v) : ∀ {ks : List Key} {xs : List D} {vs : List V}, Reps K F xs vs → ks.length = xs.length → ks.Nodup →
    ∃ ws, (ks.zip vs).map (fun kv => if kv.1 = k then (kv.1, v) else kv) = ks.zip ws ∧ Reps K F (putXs ks xs k d) ws
  | [], [], vs, r, l, n => by cases r; exact ⟨[], rfl, .nil⟩
  | [], _ :: _, _, _, l, _ => by simp at l
  | _ :: _, [], _, _, l, _ => by simp at l
  | k' :: ks, x :: xs, _, r, l, n => by
    obtain ⟨u, t, rfl, a, b⟩ := r
    obtain ⟨n1, n2⟩ := List.nodup_cons.mp n
    by_cases e : k' = k
    · subst e
      refine ⟨v :: t, ?_, ?_⟩
      · rw [List.zip_cons_cons, List.map_cons, if_pos rfl, map_same]
        · rfl
        · rintro ⟨q, w⟩ hp z
          have : q ∈ ks := (List.of_mem_zip hp).1
          exact n1 (z ▸ this)
      · unfold putXs
        rw [if_pos rfl]
        exact .cons rv b
    · obtain ⟨ws, h1, h2⟩ := put_rep rv b (by simpa using l) n2
      refine ⟨u :: ws, ?_, ?_⟩
      · rw [List.zip_cons_cons, List.map_cons, if_neg e, h1]
        rfl
      · unfold putXs
        rw [if_neg e]
        exact .cons a h2
theorem hasKey_zip {ks : List Key} {vs : List V} {k : Key} (l : ks.length = vs.length) : ((ks.zip vs).any fun kv => decide (kv.1 = k)) = hasKey ks k := by
  unfold hasKey
  induction ks generalizing vs with
  | nil => rfl
  | cons k' ks ih =>
    cases vs with
    | nil => simp at l
    | cons v vs =>
      rw [List.zip_cons_cons, List.any_cons, List.any_cons, ih (by simpa using l)]
theorem hasKey_mem {ks : List Key} {k : Key} (h : hasKey ks k = false) : k ∉ ks := fun m => by
  have : hasKey ks k = true := List.any_eq_true.mpr ⟨k, m, decide_eq_true rfl⟩
  rw [h] at this
  cases this
/-- the dict behind a store -/
theorem cell_put {ks : List Key} {xs : List D} {vs : List V} {k : Key} {d : D} {v : V} {H : Hp} {a : Addr} (r : Reps K F xs vs) (l : ks.length = xs.length) (n : ks.Nodup) (rv : Rep K F d v) : Cell K F (upd H a (.dK (putK (ks.zip vs) k v))) a (dicPut ks xs k d) := by
  unfold dicPut putK
  have lv : ks.length = vs.length := by rw [r.length]; exact l
  rw [hasKey_zip lv]
  cases h : hasKey ks k with
  | true =>
    obtain ⟨ws, h1, h2⟩ := put_rep rv r l n (k := k)
    rw [if_pos rfl, if_pos rfl, h1]
    exact ⟨ws, upd_same, by rw [putXs_length]; exact l, n, h2⟩
  | false =>
    rw [if_neg Bool.false_ne_true, if_neg Bool.false_ne_true]
    refine ⟨vs ++ [v], ?_, by simp [l], ?_, r.snoc rv⟩
    · rw [upd_same, List.zip_append lv]
      rfl
    · rw [List.nodup_append]
      exact ⟨n, by simp, fun a ha b hb => by
        have : b = k := by simpa using hb
        subst this
        exact fun z => hasKey_mem h (z ▸ ha)⟩
end
/-- o[i] = v of a list or a dict, by values -/
def rStore : TSet := fun o i v H Q => rSetL o i v H Q ∨ rSetD o i v H Q
theorem set_any {X : Cx} (hu : X.A.units + 1 < cLine) : PSet X rStore := by
  intro pins s σ H o i v ov iv u Q I ro ri rv h
  rcases h with h | h
  · exact set_list pins s σ H o i v ov iv u Q I ro ri rv h
  · exact set_dict hu pins s σ H o i v ov iv u Q I ro ri rv h
section
variable {K : PySem.W.Frag} {W : WX} {α : Nat → Addr} {ρ ρ' : Env} {σ : L2.St} {H F G : Hp}
/-- a store at an owner -/
theorem Fits.store (f : Fits K α ρ σ H F G) {i : Nat} {k d : D} {vo vi v : V} {Q : Hp → Prop} (ho : σ[i]? = some (some vo)) (hk : View K F H k vi) (hd : Rep K F d v) (h : stAt i k d ρ = some ρ') (q : ∀ H', Fits K α ρ' σ H' F G → Q H') : rStore vo vi v H Q := by
  unfold stAt at h
  cases e1 : ownAt ρ i with
  | none => simp [e1] at h
  | some x =>
    simp only [e1] at h
    obtain ⟨x', e2, rfl⟩ := Option.map_eq_some_iff.mp h
    obtain ⟨a, ha, fa, ga, c⟩ := ownAt_ref f e1
    rw [ho] at ha
    cases ha
    have fin : ∀ o, Cell K F (upd H a o) a x' → Q (upd H a o) := fun o co => q _ (f.write (ownAt_some e1) ho co)
    cases x with
    | lst xs =>
      cases k with
      | int j =>
        obtain ⟨n, hn, rfl⟩ := Option.map_eq_some_iff.mp (show (ixN xs.length j).map (fun n => D.lst (xs.set n d)) = some x' from e2)
        obtain ⟨ws, hw, rw'⟩ := c
        cases hk
        exact .inl ⟨a, ws, j, n, rfl, rfl, hw, by rw [rw'.length]; exact hn, fin _ ⟨_, upd_same, rw'.set n hd⟩⟩
      | _ => cases e2
    | dic ks xs =>
      have e3 : (match keyOf k with | some k => if ks.length < sizeLine then some (dicPut ks xs k d) else none | none => none) = some x' := e2
      cases e4 : keyOf k with
      | none => rw [e4] at e3; cases e3
      | some kk =>
        rw [e4] at e3
        by_cases hl : ks.length < sizeLine
        · simp only [if_pos hl] at e3
          cases e3
          obtain ⟨ws, hw, l, n, rw'⟩ := c
          have := view_flat hk e4
          subst this
          refine .inr ⟨a, _, rfl, .inl ⟨_, kk, hw, rfl, ?_, rfl⟩, fin _ (cell_put rw' l n hd)⟩
          rw [List.length_zip, rw'.length, l, Nat.min_self, ← l]
          exact hl
        · simp only [if_neg hl] at e3
          cases e3
    | _ => exact c.elim
end
/-- x[gi] = g -/
def dStore (i : Nat) (gi g : Ev) : Sv := fun ρ => (g ρ).settle.st fun r ρ1 => match frz r ρ1 with
  | some (d, ρ2) => match ownAt ρ2 i with
    | some _ => (gi ρ2).settle.st fun r2 ρ3 => match peek r2 ρ3 with
      | some k => SR.of (stAt i k d ρ3)
      | none => .no
    | none => .no
  | none => .no
theorem SC.ec {K : PySem.W.Frag} {W : WX} {α : Nat → Addr} {σ : L2.St} {F G : Hp} {Q : VK} {D : Ends} {g : Ev} {ρ : Env} {k : RV → Env → SR} {H : Hp} (f : Fits K α ρ σ H F G)
    (hk : ∀ r ρ1 v H1 F1, Grow G F F1 → Fits K α ρ1 σ H1 F1 G → SRep K F1 σ r v → SC K W α F1 G D (k r ρ1) → Q v H1) (h : SC K W α F G D ((g ρ).settle.st k)) : tE K W g σ H Q :=
  ⟨α, ρ, F, G, f, EC.stS (fun r ρ1 v H1 F1 g1 f1 r1 h1 => hk r ρ1 v H1 F1 g1 f1 r1 h1) h⟩
theorem var_own {K : PySem.W.Frag} {W : WX} {α : Nat → Addr} {ρ : Env} {σ : L2.St} {H F G : Hp} {i : Nat} {d : D} {Q : VK} (f : Fits K α ρ σ H F G) (h : ownAt ρ i = some d) (q : ∀ v H1 F1, Grow G F F1 → Fits K α ρ σ H1 F1 G → σ[i]? = some (some v) → Q v H1) : tE K W (dVar i) σ H Q := by
  refine ⟨α, ρ, F, G, f, ?_⟩
  unfold dVar
  rcases ownAt_some h with e | e
  · simp only [e]; exact q
  · simp only [e]; exact q
section
variable {X : Cx} {W : WX} {e o ix : Expr} {g gi : Ev} {pos p2 : Pos} {i k : Nat}
theorem sd_store (hr : RoomG k X.A) (ho : PE X o (tE X.K W (dVar i))) (hi : PE X ix (tE X.K W gi)) (he : PE X e (tE X.K W g))
    (hs : swapsWithSole [.Subscript o ix p2] e pos.line X.env = pure false := by rfl) (hw : swappedStores [.Subscript o ix p2] e X.env = pure none := by rfl)
    (h1 : (assignEach [.Subscript o ix p2] X.env).map (·.2) = [assign (.Subscript o ix p2) X.env] := by rfl)
    (ha : ∀ v, assign (.Subscript o ix p2) X.env v = (do
      let ov ← holding [v] (eval o X.env)
      let iv ← holding [v, ov] (eval ix X.env)
      standAt p2
      holding [v, ov, iv] (setItem ov iv v)
      release [v, ov, iv] []) := by intro _; rfl) :
    PS X (.Assign [.Subscript o ix p2] e pos) (tS X.K W (dStore i gi g)) := by
  refine (ps_asg he (pg_sub ho hi (set_any (u1 hr)) ha) hs hw h1).weak fun D σ H ⟨α, ρ, F, G, f, h⟩ => ?_
  refine SC.ec f (fun r ρ1 v H1 F1 g1 f1 s1 h1 => ?_) h
  cases e1 : frz r ρ1 with
  | none => simp [e1, SC] at h1
  | some w =>
    obtain ⟨d, ρ2⟩ := w
    simp only [e1] at h1
    obtain ⟨F2, g2, f2, r2⟩ := f1.frz s1 e1
    have h1 := SC.mono g2 h1
    cases e2 : ownAt ρ2 i with
    | none => simp [e2, SC] at h1
    | some x =>
      simp only [e2] at h1
      refine var_own f2 e2 fun vo H3 F3 g3 f3 hv => ?_
      refine SC.ec f3 (fun r2' ρ3 vi H4 F4 g4 f4 s4 h4 => ?_) (SC.mono g3 h1)
      cases e3 : peek r2' ρ3 with
      | none => simp [e3, SC] at h4
      | some kk =>
        simp only [e3] at h4
        obtain ⟨ρ4, e4, h5⟩ := sc_of h4
        exact f4.store hv (f4.peek s4 e3) (Rep.mono (g3.trans g4).sub _ _ r2) e4 fun H' f' => h5 σ H' F4 (Grow.refl _ _) f'
end
/-! ### x[k] op= v -/
def rGetL (K : PySem.W.Frag) : V → V → Hp → VK → Prop := fun o i H Q => ∃ p xs j v, o = .ref p ∧ i = .int j ∧ SqL K H p xs ∧ atI xs j = some v ∧ Q v H
theorem get_list {X : Cx} : PGet X (rGetL X.K) := by
  rintro pins s σ H o i ov iv Q I ro ri ⟨p, xs, j, v, rfl, rfl, hq, he, q⟩
  cases ro
  obtain ⟨t, rfl⟩ := ri
  obtain ⟨its, r, pl, hz⟩ := I.list hq
  obtain ⟨n, h1, h2, h3, h4, h5⟩ := atI_get he
  obtain ⟨w, ew, rw'⟩ := r.get h2
  have hl := r.length
  have hn := line63
  have fin : EP X pins σ Q w s := ⟨v, H, I, rw', q⟩
  by_cases h0 : 0 ≤ j
  · have hj : j.toNat = n := Option.some.inj ((seqIndex_of h0 h5).symm.trans h1)
    exact wpAny_getItem_list pl.isList h0 (by omega) (by rw [hj]; simpa using ew) fin
  · have hj : (j + (its.toArray.size : Int)).toNat = n := by
      have z := Option.some.inj ((seqIndex_neg (by omega) h4).symm.trans h1)
      rw [List.size_toArray, ← hl]
      exact z
    refine wpAny_getItem_list_neg pl.isList (by omega) ?_ (by omega) ?_ fin
    · rw [List.size_toArray]
      omega
    · rw [hj]
      simpa using ew
def rGetA (K : PySem.W.Frag) : V → V → Hp → VK → Prop := fun o i H Q => rGetL K o i H Q ∨ ∃ a v, o = .ref a ∧ DGet H a i (some v) ∧ Q v H
theorem get_any {X : Cx} (hu : X.A.units + 1 < cLine) : PGet X (rGetA X.K) := by
  intro pins s σ H o i ov iv Q I ro ri h
  rcases h with h | ⟨a, v, rfl, g, q⟩
  · exact get_list pins s σ H o i ov iv Q I ro ri h
  · cases ro
    exact d_getItem hu I g ri fun w' s' I' rw' => ⟨v, H, I', rw', q⟩
def dAugS (i : Nat) (gi g : Ev) (f : D → D → Option RV) : Sv := fun ρ => match ownAt ρ i with
  | none => .no
  | some _ => (gi ρ).settle.st fun r ρ1 => match peek r ρ1, ownAt ρ1 i with
    | some kk, some x => match ixD x kk, keyOf kk with
      | some d0, some key => (g ρ1).settle.st fun r2 ρ2 => match peek r2 ρ2 with
        | some y => match f d0 y with
          | some (.val z) => SR.of (stAt i kk z ρ2)
          | _ => .no
        | none => .no
      | _, _ => .no
    | _, _ => .no
theorem rep_of_ixD {K : PySem.W.Frag} {F H : Hp} {a : Addr} {x kk d0 : D} {key : Key} {vi : V} (s : Sub F H) (c : Cell K F H a x) (hk : View K F H kk vi) (ek : keyOf kk = some key) (h : ixD x kk = some d0) {Q : VK} (q : ∀ v, Rep K F d0 v → Q v H) : rGetA K (.ref a) vi H Q := by
  cases x with
  | lst xs =>
    cases kk with
    | int j =>
      obtain ⟨ws, hw, rw'⟩ := c
      obtain ⟨v, hv, rv⟩ := rw'.atI (show L2.atI xs j = some d0 from h)
      cases hk
      exact .inl ⟨a, ws, j, v, rfl, rfl, SqL.of hw, hv, q v rv⟩
    | _ => cases h
  | dic ks xs =>
    have h' : (match keyOf kk with | some k => dGet ks xs k | none => none) = some d0 := h
    rw [ek] at h'
    obtain ⟨ws, hw, l, n, rw'⟩ := c
    obtain ⟨v, hv, rv⟩ := (dGet_rep rw' l).1 d0 h'
    have := view_flat hk ek
    subst this
    exact .inr ⟨a, v, rfl, .inl ⟨_, key, .inl hw, rfl, hv.symm⟩, q v rv⟩
  | _ => exact c.elim
theorem key_view {K : PySem.W.Frag} {F F' H H' : Hp} {d : D} {v : V} {k : Key} (e : keyOf d = some k) (h : View K F H d v) : View K F' H' d v := by
  cases d with
  | int i => exact h
  | str x => exact h
  | _ => cases e
section
variable {X : Cx} {W : WX} {e o ix : Expr} {g gi : Ev} {pos p2 : Pos} {i k : Nat}
theorem sd_augS {op : Operator} {r : R2} {f : D → D → Option RV} (hr : RoomG k X.A) (hop : OpR X (inplaceOp op) r) (hf : Op2 X.K r f) (ho : PE X o (tE X.K W (dVar i))) (hi : PE X ix (tE X.K W gi)) (he : PE X e (tE X.K W g))
    (ha : ∀ ov iv new, augStore ix ov iv new = (do holding [new, ov, iv] (setItem ov iv new); release [new, ov, iv] []; pure .next) := by intros; rfl) : PS X (.AugAssign (.Subscript o ix p2) op e pos) (tS X.K W (dAugS i gi g f)) := by
  refine (ps_augS ho hi (get_any (u1 hr)) he hop (set_any (u1 hr)) ha).weak fun D σ H ⟨α, ρ, F, G, ft, h⟩ => ?_
  unfold dAugS at h
  cases e1 : ownAt ρ i with
  | none => simp [e1, SC] at h
  | some x0 =>
    simp only [e1] at h
    refine var_own ft e1 fun vo H1 F1 g1 f1 hv => ?_
    refine SC.ec f1 (fun r1 ρ1 vi H2 F2 g2 f2 s2 h2 => ?_) (SC.mono g1 h)
    cases e2 : peek r1 ρ1 with
    | none => simp [e2, SC] at h2
    | some kk =>
      cases e3 : ownAt ρ1 i with
      | none => simp [e2, e3, SC] at h2
      | some x =>
        simp only [e2, e3] at h2
        cases e4 : ixD x kk with
        | none => simp [e4, SC] at h2
        | some d0 =>
          cases e5 : keyOf kk with
          | none => simp [e4, e5, SC] at h2
          | some key =>
            simp only [e4, e5] at h2
            obtain ⟨a, hva, fa, ga, c⟩ := ownAt_ref f2 e3
            rw [hv] at hva
            cases hva
            have kv := f2.peek s2 e2
            refine rep_of_ixD f2.fh c kv e5 e4 fun v0 rv0 => ?_
            refine SC.ec f2 (fun r2 ρ2 u H3 F3 g3 f3 s3 h3 => ?_) h2
            cases e6 : peek r2 ρ2 with
            | none => simp [e6, SC] at h3
            | some y =>
              simp only [e6] at h3
              cases e7 : f d0 y with
              | none => simp [e7, SC] at h3
              | some z =>
                cases z with
                | loc j => simp [e7, SC] at h3
                | new d => simp [e7, SC] at h3
                | val z =>
                  simp only [e7] at h3
                  obtain ⟨ρ4, e8, h4⟩ := sc_of h3
                  refine hf F3 H3 d0 y v0 u (.val z) _ f3.fh (Rep.view f3.fh (Rep.mono g3.sub _ _ rv0)) (f3.peek s3 e6) e7 fun w H4 F4 ex rz => ?_
                  have f4 := f3.ext ex
                  exact f4.store hv (key_view e5 kv) rz e8 fun H' f' => h4 σ H' F4 (f3.grow ex) f'
end
/-! ### x op= v -/
def dAug (i : Nat) (g : Ev) (f : D → D → Option RV) : Sv := fun ρ => match ρ[i]? with
  | some (.val d0) => (g ρ).settle.st fun r2 ρ2 => match peek r2 ρ2 with
    | some y => match f d0 y with
      | some z => SR.of (asgn i z ρ2)
      | none => .no
    | none => .no
  | _ => .no
section
variable {X : Cx} {W : WX} {e : Expr} {g : Ev} {pos p2 : Pos} {i k : Nat} {x : Str}
theorem sd_aug {op : Operator} {r : R2} {f : D → D → Option RV} (hN : X.N.Nodup) (hop : OpR X (inplaceOp op) r) (hf : Op2 X.K r f) (he : PE X e (tE X.K W g)) (hi : X.N[i]? = some x := by rfl) (hx : Loc X.env.scope x := by first | exact .inl rfl | exact .inr rfl)
    (hfn : X.fn x = true ∨ X.env.scope.names.lookup x = some .local := by first | exact .inl rfl | exact .inr rfl | assumption) : PS X (.AugAssign (.Name x p2) op e pos) (tS X.K W (dAug i g f)) := by
  refine (ps_aug hN hi hx he hop hfn).weak fun D σ H ⟨α, ρ, F, G, ft, h⟩ => ?_
  unfold dAug at h
  cases e1 : ρ[i]? with
  | none => simp [e1, SC] at h
  | some sl =>
    cases sl with
    | non => simp [e1, SC] at h
    | own d => simp [e1, SC] at h
    | bor d => simp [e1, SC] at h
    | val d0 =>
      simp only [e1] at h
      obtain ⟨xv, hx', v0, rfl, rv0⟩ := ft.slot i _ e1
      refine ⟨v0, hx', SC.ec ft (fun r2 ρ2 u H3 F3 g3 f3 s3 h3 => ?_) h⟩
      cases e6 : peek r2 ρ2 with
      | none => simp [e6, SC] at h3
      | some y =>
        simp only [e6] at h3
        cases e7 : f d0 y with
        | none => simp [e7, SC] at h3
        | some z =>
          simp only [e7] at h3
          obtain ⟨ρ4, e8, h4⟩ := sc_of h3
          refine hf F3 H3 d0 y v0 u z _ f3.fh (Rep.view f3.fh (Rep.mono g3.sub _ _ rv0)) (f3.peek s3 e6) e7 fun w H4 F4 ex rz => ?_
          have f4 := f3.ext ex
          obtain ⟨F5, g5, f5⟩ := f4.asgn (rz.rrep f3 ex) e8
          exact h4 _ H4 F5 ((f3.grow ex).trans g5) f5
theorem iop_mul' {X : Cx} : OpR X (inplaceOp .Mult) (rI CMul fun i j => .int (i * j)) := iop_mul
end
end DL

/-! raise, try, dict displays, walks over a dict. -/
namespace DL
open PySem PySem.Spec L2
/-! ### raise X() of an own class without an own __init__ -/
section
variable {X : Cx} {W : WX} {x : Str} {C : Addr} {bmB : List Value} {B newId initId : String} {p pos pos2 : Pos}
theorem pmk_bare (F : ExcBaseFacts B newId initId bmB) (q : PySem.W.excIn X.K C bmB newId = true) (gC : X.mg x = some (.ref C)) (kC : PySem.W.keepIn X.K (.ref C) = true) (r : Raises X (.ref C)) (hg : Gl X x) (hdb : (x == ("__debug__" : Str)) = false := by decide) :
    PMk X (.Call (.Name x p) [] [] pos) (fun _ H Q => Q (.ref C) none H) := by
  intro pins s σ H Q I h
  refine wpAny_Call_Name_kw (ld_glob I hg gC ?_ hdb)
  refine PySem.W.callWith_K0 I.kIn kC ?_
  show wpAny _ _ (call (.ref C) []) _ _ _
  obtain ⟨bm, N, nm, qn, bs, hdct, sn, sub, ab, col, dd, k0, k1, k2, k3, k5, mN, hC, hN, hni, T⟩ := exc_obj I.kIn q
  refine wpAny_call_exc_subT F T hC hN hni (fun h' e hm => mk_of I hm r h (I.hok.gone hm.new)) ?_
  exact Nat.zero_le _
/-- what is known of an own class of exceptions -/
structure OwnX (K : PySem.W.Frag) (mg : Str → Option Value) (x : Str) (C : Addr) : Prop where
  ns : PySem.W.nsIn K mainGlobals x = some (some (.ref C))
  gl : mg x = some (.ref C)
  keep : PySem.W.keepIn K (.ref C) = true
  base : PySem.W.subIn K (.ref C) (.type "BaseException") = some true
  ty : PySem.W.typeIn K (.ref C) = some (.type "type")
  dict : PySem.W.hasDictIn K C = true
def dRaise (x : ECls) : Sv := fun ρ => .ex ⟨x, []⟩ ρ
theorem sd_raise0 (hc : X.calm = true) (tk : Takes X W) (F : ExcBaseFacts B newId initId bmB) (q : PySem.W.excIn X.K C bmB newId = true) (o : OwnX X.K X.mg x C) (hg : Gl X x := by rfl) (hdb : (x == ("__debug__" : Str)) = false := by decide) :
    PS X (.Raise (some (.Call (.Name x p) [] [] pos)) none pos2) (tS X.K W (dRaise (.own x))) :=
  (ps_raise hc tk (pmk_bare F q o.gl o.keep (raises_own o.base o.ty) hg hdb)).weak fun D σ H ⟨α, ρ, F, G, f, h⟩ =>
    h _ none σ H F (Grow.refl _ _) f ⟨o.ns, .inl rfl⟩
end
/-! ### try: .. except X: .. -/
def noEx : SR → SR
  | .ex _ _ => .no
  | s => s
def dTry (ism : ECls → Option Bool) (gb gs : Sv) : Sv := fun ρ => match gb ρ with
  | .ex x ρ1 => match ism x.cls with
    | some true => noEx (gs ρ1)
    | some false => .ex x ρ1
    | none => .no
  | s => s
theorem SC.noEx {K : PySem.W.Frag} {W W' : WX} {α : Nat → Addr} {F G : Hp} {D : Ends} : ∀ {s : SR}, SC K W α F G D (DL.noEx s) → SC K W' α F G D s
  | .nx ρ, h => h
  | .rt r ρ, h => h
  | .bk ρ, h => h
  | .ct ρ, h => h
  | .ex x ρ, h => h.elim
  | .no, h => h
section
variable {X : Cx} {W : WX} {x : Str} {c : Value} {body suite : List Stmt} {b₀ : Stmt} {np pos pos' : Pos} {gb gs : Sv} {ism : ECls → Option Bool}
theorem sd_try (hs : X.stack = X.env :: X.outer) (hf : X.env.frame = some X.env.locals) (hc : Names X x c) (tk : Takes X W) (hx : ∀ e b, ism e = some b → ∀ v, ClsIs X.K e v → PySem.W.exmOne X.K v c = some b)
    (hb : ∀ (W' : WX) (pn : List (Addr × Obj)) (xe : Value → Shared → Prop), Takes (X.tr pn xe) W' → PassesOwn (model X.prog X.w) X.A X.env xe → PSs (X.tr pn xe) body (tS X.K W' gb))
    (hsu : ∀ (a : Addr) (oe : Obj) (cls : Value) (d : Option Addr) (pn : List (Addr × Obj)), PSs (X.suite a ((a, oe) :: pn)) (b₀ :: suite) (tS X.K W0 gs)) :
    PS X (.Try body [.ExceptHandler (some (.Name x np)) none (b₀ :: suite) pos'] [] [] pos) (tS X.K W (dTry ism gb gs)) := by
  refine (ps_try_only (tb := fun W' => tS X.K W' gb) (ts := fun _ _ _ => tS X.K W0 gs) hs hf hc tk hb (fun a oe cls d pn _ _ => hsu a oe cls d pn)).weak fun D σ H ⟨α, ρ, F, G, f, h⟩ => ⟨α, ρ, F, G, f, ?_⟩
  unfold dTry at h
  cases e1 : gb ρ with
  | nx ρ1 => rw [e1] at h; exact h
  | rt r ρ1 => rw [e1] at h; exact h
  | bk ρ1 => rw [e1] at h; exact h
  | ct ρ1 => rw [e1] at h; exact h
  | no => rw [e1] at h; exact h
  | ex x ρ1 =>
    rw [e1] at h
    intro cls d σ' H' F' g1 f1 x1
    cases e2 : ism x.cls with
    | none => simp [e2, SC] at h
    | some b =>
      simp only [e2] at h
      refine ⟨b, hx _ _ e2 cls x1.1, fun hb a _ => ?_, fun hb => ?_⟩
      · subst hb
        exact ⟨α, ρ1, F', G, f1, SC.noEx (SC.mono g1 h)⟩
      · subst hb
        exact h cls d σ' H' F' g1 f1 x1
/-- a class name in a clause -/
theorem names_own {C : Addr} (o : OwnX X.K X.mg x C) (hg : Gl X x := by rfl) (hdb : (x == ("__debug__" : Str)) = false := by decide) : Names X x (.ref C) := ⟨hg, hdb, .inl o.gl⟩
/-- the class itself is caught -/
theorem exm_own {K : PySem.W.Frag} {mg : Str → Option Value} {C : Addr} (o : OwnX K mg x C) (h : PySem.W.subIn K (.ref C) (.ref C) = some true) : PySem.W.exmOne K (.ref C) (.ref C) = some true := PySem.W.exm_ref o.base o.dict o.ty h
end
/-! ### {k: v, ..} -/
inductive PsR where | ok (ps : List (Key × D)) (ρ : Env) | ex (x : Exn) (ρ : Env) | no
/-- an item, made data at once -/
def dFrz (g : Ev) (ρ : Env) (k : D → Env → PsR) : PsR := match (g ρ).settle with
  | .ok r ρ1 => match frz r ρ1 with
    | some (d, ρ2) => k d ρ2
    | none => .no
  | .ex x ρ1 => .ex x ρ1
  | .no => .no
def dPairs : List (Ev × Ev) → Env → PsR
  | [], ρ => .ok [] ρ
  | (gk, gv) :: r, ρ => dFrz gk ρ fun dk ρ1 => match keyOf dk with
    | some k => dFrz gv ρ1 fun dv ρ2 => match dPairs r ρ2 with
      | .ok ps ρ3 => .ok ((k, dv) :: ps) ρ3
      | .ex x ρ3 => .ex x ρ3
      | .no => .no
    | none => .no
def putD (d : D) (p : Key × D) : D := match d with
  | .dic ks xs => dicPut ks xs p.1 p.2
  | d => d
def mergeD (ps : List (Key × D)) : D := ps.foldl putD (.dic [] [])
def dDisp (prs : List (Ev × Ev)) : Ev := fun ρ => match dPairs prs ρ with
  | .ok ps ρ1 => if ps.length ≤ 15 then .ok (.new (mergeD ps)) ρ1 else .no
  | .ex _ _ => .no
  | .no => .no
/-- kvs is what d says -/
def DicRel (K : PySem.W.Frag) (F : Hp) (kvs : List (Key × V)) : D → Prop
  | .dic ks xs => ∃ vs, kvs = ks.zip vs ∧ ks.length = xs.length ∧ ks.Nodup ∧ Reps K F xs vs
  | _ => False
section
variable {K : PySem.W.Frag} {F H : Hp}
theorem DicRel.put {kvs : List (Key × V)} {d e : D} {k : Key} {v : V} (r : DicRel K F kvs d) (rv : Rep K F e v) : DicRel K F (putK kvs k v) (putD d (k, e)) := by
  cases d with
  | dic ks xs =>
    obtain ⟨vs, rfl, l, n, rr⟩ := r
    have c := cell_put (H := fun _ => none) (a := 0) (k := k) rr l n rv
    have c' : Cell K F (upd (fun _ => none) 0 (.dK (putK (ks.zip vs) k v))) 0 (dicPut ks xs k e) := c
    show DicRel K F (putK (ks.zip vs) k v) (dicPut ks xs k e)
    unfold dicPut at c' ⊢
    split
    · rename_i hh
      rw [if_pos hh] at c'
      obtain ⟨ws, q, l', n', r'⟩ := c'
      rw [upd_same] at q
      exact ⟨ws, HO.dK.inj (Option.some.inj q), l', n', r'⟩
    · rename_i hh
      rw [if_neg hh] at c'
      obtain ⟨ws, q, l', n', r'⟩ := c'
      rw [upd_same] at q
      exact ⟨ws, HO.dK.inj (Option.some.inj q), l', n', r'⟩
  | _ => exact r.elim
theorem DicRel.merge : ∀ {ps : List (Key × D)} {kvs : List (Key × V)} {acc : List (Key × V)} {d : D}, DicRel K F acc d → ps.map (·.1) = kvs.map (·.1) → Reps K F (ps.map (·.2)) (kvs.map (·.2)) → DicRel K F (mergeK acc kvs) (ps.foldl putD d)
  | [], [], acc, d, r, _, _ => r
  | [], _ :: _, _, _, _, e, _ => by simp at e
  | _ :: _, [], _, _, _, e, _ => by simp at e
  | (k, x) :: ps, (k', v) :: kvs, acc, d, r, e, rr => by
    obtain ⟨u, t, e1, a, b⟩ := rr
    rw [List.map_cons] at e1
    have e2 : v = u ∧ kvs.map (·.2) = t := List.cons.inj e1
    have e3 : k = k' ∧ ps.map (·.1) = kvs.map (·.1) := List.cons.inj (show k :: ps.map (·.1) = k' :: kvs.map (·.1) from e)
    obtain ⟨rfl, rfl⟩ := e2
    obtain ⟨rfl, e4⟩ := e3
    show DicRel K F (mergeK (putK acc k v) kvs) (ps.foldl putD (putD d (k, x)))
    exact DicRel.merge (r.put a) e4 b
theorem DicRel.cell {kvs : List (Key × V)} {d : D} {a : Addr} (r : DicRel K F kvs d) : Cell K F (upd H a (.dK kvs)) a d := by
  cases d with
  | dic ks xs =>
    obtain ⟨vs, rfl, l, n, rr⟩ := r
    exact ⟨vs, upd_same, l, n, rr⟩
  | _ => exact r.elim
end
section
variable {X : Cx} {W : WX} {pos : Pos}
/-- a new object held still while the parts are made -/
theorem Fits.still {K : PySem.W.Frag} {α : Nat → Addr} {ρ : Env} {σ : L2.St} {H F G : Hp} (f : Fits K α ρ σ H F G) {P : Addr} {o : HO} (h : H P = none) : Fits K α ρ σ (upd H P o) F (upd G P o) := by
  have f1 := f.ext (Ext.allocO (o := o) f.fh h)
  refine ⟨f1.fh, f1.gh.trans (Sub.refl _) |> fun _ => (Sub.upd2 f.gh), f1.len, fun i s q => ?_, f1.sep⟩
  obtain ⟨x, hx, so⟩ := f1.slot i s q
  refine ⟨x, hx, ?_⟩
  obtain ⟨x', hx', so'⟩ := f.slot i s q
  rw [hx] at hx'
  cases hx'
  have ne : ∀ {b : Addr} {d : D}, Cell K F H b d → b ≠ P := fun {b d} c z => by
    obtain ⟨u, hu⟩ := c.there
    rw [z, h] at hu
    cases hu
  cases s with
  | non => trivial
  | val d => exact so
  | own d =>
    obtain ⟨a, e, fa, ga, c⟩ := so
    obtain ⟨a', e', _, _, c'⟩ := so'
    rw [e] at e'
    cases e'
    exact ⟨a, e, fa, by rw [upd_ne (ne c')]; exact ga, c⟩
  | bor d =>
    obtain ⟨e, fa, ga, c⟩ := so
    exact ⟨e, fa, by rw [upd_ne (ne so'.2.2.2)]; exact ga, c⟩
/-- parts of a display -/
def tPrs (K : PySem.W.Frag) (prs : List (Ev × Ev)) : List (TE × TE) := prs.map fun p => (tE K W0 p.1, tE K W0 p.2)
theorem pc_pairs {K : PySem.W.Frag} {α : Nat → Addr} {σ : L2.St} {G : Hp} : ∀ {prs : List (Ev × Ev)} {ρ ρ' : Env} {H F : Hp} {ps : List (Key × D)} {T : List (V × V) → Hp → Prop}, Fits K α ρ σ H F G → dPairs prs ρ = .ok ps ρ' →
    (∀ (kvs : List (Key × V)) H' F', Grow G F F' → Fits K α ρ' σ H' F' G → ps.map (·.1) = kvs.map (·.1) → Reps K F' (ps.map (·.2)) (kvs.map (·.2)) → T (kvs.map fun kv => (kV kv.1, kv.2)) H') → tPairs (tPrs K prs) σ H T
  | [], ρ, ρ', H, F, ps, T, f, e, h => by
    cases e
    exact h [] H F (Grow.refl _ _) f rfl .nil
  | (gk, gv) :: r, ρ, ρ', H, F, ps, T, f, e, h => by
    have part : ∀ {g : Ev} {ρ : Env} {H F : Hp} {k : D → Env → PsR} {Q : V → Hp → Prop}, Fits K α ρ σ H F G → dFrz g ρ k = .ok ps ρ' → (∀ d ρ1 v H1 F1, Grow G F F1 → Fits K α ρ1 σ H1 F1 G → Rep K F1 d v → k d ρ1 = .ok ps ρ' → Q v H1) → tE K W0 g σ H Q := by
      intro g ρ H F k Q f e h
      refine ⟨α, ρ, F, G, f, EC.settle ?_⟩
      unfold dFrz at e
      cases e1 : (g ρ).settle with
      | no => rw [e1] at e; cases e
      | ex x ρ1 => rw [e1] at e; cases e
      | ok r ρ1 =>
        rw [e1] at e
        have rs : r.settle = r := by
          cases q : g ρ with
          | no => rw [q] at e1; cases e1
          | ex x ρ => rw [q] at e1; cases e1
          | ok r0 ρ0 =>
            rw [q] at e1
            have e6 : r0.settle = r := by cases e1; rfl
            rw [← e6]
            cases r0 <;> rfl
        intro v H1 F1 g1 f1 r1
        have s1 : SRep K F1 σ r v := by
          rw [← rs] at r1 ⊢
          exact settle_srep r1
        have e' : (match frz r ρ1 with | some (d, ρ2) => k d ρ2 | none => .no) = PsR.ok ps ρ' := e
        cases e2 : frz r ρ1 with
        | none => rw [e2] at e'; cases e'
        | some w =>
          obtain ⟨d, ρ2⟩ := w
          rw [e2] at e'
          obtain ⟨F2, g2, f2, r2⟩ := f1.frz s1 e2
          exact h d ρ2 v H1 F2 (g1.trans g2) f2 r2 e'
    show tE K W0 gk σ H fun x H1 => tE K W0 gv σ H1 fun y H2 => tPairs (tPrs K r) σ H2 fun ps H3 => T ((x, y) :: ps) H3
    refine part f (show dFrz gk ρ _ = .ok ps ρ' from e) fun dk ρ1 x H1 F1 g1 f1 rk e1 => ?_
    cases ek : keyOf dk with
    | none => rw [ek] at e1; cases e1
    | some k =>
      rw [ek] at e1
      have := key_rep rk ek
      subst this
      refine part f1 e1 fun dv ρ2 y H2 F2 g2 f2 rv e2 => ?_
      cases e3 : dPairs r ρ2 with
      | no => rw [e3] at e2; cases e2
      | ex z ρ3 => rw [e3] at e2; cases e2
      | ok qs ρ3 =>
        rw [e3] at e2
        cases e2
        refine pc_pairs f2 e3 fun kvs H' F' g3 f3 k1 k2 => ?_
        exact h ((k, y) :: kvs) H' F' ((g1.trans g2).trans g3) f3 (by simp [k1]) (.cons (Rep.mono g3.sub _ _ rv) k2)
theorem ed_disp {keys : List (Option Expr)} {values : List Expr} {prs : List (Ev × Ev)} (h : PPs X pos keys values (tPrs X.K prs)) (hall : keys.all (·.isSome) = true := by rfl) (hl : keys.length = values.length := by rfl) (h0 : keys ≠ [] := by exact fun z => nomatch z)
    (h15 : keys.length ≤ 15 := by decide) : PE X (.Dict keys values pos) (tE X.K W (dDisp prs)) := by
  refine (pe_disp h hall hl h0 h15).weak fun σ H Q ⟨α, ρ, F, G, f, h⟩ => ?_
  unfold dDisp at h
  cases e1 : dPairs prs ρ with
  | no => simp [e1, EC] at h
  | ex x ρ1 => simp [e1, EC] at h
  | ok ps ρ1 =>
    simp only [e1] at h
    by_cases hlen : ps.length ≤ 15
    · rw [if_pos hlen] at h
      intro P hP
      have fP : F P = none := f.fh.free hP
      have gP : G P = none := f.gh.free hP
      refine pc_pairs (f.still hP) e1 fun kvs H' F' g1 f1 k1 k2 => ?_
      have hp : H' P = some (.dK []) := f1.gh P _ upd_same
      have nP : F' P = none := by
        cases q : F' P with
        | none => rfl
        | some u =>
          rcases g1.new P u q with z | ⟨_, z⟩
          · rw [fP] at z; cases z
          · rw [upd_same] at z; cases z
      have gr : Grow G F F' := ⟨g1.sub, fun a o e => by
        rcases g1.new a o e with z | ⟨z1, z2⟩
        · exact .inl z
        · refine .inr ⟨z1, ?_⟩
          by_cases q : a = P
          · subst q; exact gP
          · rw [upd_ne q] at z2; exact z2⟩
      refine ⟨hp, kvs, rfl, ?_, ?_⟩
      · have := congrArg List.length k1
        simp only [List.length_map] at this
        omega
      · have rel : DicRel X.K F' (mergeK [] kvs) (mergeD ps) := DicRel.merge (K := X.K) (F := F') (acc := []) (d := .dic [] []) ⟨[], rfl, rfl, List.nodup_nil, .nil⟩ k1 k2
        -- back from the ground that was held
        obtain ⟨f6, ap6⟩ := Fits.loose gP (Fits.turn (o' := .dK (mergeK [] kvs)) f1 nP gP f1)
        exact h _ _ F' gr f6 ⟨P, rfl, nP, gP, rel.cell, fun j s q o => ap6 j s q o⟩
    · rw [if_neg hlen] at h
      exact h.elim
theorem pd_nil : PPs X pos [] [] (tPrs X.K []) := pps_nil
theorem pd_cons {k v : Expr} {ks : List (Option Expr)} {vs : List Expr} {gk gv : Ev} {r : List (Ev × Ev)} (hk : PE X k (tE X.K W0 gk)) (hv : PE X v (tE X.K W0 gv)) (hr : PPs X pos ks vs (tPrs X.K r)) : PPs X pos (some k :: ks) (v :: vs) (tPrs X.K ((gk, gv) :: r)) := pps_cons hk hv hr
theorem ed_disp0 : PE X (.Dict [] [] pos) (tE X.K W fun ρ => .ok (.new (.dic [] [])) ρ) := by
  refine pe_dnewK.weak fun σ H Q ⟨α, ρ, F, G, f, h⟩ P hP => ?_
  exact EC.op f h _ _ F (Ext.allocO f.fh hP) ⟨P, rfl, hP, f.fh.free hP, [], upd_same, rfl, List.nodup_nil, .nil⟩
end
end DL

/-! a dict walked: it is locked meanwhile. -/
namespace DL
open PySem PySem.Spec L2
/-- what data say is the same by both -/
structure Alike (F F' : Hp) : Prop where
  tup : ∀ a xs, Rd F a (.tup xs) → Rd F' a (.tup xs)
  rlst : ∀ a xs, Rd F a (.lst xs) → Rd F' a (.lst xs)
  lst : ∀ a xs, F a = some (.lst xs) → F' a = some (.lst xs)
  dic : ∀ a xs, Rd F a (.dK xs) → Rd F' a (.dK xs)
section
variable {K : PySem.W.Frag} {F F' : Hp}
mutual
theorem Rep.alike (s : Alike F F') : ∀ (d : D) (v : V), Rep K F d v → Rep K F' d v
  | .non, _, h => h
  | .bl _, _, h => h
  | .int _, _, h => h
  | .str _, _, h => h
  | .raw _, _, h => h
  | .tup xs, v, h => by
    obtain ⟨a, vs, e, q, r⟩ := h
    exact ⟨a, vs, e, q.imp (s.tup a vs) id, Reps.alike s xs vs r⟩
  | .lst xs, v, h => by
    obtain ⟨a, vs, e, q, r⟩ := h
    exact ⟨a, vs, e, s.lst a vs q, Reps.alike s xs vs r⟩
  | .scr xs, v, h => by
    obtain ⟨a, vs, e, q, r⟩ := h
    exact ⟨a, vs, e, q.imp (s.rlst a vs) id, Reps.alike s xs vs r⟩
  | .dic ks xs, v, h => by
    obtain ⟨a, vs, e, q, l, n, r⟩ := h
    exact ⟨a, vs, e, s.dic a _ q, l, n, Reps.alike s xs vs r⟩
theorem Reps.alike (s : Alike F F') : ∀ (ds : List D) (vs : List V), Reps K F ds vs → Reps K F' ds vs
  | [], _, h => h
  | d :: ds, _, h => by
    obtain ⟨v, r, e, a, b⟩ := h
    exact ⟨v, r, e, Rep.alike s d v a, Reps.alike s ds r b⟩
end
theorem Cell.alike {H H' : Hp} {a : Addr} (s : Alike F F') (e : ∀ o, H a = some o → H' a = some o) {d : D} (c : Cell K F H a d) : Cell K F' H' a d := by
  cases d with
  | lst xs => obtain ⟨vs, q, r⟩ := c; exact ⟨vs, e _ q, Reps.alike s _ _ r⟩
  | dic ks xs => obtain ⟨vs, q, l, n, r⟩ := c; exact ⟨vs, e _ q, l, n, Reps.alike s _ _ r⟩
  | _ => exact c.elim
theorem alike_lock {d : Addr} {o : Obj} {kvs : List (Key × V)} (h : F d = some (.dK kvs)) : Alike F (upd F d (.frz o (.dK kvs))) := by
  refine ⟨fun a xs r => ?_, fun a xs r => ?_, fun a xs r => ?_, fun a xs r => ?_⟩
  · by_cases e : a = d
    · subst e
      rcases r with r | ⟨o', r⟩ <;> (rw [h] at r; cases r)
    · rcases r with r | ⟨o', r⟩
      · exact .inl (by rw [upd_ne e]; exact r)
      · exact .inr ⟨o', by rw [upd_ne e]; exact r⟩
  · by_cases e : a = d
    · subst e
      rcases r with r | ⟨o', r⟩ <;> (rw [h] at r; cases r)
    · rcases r with r | ⟨o', r⟩
      · exact .inl (by rw [upd_ne e]; exact r)
      · exact .inr ⟨o', by rw [upd_ne e]; exact r⟩
  · by_cases e : a = d
    · subst e
      rw [h] at r; cases r
    · rw [upd_ne e]; exact r
  · by_cases e : a = d
    · subst e
      rcases r with r | ⟨o', r⟩
      · rw [h] at r; cases r
        exact .inr ⟨o, upd_same⟩
      · rw [h] at r; cases r
    · rcases r with r | ⟨o', r⟩
      · exact .inl (by rw [upd_ne e]; exact r)
      · exact .inr ⟨o', by rw [upd_ne e]; exact r⟩
theorem alike_open {d : Addr} {o : Obj} {kvs : List (Key × V)} (h : F d = some (.frz o (.dK kvs))) : Alike F (upd F d (.dK kvs)) := by
  refine ⟨fun a xs r => ?_, fun a xs r => ?_, fun a xs r => ?_, fun a xs r => ?_⟩
  · by_cases e : a = d
    · subst e
      rcases r with r | ⟨o', r⟩ <;> (rw [h] at r; cases r)
    · rcases r with r | ⟨o', r⟩
      · exact .inl (by rw [upd_ne e]; exact r)
      · exact .inr ⟨o', by rw [upd_ne e]; exact r⟩
  · by_cases e : a = d
    · subst e
      rcases r with r | ⟨o', r⟩ <;> (rw [h] at r; cases r)
    · rcases r with r | ⟨o', r⟩
      · exact .inl (by rw [upd_ne e]; exact r)
      · exact .inr ⟨o', by rw [upd_ne e]; exact r⟩
  · by_cases e : a = d
    · subst e
      rw [h] at r; cases r
    · rw [upd_ne e]; exact r
  · by_cases e : a = d
    · subst e
      rcases r with r | ⟨o', r⟩
      · rw [h] at r; cases r
      · rw [h] at r
        cases r
        exact .inl upd_same
    · rcases r with r | ⟨o', r⟩
      · exact .inl (by rw [upd_ne e]; exact r)
      · exact .inr ⟨o', by rw [upd_ne e]; exact r⟩
end
/-- set where something stands -/
def updIf (G : Hp) (d : Addr) (o : HO) : Hp := fun b => if b = d then (match G d with
  | some _ => some o
  | none => none) else G b
theorem updIf_ne {G : Hp} {d b : Addr} {o : HO} (h : b ≠ d) : updIf G d o b = G b := if_neg h
theorem updIf_none {G : Hp} {d b : Addr} {o : HO} : updIf G d o b = none ↔ G b = none := by
  unfold updIf
  by_cases e : b = d
  · subst e
    rw [if_pos rfl]
    cases G b <;> simp
  · rw [if_neg e]
theorem upd_none {F : Hp} {d b : Addr} {o u : HO} (h : F d = some u) : upd F d o b = none ↔ F b = none := by
  by_cases e : b = d
  · subst e
    rw [upd_same, h]
    simp
  · rw [upd_ne e]
section
variable {K : PySem.W.Frag} {α : Nat → Addr} {ρ : Env} {σ : L2.St} {H F G G' : Hp} {d : Addr} {o u : HO}
/-- one object of the data told otherwise -/
theorem Fits.told (f : Fits K α ρ σ H F G) (h : F d = some u) (a : Alike F (upd F d o)) (hG : ∀ b, G' b = none ↔ G b = none) (hG2 : Sub G' (upd H d o)) : Fits K α ρ σ (upd H d o) (upd F d o) G' := by
  refine ⟨f.fh.upd2, hG2, f.len, fun i s q => ?_, f.sep⟩
  obtain ⟨x, hx, so⟩ := f.slot i s q
  refine ⟨x, hx, ?_⟩
  have ne : ∀ {b : Addr}, F b = none → b ≠ d := fun {b} z e => by rw [e, h] at z; cases z
  cases s with
  | non => trivial
  | val e => obtain ⟨v, e1, r⟩ := so; exact ⟨v, e1, Rep.alike a _ _ r⟩
  | own e =>
    obtain ⟨b, e1, fb, gb, c⟩ := so
    exact ⟨b, e1, (upd_none h).mpr fb, (hG b).mpr gb, c.alike a fun w z => by rw [upd_ne (ne fb)]; exact z⟩
  | bor e =>
    obtain ⟨e1, fb, gb, c⟩ := so
    exact ⟨e1, (upd_none h).mpr fb, (hG _).mpr gb, c.alike a fun w z => by rw [upd_ne (ne fb)]; exact z⟩
end
/-! ### what a dict gives -/
inductive DW where | keys | vals | items
def keyD : Key → D
  | .inl i => .int i
  | .inr x => .str x
def walked (w : DW) (ks : List Key) (xs : List D) : List D := match w with
  | .keys => ks.map keyD
  | .vals => xs
  | .items => List.zipWith (fun k x => .tup [keyD k, x]) ks xs
def itOf (w : DW) (d : Addr) (o : Obj) (kvs : List (Key × V)) : It := match w with
  | .keys => Itk d o kvs
  | .vals => Itd d o kvs
  | .items => Iti d o kvs
section
variable {K : PySem.W.Frag} {F : Hp}
theorem rep_key (k : Key) : Rep K F (keyD k) (kV k) := by
  cases k with
  | inl i => exact rfl
  | inr x => exact rfl
theorem zip_at {ks : List Key} {vs : List V} {i : Nat} {k : Key} {v : V} (h : (ks.zip vs)[i]? = some (k, v)) : ks[i]? = some k ∧ vs[i]? = some v := by
  have := List.getElem?_zip_eq_some.mp h
  exact this
theorem jd_dic (w : DW) {d : Addr} {o : Obj} {ks : List Key} {xs : List D} {vs : List V} (h : F d = some (.frz o (.dK (ks.zip vs)))) (l : ks.length = xs.length) (r : Reps K F xs vs) : JD K F (itOf w d o (ks.zip vs)) (walked w ks xs) := fun H1 F1 s1 s2 => by
  have hd : H1 d = some (.frz o (.dK (ks.zip vs))) := s2 _ _ (s1 _ _ h)
  have r1 := Reps.mono s1 _ _ r
  have lz : (ks.zip vs).length = ks.length := by rw [List.length_zip, r.length, l, Nat.min_self]
  have lw : (walked w ks xs).length = ks.length := by
    cases w with
    | keys => exact List.length_map _
    | vals => exact l.symm
    | items => show (List.zipWith _ ks xs).length = _; rw [List.length_zipWith, l, Nat.min_self]
  have stop : (itOf w d o (ks.zip vs)).stop (walked w ks xs).length H1 := by
    cases w <;> exact ⟨hd, by rw [lw, lz]; exact Nat.le_refl _⟩
  refine ⟨fun i e he => ?_, stop⟩
  have hi : i < ks.length := by rw [← lw]; exact (List.getElem?_eq_some_iff.mp he).1
  have go : (itOf w d o (ks.zip vs)).go i H1 := by
    cases w <;> exact ⟨hd, by rw [lz]; exact hi⟩
  refine ⟨go, fun x H2 y => ?_⟩
  cases w with
  | keys =>
    obtain ⟨rfl, k, v, e1, rfl⟩ := y
    obtain ⟨e2, _⟩ := zip_at e1
    have he' : (ks.map keyD)[i]? = some e := he
    rw [List.getElem?_map, e2] at he'
    cases he'
    exact ⟨F1, Ext.refl s2, rep_key k⟩
  | vals =>
    obtain ⟨rfl, k, e1⟩ := y
    obtain ⟨_, e2⟩ := zip_at e1
    obtain ⟨v, hv, rv⟩ := r1.get (show xs[i]? = some e from he)
    rw [e2] at hv
    cases hv
    exact ⟨F1, Ext.refl s2, rv⟩
  | items =>
    obtain ⟨T, k, v, e1, rfl, hT, rfl⟩ := y
    obtain ⟨e2, e3⟩ := zip_at e1
    have he' : (List.zipWith (fun k x => D.tup [keyD k, x]) ks xs)[i]? = some e := he
    rw [List.getElem?_zipWith, e2] at he'
    cases e4 : xs[i]? with
    | none => rw [e4] at he'; cases he'
    | some x =>
      rw [e4] at he'
      cases he'
      obtain ⟨v', hv, rv⟩ := r1.get e4
      rw [e3] at hv
      cases hv
      exact ⟨_, Ext.alloc s2 hT, rep_pair (s2.free hT) (rep_key k) rv⟩
end
/-- what a name that holds a dict gives; it is plain data from then on -/
def dicAt (ρ : Env) (i : Nat) : Option (List Key × List D × Env) := match ρ[i]? with
  | some (.val (.dic ks xs)) => some (ks, xs, ρ)
  | some (.own (.dic ks xs)) => some (ks, xs, ρ.set i (.val (.dic ks xs)))
  | _ => none
def iDic (w : DW) (i : Nat) : Iv := fun ρ => match dicAt ρ i with
  | some (ks, xs, ρ1) => .ok (walked w ks xs) ρ1
  | none => .no
def offEx : ER → ER
  | .ex _ _ => .no
  | e => e
/-- [.. for .. in d.items()] -/
def dLcD (w : DW) (i : Nat) (vs : List Nat) (ft : D → Env → Option Env) (gt ge : Ev) : Ev := fun ρ => offEx (dLc (iDic w i) vs ft gt ge ρ)
theorem PE.or {X : Cx} {e : Expr} {t1 t2 : TE} (h1 : PE X e t1) (h2 : PE X e t2) : PE X e (fun σ H Q => t1 σ H Q ∨ t2 σ H Q) := ⟨fun pins s σ H Q I h => by
  rcases h with h | h
  · exact h1.run pins s σ H Q I h
  · exact h2.run pins s σ H Q I h⟩
/-- the reading of a walk over a dict that is locked -/
def iWalk (w : DW) (td : TE) : TI := fun σ H R => td σ H fun x H1 => ∃ d o kvs, x = .ref d ∧ H1 d = some (.frz o (.dK kvs)) ∧ R (itOf w d o kvs) H1
section
variable {K : PySem.W.Frag} {W : WX} {ft : D → Env → Option Env} {gt ge : Ev} {tch : List Nat} {vs : List Nat} {w : DW} {i : Nat}
theorem EC.off {W : WX} {α : Nat → Addr} {σ : L2.St} {F G : Hp} {Q : VK} : ∀ {e : ER}, EC K W α σ F G Q (offEx e) → EC K W0 α σ F G Q e
  | .ok r ρ, h => h
  | .ex x ρ, h => h.elim
  | .no, h => h
/-- the walk, the dict being locked -/
theorem ec_walk {α : Nat → Addr} {ρ : Env} {σ : L2.St} {H F G : Hp} {R : It → Hp → Prop} {d : Addr} {o : Obj} {ks : List Key} {xs : List D} {us : List V} (f : Fits K α ρ σ H F G) (hs : ρ[i]? = some (.val (.dic ks xs))) (hv : σ[i]? = some (some (.ref d))) (hF : F d = some (.frz o (.dK (ks.zip us)))) (l : ks.length = xs.length) (r : Reps K F xs us)
    (h : IC K W0 α σ F G R (iDic w i ρ)) : iWalk w (tVar i) σ H R := by
  have e2 : iDic w i ρ = .ok (walked w ks xs) ρ := by unfold iDic dicAt; rw [hs]
  rw [e2] at h
  exact ⟨.ref d, hv, d, o, _, rfl, f.fh _ _ hF, h _ H F (Grow.refl _ _) f (jd_dic w hF l r)⟩
theorem ec_lcD_val {α : Nat → Addr} {ρ : Env} {σ : L2.St} {H F G : Hp} {Q : VK} {ks : List Key} {xs : List D} (ht : ∀ j ∈ tch, j ∈ vs) (f : Fits K α ρ σ H F G) (hs : ρ[i]? = some (.val (.dic ks xs))) (h : EC K W α σ F G Q (dLcD w i vs ft gt ge ρ)) :
    tLockE (tLc (iWalk w (tVar i)) (tG K tch ft) (tT K W0 gt) (tE K W0 ge) vs) σ H Q ∨ tLc (iWalk w (tVar i)) (tG K tch ft) (tT K W0 gt) (tE K W0 ge) vs σ H Q := by
  obtain ⟨x, hx, v, rfl, d, us, rfl, rd, l, nd, r⟩ := f.slot i _ hs
  rcases rd with hF | ⟨o, hF⟩
  · refine .inl ⟨d, _, f.fh _ _ hF, trivial, fun od => ?_⟩
    let z : HO := .frz od (.dK (ks.zip us))
    have hH : H d = some (.dK (ks.zip us)) := f.fh _ _ hF
    have al : Alike F (upd F d z) := alike_lock hF
    have f0 : Fits K α ρ σ (upd H d z) (upd F d z) (updIf G d z) := f.told hF al (fun b => updIf_none) (fun b u e => by
      by_cases q : b = d
      · subst q
        rw [upd_same]
        have e' : (match G b with | some _ => some z | none => none) = some u := by
          have := e
          unfold updIf at this
          rw [if_pos rfl] at this
          exact this
        cases e2 : G b with
        | none => rw [e2] at e'; cases e'
        | some w => rw [e2] at e'; exact e'
      · rw [updIf_ne q] at e
        rw [upd_ne q]
        exact f.gh _ _ e)
    refine ec_lc_at (W := W0) ht f0 (fun R q => ec_walk f0 hs hx upd_same l (Reps.alike al _ _ r) q) ?_
    have key : ∀ {e : ER}, EC K W α σ F G Q (offEx e) → EC K W0 α σ (upd F d z) (updIf G d z) (fun v H' => H' d = some (.frz od (.dK (ks.zip us))) ∧ Q v (upd H' d (.dK (ks.zip us)))) e := by
      intro e h
      cases e with
      | no => exact h
      | ex x ρ1 => exact h.elim
      | ok rv ρ1 =>
        intro v H' F' g1 f1 r1
        have hz : F' d = some z := g1.sub _ _ upd_same
        have hz2 : H' d = some z := f1.fh _ _ hz
        refine ⟨hz2, ?_⟩
        have al2 : Alike F' (upd F' d (.dK (ks.zip us))) := alike_open hz
        have f2 : Fits K α ρ1 σ (upd H' d (.dK (ks.zip us))) (upd F' d (.dK (ks.zip us))) G := f1.told hz al2 (fun b => updIf_none.symm) (fun b u e => by
          by_cases q : b = d
          · subst q
            have := f.gh _ _ e
            rw [hH] at this
            cases this
            exact upd_same
          · rw [upd_ne q]
            exact f1.gh _ _ (by rw [updIf_ne q]; exact e))
        have g2 : Grow G F (upd F' d (.dK (ks.zip us))) := by
          refine ⟨fun a o e => ?_, fun a o e => ?_⟩
          · by_cases q : a = d
            · subst q
              rw [hF] at e
              cases e
              exact upd_same
            · rw [upd_ne q]
              exact g1.sub _ _ (by rw [upd_ne q]; exact e)
          · by_cases q : a = d
            · subst q
              rw [upd_same] at e
              cases e
              exact .inl hF
            · rw [upd_ne q] at e
              rcases g1.new a o e with w | ⟨w1, w2⟩
              · rw [upd_ne q] at w
                exact .inl w
              · exact .inr ⟨(upd_none hF).mp w1, updIf_none.mp w2⟩
        refine h v _ _ g2 f2 ?_
        cases rv with
        | val dd => exact Rep.alike al2 _ _ r1
        | loc j => exact r1
        | new dd =>
          obtain ⟨a, rfl, fa, ga, c, sp⟩ := r1
          have ne : a ≠ d := fun q => by rw [q, hz] at fa; cases fa
          exact ⟨a, rfl, by rw [upd_ne ne]; exact fa, updIf_none.mp ga, c.alike al2 fun w q => by rw [upd_ne ne]; exact q, sp⟩
    exact key h
  · exact .inr (ec_lc_at (W := W0) ht f (fun R q => ec_walk f hs hx hF l r q) (EC.off h))
theorem dicAt_own {ρ : Env} {i : Nat} {ks : List Key} {xs : List D} (h : ρ[i]? = some (.own (.dic ks xs))) : dLcD w i vs ft gt ge ρ = dLcD w i vs ft gt ge (ρ.set i (.val (.dic ks xs))) := by
  have hi : i < ρ.length := (List.getElem?_eq_some_iff.mp h).1
  have e : iDic w i ρ = iDic w i (ρ.set i (.val (.dic ks xs))) := by
    unfold iDic dicAt
    rw [h, List.getElem?_set_self hi]
  unfold dLcD dLc
  rw [e]
theorem ec_lcD {σ : L2.St} {H : Hp} {Q : VK} (ht : ∀ j ∈ tch, j ∈ vs) (h : tE K W (dLcD w i vs ft gt ge) σ H Q) :
    tLockE (tLc (iWalk w (tVar i)) (tG K tch ft) (tT K W0 gt) (tE K W0 ge) vs) σ H Q ∨ tLc (iWalk w (tVar i)) (tG K tch ft) (tT K W0 gt) (tE K W0 ge) vs σ H Q := by
  obtain ⟨α, ρ, F, G, f, h⟩ := h
  have no : dicAt ρ i = none → False := fun e => by
    have : dLcD w i vs ft gt ge ρ = .no := by
      unfold dLcD dLc iDic
      rw [e]
      rfl
    rw [this] at h
    exact h
  cases e : ρ[i]? with
  | none => exact (no (by unfold dicAt; rw [e])).elim
  | some s =>
    cases s with
    | non => exact (no (by unfold dicAt; rw [e])).elim
    | bor d => exact (no (by unfold dicAt; rw [e])).elim
    | val d =>
      cases d with
      | dic ks xs => exact ec_lcD_val ht f e h
      | _ => exact (no (by unfold dicAt; rw [e])).elim
    | own d =>
      cases d with
      | dic ks xs =>
        obtain ⟨x, hx, a, rfl, _⟩ := f.slot i _ e
        obtain ⟨F1, g1, f1, r1⟩ := f.freeze e hx
        have hi : i < ρ.length := (List.getElem?_eq_some_iff.mp e).1
        rw [dicAt_own e] at h
        exact ec_lcD_val ht f1 (List.getElem?_set_self hi) (EC.mono g1 h)
      | _ => exact (no (by unfold dicAt; rw [e])).elim
end
section
variable {X : Cx} {W : WX} {elt tg e : Expr} {ifs : List Expr} {scope : Scope} {own : List (Str × Nat)} {ft : D → Env → Option Env} {gt ge : Ev} {tch : List Nat} {pos apos cpos : Pos} {i : Nat} {x : Str} {w : DW} {iter : Expr}
theorem ed_lcD (hc : X.calm = true) (hN : X.N.Nodup) (ok : BlkOk X.N X.env.scope scope own) (ht : ∀ j ∈ tch, j ∈ own.map (·.2)) (hi : PI X tg iter (iWalk w (tVar i)))
    (hg : ∀ (s : Shared) (H : Hp) (C : Addr) (cl : List (Str × Addr)) (fp : List Addr), PG (X.blk s H scope (compEnvC scope cl C X.env) fp) tg (tG X.K tch ft)) (hif : ∀ (s : Shared) (H : Hp) (C : Addr) (cl : List (Str × Addr)) (fp : List Addr), PTs (X.blk s H scope (compEnvC scope cl C X.env) fp) ifs (tT X.K W0 gt))
    (he : ∀ (s : Shared) (H : Hp) (C : Addr) (cl : List (Str × Addr)) (fp : List Addr), PE (X.blk s H scope (compEnvC scope cl C X.env) fp) elt (tE X.K W0 ge)) (hs : ∀ x, foldedSetIterable iter X.env x = pure x := by intro _; rfl) :
    PE X (.ListComp elt [⟨tg, iter, ifs, 0⟩] scope pos) (tE X.K W (dLcD w i (own.map (·.2)) ft gt ge)) := by
  have p := pe_lc (pos := pos) hc hN hi ok hg hif he hs
  exact (PE.or (pe_lock p) p).weak fun σ H Q h => ec_lcD ht h
theorem iw_values (he : PE X e (tVar i)) (hbase : attributeBase e "values" X.env (eval e X.env) = eval e X.env := by rfl) (hline : (apos.endLine == cpos.line) = true := by rfl) : PI X tg (.Call (.Attribute e "values" apos) [] [] cpos) (iWalk .vals (tVar i)) := pi_values he hbase hline
theorem iw_items {elts : List Expr} {kk : Nat} {tpos : Pos} (he : PE X e (tVar i)) (hbase : attributeBase e "items" X.env (eval e X.env) = eval e X.env := by rfl) (hline : (apos.endLine == cpos.line) = true := by rfl) : PI X (.Tuple elts kk tpos) (.Call (.Attribute e "items" apos) [] [] cpos) (iWalk .items (tVar i)) := pi_items he hbase hline
end
end DL

/-! short words for the walks that a program prints. -/
namespace DL
open PySem PySem.Spec L2
/-! ### defs -/
structure FnC (P : Program) (w : World) (K : PySem.W.Frag) (mg : Str → Option Value) (base : Heap) (k : Nat) (x : Str) (ms : List Bool) (den : List D → DR) : Prop where
  ex : ∃ (f : Addr) (fd : FuncData) (ps : List Str), mg x = some (.ref f) ∧ PySem.W.keepIn K (.ref f) = true ∧ Binds K fd ps [] ∧ FnG P w K mg base k f fd ps (spD K ms den)
  loc : ∀ ds r outs, den ds = .ok r outs → ∀ i, r ≠ .loc i
/-- where a def of the text stands -/
structure DefAt (K : PySem.W.Frag) (mg : Str → Option Value) (x : Str) (st : Stmt) (ps : List Str) : Prop where
  ex : ∃ (f : Addr) (fd : FuncData), mg x = some (.ref f) ∧ Fun K x x st f fd ∧ Binds K fd ps []
section
variable {P : Program} {w : World} {K : PySem.W.Frag} {mg : Str → Option Value} {base : Heap}
theorem fnC_of {x : Str} {st : Stmt} {N ps : List Str} {k : Nat} {ms : List Bool} {g : Sv} (d : DefAt K mg x st ps) (S : FnScope N ps (defScope st)) (hm : ms.length = ps.length)
    (hb : ∀ (f : Addr) (cdv : Value) (A : Around) (outer : List PySem.Env) (s : Shared) (H : Hp) (E : XK), RoomG k (A.deeper (PyProof.Rows.envOfC x (defScope st) s.heap.objs.size f cdv)) →
      PSs (cxOf (L2.CX P w) P w K mg base N x (defScope st) f cdv A outer s H E) (defBody st) (tS K (fun cls d _ H' => E cls d H') g)) :
    FnC P w K mg base (k + 1) x ms (dDef N.length ms g) := by
  obtain ⟨f, fd, m, F, b⟩ := d.ex
  exact ⟨⟨f, fd, ps, m, F.kp, b, def_okG F S hm (hb f)⟩, fun ds r outs h => dDef_loc _ _ _ _ _ _ h⟩
theorem fnC_zero {x : Str} {st : Stmt} {ps : List Str} {ms : List Bool} {k : Nat} (d : DefAt K mg x st ps) (hm : ms.length = ps.length) : FnC P w K mg base k x ms fun _ => .no := by
  obtain ⟨f, fd, m, F, b⟩ := d.ex
  refine ⟨⟨f, fd, ps, m, F.kp, b, fun vs H Q E h => (spD_len vs H Q E h).trans hm, fun A up s H args us vs Q E _ _ _ _ h => ?_⟩, fun ds r outs h => by cases h⟩
  obtain ⟨α, F, G, ds, _, _, h⟩ := h
  exact h.elim
theorem FnC.mono {j k : Nat} {x : Str} {ms : List Bool} {den : List D → DR} (c : FnC P w K mg base j x ms den) (h : j ≤ k) : FnC P w K mg base k x ms den := by
  obtain ⟨f, fd, ps, m, kp, b, F⟩ := c.ex
  exact ⟨⟨f, fd, ps, m, kp, b, F.mono h⟩, c.loc⟩
end
section
variable {X : Cx} {W : WX} {e : Expr} {es : List Expr} {gs : Av} {pos p : Pos} {j k : Nat} {ms : List Bool} {den : List D → DR} {x : Str}
/-- f(..) -/
theorem ed_callF (c : FnC X.prog X.w X.K X.mg X.base k x ms den) (hr : RoomG j X.A) (tk : Takes X W) (ha : PA X (e :: es) (tA X.K W gs)) (hk : k ≤ j := by omega) (hg : Gl X x := by rfl) (hdb : (x == ("__debug__" : Str)) = false := by decide)
    (he : starEach (e :: es) X.env = (false, eval e X.env) :: starEach es X.env := by rfl) (hpl : (backTo pos (starEach es X.env)).any (·.1) = false := by rfl) : PE X (.Call (.Name x p) (e :: es) [] pos) (tE X.K W (dCall ms den gs)) := by
  obtain ⟨f, fd, ps, m, kp, b, F⟩ := c.ex
  exact ed_callG c.loc (F.mono hk) hr m kp b tk ha hg hdb he hpl
end
/-! ### constants of the module -/
structure GlobD (K : PySem.W.Frag) (mg : Str → Option Value) (x : Str) (d : D) : Prop where
  ex : ∃ u v, mg x = some u ∧ RelV v u ∧ ∀ F, Rep K F d v
/-- a flat value as data -/
def flatOk : Value → D → Bool
  | .none, .non => true
  | .bool a, .bl b => a == b
  | .int i _, .int j => decide (i = j)
  | .str x _, .str y => decide (x = y)
  | _, _ => false
def flatsOk : List Value → List D → Bool
  | [], [] => true
  | u :: us, d :: ds => flatOk u d && flatsOk us ds
  | _, _ => false
section
variable {K : PySem.W.Frag} {mg : Str → Option Value} {h : Heap} {x : Str}
theorem flatOk_rep {u : Value} {d : D} (e : flatOk u d = true) : ∃ v, RelV v u ∧ ∀ F, Rep K F d v := by
  unfold flatOk at e
  split at e
  · exact ⟨.non, rfl, fun F => rfl⟩
  · exact ⟨.bl _, rfl, fun F => by simp at e; subst e; rfl⟩
  · exact ⟨.int _, ⟨_, rfl⟩, fun F => by simp at e; subst e; rfl⟩
  · exact ⟨.str _, ⟨_, rfl⟩, fun F => by simp at e; subst e; rfl⟩
  · cases e
theorem flatsOk_rep : ∀ {us : List Value} {ds : List D}, flatsOk us ds = true → ∃ vs, Vals vs us ∧ ∀ F, Reps K F ds vs
  | [], [], _ => ⟨[], .nil, fun F => .nil⟩
  | [], _ :: _, e => by cases e
  | _ :: _, [], e => by cases e
  | u :: us, d :: ds, e => by
    have e' : (flatOk u d && flatsOk us ds) = true := e
    rw [Bool.and_eq_true] at e'
    obtain ⟨v, r1, h1⟩ := flatOk_rep (K := K) e'.1
    obtain ⟨vs, r2, h2⟩ := flatsOk_rep e'.2
    exact ⟨v :: vs, .cons r1 r2, fun F => .cons (h1 F) (h2 F)⟩
theorem glob_flat {u : Value} {d : D} (X : K.In h) (G : h.Ns mainGlobals mg) (a : PySem.W.nsIn K mainGlobals x = some (some u)) (e : flatOk u d = true) : GlobD K mg x d := by
  obtain ⟨v, r, hv⟩ := flatOk_rep (K := K) e
  exact ⟨u, v, PySem.W.mg_of X G a, r, hv⟩
theorem glob_tup {a : Addr} {dd : Option Addr} {us : Array Value} {n : Nat} {sl : Array (Option Value)} {ds : List D} (X : K.In h) (G : h.Ns mainGlobals mg) (e1 : PySem.W.nsIn K mainGlobals x = some (some (.ref a))) (e2 : K.lookup a = some ⟨.type "tuple", dd, .seq us n, sl⟩)
    (hs : us.size ≤ 1000) (e : flatsOk us.toList ds = true) : GlobD K mg x (.tup ds) := by
  obtain ⟨vs, r, hv⟩ := flatsOk_rep (K := K) e
  exact ⟨.ref a, .ref a, PySem.W.mg_of X G e1, rfl, fun F => ⟨a, vs, rfl, .inr ⟨_, us, n, e2, rfl, rfl, le_line hs, r⟩, hv F⟩⟩
theorem glob_lst {a : Addr} {us : Array Value} {n : Nat} {sl : Array (Option Value)} {ds : List D} (X : K.In h) (G : h.Ns mainGlobals mg) (e1 : PySem.W.nsIn K mainGlobals x = some (some (.ref a))) (e2 : K.lookup a = some ⟨.type "list", none, .seq us n, sl⟩)
    (hs : us.size ≤ 1000) (e : flatsOk us.toList ds = true) : GlobD K mg x (.scr ds) := by
  obtain ⟨vs, r, hv⟩ := flatsOk_rep (K := K) e
  exact ⟨.ref a, .ref a, PySem.W.mg_of X G e1, rfl, fun F => ⟨a, vs, rfl, .inr ⟨_, us, n, e2, rfl, rfl, rfl, le_line hs, r⟩, hv F⟩⟩
end
def seqOfK : D → List D
  | .tup xs => xs
  | .scr xs => xs
  | _ => []
section
variable {X : Cx} {W : WX} {a b e : Expr} {es : List Expr} {g ga gb : Ev} {gs : Av} {pos p : Pos} {j k : Nat} {x : Str} {d : D}
theorem ed_globD (c : GlobD X.K X.mg x d) (hg : Gl X x := by rfl) (hd : (x == ("__debug__" : Str)) = false := by decide) : PE X (.Name x pos) (tE X.K W (dC d)) := by
  obtain ⟨u, v, m, r, rd⟩ := c.ex
  exact ed_glob hg m r rd hd
/-! ### built-ins -/
theorem bo_len : bootBuiltins "len" = some (.builtin "len") := by decide +kernel
theorem bo_abs : bootBuiltins "abs" = some (.builtin "abs") := by decide +kernel
theorem bo_all : bootBuiltins "all" = some (.builtin "all") := by decide +kernel
theorem bo_any : bootBuiltins "any" = some (.builtin "any") := by decide +kernel
theorem bo_sum : bootBuiltins "sum" = some (.builtin "sum") := by decide +kernel
theorem bo_max : bootBuiltins "max" = some (.builtin "max") := by decide +kernel
theorem bo_min : bootBuiltins "min" = some (.builtin "min") := by decide +kernel
theorem bo_repr : bootBuiltins "repr" = some (.builtin "repr") := by decide +kernel
theorem bo_isi : bootBuiltins "isinstance" = some (.builtin "isinstance") := by decide +kernel
theorem bo_int : bootBuiltins "int" = some (.type "int") := by decide +kernel
theorem bo_str : bootBuiltins "str" = some (.type "str") := by decide +kernel
theorem bo_bool : bootBuiltins "bool" = some (.type "bool") := by decide +kernel
theorem bo_list : bootBuiltins "list" = some (.type "list") := by decide +kernel
theorem bo_tuple : bootBuiltins "tuple" = some (.type "tuple") := by decide +kernel
theorem bo_dict : bootBuiltins "dict" = some (.type "dict") := by decide +kernel
theorem ed_bi {id : String} {r : List V → Hp → VK → Prop} {f : List D → Option RV} (hc : CallR X (.builtin id) r) (o : OpN X.K r f) (hm : X.mg x = none) (hv : bootBuiltins x = some (.builtin id)) (ha : PA X (e :: es) (tA X.K W gs)) (hg : Gl X x := by rfl) (hn : x ≠ "__name__" := by decide) (hdb : (x == ("__debug__" : Str)) = false := by decide)
    (he : starEach (e :: es) X.env = (false, eval e X.env) :: starEach es X.env := by rfl) (hpl : (backTo pos (starEach es X.env)).any (·.1) = false := by rfl) : PE X (.Call (.Name x p) (e :: es) [] pos) (tE X.K W (dB f gs)) := ed_callB hc o hg hm hv ha hn hdb he hpl
theorem ed_bt {T : String} {r : List V → Hp → VK → Prop} {f : List D → Option RV} (hc : CallR X (.type T) r) (o : OpN X.K r f) (hm : X.mg x = none) (hv : bootBuiltins x = some (.type T)) (ha : PA X (e :: es) (tA X.K W gs)) (hg : Gl X x := by rfl) (hn : x ≠ "__name__" := by decide) (hdb : (x == ("__debug__" : Str)) = false := by decide)
    (he : starEach (e :: es) X.env = (false, eval e X.env) :: starEach es X.env := by rfl) (hpl : (backTo pos (starEach es X.env)).any (·.1) = false := by rfl) : PE X (.Call (.Name x p) (e :: es) [] pos) (tE X.K W (dB f gs)) := ed_callTy hc o hg hm hv ha hn hdb he hpl
/-- the name of a built-in type -/
theorem ed_ty {T : String} (hm : X.mg x = none) (hv : bootBuiltins x = some (.type T)) (hg : Gl X x := by rfl) (hn : x ≠ "__name__" := by decide) (hd : (x == ("__debug__" : Str)) = false := by decide) : PE X (.Name x pos) (tE X.K W (dC (.raw (.ty T)))) :=
  ed_bltn hg hm hv rfl hn hd
/-- - x -/
def opNeg : D → Option RV
  | .int i => some (.val (.int (-i)))
  | _ => none
theorem o_neg {K : PySem.W.Frag} : Op1 K (rU fun i => .int (-i)) opNeg := by
  intro F H d v z Q s a h q
  cases d with
  | int i => cases h; cases a; exact ⟨i, rfl, q _ H F (Ext.refl s) rfl⟩
  | _ => cases h
theorem ed_neg (ha : PE X a (tE X.K W ga)) : PE X (.UnaryOp .USub a pos) (tE X.K W (dOp1 opNeg ga)) := ed_un un_neg o_neg ha
/-- is None -/
def opIsN (d : D) : Option RV := match d with
  | .raw _ => none
  | .non => some (.val (.bl true))
  | _ => some (.val (.bl false))
end
/-! ### what stands at the top -/
section
variable {K : PySem.W.Frag} {mg : Str → Option Value} {h : Heap} {x : Str}
theorem defAt_of {st : Stmt} {ps : List Str} {f : Addr} {oc : Value} {od an : Option Addr} {osl : Array (Option Value)} {kV doc pm cdv ct : Value} (X : K.In h) (G : h.Ns mainGlobals mg) (a : PySem.W.nsIn K mainGlobals x = some (some (.ref f)))
    (l : K.lookup f = some ⟨oc, od, .func (PySem.W.fnOf x x (defArgs st) (defBody st) (defScope st) .none kV doc pm an cdv ct), osl⟩) (c : PySem.W.codeIn K cdv x = true) (k : PySem.W.keepIn K (.ref f) = true)
    (b : ∀ (kV doc pm : Value) (an : Option Addr) (cdv ct : Value) (us : List Value), us.length = ps.length → bindArgs (PySem.W.fnOf x x (defArgs st) (defBody st) (defScope st) .none kV doc pm an cdv ct) ⟨us, []⟩ = pure (ps.zip us)) : DefAt K mg x st ps :=
  ⟨⟨f, _, PySem.W.mg_of X G a, fun_mk l c k, (fun_mk (st := st) l c k).binds b⟩⟩
end
end DL

/-! sum(lists, start): a start that is a list. -/
namespace DL
open PySem PySem.Spec L2 Builtin
theorem sub_list_text : isSubtype (.type "list") (.type "str") = pure false := by rw [isSubtype_type]; kernel_rfl
theorem sub_list_bytes : isSubtype (.type "list") (.type "bytes") = pure false := by rw [isSubtype_type]; kernel_rfl
theorem sub_list_barr : isSubtype (.type "list") (.type "bytearray") = pure false := by rw [isSubtype_type]; kernel_rfl
theorem args_sum_two (a b : Value) : argsOk "sum" ⟨[a, b], []⟩ := by unfold argsOk; kernel_rfl
/-- a plain list object -/
abbrev lstO (its : List Value) (n : Nat) : Obj := { cls := .type "list", data := .seq its.toArray n }
section
variable {prog : Program} {w : World} {A : Around} {R : Result → Shared → Prop} {I : Addr} {fp wr : List Addr} {n : Nat} {P : Nat → Value → Prop} {St : Nat → Heap → Prop}
theorem sum_lists_loop (W : Walks prog w A.in1 I fp wr n P St) (S : Addr) (hfp : ∀ b ∈ fp, b < S) (pre : Nat → List Value) (big : ∀ i, i < n → (pre (i + 1)).length ≤ sizeLine) (base : Heap)
    (part : ∀ i v, P i v → ∃ a its c, v = .ref a ∧ base.get? a = some (lstO its c) ∧ pre (i + 1) = pre i ++ its ∧ a ∉ wr ∧ a ≠ S) :
    ∀ (k i : Nat) (s : Shared) (T c c2 : Nat), n - i = k → i ≤ n → St i s.heap → (∀ b o, b ∉ wr → b ≠ S → base.get? b = some o → s.heap.get? b = some o) → s.heap.get? S = some (lstO [.ref T] c) → T ≠ S → T ∉ wr → s.heap.get? T = some (lstO (pre i) c2) →
      (∀ h' tk T' c', (∀ b o, b ∉ wr → b ≠ S → s.heap.get? b = some o → h'.get? b = some o) → h'.get? T' = some (lstO (pre n) c') → (i = n ∧ T' = T) ∨ (i < n ∧ S < T') → R (.ok (.ret (.ref T'))) { s with heap := h', toks := tk }) →
      codeAny (model prog w) A (.builtin "sum.loop" ⟨[.ref I, .ref S, rawInt 2, rawInt 0], []⟩) R s := by
  have hS : S ∉ fp := fun h => Nat.lt_irrefl _ (hfp _ h)
  have hSw : S ∉ wr := fun h => hS (W.sub _ h)
  intro k
  induction k with
  | zero =>
    intro i s T c c2 hk hi st kept hSo hTS hTf hTo hR
    obtain rfl : i = n := by omega
    refine codeAny_builtin F.entry_sum_loop ?_
    rw [Around.under_plainId F.plain_sum_loop _]
    show wpAny _ A.in1 (seqItems? (.ref S) >>= _) _ _ s
    refine wpAny_bind (wpAny_seqItems hSo rfl ?_)
    show wpAny _ A.in1 (tryCatch (pyNext (.ref I)) _ >>= _) _ _ s
    refine wpAny_bind (wpAny_tryCatch (W.done s _ _ st fun h' tk hk' => ?_))
    exact wpAny_pure (hR h' tk T c2 (fun b o hb _ e => hk' b o hb e) (hk' T _ hTf hTo) (.inl ⟨rfl, rfl⟩))
  | succ k ih =>
    intro i s T c c2 hk hi st kept hSo hTS hTf hTo hR
    have hlt : i < n := by omega
    refine codeAny_builtin F.entry_sum_loop ?_
    rw [Around.under_plainId F.plain_sum_loop _]
    show wpAny _ A.in1 (seqItems? (.ref S) >>= _) _ _ s
    refine wpAny_bind (wpAny_seqItems hSo rfl ?_)
    show wpAny _ A.in1 (tryCatch (pyNext (.ref I)) _ >>= _) _ _ s
    refine wpAny_bind (wpAny_tryCatch (W.item i s _ _ hlt st fun v h' tk hP st' hk' => ?_))
    obtain ⟨a, its, ca, rfl, ha, hpre, haw, haS⟩ := part i v hP
    have hSo' := hk' S _ hSw hSo
    have hTo' := hk' T _ hTf hTo
    have ha' := hk' a _ haw (kept a _ haw haS ha)
    have hsz : (pre i).toArray.size + its.toArray.size ≤ sizeLine := by
      have := big i hlt
      rw [hpre, List.length_append] at this
      simpa using this
    show wpAny _ A.in1 ((holding [Value.ref a] (binaryOp .Add (.ref T) (.ref a))).attempt >>= _) _ _ _
    refine wpAny_bind (wpAny_attempt (wpAny_holding (PySem.P.add_list hTo' ha' ?_ hsz)))
    have hSlt : S < h'.objs.size := Heap.lt_size hSo'
    have hS1 : (h'.push { cls := .type "list", data := .seq ((pre i).toArray ++ its.toArray) }).get? S = some (lstO [.ref T] c) := Heap.get?_push_of_some _ hSo'
    show wpAny _ A.in1 (updateSeq S (fun _ => #[.ref h'.objs.size]) >>= _) _ _ _
    refine wpAny_bind ?_
    refine wpAny_updateSeq hS1 rfl ?_
    have hS2 := Heap.get?_update_self (Obj.mapSeq fun _ => #[Value.ref h'.objs.size]) hS1 rfl
    refine wpAny_bind (wpAny_letGo ?_)
    refine wpAny_bind ?_
    refine wpAny_updateSeq hS2 rfl (wpAny_pure ⟨plainId_quiet F.plain_sum_loop _, ?_⟩)
    have ea : (pre i).toArray ++ its.toArray = (pre (i + 1)).toArray := by rw [hpre]; simp
    have hN : (h'.push { cls := .type "list", data := .seq ((pre i).toArray ++ its.toArray) }).get? h'.objs.size = some (lstO (pre (i + 1)) 0) := by
      rw [ea]
      exact Heap.get?_push_size _ rfl
    have up : ∀ b o, b ≠ S → h'.get? b = some o → (((h'.push { cls := .type "list", data := .seq ((pre i).toArray ++ its.toArray) }).update S (Obj.mapSeq fun _ => #[.ref h'.objs.size])).update S (Obj.mapSeq fun _ => #[.ref h'.objs.size])).get? b = some o := fun b o hb e =>
      (Heap.get?_update_other _ _ (Ne.symm hb)).trans ((Heap.get?_update_other _ _ (Ne.symm hb)).trans (Heap.get?_push_of_some _ e))
    have hNS : h'.objs.size ≠ S := fun e => by rw [e] at hSlt; exact Nat.lt_irrefl _ hSlt
    refine ih (i + 1) _ h'.objs.size _ 0 (by omega) hlt (W.frame _ _ _ st' fun b hb o e => up b o (fun z => hS (z ▸ hb)) e) (fun b o hb1 hb2 e => up b o hb2 (hk' b o hb1 (kept b o hb1 hb2 e))) (Heap.get?_update_self _ hS2 rfl) hNS (fun m => Nat.lt_irrefl _ (Nat.lt_trans (hfp _ (W.sub _ m)) hSlt)) ?_ fun h'' tk'' T' c' hk'' hT' hor => ?_
    · exact (Heap.get?_update_other _ _ (Ne.symm hNS)).trans ((Heap.get?_update_other _ _ (Ne.symm hNS)).trans hN)
    · refine hR h'' tk'' T' c' (fun b o hb1 hb2 e => hk'' b o hb1 hb2 (up b o hb2 (hk' b o hb1 e))) hT' (.inr ⟨hlt, ?_⟩)
      rcases hor with ⟨_, rfl⟩ | ⟨_, q⟩
      · exact hSlt
      · exact q
/-- sum(xs, start) at the heap -/
theorem call_sum_lists {E : Value → Shared → Prop} {s : Shared} {l b : Addr} {items start : List Value} {cb : Nat} {Q : Value → Shared → Prop} (pre : Nat → List Value) (hh : A.handled = none) (hl : s.heap.IsList l items.toArray) (hb : s.heap.get? b = some (lstO start cb)) (p0 : pre 0 = start)
    (big : ∀ i, i < items.length → (pre (i + 1)).length ≤ sizeLine) (part : ∀ i v, items[i]? = some v → ∃ a its c, v = .ref a ∧ s.heap.get? a = some (lstO its c) ∧ pre (i + 1) = pre i ++ its)
    (hQ : ∀ h' tk T c, (∀ b o, s.heap.get? b = some o → h'.get? b = some o) → h'.get? T = some (lstO (pre items.length) c) → (items = [] ∧ T = b) ∨ (items ≠ [] ∧ s.heap.objs.size ≤ T) → Q (.ref T) { s with heap := h', toks := tk }) :
    wpAny (model prog w) A (call (.builtin "sum") [.ref l, .ref b]) Q E s := by
  have hbt : s.TypeIs (.ref b) "list" := ⟨_, hb, rfl⟩
  refine call_function_tree F.kind_sum F.plain_sum F.entry_sum (args_sum_two _ _) ?_
  unfold Builtin.«sum»
  simp only [List.length_cons, List.length_nil]
  rw [if_neg (by decide)]
  refine wpAny_bind (wpAny_of_eq (show Builtin.Builtins.bindParams "sum" ["start"] 0 ⟨[.ref b], []⟩ = pure [some (.ref b)] from rfl) ?_)
  refine wpAny_bind (wpAny_pyIter_list hl ?_)
  have hlt : l < s.heap.objs.size := by obtain ⟨_, e, _⟩ := hl; exact Heap.lt_size e
  have hit : (s.heap.push { cls := .type "list_iterator", data := .fields #[.ref l, .int 0 0] }).IsListIter s.heap.objs.size l 0 := ⟨_, Heap.get?_push_size _ rfl, rfl, rfl⟩
  have hl2 := hl.push { cls := .type "list_iterator", data := .fields #[.ref l, .int 0 0] }
  have hb2 : (s.heap.push { cls := .type "list_iterator", data := .fields #[.ref l, .int 0 0] }).get? b = some (lstO start cb) := Heap.get?_push_of_some _ hb
  have hbt2 : ({ s with heap := s.heap.push { cls := .type "list_iterator", data := .fields #[.ref l, .int 0 0] } } : Shared).TypeIs (.ref b) "list" := ⟨_, hb2, rfl⟩
  have W := Walks.list (prog := prog) (w := w) (A := A.in1) hh s.heap.objs.size l (Nat.ne_of_lt hlt) items.toArray
  refine wpAny_bind (wpAny_pure ?_)
  simp only [List.forIn_cons, List.forIn_nil]
  refine wpAny_bind (wpAny_bind (wpAny_bind (wpAny_isInstance (T := "list") (b := false) hbt2 sub_list_text ?_)))
  simp only [Bool.false_eq_true, if_false]
  refine wpAny_pure (wpAny_bind (wpAny_bind (wpAny_isInstance (T := "list") (b := false) hbt2 sub_list_bytes ?_)))
  simp only [Bool.false_eq_true, if_false]
  refine wpAny_pure (wpAny_bind (wpAny_bind (wpAny_isInstance (T := "list") (b := false) hbt2 sub_list_barr ?_)))
  simp only [Bool.false_eq_true, if_false]
  refine wpAny_pure (wpAny_pure ?_)
  refine wpAny_bind (wpAny_newObj_type ?_)
  let h2 := s.heap.push { cls := .type "list_iterator", data := .fields #[.ref l, .int 0 0] }
  have old : ∀ c o, s.heap.get? c = some o → c ≠ h2.objs.size ∧ c ∉ [s.heap.objs.size] := fun c o e => by
    have q := Heap.lt_size e
    refine ⟨?_, ?_⟩
    · show c ≠ (s.heap.push _).objs.size
      rw [Heap.size_push]
      exact Nat.ne_of_lt (Nat.lt_succ_of_lt q)
    · intro m
      rw [List.mem_singleton] at m
      exact Nat.ne_of_lt q m
  have hsz : h2.objs.size = s.heap.objs.size + 1 := Heap.size_push _ _
  refine wpAny_pure ⟨plainId_quiet F.plain_sum_loop _, sum_lists_loop (n := items.toArray.size) W h2.objs.size (fun c hc => ?_) pre (fun i hi => big i (by simpa using hi)) s.heap (fun i v hv => ?_) items.toArray.size 0 _ b _ cb (by omega) (Nat.zero_le _) ⟨?_, ?_⟩ (fun c o hc1 hc2 e => Heap.get?_push_of_some _ (Heap.get?_push_of_some _ e)) (Heap.get?_push_size _ rfl) ?_ ?_ ?_ fun h' tk T c kp hT hor => ?_⟩
  · rw [hsz]
    rcases List.mem_cons.mp hc with rfl | hc
    · exact Nat.lt_succ_self _
    · rw [List.mem_singleton] at hc
      rw [hc]
      exact Nat.lt_succ_of_lt hlt
  · obtain ⟨a, its, c, rfl, ha, hp⟩ := part i v (by simpa using hv)
    exact ⟨a, its, c, rfl, ha, hp, (old a _ ha).2, (old a _ ha).1⟩
  · obtain ⟨o, e, r⟩ := hit
    exact ⟨o, Heap.get?_push_of_some _ e, r⟩
  · exact hl2.push _
  · exact (old b _ hb).1
  · exact (old b _ hb).2
  · rw [p0]
    exact Heap.get?_push_of_some _ hb2
  · have e1 : items.toArray.size = items.length := by simp
    rw [e1] at hT hor
    refine hQ h' tk T c (fun a o e => kp a o (old a o e).2 (old a o e).1 (Heap.get?_push_of_some _ (Heap.get?_push_of_some _ e))) hT ?_
    rcases hor with ⟨q, rfl⟩ | ⟨q, r⟩
    · exact .inl ⟨List.length_eq_zero_iff.mp q.symm, rfl⟩
    · refine .inr ⟨fun z => by rw [z] at q; exact Nat.lt_irrefl _ q, ?_⟩
      rw [hsz] at r
      exact Nat.le_of_lt (Nat.lt_of_succ_lt r)
end
def rSumL (K : PySem.W.Frag) : List V → Hp → VK → Prop := fun vs H Q => ∃ (a b : Addr) (ls : List (Addr × List V)) (zs : List V), vs = [.ref a, .ref b] ∧ SqL K H a (ls.map fun p => .ref p.1) ∧ (∀ p ∈ ls, H p.1 = some (.lst p.2)) ∧ H b = some (.lst zs) ∧
  zs.length + (ls.map (·.2)).flatten.length ≤ sizeLine ∧ (ls = [] → Q (.ref b) H) ∧ (ls ≠ [] → ∀ p, H p = none → Q (.ref p) (upd H p (.lst (zs ++ (ls.map (·.2)).flatten))))
section
variable {X : Cx} {pins : List (Addr × Obj)} {σ : L2.St} {H : Hp} {s : Shared}
theorem lists_at (I : Inv X pins σ H s) : ∀ {ls : List (Addr × List V)}, (∀ p ∈ ls, H p.1 = some (.lst p.2)) → ∃ vss : List (List Value), vss.length = ls.length ∧ Vals (ls.map (·.2)).flatten vss.flatten ∧ ∀ (i : Nat) (p : Addr × List V) (vs : List Value), ls[i]? = some p → vss[i]? = some vs → ∃ n, s.heap.get? p.1 = some (lstO vs n)
  | [], _ => ⟨[], rfl, .nil, fun i p vs e => by simp at e⟩
  | p :: ls, h => by
    obtain ⟨_, its, n, r, hl, e⟩ := I.lstM (h p List.mem_cons_self)
    obtain ⟨vss, h1, h2, h3⟩ := lists_at I fun q hq => h q (List.mem_cons_of_mem _ hq)
    refine ⟨its :: vss, by simp [h1], ?_, fun i q vs e1 e2 => ?_⟩
    · rw [List.map_cons, List.flatten_cons, List.flatten_cons]
      exact r.append h2
    · cases i with
      | zero => simp at e1 e2; subst e1; subst e2; exact ⟨n, e⟩
      | succ i => exact h3 i q vs (by simpa using e1) (by simpa using e2)
theorem call_sumL (hc : X.calm = true) : CallR X (.builtin "sum") (rSumL X.K) := by
  rintro pins s σ H vs us Q I rv ⟨a, b, ls, zs, rfl, hq, hls, hb, hz, q0, q1⟩
  obtain ⟨u1, u2, rfl, r1, r2⟩ := vals2 rv
  cases r1
  cases r2
  obtain ⟨its, ri, pl, _⟩ := I.list hq
  obtain ⟨_, st, nb, rs, _, eb⟩ := I.lstM hb
  obtain ⟨vss, v1, v2, v3⟩ := lists_at I hls
  have li : its.length = ls.length := by have := ri.length; simpa using this.symm
  have lz : st.length = zs.length := rs.length.symm
  have pre_le : ∀ i, (vss.take i).flatten.length ≤ (ls.map (·.2)).flatten.length := fun i => by
    have e : (ls.map (·.2)).flatten.length = vss.flatten.length := v2.length
    have : vss.flatten = (vss.take i).flatten ++ (vss.drop i).flatten := by rw [← List.flatten_append, List.take_append_drop]
    rw [e, this, List.length_append]
    omega
  refine call_sum_lists (fun i => st ++ (vss.take i).flatten) (I.ok.hd hc) pl.isList eb (by simp) (fun i _ => ?_) (fun i v hv => ?_) fun h' tk T c hk hT hor => ?_
  · rw [List.length_append]
    have := pre_le (i + 1)
    omega
  · have hi : i < ls.length := by rw [← li]; exact (List.getElem?_eq_some_iff.mp hv).1
    have hi2 : i < vss.length := by rw [v1]; exact hi
    obtain ⟨n, e⟩ := v3 i ls[i] vss[i] (List.getElem?_eq_getElem hi) (List.getElem?_eq_getElem hi2)
    obtain ⟨w, ew, rw'⟩ := ri.get (i := i) (show (ls.map fun p => V.ref p.1)[i]? = some (.ref ls[i].1) by rw [List.getElem?_map, List.getElem?_eq_getElem hi]; rfl)
    rw [hv] at ew
    cases ew
    cases rw'
    refine ⟨ls[i].1, vss[i], n, rfl, e, ?_⟩
    rw [List.take_succ, List.getElem?_eq_getElem hi2]
    show st ++ (vss.take i ++ [vss[i]]).flatten = st ++ (vss.take i).flatten ++ vss[i]
    rw [List.flatten_append, List.flatten_cons, List.flatten_nil, List.append_nil, List.append_assoc]
  · rcases hor with ⟨z, rfl⟩ | ⟨z, q⟩
    · have : ls = [] := List.length_eq_zero_iff.mp (by rw [← li, z]; rfl)
      exact ⟨.ref _, H, I.kept hk, rfl, q0 this⟩
    · have ne : ls ≠ [] := fun w => z (List.length_eq_zero_iff.mp (by rw [li, w]; rfl))
      have e2 : vss.take its.length = vss := List.take_of_length_le (by omega)
      rw [e2] at hT
      have vv : Vals (zs ++ (ls.map (·.2)).flatten) (st ++ vss.flatten) := rs.append v2
      have ob : ObjOk X.prog X.w (upd H T (.lst (zs ++ (ls.map (·.2)).flatten))) h' T (.lst (zs ++ (ls.map (·.2)).flatten)) := by
        refine ⟨?_, st ++ vss.flatten, c, vv, hT⟩
        rw [List.length_append]
        exact hz
      exact ⟨.ref T, _, I.laid hk q ob, rfl, q1 ne T (I.hok.fresh q)⟩
end
/-! ### over data -/
def lists : List D → Option (List (List D))
  | [] => some []
  | .lst xs :: r => (lists r).map (xs :: ·)
  | _ => none
def fSumL : List D → Option RV
  | [.lst ls, .lst zs] => match lists ls with
    | some [] => if zs.length ≤ sizeLine then some (.val (.lst zs)) else none
    | some (x :: xs) => if zs.length + (x :: xs).flatten.length ≤ sizeLine then some (.new (.lst (zs ++ (x :: xs).flatten))) else none
    | none => none
  | _ => none
theorem lists_rep {K : PySem.W.Frag} {F : Hp} : ∀ {ls : List D} {xss : List (List D)} {vs : List V}, Reps K F ls vs → lists ls = some xss → ∃ ps : List (Addr × List V), vs = ps.map (fun p => .ref p.1) ∧ (∀ p ∈ ps, F p.1 = some (.lst p.2)) ∧ Reps K F xss.flatten (ps.map (·.2)).flatten ∧ ps.length = xss.length
  | [], xss, vs, r, e => by
    cases r
    cases e
    exact ⟨[], rfl, (fun p h => by cases h), .nil, rfl⟩
  | d :: ls, xss, vs, r, e => by
    obtain ⟨v, t, rfl, a, b⟩ := r
    cases d with
    | lst xs =>
      obtain ⟨yss, e1, rfl⟩ := Option.map_eq_some_iff.mp (show (lists ls).map (xs :: ·) = some xss from e)
      obtain ⟨p, ws, rfl, q, rr⟩ := a
      obtain ⟨ps, rfl, h1, h2, h3⟩ := lists_rep b e1
      refine ⟨(p, ws) :: ps, rfl, fun z hz => ?_, ?_, by simp [h3]⟩
      · rcases List.mem_cons.mp hz with rfl | hz
        · exact q
        · exact h1 z hz
      · rw [List.flatten_cons, List.map_cons, List.flatten_cons]
        exact rr.append h2
    | _ => cases e
theorem sumL_sound {K : PySem.W.Frag} {F H : Hp} {ds : List D} {vs : List V} {z : RV} {Q : VK} (s : Sub F H) (v : Reps K F ds vs) (h : fSumL ds = some z) (q : ∀ w H' F', Ext H F H' F' → ORep K H F' H' z w → Q w H') : rSumL K vs H Q := by
  unfold fSumL at h
  split at h
  · rename_i ls zs
    obtain ⟨u, t, rfl, ⟨a, ws, rfl, q1, r1⟩, u2, t2, rfl, ⟨b, us, rfl, q2, r2⟩, rfl⟩ := v
    cases e : lists ls with
    | none => rw [e] at h; cases h
    | some xss =>
      obtain ⟨ps, rfl, h1, h2, h3⟩ := lists_rep r1 e
      have hl := h2.length
      rw [e] at h
      cases xss with
      | nil =>
        have h : (if zs.length ≤ sizeLine then some (RV.val (.lst zs)) else none) = some z := h
        split at h
        · rename_i hz
          cases h
          have ne : ps = [] := List.length_eq_zero_iff.mp h3
          subst ne
          refine ⟨a, b, [], us, rfl, SqL.of (s _ _ q1), fun p hp => (nomatch hp), s _ _ q2, by rw [r2.length]; simpa using hz, fun _ => q _ H F (Ext.refl s) ⟨b, us, rfl, q2, r2⟩, fun w => absurd rfl w⟩
        · cases h
      | cons x xs =>
        have h : (if zs.length + (x :: xs).flatten.length ≤ sizeLine then some (RV.new (.lst (zs ++ (x :: xs).flatten))) else none) = some z := h
        split at h
        · rename_i hz
          cases h
          have ne : ps ≠ [] := fun w => by rw [w] at h3; cases h3
          refine ⟨a, b, ps, us, rfl, SqL.of (s _ _ q1), fun p hp => s _ _ (h1 p hp), s _ _ q2, by rw [r2.length, hl]; exact hz, fun w => absurd w ne, fun _ p hp => ?_⟩
          exact q _ _ _ (Ext.allocO s hp) ⟨p, rfl, hp, s.free hp, _, upd_same, r2.append h2⟩
        · cases h
  · cases h
def dSumL (gs : Av) : Ev := dFz gs fun ds ρ => ER.of (fSumL ds) ρ
section
variable {X : Cx} {W : WX} {a b : Expr} {gs : Av} {pos p : Pos}
theorem ed_sumL (hc : X.calm = true) (hm : X.mg "sum" = none) (ha : PA X [a, b] (tA X.K W gs)) (hg : Gl X "sum" := by rfl)
    (he : starEach [a, b] X.env = (false, eval a X.env) :: starEach [b] X.env := by rfl) (hpl : (backTo pos (starEach [b] X.env)).any (·.1) = false := by rfl) :
    PE X (.Call (.Name "sum" p) [a, b] [] pos) (tE X.K W (dSumL gs)) := by
  refine (pe_callB (call_sumL hc) hg hm bo_sum ha (by decide) (by decide) he hpl).weak fun σ H Q h => ac_fz h fun α ρ2 F G H1 ds vs f r hh => ?_
  cases e : fSumL ds with
  | none => rw [e] at hh; exact hh.elim
  | some z =>
    rw [e] at hh
    exact sumL_sound f.fh r e (EC.op f hh)
end
end DL

/-! d.get(k, x). -/
namespace DL
open PySem PySem.Spec L2
def dGet2 (go ge gf : Ev) : Ev := fun ρ => (go ρ).settle.bind fun r ρ1 => match peek r ρ1 with
  | some (.dic _ _) => (ge ρ1).settle.bind fun r1 ρ2 => (gf ρ2).settle.bind fun r2 ρ3 => match peek r ρ3, peek r1 ρ3, frz r2 ρ3 with
    | some (.dic ks xs), some k, some (d, ρ4) => match keyOf k with
      | some k => .ok (.val ((dGet ks xs k).getD d)) ρ4
      | none => .no
    | _, _, _ => .no
  | _ => .no
section
variable {X : Cx} {W : WX} {o e f : Expr} {go ge gf : Ev} {apos cpos : Pos} {k : Nat}
theorem ed_dget2 (hr : RoomG k X.A) (ho : PE X o (tE X.K W go)) (he : PE X e (tE X.K W ge)) (hf : PE X f (tE X.K W gf)) (m : M2 X o "get" apos e f cpos := by exact ⟨rfl, rfl, rfl, rfl⟩) :
    PE X (.Call (.Attribute o "get" apos) [e, f] [] cpos) (tE X.K W (dGet2 go ge gf)) := by
  refine (pe_dget2 (u1 hr) ho he hf m).weak fun σ H Q ⟨α, ρ, F, G, ft, h⟩ => ⟨α, ρ, F, G, ft, EC.bindS (fun r ρ1 v H1 F1 g1 f1 s1 h1 => ?_) h⟩
  cases e1 : peek r ρ1 with
  | none => simp [e1, EC] at h1
  | some d0 =>
    cases d0 with
    | dic ks0 xs0 =>
      simp only [e1] at h1
      obtain ⟨a, us, rfl, q1, _⟩ := f1.peek s1 e1
      refine ⟨a, rfl, .inl ⟨_, q1⟩, α, ρ1, F1, G, f1, EC.bindS (fun r1 ρ2 y H2 F2 g2 f2 s2 h2 => ?_) h1⟩
      refine ⟨α, ρ2, F2, G, f2, EC.bindS (fun r2 ρ3 z H3 F3 g3 f3 s3 h3 => ?_) h2⟩
      cases e2 : peek r ρ3 with
      | none => simp [e2, EC] at h3
      | some dd =>
        cases e3 : peek r1 ρ3 with
        | none => simp [e2, e3, EC] at h3
        | some kk =>
          cases e4 : frz r2 ρ3 with
          | none => simp [e2, e3, e4, EC] at h3
          | some w =>
            obtain ⟨d, ρ4⟩ := w
            cases dd with
            | dic ks xs =>
              simp only [e2, e3, e4] at h3
              cases e5 : keyOf kk with
              | none => simp [e5, EC] at h3
              | some key =>
                simp only [e5] at h3
                obtain ⟨a', vs, ea, q2, l, nd, rr⟩ := f3.peek (s1.mono (g2.sub.trans g3.sub)) e2
                cases ea
                have hk := view_flat (f3.peek (s2.mono g3.sub) e3) e5
                subst hk
                obtain ⟨F4, g4, f4, r4⟩ := f3.frz s3 e4
                refine ⟨_, .inl ⟨_, key, q2, rfl, rfl⟩, ?_⟩
                have rel := dGet_rep (k := key) (Reps.mono g4.sub _ _ rr) l
                cases e6 : dGet ks xs key with
                | none =>
                  rw [rel.2.1 e6]
                  rw [e6] at h3
                  exact h3 _ H3 F4 g4 f4 r4
                | some d1 =>
                  obtain ⟨v1, hv1, rv1⟩ := rel.1 d1 e6
                  rw [hv1]
                  rw [e6] at h3
                  exact h3 _ H3 F4 g4 f4 rv1
            | _ => simp [e2, e3, e4, EC] at h3
    | _ => simp [e1, EC] at h1
end
@[simp] theorem dGet2_ap {go ge gf : Ev} {ρ : Env} : dGet2 go ge gf ρ = (go ρ).settle.bind fun r ρ1 => match peek r ρ1 with
  | some (.dic _ _) => (ge ρ1).settle.bind fun r1 ρ2 => (gf ρ2).settle.bind fun r2 ρ3 => match peek r ρ3, peek r1 ρ3, frz r2 ρ3 with
    | some (.dic ks xs), some k, some (d, ρ4) => match keyOf k with
      | some k => .ok (.val ((dGet ks xs k).getD d)) ρ4
      | none => .no
    | _, _, _ => .no
  | _ => .no := rfl
@[simp] theorem dSumL_ap {gs : Av} {ρ : Env} : dSumL gs ρ = dFz gs (fun ds ρ => ER.of (fSumL ds) ρ) ρ := rfl
end DL

/-! is None, is not None. -/
namespace DL
open PySem PySem.Spec L2
def opNotN (d : D) : Option RV := match d with
  | .raw _ => none
  | .non => some (.val (.bl false))
  | _ => some (.val (.bl true))
theorem View.isN {K : PySem.W.Frag} {F H : Hp} {d : D} {v : V} (h : View K F H d v) (n : ∀ u, d ≠ .raw u) : decide (v = .non) = (match d with | .non => true | _ => false) := by
  cases d with
  | raw u => exact absurd rfl (n u)
  | non => cases h; rfl
  | bl _ => cases h; rfl
  | int _ => cases h; rfl
  | str _ => cases h; rfl
  | tup _ => obtain ⟨a, vs, rfl, _⟩ := h; rfl
  | lst _ => obtain ⟨a, vs, rfl, _⟩ := h; rfl
  | scr _ => obtain ⟨a, vs, rfl, _⟩ := h; rfl
  | dic _ _ => obtain ⟨a, vs, rfl, _⟩ := h; rfl
theorem o_isN {K : PySem.W.Frag} : Op1 K (fun x H Q => Q (.bl (decide (x = .non))) H) opIsN := by
  intro F H d v z Q s a h q
  have key := fun n => View.isN (K := K) a n
  cases d <;> first | (cases h; done) | (cases h; rw [key (by intro u e; cases e)]; exact q _ H F (Ext.refl s) rfl)
theorem o_notN {K : PySem.W.Frag} : Op1 K (fun x H Q => Q (.bl (!decide (x = .non))) H) opNotN := by
  intro F H d v z Q s a h q
  have key := fun n => View.isN (K := K) a n
  cases d <;> first | (cases h; done) | (cases h; rw [key (by intro u e; cases e)]; exact q _ H F (Ext.refl s) rfl)
def BoolF1 (f : D → Option RV) : Prop := ∀ x z, f x = some z → ∃ c, z = .val (.bl c)
theorem bf_isN : BoolF1 opIsN := fun x z h => by cases x <;> cases h <;> exact ⟨_, rfl⟩
theorem bf_notN : BoolF1 opNotN := fun x z h => by cases x <;> cases h <;> exact ⟨_, rfl⟩
section
variable {X : Cx} {W : WX} {a b : Expr} {ga : Ev} {pos p : Pos} {op : CmpOp} {j : Option Str}
theorem cd_isN {j} (ha : PE X a (tE X.K W ga)) : PC X .Is a (.Constant .none j p) (tE X.K W (dOp1 opIsN ga)) :=
  (pc_isN ha).weak fun _ _ _ h => ec_op1 o_isN h
theorem cd_notN {j} (ha : PE X a (tE X.K W ga)) : PC X .IsNot a (.Constant .none j p) (tE X.K W (dOp1 opNotN ga)) :=
  (pc_notN ha).weak fun _ _ _ h => ec_op1 o_notN h
theorem td_ofC1 {f : D → Option RV} (h : PC X op a b (tE X.K W (dOp1 f ga))) (hf : BoolF1 f) (hm : behindInMarks op b = false := by first | exact nomark _ | rfl) : PT X (.Compare a [op] [b] pos) (tT X.K W (dOp1 f ga)) := by
  refine (pt_cmp h hm).weak fun σ H Q ⟨α, ρ, F, G, ft, h⟩ => ⟨α, ρ, F, G, ft, ?_⟩
  have key : ∀ {e : ER}, (∀ r ρ', e = .ok r ρ' → ∃ c, r = .val (.bl c)) → BC X.K W α σ F G Q e → EC X.K W α σ F G (fun x H' => ∃ c, x = .bl c ∧ Q c H') e := by
    intro e he hb
    cases e with
    | no => exact hb
    | ex x ρ1 => exact hb
    | ok r ρ1 =>
      obtain ⟨c, rfl⟩ := he r ρ1 rfl
      exact fun v H1 F1 g1 f1 r1 => ⟨c, r1, hb H1 F1 g1 f1⟩
  refine key (fun r ρ' q => ?_) h
  unfold dOp1 at q
  cases e1 : (ga ρ).settle with
  | no => simp [e1, ER.bind] at q
  | ex x ρ1 => simp [e1, ER.bind] at q
  | ok r1 ρ1 =>
    simp only [e1, ER.bind] at q
    cases e3 : peek r1 ρ1 with
    | none => simp [e3] at q
    | some x =>
      simp only [e3] at q
      cases e4 : f x with
      | none => simp [e4, ER.of] at q
      | some z =>
        simp only [e4, ER.of] at q
        cases q
        exact hf x _ e4
end
section
@[simp] theorem opIsN_non : opIsN .non = some (.val (.bl true)) := rfl
@[simp] theorem opIsN_tup {xs} : opIsN (.tup xs) = some (.val (.bl false)) := rfl
@[simp] theorem opIsN_int {i} : opIsN (.int i) = some (.val (.bl false)) := rfl
@[simp] theorem opIsN_str {i} : opIsN (.str i) = some (.val (.bl false)) := rfl
@[simp] theorem opIsN_lst {i} : opIsN (.lst i) = some (.val (.bl false)) := rfl
@[simp] theorem opNotN_non : opNotN .non = some (.val (.bl false)) := rfl
@[simp] theorem opNotN_tup {xs} : opNotN (.tup xs) = some (.val (.bl true)) := rfl
@[simp] theorem opNotN_int {i} : opNotN (.int i) = some (.val (.bl true)) := rfl
@[simp] theorem opNotN_str {i} : opNotN (.str i) = some (.val (.bl true)) := rfl
@[simp] theorem opNotN_lst {i} : opNotN (.lst i) = some (.val (.bl true)) := rfl
end
end DL

/-! what is computed, by simp. -/
namespace DL
open PySem PySem.Spec L2
section
variable {ρ : Env} {g g1 g2 gc ga gb : Ev} {s1 s2 gb' : Sv} {gs : Av} {d : D} {i : Nat} {r : RV} {x : Exn} {b : Bool} {k : RV → Env → ER} {ks : RV → Env → SR}
/-! results -/
@[simp] theorem er_bind_ok : (ER.ok r ρ).bind k = k r ρ := rfl
@[simp] theorem er_bind_ex : (ER.ex x ρ).bind k = .ex x ρ := rfl
@[simp] theorem er_bind_no : ER.no.bind k = .no := rfl
@[simp] theorem er_st_ok : (ER.ok r ρ).st ks = ks r ρ := rfl
@[simp] theorem er_st_ex : (ER.ex x ρ).st ks = .ex x ρ := rfl
@[simp] theorem er_st_no : ER.no.st ks = .no := rfl
@[simp] theorem er_settle_val : (ER.ok (.val d) ρ).settle = .ok (.val d) ρ := rfl
@[simp] theorem er_settle_new : (ER.ok (.new d) ρ).settle = .ok (.val d) ρ := rfl
@[simp] theorem er_settle_loc : (ER.ok (.loc i) ρ).settle = .ok (.loc i) ρ := rfl
@[simp] theorem er_settle_ex : (ER.ex x ρ).settle = .ex x ρ := rfl
@[simp] theorem er_settle_no : ER.no.settle = .no := rfl
@[simp] theorem er_of_some : ER.of (some r) ρ = .ok r ρ := rfl
@[simp] theorem er_of_none : ER.of none ρ = .no := rfl
@[simp] theorem sr_of_some {ρ' : Env} : SR.of (some ρ') = .nx ρ' := rfl
@[simp] theorem sr_of_none : SR.of none = .no := rfl
@[simp] theorem sr_bind_nx {k : Env → SR} : (SR.nx ρ).bind k = k ρ := rfl
@[simp] theorem sr_bind_rt {k : Env → SR} : (SR.rt r ρ).bind k = .rt r ρ := rfl
@[simp] theorem sr_bind_bk {k : Env → SR} : (SR.bk ρ).bind k = .bk ρ := rfl
@[simp] theorem sr_bind_ct {k : Env → SR} : (SR.ct ρ).bind k = .ct ρ := rfl
@[simp] theorem sr_bind_ex {k : Env → SR} : (SR.ex x ρ).bind k = .ex x ρ := rfl
@[simp] theorem sr_bind_no {k : Env → SR} : SR.no.bind k = .no := rfl
@[simp] theorem er_bind_ite {c : Prop} [Decidable c] {a b : ER} : (if c then a else b).bind k = if c then a.bind k else b.bind k := by split <;> rfl
@[simp] theorem er_st_ite {c : Prop} [Decidable c] {a b : ER} : (if c then a else b).st ks = if c then a.st ks else b.st ks := by split <;> rfl
@[simp] theorem er_settle_ite {c : Prop} [Decidable c] {a b : ER} : (if c then a else b).settle = if c then a.settle else b.settle := by split <;> rfl
@[simp] theorem sr_bind_ite {c : Prop} [Decidable c] {a b : SR} {k : Env → SR} : (if c then a else b).bind k = if c then a.bind k else b.bind k := by split <;> rfl
/-! what is read -/
@[simp] theorem peek_val : peek (.val d) ρ = some d := rfl
theorem peek_loc : peek (.loc i) ρ = match ρ[i]? with
    | some (.val d) => some d
    | some (.own d) => some d
    | some (.bor d) => some d
    | _ => none := rfl
@[simp] theorem frz_val : frz (.val d) ρ = some (d, ρ) := rfl
theorem frz_loc : frz (.loc i) ρ = match ρ[i]? with
    | some (.val d) => some (d, ρ)
    | some (.own d) => some (d, ρ.set i (.val d))
    | _ => none := rfl
/-! expressions -/
@[simp] theorem dC_ap : dC d ρ = .ok (.val d) ρ := rfl
theorem dVar_ap : dVar i ρ = match ρ[i]? with
    | some (.val d) => .ok (.val d) ρ
    | some (.own _) => .ok (.loc i) ρ
    | some (.bor _) => .ok (.loc i) ρ
    | _ => .no := rfl
@[simp] theorem dOp2_ap {f : D → D → Option RV} : dOp2 f ga gb ρ = (ga ρ).settle.bind fun r1 ρ1 => (gb ρ1).settle.bind fun r2 ρ2 => match peek r1 ρ2, peek r2 ρ2 with
    | some x, some y => ER.of (f x y) ρ2
    | _, _ => .no := rfl
@[simp] theorem dOp1_ap {f : D → Option RV} : dOp1 f ga ρ = (ga ρ).settle.bind fun r1 ρ1 => match peek r1 ρ1 with
    | some x => ER.of (f x) ρ1
    | _ => .no := rfl
/-- a test's two ways -/
def ER.two (e : ER) (a b : Env → ER) : ER := e.bind fun r ρ1 => match r with
  | .val (.bl true) => a ρ1
  | .val (.bl false) => b ρ1
  | _ => .no
@[simp] theorem two_bl {a c : Env → ER} : (ER.ok (.val (.bl b)) ρ).two a c = if b = true then a ρ else c ρ := by cases b <;> rfl
@[simp] theorem two_ex {a c : Env → ER} : (ER.ex x ρ).two a c = .ex x ρ := rfl
@[simp] theorem two_no {a c : Env → ER} : ER.no.two a c = .no := rfl
@[simp] theorem two_ite {c : Prop} [Decidable c] {e f : ER} {a b : Env → ER} : (if c then e else f).two a b = if c then e.two a b else f.two a b := by split <;> rfl
@[simp] theorem dIf_ap : dIf gc ga gb ρ = (gc ρ).two ga gb := rfl
@[simp] theorem dAndT_ap : dAndT ga gb ρ = (ga ρ).two gb (fun ρ1 => .ok (.val (.bl false)) ρ1) := rfl
@[simp] theorem dOrT_ap : dOrT ga gb ρ = (ga ρ).two (fun ρ1 => .ok (.val (.bl true)) ρ1) gb := rfl
@[simp] theorem dNot_ap : dNot ga ρ = (ga ρ).two (fun ρ1 => .ok (.val (.bl false)) ρ1) (fun ρ1 => .ok (.val (.bl true)) ρ1) := by
  unfold dNot ER.two
  congr
  funext r ρ1
  cases r with
  | val d =>
    cases d with
    | bl b => cases b <;> rfl
    | _ => rfl
  | _ => rfl
/-- a value's truth, two ways -/
def ER.tru (e : ER) (a b : RV → Env → ER) : ER := e.settle.bind fun r ρ1 => match peek r ρ1 with
  | some d => match truth d with
    | some true => a r ρ1
    | some false => b r ρ1
    | none => .no
  | none => .no
@[simp] theorem tru_bl {a c : RV → Env → ER} : (ER.ok (.val (.bl b)) ρ).tru a c = if b = true then a (.val (.bl b)) ρ else c (.val (.bl b)) ρ := by cases b <;> rfl
@[simp] theorem tru_ex {a c : RV → Env → ER} : (ER.ex x ρ).tru a c = .ex x ρ := rfl
@[simp] theorem tru_no {a c : RV → Env → ER} : ER.no.tru a c = .no := rfl
@[simp] theorem tru_ite {c : Prop} [Decidable c] {e f : ER} {a b : RV → Env → ER} : (if c then e else f).tru a b = if c then e.tru a b else f.tru a b := by split <;> rfl
theorem tru_val {a c : RV → Env → ER} : (ER.ok (.val d) ρ).tru a c = match truth d with
  | some true => a (.val d) ρ
  | some false => c (.val d) ρ
  | none => .no := rfl
theorem tru_new {a c : RV → Env → ER} : (ER.ok (.new d) ρ).tru a c = match truth d with
  | some true => a (.val d) ρ
  | some false => c (.val d) ρ
  | none => .no := rfl
@[simp] theorem dAndV_ap : dAndV ga gb ρ = (ga ρ).tru (fun _ ρ1 => gb ρ1) (fun r ρ1 => .ok r ρ1) := by
  unfold dAndV ER.tru
  congr
@[simp] theorem dOrV_ap : dOrV ga gb ρ = (ga ρ).tru (fun r ρ1 => .ok r ρ1) (fun _ ρ1 => gb ρ1) := by
  unfold dOrV ER.tru
  congr
@[simp] theorem dNotV_ap : dNotV ga ρ = (ga ρ).tru (fun _ ρ1 => .ok (.val (.bl false)) ρ1) (fun _ ρ1 => .ok (.val (.bl true)) ρ1) := by
  unfold dNotV ER.tru
  congr
  funext r ρ1
  cases peek r ρ1 with
  | none => rfl
  | some d =>
    dsimp only
    cases truth d with
    | none => rfl
    | some b => cases b <;> rfl
@[simp] theorem dTru_ap : dTru ga ρ = (ga ρ).tru (fun _ ρ1 => .ok (.val (.bl true)) ρ1) (fun _ ρ1 => .ok (.val (.bl false)) ρ1) := by
  unfold dTru ER.tru
  congr
  funext r ρ1
  cases peek r ρ1 with
  | none => rfl
  | some d =>
    dsimp only
    cases truth d with
    | none => rfl
    | some b => cases b <;> rfl
@[simp] theorem dBool_ap : dBool ga ρ = (ga ρ).two (fun ρ1 => .ok (.val (.bl true)) ρ1) (fun ρ1 => .ok (.val (.bl false)) ρ1) := by
  unfold dBool ER.two
  congr
  funext r ρ1
  cases r with
  | val d =>
    cases d with
    | bl b => cases b <;> rfl
    | _ => rfl
  | _ => rfl
@[simp] theorem dChain_ap {f f' : D → D → Option RV} : dChain f f' ga gb gc ρ = (ga ρ).settle.bind fun r1 ρ1 => (gb ρ1).settle.bind fun r2 ρ2 => match peek r1 ρ2, peek r2 ρ2 with
  | some x, some y => (ER.of (f x y) ρ2).two (fun ρ2 => (gc ρ2).settle.bind fun r3 ρ3 => match peek r2 ρ3, peek r3 ρ3 with
      | some y', some z => ER.of (f' y' z) ρ3
      | _, _ => .no) (fun ρ2 => .ok (.val (.bl false)) ρ2)
  | _, _ => .no := by
  unfold dChain
  congr
  funext r1 ρ1
  congr
  funext r2 ρ2
  cases peek r1 ρ2 with
  | none => rfl
  | some x =>
    cases peek r2 ρ2 with
    | none => rfl
    | some y =>
      dsimp only
      cases f x y with
      | none => rfl
      | some z =>
        cases z with
        | val d =>
          cases d with
          | bl b => cases b <;> rfl
          | _ => rfl
        | _ => rfl
/-! arguments -/
@[simp] theorem dNil_ap : dNil ρ = .ok [] ρ := rfl
@[simp] theorem dCons_ap : dCons g gs ρ = match (g ρ).settle with
  | .ok r ρ1 => match gs ρ1 with
    | .ok rs ρ2 => .ok (r :: rs) ρ2
    | .ex x ρ2 => .ex x ρ2
    | .no => .no
  | .ex x ρ1 => .ex x ρ1
  | .no => .no := rfl
@[simp] theorem dFz_ap {h : List D → Env → ER} : dFz gs h ρ = match gs ρ with
  | .ok rs ρ1 => match frzs rs ρ1 with
    | some (ds, ρ2) => h ds ρ2
    | none => .no
  | .ex x ρ1 => .ex x ρ1
  | .no => .no := rfl
@[simp] theorem frzs_nil : frzs [] ρ = some ([], ρ) := rfl
@[simp] theorem frzs_cons {rs : List RV} : frzs (r :: rs) ρ = match frz r ρ with
    | some (d, ρ1) => match frzs rs ρ1 with
      | some (ds, ρ2) => some (d :: ds, ρ2)
      | none => none
    | none => none := rfl
@[simp] theorem peeks_nil : peeks [] ρ = some [] := rfl
@[simp] theorem peeks_cons {rs : List RV} : peeks (r :: rs) ρ = match peek r ρ, peeks rs ρ with
  | some d, some ds => some (d :: ds)
  | _, _ => none := rfl
@[simp] theorem dTup_ap : dTup gs ρ = dFz gs (fun ds ρ => if ds.length ≤ 1000 then .ok (.val (.tup ds)) ρ else .no) ρ := rfl
@[simp] theorem dLst_ap : dLst gs ρ = dFz gs (fun ds ρ => if ds.length ≤ 1000 then .ok (.new (.lst ds)) ρ else .no) ρ := rfl
@[simp] theorem dB_ap {f : List D → Option RV} : dB f gs ρ = match gs ρ with
  | .ok rs ρ1 => match peeks rs ρ1 with
    | some ds => ER.of (f ds) ρ1
    | none => .no
  | .ex x ρ1 => .ex x ρ1
  | .no => .no := rfl
@[simp] theorem dCall_ap {ms : List Bool} {f : List D → DR} : dCall ms f gs ρ = match gs ρ with
  | .ok rs ρ1 => match passes ms rs ρ1 with
    | some (ds, ρ2) => if (lents ms rs).Nodup then match f ds with
        | .ok r outs => .ok r (backs ms rs outs ρ2)
        | .ex x outs => .ex x (backs ms rs outs ρ2)
        | .no => .no
      else .no
    | none => .no
  | .ex x ρ1 => .ex x ρ1
  | .no => .no := rfl
@[simp] theorem dSl_ap {f : D → Option Int → Option Int → Option RV} {a b : Option Ev} : dSl f g a b ρ = (g ρ).settle.bind fun r ρ1 => match dPart a ρ1 with
  | .ok lo ρ2 => match dPart b ρ2 with
    | .ok hi ρ3 => match peek r ρ3 with
      | some d => ER.of (f d lo hi) ρ3
      | none => .no
    | .ex x ρ3 => .ex x ρ3
    | .no => .no
  | .ex x ρ2 => .ex x ρ2
  | .no => .no := rfl
@[simp] theorem dPart_none : dPart none ρ = .ok none ρ := rfl
@[simp] theorem dPart_some : dPart (some g) ρ = match (g ρ).settle with
    | .ok r ρ1 => match peek r ρ1 with
      | some (.int i) => .ok (some i) ρ1
      | _ => .no
    | .ex x ρ1 => .ex x ρ1
    | .no => .no := rfl
/-! statements -/
@[simp] theorem dSeq_ap : dSeq s1 s2 ρ = (s1 ρ).bind s2 := rfl
def ER.ifS (e : ER) (a b : Sv) : SR := e.st fun r ρ1 => match r with
  | .val (.bl true) => a ρ1
  | .val (.bl false) => b ρ1
  | _ => .no
@[simp] theorem ifS_bl : (ER.ok (.val (.bl b)) ρ).ifS s1 s2 = if b = true then s1 ρ else s2 ρ := by cases b <;> rfl
@[simp] theorem ifS_ex : (ER.ex x ρ).ifS s1 s2 = .ex x ρ := rfl
@[simp] theorem ifS_no : ER.no.ifS s1 s2 = .no := rfl
@[simp] theorem ifS_ite {c : Prop} [Decidable c] {a b : ER} : (if c then a else b).ifS s1 s2 = if c then a.ifS s1 s2 else b.ifS s1 s2 := by split <;> rfl
@[simp] theorem dIfS_ap : dIfS gc s1 s2 ρ = (gc ρ).ifS s1 s2 := rfl
@[simp] theorem dSet_ap : dSet i g ρ = (g ρ).st fun r ρ1 => SR.of (asgn i r ρ1) := rfl
@[simp] theorem dExpr_ap : dExpr g ρ = (g ρ).settle.st fun _ ρ1 => .nx ρ1 := rfl
@[simp] theorem dRet_ap : dRet g ρ = (g ρ).st fun r ρ1 => match r with
  | .loc i => match ρ1[i]? with
    | some (.own d) => .rt (.new d) (ρ1.set i .non)
    | some (.val d) => .rt (.val d) ρ1
    | _ => .no
  | r => .rt r ρ1 := rfl
@[simp] theorem dPar_ap {j : Nat} : dPar i j ga gb ρ = (ga ρ).settle.st fun r1 ρ1 => (gb ρ1).settle.st fun r2 ρ2 => match frz r1 ρ2 with
  | some (d, ρ3) => match frz r2 ρ3 with
    | some (e, ρ4) => match setV ρ4 i (.val d) with
      | some ρ5 => SR.of (setV ρ5 j (.val e))
      | none => .no
    | none => .no
  | none => .no := rfl
@[simp] theorem dRaise_ap {c : ECls} : dRaise c ρ = .ex ⟨c, []⟩ ρ := rfl
@[simp] theorem asgn_val : asgn i (.val d) ρ = setV ρ i (.val d) := rfl
@[simp] theorem asgn_new : asgn i (.new d) ρ = setV ρ i (.own d) := rfl
@[simp] theorem asgn_loc {j : Nat} : asgn i (.loc j) ρ = match frz (.loc j) ρ with
    | some (d, ρ1) => setV ρ1 i (.val d)
    | none => none := rfl
theorem setV_ap {s : Slot} : setV ρ i s = match ρ[i]? with
  | some (.bor _) => none
  | some _ => some (ρ.set i s)
  | none => none := rfl
@[simp] theorem dAugS_ap {f : D → D → Option RV} {gi : Ev} : dAugS i gi g f ρ = match ownAt ρ i with
  | none => .no
  | some _ => (gi ρ).settle.st fun r ρ1 => match peek r ρ1, ownAt ρ1 i with
    | some kk, some x => match ixD x kk, keyOf kk with
      | some d0, some key => (g ρ1).settle.st fun r2 ρ2 => match peek r2 ρ2 with
        | some y => match f d0 y with
          | some (.val z) => SR.of (stAt i kk z ρ2)
          | _ => .no
        | none => .no
      | _, _ => .no
    | _, _ => .no := rfl
@[simp] theorem dStore_ap {gi : Ev} : dStore i gi g ρ = (g ρ).settle.st fun r ρ1 => match frz r ρ1 with
  | some (d, ρ2) => match ownAt ρ2 i with
    | some _ => (gi ρ2).settle.st fun r2 ρ3 => match peek r2 ρ3 with
      | some k => SR.of (stAt i k d ρ3)
      | none => .no
    | none => .no
  | none => .no := rfl
@[simp] theorem dFor_ap {gi : Iv} {ft : D → Env → Option Env} : dFor gi ft s1 ρ = match gi ρ with
  | .ok ds ρ1 => forGo ft s1 ds ρ1
  | .ex x ρ1 => .ex x ρ1
  | .no => .no := rfl
@[simp] theorem dTry_ap {ism : ECls → Option Bool} : dTry ism s1 s2 ρ = match s1 ρ with
  | .ex x ρ1 => match ism x.cls with
    | some true => noEx (s2 ρ1)
    | some false => .ex x ρ1
    | none => .no
  | s => s := rfl
end
section
variable {i j : Int} {xs ys : List D} {a b : Str} {p q : Bool}
theorem atI_zero {α : Type} (xs : List α) : L2.atI xs 0 = xs[0]? := by
  unfold L2.atI ixN
  cases xs with
  | nil => rfl
  | cons x xs =>
    rw [if_pos (Int.le_refl 0), if_pos (by rw [List.length_cons]; omega)]
    rfl
theorem atI_cast {α : Type} (xs : List α) (n : Nat) : L2.atI xs (n : Int) = xs[n]? := by
  unfold L2.atI ixN
  rw [if_pos (by omega)]
  by_cases h : (n : Int) < xs.length
  · rw [if_pos h]
    simp
  · rw [if_neg h]
    have : xs.length ≤ n := by omega
    rw [List.getElem?_eq_none this]
    rfl
theorem atI_one {α : Type} (xs : List α) : L2.atI xs 1 = xs[1]? := atI_cast xs 1
theorem atI_two {α : Type} (xs : List α) : L2.atI xs 2 = xs[2]? := atI_cast xs 2
theorem atI_three {α : Type} (xs : List α) : L2.atI xs 3 = xs[3]? := atI_cast xs 3
theorem atI_four {α : Type} (xs : List α) : L2.atI xs 4 = xs[4]? := atI_cast xs 4
theorem atI_of {α : Type} (xs : List α) (i : Int) (h : 0 ≤ i) : L2.atI xs i = xs[i.toNat]? := by
  have : i = (i.toNat : Int) := by omega
  exact (congrArg (L2.atI xs) this).trans (atI_cast xs _)
@[simp] theorem opAdd_int : opAdd (.int i) (.int j) = some (.val (.int (i + j))) := rfl
@[simp] theorem opAdd_str : opAdd (.str a) (.str b) = if a.length + b.length ≤ sizeLine then some (.val (.str (a ++ b))) else none := rfl
@[simp] theorem opAdd_tup : opAdd (.tup xs) (.tup ys) = if xs.length + ys.length ≤ sizeLine then some (.val (.tup (xs ++ ys))) else none := rfl
@[simp] theorem opAdd_lst : opAdd (.lst xs) (.lst ys) = if xs.length + ys.length ≤ sizeLine then some (.new (.lst (xs ++ ys))) else none := rfl
@[simp] theorem opAddI_int : opAddI (.int i) (.int j) = some (.val (.int (i + j))) := rfl
@[simp] theorem opSub_int : opSub (.int i) (.int j) = some (.val (.int (i - j))) := rfl
@[simp] theorem opMul_int : opMul (.int i) (.int j) = if CMul i j then some (.val (.int (i * j))) else none := rfl
@[simp] theorem opMulI_int : opMulI (.int i) (.int j) = if CMul i j then some (.val (.int (i * j))) else none := rfl
@[simp] theorem opFdiv_int : opFdiv (.int i) (.int j) = if CDiv i j then some (.val (.int (i / j))) else none := rfl
@[simp] theorem opMod_int : opMod (.int i) (.int j) = if 0 < j then some (.val (.int (i % j))) else none := rfl
@[simp] theorem opPow_int : opPow (.int i) (.int j) = if CPow i j then some (.val (.int (i ^ j.toNat))) else none := rfl
@[simp] theorem opLt_int : opLt (.int i) (.int j) = some (.val (.bl (decide (i < j)))) := rfl
@[simp] theorem opLe_int : opLe (.int i) (.int j) = some (.val (.bl (decide (i ≤ j)))) := rfl
@[simp] theorem opGt_int : opGt (.int i) (.int j) = some (.val (.bl (decide (j < i)))) := rfl
@[simp] theorem opGe_int : opGe (.int i) (.int j) = some (.val (.bl (decide (j ≤ i)))) := rfl
@[simp] theorem opEq_int : opEq (.int i) (.int j) = some (.val (.bl (decide (i = j)))) := rfl
@[simp] theorem opNe_int : opNe (.int i) (.int j) = some (.val (.bl (!decide (i = j)))) := rfl
@[simp] theorem opEq_str : opEq (.str a) (.str b) = some (.val (.bl (decide (a = b)))) := rfl
@[simp] theorem opNe_str : opNe (.str a) (.str b) = some (.val (.bl (!decide (a = b)))) := rfl
@[simp] theorem opEq_bl : opEq (.bl p) (.bl q) = some (.val (.bl (decide (p = q)))) := rfl
@[simp] theorem opNe_bl : opNe (.bl p) (.bl q) = some (.val (.bl (!decide (p = q)))) := rfl
@[simp] theorem opIx_lst : opIx (.lst xs) (.int i) = (L2.atI xs i).map .val := rfl
@[simp] theorem opIx_scr : opIx (.scr xs) (.int i) = (L2.atI xs i).map .val := rfl
@[simp] theorem opIx_tup : opIx (.tup xs) (.int i) = (L2.atI xs i).map .val := rfl
@[simp] theorem ixD_lst : ixD (.lst xs) (.int i) = L2.atI xs i := rfl
@[simp] theorem keyOf_int : keyOf (.int i) = some (.inl i) := rfl
@[simp] theorem keyOf_str : keyOf (.str a) = some (.inr a) := rfl
@[simp] theorem opNeg_int : opNeg (.int i) = some (.val (.int (-i))) := rfl
@[simp] theorem fInt_int : fInt [.int i] = some (.val (.int i)) := rfl
@[simp] theorem fAbs_int : fAbs [.int i] = some (.val (.int (if i < 0 then -i else i))) := rfl
@[simp] theorem fLen_lst : fLen [.lst xs] = some (.val (.int xs.length)) := rfl
@[simp] theorem fLen_tup : fLen [.tup xs] = some (.val (.int xs.length)) := rfl
@[simp] theorem fLen_scr : fLen [.scr xs] = some (.val (.int xs.length)) := rfl
@[simp] theorem fMax2_int : fMax2 [.int i, .int j] = some (.val (.int (if j > i then j else i))) := rfl
@[simp] theorem fMin2_int : fMin2 [.int i, .int j] = some (.val (.int (if j < i then j else i))) := rfl
@[simp] theorem opSl_lst {lo hi : Option Int} : opSl (.lst xs) lo hi = some (.new (.lst (cutD xs lo hi))) := rfl
@[simp] theorem opSl_scr {lo hi : Option Int} : opSl (.scr xs) lo hi = some (.new (.lst (cutD xs lo hi))) := rfl
@[simp] theorem opSl_tup {lo hi : Option Int} : opSl (.tup xs) lo hi = some (.val (.tup (cutD xs lo hi))) := rfl
@[simp] theorem stored_lst {d : D} : stored (.lst xs) (.int i) d = (ixN xs.length i).map fun j => .lst (xs.set j d) := rfl
theorem stAt_ap {ρ : Env} {n : Nat} {k d : D} : stAt n k d ρ = match ownAt ρ n with
  | some x => (stored x k d).map fun x' => setO ρ n x'
  | none => none := rfl
theorem CMul_ap : CMul i j = ((-(2 ^ 64) < i ∧ i < 2 ^ 64) ∨ (-(2 ^ 64) < j ∧ j < 2 ^ 64)) := rfl
theorem CDiv_ap : CDiv i j = (0 < j ∧ j < 1073741824) := rfl
theorem CPow_ap : CPow i j = (0 ≤ j ∧ j ≤ 1000000 ∧ i.natAbs < 2 ^ 64) := rfl
/-- from a place on -/
theorem cut_from (ds : List D) (c : Int) : ∃ n, cutD ds (some c) none = ds.drop n := by
  unfold cutD
  refine ⟨HT.sIx ds.length 0 (some c), ?_⟩
  rw [List.take_of_length_le]
  rw [List.length_drop]
  exact Nat.le_refl _
theorem cut_front (ds : List D) (c : Nat) : cutD ds none (some (c : Int)) = ds.take c := by
  show (ds.drop 0).take (HT.sIx ds.length ds.length (some (c : Int)) - 0) = ds.take c
  rw [HT.sIx_nat, List.drop_zero, Nat.sub_zero]
  by_cases h : c ≤ ds.length
  · rw [Nat.min_eq_left h]
  · rw [Nat.min_eq_right (by omega), List.take_of_length_le (Nat.le_refl _), List.take_of_length_le (by omega)]
end
theorem isi_of {d : D} {t T : String} {b : Bool} (h1 : tyName d = some t) (h2 : kitB t T = some b) : fIsi [d, .raw (.ty T)] = some (.val (.bl b)) := by
  unfold fIsi
  simp only [h1, h2]
  rfl
@[simp] theorem isi_non_int : fIsi [.non, .raw (.ty "int")] = some (.val (.bl false)) := isi_of rfl (by decide +kernel)
@[simp] theorem isi_non_str : fIsi [.non, .raw (.ty "str")] = some (.val (.bl false)) := isi_of rfl (by decide +kernel)
@[simp] theorem isi_non_bool : fIsi [.non, .raw (.ty "bool")] = some (.val (.bl false)) := isi_of rfl (by decide +kernel)
@[simp] theorem isi_non_list : fIsi [.non, .raw (.ty "list")] = some (.val (.bl false)) := isi_of rfl (by decide +kernel)
@[simp] theorem isi_non_tuple : fIsi [.non, .raw (.ty "tuple")] = some (.val (.bl false)) := isi_of rfl (by decide +kernel)
@[simp] theorem isi_non_dict : fIsi [.non, .raw (.ty "dict")] = some (.val (.bl false)) := isi_of rfl (by decide +kernel)
@[simp] theorem isi_bl_int {p : Bool} : fIsi [(.bl p), .raw (.ty "int")] = some (.val (.bl true)) := isi_of rfl (by decide +kernel)
@[simp] theorem isi_bl_str {p : Bool} : fIsi [(.bl p), .raw (.ty "str")] = some (.val (.bl false)) := isi_of rfl (by decide +kernel)
@[simp] theorem isi_bl_bool {p : Bool} : fIsi [(.bl p), .raw (.ty "bool")] = some (.val (.bl true)) := isi_of rfl (by decide +kernel)
@[simp] theorem isi_bl_list {p : Bool} : fIsi [(.bl p), .raw (.ty "list")] = some (.val (.bl false)) := isi_of rfl (by decide +kernel)
@[simp] theorem isi_bl_tuple {p : Bool} : fIsi [(.bl p), .raw (.ty "tuple")] = some (.val (.bl false)) := isi_of rfl (by decide +kernel)
@[simp] theorem isi_bl_dict {p : Bool} : fIsi [(.bl p), .raw (.ty "dict")] = some (.val (.bl false)) := isi_of rfl (by decide +kernel)
@[simp] theorem isi_int_int {i : Int} : fIsi [(.int i), .raw (.ty "int")] = some (.val (.bl true)) := isi_of rfl (by decide +kernel)
@[simp] theorem isi_int_str {i : Int} : fIsi [(.int i), .raw (.ty "str")] = some (.val (.bl false)) := isi_of rfl (by decide +kernel)
@[simp] theorem isi_int_bool {i : Int} : fIsi [(.int i), .raw (.ty "bool")] = some (.val (.bl false)) := isi_of rfl (by decide +kernel)
@[simp] theorem isi_int_list {i : Int} : fIsi [(.int i), .raw (.ty "list")] = some (.val (.bl false)) := isi_of rfl (by decide +kernel)
@[simp] theorem isi_int_tuple {i : Int} : fIsi [(.int i), .raw (.ty "tuple")] = some (.val (.bl false)) := isi_of rfl (by decide +kernel)
@[simp] theorem isi_int_dict {i : Int} : fIsi [(.int i), .raw (.ty "dict")] = some (.val (.bl false)) := isi_of rfl (by decide +kernel)
@[simp] theorem isi_str_int {a : Str} : fIsi [(.str a), .raw (.ty "int")] = some (.val (.bl false)) := isi_of rfl (by decide +kernel)
@[simp] theorem isi_str_str {a : Str} : fIsi [(.str a), .raw (.ty "str")] = some (.val (.bl true)) := isi_of rfl (by decide +kernel)
@[simp] theorem isi_str_bool {a : Str} : fIsi [(.str a), .raw (.ty "bool")] = some (.val (.bl false)) := isi_of rfl (by decide +kernel)
@[simp] theorem isi_str_list {a : Str} : fIsi [(.str a), .raw (.ty "list")] = some (.val (.bl false)) := isi_of rfl (by decide +kernel)
@[simp] theorem isi_str_tuple {a : Str} : fIsi [(.str a), .raw (.ty "tuple")] = some (.val (.bl false)) := isi_of rfl (by decide +kernel)
@[simp] theorem isi_str_dict {a : Str} : fIsi [(.str a), .raw (.ty "dict")] = some (.val (.bl false)) := isi_of rfl (by decide +kernel)
@[simp] theorem isi_tup_int {xs : List D} : fIsi [(.tup xs), .raw (.ty "int")] = some (.val (.bl false)) := isi_of rfl (by decide +kernel)
@[simp] theorem isi_tup_str {xs : List D} : fIsi [(.tup xs), .raw (.ty "str")] = some (.val (.bl false)) := isi_of rfl (by decide +kernel)
@[simp] theorem isi_tup_bool {xs : List D} : fIsi [(.tup xs), .raw (.ty "bool")] = some (.val (.bl false)) := isi_of rfl (by decide +kernel)
@[simp] theorem isi_tup_list {xs : List D} : fIsi [(.tup xs), .raw (.ty "list")] = some (.val (.bl false)) := isi_of rfl (by decide +kernel)
@[simp] theorem isi_tup_tuple {xs : List D} : fIsi [(.tup xs), .raw (.ty "tuple")] = some (.val (.bl true)) := isi_of rfl (by decide +kernel)
@[simp] theorem isi_tup_dict {xs : List D} : fIsi [(.tup xs), .raw (.ty "dict")] = some (.val (.bl false)) := isi_of rfl (by decide +kernel)
@[simp] theorem isi_lst_int {xs : List D} : fIsi [(.lst xs), .raw (.ty "int")] = some (.val (.bl false)) := isi_of rfl (by decide +kernel)
@[simp] theorem isi_lst_str {xs : List D} : fIsi [(.lst xs), .raw (.ty "str")] = some (.val (.bl false)) := isi_of rfl (by decide +kernel)
@[simp] theorem isi_lst_bool {xs : List D} : fIsi [(.lst xs), .raw (.ty "bool")] = some (.val (.bl false)) := isi_of rfl (by decide +kernel)
@[simp] theorem isi_lst_list {xs : List D} : fIsi [(.lst xs), .raw (.ty "list")] = some (.val (.bl true)) := isi_of rfl (by decide +kernel)
@[simp] theorem isi_lst_tuple {xs : List D} : fIsi [(.lst xs), .raw (.ty "tuple")] = some (.val (.bl false)) := isi_of rfl (by decide +kernel)
@[simp] theorem isi_lst_dict {xs : List D} : fIsi [(.lst xs), .raw (.ty "dict")] = some (.val (.bl false)) := isi_of rfl (by decide +kernel)
@[simp] theorem isi_scr_int {xs : List D} : fIsi [(.scr xs), .raw (.ty "int")] = some (.val (.bl false)) := isi_of rfl (by decide +kernel)
@[simp] theorem isi_scr_str {xs : List D} : fIsi [(.scr xs), .raw (.ty "str")] = some (.val (.bl false)) := isi_of rfl (by decide +kernel)
@[simp] theorem isi_scr_bool {xs : List D} : fIsi [(.scr xs), .raw (.ty "bool")] = some (.val (.bl false)) := isi_of rfl (by decide +kernel)
@[simp] theorem isi_scr_list {xs : List D} : fIsi [(.scr xs), .raw (.ty "list")] = some (.val (.bl true)) := isi_of rfl (by decide +kernel)
@[simp] theorem isi_scr_tuple {xs : List D} : fIsi [(.scr xs), .raw (.ty "tuple")] = some (.val (.bl false)) := isi_of rfl (by decide +kernel)
@[simp] theorem isi_scr_dict {xs : List D} : fIsi [(.scr xs), .raw (.ty "dict")] = some (.val (.bl false)) := isi_of rfl (by decide +kernel)
@[simp] theorem isi_dic_int {ks : List Key} {xs : List D} : fIsi [(.dic ks xs), .raw (.ty "int")] = some (.val (.bl false)) := isi_of rfl (by decide +kernel)
@[simp] theorem isi_dic_str {ks : List Key} {xs : List D} : fIsi [(.dic ks xs), .raw (.ty "str")] = some (.val (.bl false)) := isi_of rfl (by decide +kernel)
@[simp] theorem isi_dic_bool {ks : List Key} {xs : List D} : fIsi [(.dic ks xs), .raw (.ty "bool")] = some (.val (.bl false)) := isi_of rfl (by decide +kernel)
@[simp] theorem isi_dic_list {ks : List Key} {xs : List D} : fIsi [(.dic ks xs), .raw (.ty "list")] = some (.val (.bl false)) := isi_of rfl (by decide +kernel)
@[simp] theorem isi_dic_tuple {ks : List Key} {xs : List D} : fIsi [(.dic ks xs), .raw (.ty "tuple")] = some (.val (.bl false)) := isi_of rfl (by decide +kernel)
@[simp] theorem isi_dic_dict {ks : List Key} {xs : List D} : fIsi [(.dic ks xs), .raw (.ty "dict")] = some (.val (.bl true)) := isi_of rfl (by decide +kernel)
end DL

/-! what the defs of law_k22_terms_as_lines compute (printed by gen.py). -/
namespace K22
open PySem PySem.Spec L2 DL
def k_LETTERS : D := (.str "abcdefghijklmnopqrstuvwxyz")
def k_DIGITS : D := (.str "0123456789")
def k_MOST_LETTERS : D := (.int 8)
def k_MOST_NUMBER : D := (.int 9)
def k_MOST_OFTEN : D := (.int 4)
def k_PAIRS : D := (.tup [(.str "greatest"), (.str "least"), (.str "less"), (.str "plus")])
def k_RESERVED : D := (.tup [(.str "and"), (.str "ascends"), (.str "below"), (.str "claim"), (.str "compares"), (.str "down"), (.str "drop"), (.str "else"), (.str "empty"), (.str "end"), (.str "ends"), (.str "flag"), (.str "greatest"), (.str "if"), (.str "in"), (.str "is"), (.str "keep"), (.str "least"), (.str "less"), (.str "not"), (.str "or"), (.str "out"), (.str "plus"), (.str "put"), (.str "same"), (.str "skip"), (.str "up"), (.str "while")])
def ism_Nothing : ECls → Option Bool := fun e => if e = .own "Nothing" then some true else none
/-! plus_line: 0 one 1 other 2 mine 3 its -/
def d_plus_line : List D → DR := dDef 4 [false, false]
    (dRet (dTup (dCons (dOp2 opAdd (dOp2 opIx (dVar 0) (dC (.int 0))) (dOp2 opIx (dVar 1) (dC (.int 0)))) (dCons (dB fTuple (dCons (dLc (iArgs kZip (dCons (dOp2 opIx (dVar 0) (dC (.int 1))) (dCons (dOp2 opIx (dVar 1) (dC (.int 1))) dNil))) [2, 3] (gtTup 2 (gtCons (gtName 2) (gtCons (gtName 3) gtNil))) dYes (dOp2 opAdd (dVar 2) (dVar 3))) dNil)) dNil))))
/-! times_line: 0 often 1 one 2 part -/
def d_times_line : List D → DR := dDef 3 [false, false]
    (dRet (dTup (dCons (dOp2 opMul (dVar 0) (dOp2 opIx (dVar 1) (dC (.int 0)))) (dCons (dB fTuple (dCons (dLc (iSeq (dOp2 opIx (dVar 1) (dC (.int 1)))) [2] (gtName 2) dYes (dOp2 opMul (dVar 0) (dVar 2))) dNil)) dNil))))
/-! less_line: 0 one 1 other -/
def d_less_line : List D → DR := dDef 2 [false, false]
    (dRet (dCall [false, false] d_plus_line (dCons (dVar 0) (dCons (dCall [false, false] d_times_line (dCons (dOp1 opNeg (dC (.int 1))) (dCons (dVar 1) dNil))) dNil))))
/-! below_line: 0 one 1 other 2 whole 3 parts -/
def d_below_line : List D → DR := dDef 4 [false, false]
    (dSeq (dAsg (gtTup 2 (gtCons (gtName 2) (gtCons (gtName 3) gtNil))) (dCall [false, false] d_less_line (dCons (dVar 1) (dCons (dVar 0) dNil))))
    (dRet (dTup (dCons (dOp2 opSub (dVar 2) (dC (.int 1))) (dCons (dVar 3) dNil)))))
/-! is_plainly: 0 line 1 part -/
def d_is_plainly : List D → DR := dDef 2 [false]
    (dRet (dAndV (dOp2 opGe (dOp2 opIx (dVar 0) (dC (.int 0))) (dC (.int 0))) (dOp2 opEq (dLc (iSeq (dOp2 opIx (dVar 0) (dC (.int 1)))) [1] (gtName 1) (dOp2 opLt (dVar 1) (dC (.int 0))) (dVar 1)) (dLst dNil))))
/-! is_never: 0 line 1 part -/
def d_is_never : List D → DR := dDef 2 [false]
    (dRet (dAndV (dOp2 opLt (dOp2 opIx (dVar 0) (dC (.int 0))) (dC (.int 0))) (dOp2 opEq (dLc (iSeq (dOp2 opIx (dVar 0) (dC (.int 1)))) [1] (gtName 1) (dOp2 opGt (dVar 1) (dC (.int 0))) (dVar 1)) (dLst dNil))))
/-! with_line: 0 lines 1 line -/
def d_with_line : List D → DR := dDef 2 [false, false]
    (dSeq (dIfS (dOrT (dOp1 opIsN (dVar 0)) (dTru (dCall [false] d_is_never (dCons (dVar 1) dNil))))
      (dRet (dC .non))
      (fun ρ => .nx ρ))
    (dRet (dIf (dOrT (dTru (dCall [false] d_is_plainly (dCons (dVar 1) dNil))) (dOp2 opIn (dVar 1) (dVar 0))) (dVar 0) (dOp2 opAdd (dVar 0) (dTup (dCons (dVar 1) dNil))))))
/-! chosen: 0 first 1 second 2 word 3 lines 4 line 5 nought 6 one 7 other 8 told 9 above 10 below 11 its -/
def d_chosen : List D → DR := dDef 12 [false, false, false]
    (dSeq (dSet 3 (dOp2 opIx (dVar 0) (dC (.int 0))))
    (dSeq (dFor (iSeq (dOp2 opIx (dVar 1) (dC (.int 0)))) (gtName 4)
      (dSet 3 (dCall [false, false] d_with_line (dCons (dVar 3) (dCons (dVar 4) dNil)))))
    (dSeq (dSet 5 (dTup (dCons (dC (.int 0)) (dCons (dOp2 opMul (dTup (dCons (dC (.int 0)) dNil)) (dB fLen (dCons (dOp2 opIx (dOp2 opIx (dVar 0) (dC (.int 1))) (dC (.int 1))) dNil))) dNil))))
    (dSeq (dPar 6 7 (dCall [false, false] d_with_line (dCons (dVar 3) (dCons (dCall [false, false] d_less_line (dCons (dOp2 opIx (dVar 0) (dC (.int 1))) (dCons (dOp2 opIx (dVar 1) (dC (.int 1))) dNil))) dNil))) (dCall [false, false] d_with_line (dCons (dVar 3) (dCons (dCall [false, false] d_below_line (dCons (dOp2 opIx (dVar 0) (dC (.int 1))) (dCons (dOp2 opIx (dVar 1) (dC (.int 1))) dNil))) dNil))))
    (dSeq (dSet 8 (dDisp [((dC (.str "less")), (dTup (dCons (dCall [false, false] d_less_line (dCons (dOp2 opIx (dVar 0) (dC (.int 1))) (dCons (dOp2 opIx (dVar 1) (dC (.int 1))) dNil))) (dCons (dVar 5) dNil)))), ((dC (.str "least")), (dTup (dCons (dOp2 opIx (dVar 1) (dC (.int 1))) (dCons (dOp2 opIx (dVar 0) (dC (.int 1))) dNil))))]))
    (dSeq (dAsg (gtTup 2 (gtCons (gtName 9) (gtCons (gtName 10) gtNil))) (dGet2 (dVar 8) (dVar 2) (dTup (dCons (dOp2 opIx (dVar 0) (dC (.int 1))) (dCons (dOp2 opIx (dVar 1) (dC (.int 1))) dNil)))))
    (dRet (dLc (iSeq (dTup (dCons (dTup (dCons (dVar 6) (dCons (dVar 9) dNil))) (dCons (dTup (dCons (dVar 7) (dCons (dVar 10) dNil))) dNil)))) [4, 11] (gtTup 2 (gtCons (gtName 11) (gtCons (gtName 4) gtNil))) (dOp1 opNotN (dVar 11)) (dTup (dCons (dVar 11) (dCons (dVar 4) dNil)))))))))))
/-! both: 0 first 1 second 2 lines 3 line -/
def d_both : List D → DR := dDef 4 [false, false]
    (dSeq (dSet 2 (dOp2 opIx (dVar 0) (dC (.int 0))))
    (dSeq (dFor (iSeq (dOp2 opIx (dVar 1) (dC (.int 0)))) (gtName 3)
      (dSet 2 (dCall [false, false] d_with_line (dCons (dVar 2) (dCons (dVar 3) dNil)))))
    (dRet (dIf (dOp1 opIsN (dVar 2)) (dLst dNil) (dLst (dCons (dTup (dCons (dVar 2) (dCons (dCall [false, false] d_plus_line (dCons (dOp2 opIx (dVar 0) (dC (.int 1))) (dCons (dOp2 opIx (dVar 1) (dC (.int 1))) dNil))) dNil))) dNil))))))
/-! pieces: 0 names 1 term 2 many 3 found 4 first 5 second 6 name 7 lines 8 line -/
def d_pieces : Nat → List D → DR
  | 0 => fun _ => .no
  | n + 1 => dDef 9 [false, false]
    (dSeq (dSet 2 (dB fLen (dCons (dVar 0) dNil)))
    (dSeq (dIfS (dOp2 opEq (dOp2 opIx (dVar 1) (dC (.int 0))) (dC (.str "number")))
      (dRet (dLst (dCons (dTup (dCons (dTup dNil) (dCons (dTup (dCons (dOp2 opIx (dVar 1) (dC (.int 1))) (dCons (dOp2 opMul (dTup (dCons (dC (.int 0)) dNil)) (dVar 2)) dNil))) dNil))) dNil)))
      (fun ρ => .nx ρ))
    (dSeq (dIfS (dOp2 opEq (dOp2 opIx (dVar 1) (dC (.int 0))) (dC (.str "of")))
      (dRet (dLst (dCons (dTup (dCons (dTup dNil) (dCons (dTup (dCons (dC (.int 0)) (dCons (dB fTuple (dCons (dLc (iSeq (dVar 0)) [6] (gtName 6) dYes (dB fInt (dCons (dOp2 opEq (dVar 6) (dOp2 opIx (dVar 1) (dC (.int 1)))) dNil))) dNil)) dNil))) dNil))) dNil)))
      (fun ρ => .nx ρ))
    (dSeq (dIfS (dOp2 opEq (dOp2 opIx (dVar 1) (dC (.int 0))) (dC (.str "often")))
      (dRet (dLc (iSeq (dCall [false, false] (d_pieces n) (dCons (dVar 0) (dCons (dOp2 opIx (dVar 1) (dC (.int 2))) dNil)))) [7, 8] (gtTup 2 (gtCons (gtName 7) (gtCons (gtName 8) gtNil))) dYes (dTup (dCons (dVar 7) (dCons (dCall [false, false] d_times_line (dCons (dOp2 opIx (dVar 1) (dC (.int 1))) (dCons (dVar 8) dNil))) dNil)))))
      (fun ρ => .nx ρ))
    (dSeq (dSet 3 (dLst dNil))
    (dSeq (dFor (iSeq (dCall [false, false] (d_pieces n) (dCons (dVar 0) (dCons (dOp2 opIx (dVar 1) (dC (.int 1))) dNil)))) (gtName 4)
      (dFor (iSeq (dCall [false, false] (d_pieces n) (dCons (dVar 0) (dCons (dOp2 opIx (dVar 1) (dC (.int 2))) dNil)))) (gtName 5)
      (dExpr (dMut "list" 3 mExtend (dCons (dIf (dOp2 opEq (dOp2 opIx (dVar 1) (dC (.int 0))) (dC (.str "plus"))) (dCall [false, false] d_both (dCons (dVar 4) (dCons (dVar 5) dNil))) (dCall [false, false, false] d_chosen (dCons (dVar 4) (dCons (dVar 5) (dCons (dOp2 opIx (dVar 1) (dC (.int 0))) dNil))))) dNil)))))
    (dRet (dVar 3))))))))
/-! is_number: 0 thing -/
def d_is_number : List D → DR := dDef 1 [false]
    (dRet (dAndV (dB fIsi (dCons (dVar 0) (dCons (dC (.raw (.ty "int"))) dNil))) (dNotV (dB fIsi (dCons (dVar 0) (dCons (dC (.raw (.ty "bool"))) dNil))))))
/-! is_index: 0 thing -/
def d_is_index : List D → DR := dDef 1 [false]
    (dRet (dAndV (dCall [false] d_is_number (dCons (dVar 0) dNil)) (dOp2 opGe (dVar 0) (dC (.int 0)))))
/-! is_between: 0 thing 1 low 2 high -/
def d_is_between : List D → DR := dDef 3 [false, false, false]
    (dRet (dAndV (dCall [false] d_is_number (dCons (dVar 0) dNil)) (dChain opLe opLe (dVar 1) (dVar 0) (dVar 2))))
/-! is_name: 0 thing 1 sign -/
def d_is_name : List D → DR := dDef 2 [false]
    (dSeq (dIfS (dOrT (dNot (dTru (dB fIsi (dCons (dVar 0) (dCons (dC (.raw (.ty "str"))) dNil))))) (dOrT (dNot (dBool (dChain opLe opLe (dC (.int 1)) (dB fLen (dCons (dVar 0) dNil)) (dC k_MOST_LETTERS)))) (dOp2 opNotIn (dOp2 opIx (dVar 0) (dC (.int 0))) (dC k_LETTERS))))
      (dRet (dC (.bl false)))
      (fun ρ => .nx ρ))
    (dRet (dAndV (dOp2 opNotIn (dVar 0) (dC k_RESERVED)) (dB fAll (dCons (dLc (iSeq (dVar 0)) [1] (gtName 1) dYes (dOp2 opIn (dVar 1) (dOp2 opAdd (dC k_LETTERS) (dC k_DIGITS)))) dNil)))))
/-! is_worded: 0 thing 1 words -/
def d_is_worded : List D → DR := dDef 2 [false, false]
    (dRet (dAndV (dB fIsi (dCons (dVar 0) (dCons (dC (.raw (.ty "tuple"))) dNil))) (dAndV (dOp2 opNe (dVar 0) (dTup dNil)) (dAndV (dB fIsi (dCons (dOp2 opIx (dVar 0) (dC (.int 0))) (dCons (dC (.raw (.ty "str"))) dNil))) (dOp2 opIn (dOp2 opIx (dVar 0) (dC (.int 0))) (dVar 1))))))
/-! is_term: 0 thing -/
def d_is_term : Nat → List D → DR
  | 0 => fun _ => .no
  | n + 1 => dDef 1 [false]
    (dSeq (dIfS (dTru (dCall [false, false] d_is_worded (dCons (dVar 0) (dCons (dTup (dCons (dC (.str "number")) dNil)) dNil))))
      (dRet (dAndV (dOp2 opEq (dB fLen (dCons (dVar 0) dNil)) (dC (.int 2))) (dCall [false, false, false] d_is_between (dCons (dOp2 opIx (dVar 0) (dC (.int 1))) (dCons (dC (.int 0)) (dCons (dC k_MOST_NUMBER) dNil))))))
      (fun ρ => .nx ρ))
    (dSeq (dIfS (dTru (dCall [false, false] d_is_worded (dCons (dVar 0) (dCons (dTup (dCons (dC (.str "of")) dNil)) dNil))))
      (dRet (dAndV (dOp2 opEq (dB fLen (dCons (dVar 0) dNil)) (dC (.int 2))) (dCall [false] d_is_name (dCons (dOp2 opIx (dVar 0) (dC (.int 1))) dNil))))
      (fun ρ => .nx ρ))
    (dSeq (dIfS (dTru (dCall [false, false] d_is_worded (dCons (dVar 0) (dCons (dTup (dCons (dC (.str "often")) dNil)) dNil))))
      (dRet (dAndV (dOp2 opEq (dB fLen (dCons (dVar 0) dNil)) (dC (.int 3))) (dAndV (dCall [false, false, false] d_is_between (dCons (dOp2 opIx (dVar 0) (dC (.int 1))) (dCons (dC (.int 0)) (dCons (dC k_MOST_OFTEN) dNil)))) (dCall [false] (d_is_term n) (dCons (dOp2 opIx (dVar 0) (dC (.int 2))) dNil)))))
      (fun ρ => .nx ρ))
    (dRet (dAndV (dCall [false, false] d_is_worded (dCons (dVar 0) (dCons (dC k_PAIRS) dNil))) (dAndV (dOp2 opEq (dB fLen (dCons (dVar 0) dNil)) (dC (.int 3))) (dAndV (dCall [false] (d_is_term n) (dCons (dOp2 opIx (dVar 0) (dC (.int 1))) dNil)) (dCall [false] (d_is_term n) (dCons (dOp2 opIx (dVar 0) (dC (.int 2))) dNil)))))))))
/-! worth: 0 term 1 counts 2 word 3 one 4 other -/
def d_worth : Nat → List D → DR
  | 0 => fun _ => .no
  | n + 1 => dDef 5 [false, false]
    (dSeq (dSet 2 (dOp2 opIx (dVar 0) (dC (.int 0))))
    (dSeq (dIfS (dOp2 opEq (dVar 2) (dC (.str "number")))
      (dRet (dOp2 opIx (dVar 0) (dC (.int 1))))
      (fun ρ => .nx ρ))
    (dSeq (dIfS (dOp2 opEq (dVar 2) (dC (.str "of")))
      (dRet (dOp2 opIx (dVar 1) (dOp2 opIx (dVar 0) (dC (.int 1)))))
      (fun ρ => .nx ρ))
    (dSeq (dIfS (dOp2 opEq (dVar 2) (dC (.str "often")))
      (dRet (dOp2 opMul (dOp2 opIx (dVar 0) (dC (.int 1))) (dCall [false, false] (d_worth n) (dCons (dOp2 opIx (dVar 0) (dC (.int 2))) (dCons (dVar 1) dNil)))))
      (fun ρ => .nx ρ))
    (dSeq (dPar 3 4 (dCall [false, false] (d_worth n) (dCons (dOp2 opIx (dVar 0) (dC (.int 1))) (dCons (dVar 1) dNil))) (dCall [false, false] (d_worth n) (dCons (dOp2 opIx (dVar 0) (dC (.int 2))) (dCons (dVar 1) dNil))))
    (dSeq (dIfS (dOp2 opEq (dVar 2) (dC (.str "plus")))
      (dRet (dOp2 opAdd (dVar 3) (dVar 4)))
      (fun ρ => .nx ρ))
    (dSeq (dIfS (dOp2 opEq (dVar 2) (dC (.str "less")))
      (dRet (dB fMax2 (dCons (dC (.int 0)) (dCons (dOp2 opSub (dVar 3) (dVar 4)) dNil))))
      (fun ρ => .nx ρ))
    (dRet (dIf (dOp2 opEq (dVar 2) (dC (.str "least"))) (dB fMin2 (dCons (dVar 3) (dCons (dVar 4) dNil))) (dB fMax2 (dCons (dVar 3) (dCons (dVar 4) dNil))))))))))))
/-! names_in: 0 term 1 found 2 part -/
def d_names_in : Nat → List D → DR
  | 0 => fun _ => .no
  | n + 1 => dDef 3 [false]
    (dSeq (dIfS (dOp2 opEq (dOp2 opIx (dVar 0) (dC (.int 0))) (dC (.str "number")))
      (dRet (dLst dNil))
      (fun ρ => .nx ρ))
    (dSeq (dIfS (dOp2 opEq (dOp2 opIx (dVar 0) (dC (.int 0))) (dC (.str "of")))
      (dRet (dLst (dCons (dOp2 opIx (dVar 0) (dC (.int 1))) dNil)))
      (fun ρ => .nx ρ))
    (dSeq (dSet 1 (dLst dNil))
    (dSeq (dFor (iSeq (dSl opSl (dVar 0) (some (dC (.int 1))) none)) (gtName 2)
      (dExpr (dMut "list" 1 mExtend (dCons (dIf (dTru (dB fIsi (dCons (dVar 2) (dCons (dC (.raw (.ty "tuple"))) dNil)))) (dCall [false] (d_names_in n) (dCons (dVar 2) dNil)) (dLst dNil)) dNil))))
    (dRet (dVar 1))))))
/-! term_worth: 0 term 1 counts 2 name 3 its -/
def d_term_worth : List D → DR := dDef 4 [false, false]
    (dSeq (dIfS (dOrT (dNot (dTru (dCall [false] (d_is_term 12) (dCons (dVar 0) dNil)))) (dNot (dTru (dB fIsi (dCons (dVar 1) (dCons (dC (.raw (.ty "dict"))) dNil))))))
      (dRaise (.own "Nothing"))
      (fun ρ => .nx ρ))
    (dSeq (dIfS (dNot (dTru (dB fAll (dCons (dLcD .items 1 [2, 3] (gtTup 2 (gtCons (gtName 2) (gtCons (gtName 3) gtNil))) dYes (dAndV (dCall [false] d_is_name (dCons (dVar 2) dNil)) (dCall [false] d_is_index (dCons (dVar 3) dNil)))) dNil))))
      (dRaise (.own "Nothing"))
      (fun ρ => .nx ρ))
    (dSeq (dIfS (dOp2 opNe (dLc (iSeq (dCall [false] (d_names_in 12) (dCons (dVar 0) dNil))) [2] (gtName 2) (dOp2 opNotIn (dVar 2) (dVar 1)) (dVar 2)) (dLst dNil))
      (dRaise (.own "Nothing"))
      (fun ρ => .nx ρ))
    (dRet (dCall [false, false] (d_worth 12) (dCons (dVar 0) (dCons (dVar 1) dNil)))))))
/-! _law_bag: 0 script 1 cell -/
def d__law_bag : List D → DR := dDef 2 [false]
    (dRet (dLst (dCons (dC (.int 0)) (dCons (dC (.int 1234567891)) (dCons (dC (.int 0)) (dCons (dLc (iSeq (dSl opSl (dVar 0) none (some (dC (.int 63))))) [1] (gtName 1) dYes (dB fAbs (dCons (dVar 1) dNil))) dNil))))))
/-! _law_take: 0 bag 1 many 2 cell 3 stirred 4 drawn 5 begin 6 second -/
def d__law_take : List D → DR := dDef 7 [true, false]
    (dSeq (dIfS (dOp2 opEq (dOp2 opIx (dVar 0) (dC (.int 0))) (dC (.int 0)))
      (dSeq (dSet 2 (dOp2 opIx (dOp2 opAdd (dSl opSl (dOp2 opIx (dVar 0) (dC (.int 3))) (some (dOp2 opIx (dVar 0) (dC (.int 2)))) none) (dLst (dCons (dC (.int 0)) dNil))) (dC (.int 0))))
    (dSeq (dAugS 0 (dC (.int 2)) (dC (.int 1)) opAddI)
    (dSeq (dIfS (dOp2 opGe (dVar 2) (dOp2 opPow (dC (.int 10)) (dC (.int 18))))
      (dStore 0 (dC (.int 0)) (dVar 2))
      (fun ρ => .nx ρ))
    (dSeq (dSet 3 (dOp2 opAdd (dOp2 opAdd (dOp2 opMul (dOp2 opIx (dVar 0) (dC (.int 1))) (dC (.int 48271))) (dOp2 opMod (dB fInt (dCons (dVar 2) dNil)) (dC (.int 2147483647)))) (dOp2 opMul (dC (.int 7919)) (dOp2 opIx (dVar 0) (dC (.int 2))))))
    (dStore 0 (dC (.int 1)) (dOp2 opMod (dB fInt (dCons (dVar 3) dNil)) (dC (.int 2147483647))))))))
      (fun ρ => .nx ρ))
    (dSeq (dIfS (dOp2 opGt (dOp2 opIx (dVar 0) (dC (.int 0))) (dC (.int 0)))
      (dSeq (dSet 4 (dOp2 opMod (dB fInt (dCons (dOp2 opIx (dVar 0) (dC (.int 0))) dNil)) (dVar 1)))
    (dSeq (dStore 0 (dC (.int 0)) (dOp2 opFdiv (dB fInt (dCons (dOp2 opIx (dVar 0) (dC (.int 0))) dNil)) (dVar 1)))
    (dRet (dVar 4))))
      (fun ρ => .nx ρ))
    (dSeq (dSet 5 (dOp2 opMod (dB fInt (dCons (dOp2 opMul (dOp2 opAdd (dOp2 opIx (dVar 0) (dC (.int 1))) (dC (.int 1))) (dC (.int 39373))) dNil)) (dC (.int 1000000007))))
    (dSeq (dSet 6 (dOp2 opMod (dB fInt (dCons (dOp2 opMul (dOp2 opMod (dB fInt (dCons (dOp2 opMul (dVar 5) (dVar 5)) dNil)) (dC (.int 998244353))) (dC (.int 30011))) dNil)) (dC (.int 998244353))))
    (dRet (dOp2 opMod (dB fInt (dCons (dOp2 opFdiv (dVar 6) (dC (.int 7))) dNil)) (dVar 1)))))))
/-! _law_some: 0 bag 1 things -/
def d__law_some : List D → DR := dDef 2 [true, false]
    (dRet (dOp2 opIx (dVar 1) (dCall [true, false] d__law_take (dCons (dVar 0) (dCons (dB fLen (dCons (dVar 1) dNil)) dNil)))))
/-! _law_alike: 0 found 1 due -/
def d__law_alike : List D → DR := dDef 2 [false, false]
    (dRet (dAndV (dOp2 opEq (dB fRepr (dCons (dVar 0) dNil)) (dB fRepr (dCons (dVar 1) dNil))) (dOp2 opEq (dVar 0) (dVar 1))))
/-! _law_worth: 0 term 1 counts 2 one 3 other -/
def d__law_worth : Nat → List D → DR
  | 0 => fun _ => .no
  | n + 1 => dDef 4 [false, false]
    (dSeq (dIfS (dOp2 opEq (dOp2 opIx (dVar 0) (dC (.int 0))) (dC (.str "number")))
      (dRet (dOp2 opIx (dVar 0) (dC (.int 1))))
      (fun ρ => .nx ρ))
    (dSeq (dIfS (dOp2 opEq (dOp2 opIx (dVar 0) (dC (.int 0))) (dC (.str "of")))
      (dRet (dOp2 opIx (dVar 1) (dOp2 opIx (dVar 0) (dC (.int 1)))))
      (fun ρ => .nx ρ))
    (dSeq (dIfS (dOp2 opEq (dOp2 opIx (dVar 0) (dC (.int 0))) (dC (.str "often")))
      (dRet (dOp2 opMul (dOp2 opIx (dVar 0) (dC (.int 1))) (dCall [false, false] (d__law_worth n) (dCons (dOp2 opIx (dVar 0) (dC (.int 2))) (dCons (dVar 1) dNil)))))
      (fun ρ => .nx ρ))
    (dSeq (dPar 2 3 (dCall [false, false] (d__law_worth n) (dCons (dOp2 opIx (dVar 0) (dC (.int 1))) (dCons (dVar 1) dNil))) (dCall [false, false] (d__law_worth n) (dCons (dOp2 opIx (dVar 0) (dC (.int 2))) (dCons (dVar 1) dNil))))
    (dRet (dOp2 opIx (dDisp [((dC (.str "plus")), (dOp2 opAdd (dVar 2) (dVar 3))), ((dC (.str "less")), (dB fMax2 (dCons (dOp2 opSub (dVar 2) (dVar 3)) (dCons (dC (.int 0)) dNil)))), ((dC (.str "least")), (dB fMin2 (dCons (dVar 2) (dCons (dVar 3) dNil)))), ((dC (.str "greatest")), (dB fMax2 (dCons (dVar 2) (dCons (dVar 3) dNil))))]) (dOp2 opIx (dVar 0) (dC (.int 0)))))))))
/-! _law_drawn_term: 0 bag 1 deep 2 word -/
def d__law_drawn_term : Nat → List D → DR
  | 0 => fun _ => .no
  | n + 1 => dDef 3 [true, false]
    (dSeq (dSet 2 (dCall [true, false] d__law_some (dCons (dVar 0) (dCons (dIf (dOp2 opGt (dVar 1) (dC (.int 0))) (dLst (dCons (dC (.str "of")) (dCons (dC (.str "of")) (dCons (dC (.str "of")) (dCons (dC (.str "number")) (dCons (dC (.str "plus")) (dCons (dC (.str "less")) (dCons (dC (.str "least")) (dCons (dC (.str "greatest")) (dCons (dC (.str "often")) dNil)))))))))) (dLst (dCons (dC (.str "of")) (dCons (dC (.str "of")) (dCons (dC (.str "number")) dNil))))) dNil))))
    (dSeq (dIfS (dOp2 opEq (dVar 2) (dC (.str "of")))
      (dRet (dTup (dCons (dC (.str "of")) (dCons (dCall [true, false] d__law_some (dCons (dVar 0) (dCons (dLst (dCons (dC (.str "a")) (dCons (dC (.str "b")) dNil))) dNil))) dNil))))
      (fun ρ => .nx ρ))
    (dSeq (dIfS (dOp2 opEq (dVar 2) (dC (.str "number")))
      (dRet (dTup (dCons (dC (.str "number")) (dCons (dCall [true, false] d__law_take (dCons (dVar 0) (dCons (dC (.int 3)) dNil))) dNil))))
      (fun ρ => .nx ρ))
    (dSeq (dIfS (dOp2 opEq (dVar 2) (dC (.str "often")))
      (dRet (dTup (dCons (dC (.str "often")) (dCons (dCall [true, false] d__law_take (dCons (dVar 0) (dCons (dC (.int 3)) dNil))) (dCons (dCall [true, false] (d__law_drawn_term n) (dCons (dVar 0) (dCons (dOp2 opSub (dVar 1) (dC (.int 1))) dNil))) dNil)))))
      (fun ρ => .nx ρ))
    (dRet (dTup (dCons (dVar 2) (dCons (dCall [true, false] (d__law_drawn_term n) (dCons (dVar 0) (dCons (dOp2 opSub (dVar 1) (dC (.int 1))) dNil))) (dCons (dCall [true, false] (d__law_drawn_term n) (dCons (dVar 0) (dCons (dOp2 opSub (dVar 1) (dC (.int 1))) dNil))) dNil)))))))))
/-! _law_value: 0 row 1 numbers 2 part 3 number -/
def d__law_value : List D → DR := dDef 4 [false, false]
    (dRet (dOp2 opAdd (dOp2 opIx (dVar 0) (dC (.int 0))) (dB fSum (dCons (dLc (iArgs kZip (dCons (dOp2 opIx (dVar 0) (dC (.int 1))) (dCons (dVar 1) dNil))) [2, 3] (gtTup 2 (gtCons (gtName 2) (gtCons (gtName 3) gtNil))) dYes (dOp2 opMul (dVar 2) (dVar 3))) dNil))))
/-! law: 0 script 1 bag 2 lap 3 term 4 told 5 few 6 counts 7 there 8 due 9 x 10 turn 11 lines 12 line 13 row -/
def d_law : List D → DR := dDef 14 [false]
    (dSeq (dSet 1 (dCall [false] d__law_bag (dCons (dVar 0) dNil)))
    (dSeq (dFor (iArgs kRange1 (dCons (dC (.int 12)) dNil)) (gtName 2)
      (dSeq (dSet 3 (dCall [true, false] (d__law_drawn_term 12) (dCons (dVar 1) (dCons (dC (.int 2)) dNil))))
    (dSeq (dSet 4 (dCall [false, false] (d_pieces 12) (dCons (dTup (dCons (dC (.str "a")) (dCons (dC (.str "b")) dNil))) (dCons (dVar 3) dNil))))
    (dSeq (dSet 5 (dSumL (dCons (dLc (iArgs kRange1 (dCons (dC (.int 4)) dNil)) [9] (gtName 9) dYes (dLst (dCons (dTup (dCons (dVar 9) (dCons (dC (.int 0)) dNil))) (dCons (dTup (dCons (dVar 9) (dCons (dC (.int 1)) dNil))) (dCons (dTup (dCons (dVar 9) (dCons (dC (.int 3)) dNil))) dNil))))) (dCons (dLst dNil) dNil))))
    (dFor (iSeq (dOp2 opAdd (dVar 5) (dLc (iArgs kRange1 (dCons (dC (.int 6)) dNil)) [10] (gtName 10) dYes (dTup (dCons (dCall [true, false] d__law_take (dCons (dVar 1) (dCons (dC (.int 50)) dNil))) (dCons (dCall [true, false] d__law_take (dCons (dVar 1) (dCons (dC (.int 50)) dNil))) dNil)))))) (gtName 6)
      (dSeq (dSet 7 (dLc (iSeq (dVar 4)) [11, 12] (gtTup 2 (gtCons (gtName 11) (gtCons (gtName 12) gtNil))) (dOp2 opEq (dLc (iSeq (dVar 11)) [13] (gtName 13) (dOp2 opLt (dCall [false, false] d__law_value (dCons (dVar 13) (dCons (dVar 6) dNil))) (dC (.int 0))) (dVar 13)) (dLst dNil)) (dVar 12)))
    (dSeq (dSet 8 (dCall [false, false] (d__law_worth 12) (dCons (dVar 3) (dCons (dDisp [((dC (.str "a")), (dOp2 opIx (dVar 6) (dC (.int 0)))), ((dC (.str "b")), (dOp2 opIx (dVar 6) (dC (.int 1))))]) dNil))))
    (dIfS (dOrT (dOp2 opNe (dB fLen (dCons (dVar 7) dNil)) (dC (.int 1))) (dNot (dTru (dCall [false, false] d__law_alike (dCons (dLst (dCons (dCall [false, false] d__law_value (dCons (dOp2 opIx (dVar 7) (dC (.int 0))) (dCons (dVar 6) dNil))) (dCons (dCall [false, false] d_term_worth (dCons (dVar 3) (dCons (dDisp [((dC (.str "a")), (dOp2 opIx (dVar 6) (dC (.int 0)))), ((dC (.str "b")), (dOp2 opIx (dVar 6) (dC (.int 1))))]) dNil))) dNil))) (dCons (dLst (dCons (dVar 8) (dCons (dVar 8) dNil))) dNil))))))
      (dRet (dC (.bl false)))
      (fun ρ => .nx ρ)))))))))
    (dRet (dC (.bl true)))))
end K22

/-! the walk through law_k22_terms_as_lines (printed by gen.py). -/
namespace K22
open PySem PySem.Spec L2 DL
def top (i : Nat) : Stmt := PySem.Challenge.pw_mergewright_k22_terms_as_lines.main.body.getD i (.Pass ⟨0, 0, 0, 0⟩)
section
variable {P : Program} {w : World} {K : PySem.W.Frag} {mg : Str → Option Value} {base : Heap}
theorem im_Nothing {C : Addr} (o : OwnX K mg "Nothing" C) (s : PySem.W.subIn K (.ref C) (.ref C) = some true) (e : ECls) (b : Bool) (h : ism_Nothing e = some b) (v : Value) (q : ClsIs K e v) : PySem.W.exmOne K v (.ref C) = some b := by
  unfold ism_Nothing at h
  split at h
  · cases h
    rename_i e1
    subst e1
    have := ClsIs.eq q (show ClsIs K (.own "Nothing") (.ref C) from o.ns)
    subst this
    exact exm_own o s
  · cases h
/-! ### plus_line -/
abbrev st_plus_line : Stmt := top 2
abbrev n_plus_line : List Str := ["one", "other", "mine", "its"]
theorem sc_plus_line : FnScope ["one", "other", "mine", "its"] ["one", "other"] (defScope st_plus_line) := ⟨rfl, rfl, rfl, by decide +kernel, rfl, by decide +kernel, by decide +kernel⟩
theorem ok_plus_line (df : DefAt K mg "plus_line" st_plus_line ["one", "other"]) (z_tuple : mg "tuple" = none) (z_zip : mg "zip" = none) :
    FnC P w K mg base 1 "plus_line" [false, false] d_plus_line :=
  fnC_of df sc_plus_line rfl fun f0 cdv A outer s H E hr =>
    (sd_one (sd_ret (ed_tup (ad_cons (ed_add (ed_ixA hr (ed_var 0) ed_int) (ed_ixA hr (ed_var 1) ed_int)) (ad_cons (ed_bt call_tuple_of on_tuple z_tuple bo_tuple (ad_cons (ed_lc rfl sc_plus_line.nd (blkOk_by (own := [("mine", 2), ("its", 3)]) (show blkC n_plus_line (defScope st_plus_line) _ _ = true from by decide +kernel)) (by decide) (id_zip z_zip (ad_cons (ed_ixA hr (ed_var 0) ed_int) (ad_cons (ed_ixA hr (ed_var 1) ed_int) ad_nil))) (fun _ _ _ _ _ => (gd_tup rfl (gd_cons (gd_name sc_plus_line.nd (i := 2)) (gd_cons (gd_name sc_plus_line.nd (i := 3)) gd_nil)))) (fun _ _ _ _ _ => id_yes) (fun _ _ _ _ _ => (ed_add (ed_var 2) (ed_var 3)))) ad_nil)) ad_nil)))))
/-! ### times_line -/
abbrev st_times_line : Stmt := top 3
abbrev n_times_line : List Str := ["often", "one", "part"]
theorem sc_times_line : FnScope ["often", "one", "part"] ["often", "one"] (defScope st_times_line) := ⟨rfl, rfl, rfl, by decide +kernel, rfl, by decide +kernel, by decide +kernel⟩
theorem ok_times_line (df : DefAt K mg "times_line" st_times_line ["often", "one"]) (z_tuple : mg "tuple" = none) :
    FnC P w K mg base 1 "times_line" [false, false] d_times_line :=
  fnC_of df sc_times_line rfl fun f0 cdv A outer s H E hr =>
    (sd_one (sd_ret (ed_tup (ad_cons (ed_mul (ed_var 0) (ed_ixA hr (ed_var 1) ed_int)) (ad_cons (ed_bt call_tuple_of on_tuple z_tuple bo_tuple (ad_cons (ed_lc rfl sc_times_line.nd (blkOk_by (own := [("part", 2)]) (show blkC n_times_line (defScope st_times_line) _ _ = true from by decide +kernel)) (by decide) (id_seq (ed_ixA hr (ed_var 1) ed_int)) (fun _ _ _ _ _ => (gd_name sc_times_line.nd (i := 2))) (fun _ _ _ _ _ => id_yes) (fun _ _ _ _ _ => (ed_mul (ed_var 0) (ed_var 2)))) ad_nil)) ad_nil)))))
/-! ### less_line -/
abbrev st_less_line : Stmt := top 4
abbrev n_less_line : List Str := ["one", "other"]
theorem sc_less_line : FnScope ["one", "other"] ["one", "other"] (defScope st_less_line) := ⟨rfl, rfl, rfl, by decide +kernel, rfl, by decide +kernel, by decide +kernel⟩
theorem ok_less_line (df : DefAt K mg "less_line" st_less_line ["one", "other"]) (c_plus_line : FnC P w K mg base 1 "plus_line" [false, false] d_plus_line) (c_times_line : FnC P w K mg base 1 "times_line" [false, false] d_times_line) :
    FnC P w K mg base 2 "less_line" [false, false] d_less_line :=
  fnC_of df sc_less_line rfl fun f0 cdv A outer s H E hr =>
    (sd_one (sd_ret (ed_callF c_plus_line hr (takes_of rfl rfl rfl rfl) (ad_cons (ed_var 0) (ad_cons (ed_callF c_times_line hr (takes_of rfl rfl rfl rfl) (ad_cons (ed_neg ed_int) (ad_cons (ed_var 1) ad_nil))) ad_nil)))))
/-! ### below_line -/
abbrev st_below_line : Stmt := top 5
abbrev n_below_line : List Str := ["one", "other", "whole", "parts"]
theorem sc_below_line : FnScope ["one", "other", "whole", "parts"] ["one", "other"] (defScope st_below_line) := ⟨rfl, rfl, rfl, by decide +kernel, rfl, by decide +kernel, by decide +kernel⟩
theorem ok_below_line (df : DefAt K mg "below_line" st_below_line ["one", "other"]) (c_less_line : FnC P w K mg base 2 "less_line" [false, false] d_less_line) :
    FnC P w K mg base 3 "below_line" [false, false] d_below_line :=
  fnC_of df sc_below_line rfl fun f0 cdv A outer s H E hr =>
    (sd_cons (sd_asg (ed_callF c_less_line hr (takes_of rfl rfl rfl rfl) (ad_cons (ed_var 1) (ad_cons (ed_var 0) ad_nil))) (gd_tup rfl (gd_cons (gd_name sc_below_line.nd (i := 2)) (gd_cons (gd_name sc_below_line.nd (i := 3)) gd_nil))))
    (sd_one (sd_ret (ed_tup (ad_cons (ed_sub (ed_var 2) ed_int) (ad_cons (ed_var 3) ad_nil))))))
/-! ### is_plainly -/
abbrev st_is_plainly : Stmt := top 6
abbrev n_is_plainly : List Str := ["line", "part"]
theorem sc_is_plainly : FnScope ["line", "part"] ["line"] (defScope st_is_plainly) := ⟨rfl, rfl, rfl, by decide +kernel, rfl, by decide +kernel, by decide +kernel⟩
theorem ok_is_plainly (df : DefAt K mg "is_plainly" st_is_plainly ["line"]) :
    FnC P w K mg base 1 "is_plainly" [false] d_is_plainly :=
  fnC_of df sc_is_plainly rfl fun f0 cdv A outer s H E hr =>
    (sd_one (sd_ret (ed_and (ed_ofC (cd_ge (ed_ixA hr (ed_var 0) ed_int) ed_int)) (ed_one (ed_ofC (cd_eq hr (ed_lc rfl sc_is_plainly.nd (blkOk_by (own := [("part", 1)]) (show blkC n_is_plainly (defScope st_is_plainly) _ _ = true from by decide +kernel)) (by decide) (id_seq (ed_ixA hr (ed_var 0) ed_int)) (fun _ _ _ _ _ => (gd_name sc_is_plainly.nd (i := 1))) (fun _ _ _ _ _ => (id_test (td_ofC (cd_lt (ed_var 1) ed_int) bf_lt))) (fun _ _ _ _ _ => (ed_var 1))) (ed_lst ad_nil)))))))
/-! ### is_never -/
abbrev st_is_never : Stmt := top 7
abbrev n_is_never : List Str := ["line", "part"]
theorem sc_is_never : FnScope ["line", "part"] ["line"] (defScope st_is_never) := ⟨rfl, rfl, rfl, by decide +kernel, rfl, by decide +kernel, by decide +kernel⟩
theorem ok_is_never (df : DefAt K mg "is_never" st_is_never ["line"]) :
    FnC P w K mg base 1 "is_never" [false] d_is_never :=
  fnC_of df sc_is_never rfl fun f0 cdv A outer s H E hr =>
    (sd_one (sd_ret (ed_and (ed_ofC (cd_lt (ed_ixA hr (ed_var 0) ed_int) ed_int)) (ed_one (ed_ofC (cd_eq hr (ed_lc rfl sc_is_never.nd (blkOk_by (own := [("part", 1)]) (show blkC n_is_never (defScope st_is_never) _ _ = true from by decide +kernel)) (by decide) (id_seq (ed_ixA hr (ed_var 0) ed_int)) (fun _ _ _ _ _ => (gd_name sc_is_never.nd (i := 1))) (fun _ _ _ _ _ => (id_test (td_ofC (cd_gt (ed_var 1) ed_int) bf_gt))) (fun _ _ _ _ _ => (ed_var 1))) (ed_lst ad_nil)))))))
/-! ### with_line -/
abbrev st_with_line : Stmt := top 8
abbrev n_with_line : List Str := ["lines", "line"]
theorem sc_with_line : FnScope ["lines", "line"] ["lines", "line"] (defScope st_with_line) := ⟨rfl, rfl, rfl, by decide +kernel, rfl, by decide +kernel, by decide +kernel⟩
theorem ok_with_line (df : DefAt K mg "with_line" st_with_line ["lines", "line"]) (c_is_never : FnC P w K mg base 1 "is_never" [false] d_is_never) (c_is_plainly : FnC P w K mg base 1 "is_plainly" [false] d_is_plainly) :
    FnC P w K mg base 2 "with_line" [false, false] d_with_line :=
  fnC_of df sc_with_line rfl fun f0 cdv A outer s H E hr =>
    (sd_cons (sd_if (tw_or (td_ofC1 (cd_isN (ed_var 0)) bf_isN) (tw_or1 (td_truth (ed_callF c_is_never hr (takes_of rfl rfl rfl rfl) (ad_cons (ed_var 1) ad_nil))))).pt
      (sd_one (sd_ret ed_non))
      sd_nil)
    (sd_one (sd_ret (ed_if (tw_or (td_truth (ed_callF c_is_plainly hr (takes_of rfl rfl rfl rfl) (ad_cons (ed_var 1) ad_nil))) (tw_or1 (td_ofC (cd_in hr (ed_var 1) (ed_var 0)) bf_in))).pt (ed_var 0) (ed_add (ed_var 0) (ed_tup (ad_cons (ed_var 1) ad_nil)))))))
/-! ### chosen -/
abbrev st_chosen : Stmt := top 9
abbrev n_chosen : List Str := ["first", "second", "word", "lines", "line", "nought", "one", "other", "told", "above", "below", "its"]
theorem sc_chosen : FnScope ["first", "second", "word", "lines", "line", "nought", "one", "other", "told", "above", "below", "its"] ["first", "second", "word"] (defScope st_chosen) := ⟨rfl, rfl, rfl, by decide +kernel, rfl, by decide +kernel, by decide +kernel⟩
theorem ok_chosen (df : DefAt K mg "chosen" st_chosen ["first", "second", "word"]) (c_with_line : FnC P w K mg base 2 "with_line" [false, false] d_with_line) (c_less_line : FnC P w K mg base 2 "less_line" [false, false] d_less_line) (c_below_line : FnC P w K mg base 3 "below_line" [false, false] d_below_line) (z_len : mg "len" = none) :
    FnC P w K mg base 4 "chosen" [false, false, false] d_chosen :=
  fnC_of df sc_chosen rfl fun f0 cdv A outer s H E hr =>
    (sd_cons (sd_set sc_chosen.nd (ed_ixA hr (ed_var 0) ed_int) (i := 3))
    (sd_cons (sd_for (passes_of rfl) rfl (id_seq (ed_ixA hr (ed_var 1) ed_int)) (gd_name sc_chosen.nd (i := 4))
      (sd_one (sd_set sc_chosen.nd (ed_callF c_with_line hr (takes_of rfl rfl rfl rfl) (ad_cons (ed_var 3) (ad_cons (ed_var 4) ad_nil))) (i := 3))))
    (sd_cons (sd_set sc_chosen.nd (ed_tup (ad_cons ed_int (ad_cons (ed_mul (ed_tup (ad_cons ed_int ad_nil)) (ed_bi call_lenA on_len z_len bo_len (ad_cons (ed_ixA hr (ed_ixA hr (ed_var 0) ed_int) ed_int) ad_nil))) ad_nil))) (i := 5))
    (sd_cons (sd_par rfl sc_chosen.nd (ed_callF c_with_line hr (takes_of rfl rfl rfl rfl) (ad_cons (ed_var 3) (ad_cons (ed_callF c_less_line hr (takes_of rfl rfl rfl rfl) (ad_cons (ed_ixA hr (ed_var 0) ed_int) (ad_cons (ed_ixA hr (ed_var 1) ed_int) ad_nil))) ad_nil))) (ed_callF c_with_line hr (takes_of rfl rfl rfl rfl) (ad_cons (ed_var 3) (ad_cons (ed_callF c_below_line hr (takes_of rfl rfl rfl rfl) (ad_cons (ed_ixA hr (ed_var 0) ed_int) (ad_cons (ed_ixA hr (ed_var 1) ed_int) ad_nil))) ad_nil))) (by decide) (i := 6) (j := 7))
    (sd_cons (sd_set sc_chosen.nd (ed_disp (pd_cons ed_str (ed_tup (ad_cons (ed_callF c_less_line hr takes0 (ad_cons (ed_ixA hr (ed_var 0) ed_int) (ad_cons (ed_ixA hr (ed_var 1) ed_int) ad_nil))) (ad_cons (ed_var 5) ad_nil))) (pd_cons ed_str (ed_tup (ad_cons (ed_ixA hr (ed_var 1) ed_int) (ad_cons (ed_ixA hr (ed_var 0) ed_int) ad_nil))) pd_nil))) (i := 8))
    (sd_cons (sd_asg (ed_dget2 hr (ed_var 8) (ed_var 2) (ed_tup (ad_cons (ed_ixA hr (ed_var 0) ed_int) (ad_cons (ed_ixA hr (ed_var 1) ed_int) ad_nil)))) (gd_tup rfl (gd_cons (gd_name sc_chosen.nd (i := 9)) (gd_cons (gd_name sc_chosen.nd (i := 10)) gd_nil))))
    (sd_one (sd_ret (ed_lc rfl sc_chosen.nd (blkOk_by (own := [("line", 4), ("its", 11)]) (show blkC n_chosen (defScope st_chosen) _ _ = true from by decide +kernel)) (by decide) (id_seq (ed_tup (ad_cons (ed_tup (ad_cons (ed_var 6) (ad_cons (ed_var 9) ad_nil))) (ad_cons (ed_tup (ad_cons (ed_var 7) (ad_cons (ed_var 10) ad_nil))) ad_nil)))) (fun _ _ _ _ _ => (gd_tup rfl (gd_cons (gd_name sc_chosen.nd (i := 11)) (gd_cons (gd_name sc_chosen.nd (i := 4)) gd_nil)))) (fun _ _ _ _ _ => (id_test (td_ofC1 (cd_notN (ed_var 11)) bf_notN))) (fun _ _ _ _ _ => (ed_tup (ad_cons (ed_var 11) (ad_cons (ed_var 4) ad_nil)))))))))))))
/-! ### both -/
abbrev st_both : Stmt := top 10
abbrev n_both : List Str := ["first", "second", "lines", "line"]
theorem sc_both : FnScope ["first", "second", "lines", "line"] ["first", "second"] (defScope st_both) := ⟨rfl, rfl, rfl, by decide +kernel, rfl, by decide +kernel, by decide +kernel⟩
theorem ok_both (df : DefAt K mg "both" st_both ["first", "second"]) (c_with_line : FnC P w K mg base 2 "with_line" [false, false] d_with_line) (c_plus_line : FnC P w K mg base 1 "plus_line" [false, false] d_plus_line) :
    FnC P w K mg base 3 "both" [false, false] d_both :=
  fnC_of df sc_both rfl fun f0 cdv A outer s H E hr =>
    (sd_cons (sd_set sc_both.nd (ed_ixA hr (ed_var 0) ed_int) (i := 2))
    (sd_cons (sd_for (passes_of rfl) rfl (id_seq (ed_ixA hr (ed_var 1) ed_int)) (gd_name sc_both.nd (i := 3))
      (sd_one (sd_set sc_both.nd (ed_callF c_with_line hr (takes_of rfl rfl rfl rfl) (ad_cons (ed_var 2) (ad_cons (ed_var 3) ad_nil))) (i := 2))))
    (sd_one (sd_ret (ed_if (td_ofC1 (cd_isN (ed_var 2)) bf_isN) (ed_lst ad_nil) (ed_lst (ad_cons (ed_tup (ad_cons (ed_var 2) (ad_cons (ed_callF c_plus_line hr (takes_of rfl rfl rfl rfl) (ad_cons (ed_ixA hr (ed_var 0) ed_int) (ad_cons (ed_ixA hr (ed_var 1) ed_int) ad_nil))) ad_nil))) ad_nil)))))))
/-! ### pieces -/
abbrev st_pieces : Stmt := top 11
abbrev n_pieces : List Str := ["names", "term", "many", "found", "first", "second", "name", "lines", "line"]
theorem sc_pieces : FnScope ["names", "term", "many", "found", "first", "second", "name", "lines", "line"] ["names", "term"] (defScope st_pieces) := ⟨rfl, rfl, rfl, by decide +kernel, rfl, by decide +kernel, by decide +kernel⟩
theorem ok_pieces (df : DefAt K mg "pieces" st_pieces ["names", "term"]) (c_times_line : FnC P w K mg base 1 "times_line" [false, false] d_times_line) (c_both : FnC P w K mg base 3 "both" [false, false] d_both) (c_chosen : FnC P w K mg base 4 "chosen" [false, false, false] d_chosen) (z_len : mg "len" = none) (z_tuple : mg "tuple" = none) (z_int : mg "int" = none) :
    ∀ n : Nat, FnC P w K mg base (4 + n) "pieces" [false, false] (d_pieces n)
  | 0 => fnC_zero df rfl
  | n + 1 => by
    have ih := ok_pieces df c_times_line c_both c_chosen z_len z_tuple z_int n
    exact fnC_of (k := 4 + n) df sc_pieces rfl fun f0 cdv A outer s H E hr =>
    (sd_cons (sd_set sc_pieces.nd (ed_bi call_lenA on_len z_len bo_len (ad_cons (ed_var 0) ad_nil)) (i := 2))
    (sd_cons (sd_if (td_ofC (cd_eq hr (ed_ixA hr (ed_var 1) ed_int) ed_str) bf_eq)
      (sd_one (sd_ret (ed_lst (ad_cons (ed_tup (ad_cons (ed_tup ad_nil) (ad_cons (ed_tup (ad_cons (ed_ixA hr (ed_var 1) ed_int) (ad_cons (ed_mul (ed_tup (ad_cons ed_int ad_nil)) (ed_var 2)) ad_nil))) ad_nil))) ad_nil))))
      sd_nil)
    (sd_cons (sd_if (td_ofC (cd_eq hr (ed_ixA hr (ed_var 1) ed_int) ed_str) bf_eq)
      (sd_one (sd_ret (ed_lst (ad_cons (ed_tup (ad_cons (ed_tup ad_nil) (ad_cons (ed_tup (ad_cons ed_int (ad_cons (ed_bt call_tuple_of on_tuple z_tuple bo_tuple (ad_cons (ed_lc rfl sc_pieces.nd (blkOk_by (own := [("name", 6)]) (show blkC n_pieces (defScope st_pieces) _ _ = true from by decide +kernel)) (by decide) (id_seq (ed_var 0)) (fun _ _ _ _ _ => (gd_name sc_pieces.nd (i := 6))) (fun _ _ _ _ _ => id_yes) (fun _ _ _ _ _ => (ed_bt call_int1 on_int z_int bo_int (ad_cons (ed_ofC (cd_eq hr (ed_var 6) (ed_ixA hr (ed_var 1) ed_int))) ad_nil)))) ad_nil)) ad_nil))) ad_nil))) ad_nil))))
      sd_nil)
    (sd_cons (sd_if (td_ofC (cd_eq hr (ed_ixA hr (ed_var 1) ed_int) ed_str) bf_eq)
      (sd_one (sd_ret (ed_lc rfl sc_pieces.nd (blkOk_by (own := [("lines", 7), ("line", 8)]) (show blkC n_pieces (defScope st_pieces) _ _ = true from by decide +kernel)) (by decide) (id_seq (ed_callF ih hr (takes_of rfl rfl rfl rfl) (ad_cons (ed_var 0) (ad_cons (ed_ixA hr (ed_var 1) ed_int) ad_nil)))) (fun _ _ _ _ _ => (gd_tup rfl (gd_cons (gd_name sc_pieces.nd (i := 7)) (gd_cons (gd_name sc_pieces.nd (i := 8)) gd_nil)))) (fun _ _ _ _ _ => id_yes) (fun _ _ _ _ _ => (ed_tup (ad_cons (ed_var 7) (ad_cons (ed_callF c_times_line hr takes0 (ad_cons (ed_ixA hr (ed_var 1) ed_int) (ad_cons (ed_var 8) ad_nil))) ad_nil)))))))
      sd_nil)
    (sd_cons (sd_set sc_pieces.nd (ed_lst ad_nil) (i := 3))
    (sd_cons (sd_for (passes_of rfl) rfl (id_seq (ed_callF ih hr (takes_of rfl rfl rfl rfl) (ad_cons (ed_var 0) (ad_cons (ed_ixA hr (ed_var 1) ed_int) ad_nil)))) (gd_name sc_pieces.nd (i := 4))
      (sd_one (sd_for (passes_of rfl) rfl (id_seq (ed_callF ih hr (takes_of rfl rfl rfl rfl) (ad_cons (ed_var 0) (ad_cons (ed_ixA hr (ed_var 1) ed_int) ad_nil)))) (gd_name sc_pieces.nd (i := 5))
      (sd_one (sd_expr (ed_extend (ed_var 3) (ad_cons (ed_if (td_ofC (cd_eq hr (ed_ixA hr (ed_var 1) ed_int) ed_str) bf_eq) (ed_callF c_both hr (takes_of rfl rfl rfl rfl) (ad_cons (ed_var 4) (ad_cons (ed_var 5) ad_nil))) (ed_callF c_chosen hr (takes_of rfl rfl rfl rfl) (ad_cons (ed_var 4) (ad_cons (ed_var 5) (ad_cons (ed_ixA hr (ed_var 1) ed_int) ad_nil))))) ad_nil)))))))
    (sd_one (sd_ret (ed_var 3)))))))))
/-! ### is_number -/
abbrev st_is_number : Stmt := top 23
abbrev n_is_number : List Str := ["thing"]
theorem sc_is_number : FnScope ["thing"] ["thing"] (defScope st_is_number) := ⟨rfl, rfl, rfl, by decide +kernel, rfl, by decide +kernel, by decide +kernel⟩
theorem ok_is_number (df : DefAt K mg "is_number" st_is_number ["thing"]) (z_isinstance : mg "isinstance" = none) (z_int : mg "int" = none) (z_bool : mg "bool" = none) :
    FnC P w K mg base 1 "is_number" [false] d_is_number :=
  fnC_of df sc_is_number rfl fun f0 cdv A outer s H E hr =>
    (sd_one (sd_ret (ed_and (ed_bi call_isi on_isi z_isinstance bo_isi (ad_cons (ed_var 0) (ad_cons (ed_ty z_int bo_int) ad_nil))) (ed_one (ed_not (ed_bi call_isi on_isi z_isinstance bo_isi (ad_cons (ed_var 0) (ad_cons (ed_ty z_bool bo_bool) ad_nil))))))))
/-! ### is_index -/
abbrev st_is_index : Stmt := top 24
abbrev n_is_index : List Str := ["thing"]
theorem sc_is_index : FnScope ["thing"] ["thing"] (defScope st_is_index) := ⟨rfl, rfl, rfl, by decide +kernel, rfl, by decide +kernel, by decide +kernel⟩
theorem ok_is_index (df : DefAt K mg "is_index" st_is_index ["thing"]) (c_is_number : FnC P w K mg base 1 "is_number" [false] d_is_number) :
    FnC P w K mg base 2 "is_index" [false] d_is_index :=
  fnC_of df sc_is_index rfl fun f0 cdv A outer s H E hr =>
    (sd_one (sd_ret (ed_and (ed_callF c_is_number hr (takes_of rfl rfl rfl rfl) (ad_cons (ed_var 0) ad_nil)) (ed_one (ed_ofC (cd_ge (ed_var 0) ed_int))))))
/-! ### is_between -/
abbrev st_is_between : Stmt := top 25
abbrev n_is_between : List Str := ["thing", "low", "high"]
theorem sc_is_between : FnScope ["thing", "low", "high"] ["thing", "low", "high"] (defScope st_is_between) := ⟨rfl, rfl, rfl, by decide +kernel, rfl, by decide +kernel, by decide +kernel⟩
theorem ok_is_between (df : DefAt K mg "is_between" st_is_between ["thing", "low", "high"]) (c_is_number : FnC P w K mg base 1 "is_number" [false] d_is_number) :
    FnC P w K mg base 2 "is_between" [false, false, false] d_is_between :=
  fnC_of df sc_is_between rfl fun f0 cdv A outer s H E hr =>
    (sd_one (sd_ret (ed_and (ed_callF c_is_number hr (takes_of rfl rfl rfl rfl) (ad_cons (ed_var 0) ad_nil)) (ed_one (ed_chain op_le op_le o_le o_le (ed_var 1) (ed_var 0) (ed_var 2) (pe_chain op_le op_le (ed_var 1) (ed_var 0) (ed_var 2)))))))
/-! ### is_name -/
abbrev st_is_name : Stmt := top 26
abbrev n_is_name : List Str := ["thing", "sign"]
theorem sc_is_name : FnScope ["thing", "sign"] ["thing"] (defScope st_is_name) := ⟨rfl, rfl, rfl, by decide +kernel, rfl, by decide +kernel, by decide +kernel⟩
theorem ok_is_name (df : DefAt K mg "is_name" st_is_name ["thing"]) (z_isinstance : mg "isinstance" = none) (z_str : mg "str" = none) (z_len : mg "len" = none) (z_all : mg "all" = none) (q_MOST_LETTERS : GlobD K mg "MOST_LETTERS" k_MOST_LETTERS) (q_LETTERS : GlobD K mg "LETTERS" k_LETTERS) (q_RESERVED : GlobD K mg "RESERVED" k_RESERVED) (q_DIGITS : GlobD K mg "DIGITS" k_DIGITS) :
    FnC P w K mg base 1 "is_name" [false] d_is_name :=
  fnC_of df sc_is_name rfl fun f0 cdv A outer s H E hr =>
    (sd_cons (sd_if (tw_or (td_not (td_truth (ed_bi call_isi on_isi z_isinstance bo_isi (ad_cons (ed_var 0) (ad_cons (ed_ty z_str bo_str) ad_nil))))) (tw_or (td_not (td_chain o_le o_le (pt_chain op_le op_le ed_int (ed_bi call_lenA on_len z_len bo_len (ad_cons (ed_var 0) ad_nil)) (ed_globD q_MOST_LETTERS)))) (tw_or1 (td_ofC (cd_notIn hr (ed_ixA hr (ed_var 0) ed_int) (ed_globD q_LETTERS)) bf_notIn)))).pt
      (sd_one (sd_ret ed_bl))
      sd_nil)
    (sd_one (sd_ret (ed_and (ed_ofC (cd_notIn hr (ed_var 0) (ed_globD q_RESERVED))) (ed_one (ed_bi (cr_all rfl) on_all z_all bo_all (ad_cons (ed_lc rfl sc_is_name.nd (blkOk_by (own := [("sign", 1)]) (show blkC n_is_name (defScope st_is_name) _ _ = true from by decide +kernel)) (by decide) (id_seq (ed_var 0)) (fun _ _ _ _ _ => (gd_name sc_is_name.nd (i := 1))) (fun _ _ _ _ _ => id_yes) (fun _ _ _ _ _ => (ed_ofC (cd_in hr (ed_var 1) (ed_add (ed_globD q_LETTERS) (ed_globD q_DIGITS)))))) ad_nil)))))))
/-! ### is_worded -/
abbrev st_is_worded : Stmt := top 27
abbrev n_is_worded : List Str := ["thing", "words"]
theorem sc_is_worded : FnScope ["thing", "words"] ["thing", "words"] (defScope st_is_worded) := ⟨rfl, rfl, rfl, by decide +kernel, rfl, by decide +kernel, by decide +kernel⟩
theorem ok_is_worded (df : DefAt K mg "is_worded" st_is_worded ["thing", "words"]) (z_isinstance : mg "isinstance" = none) (z_tuple : mg "tuple" = none) (z_str : mg "str" = none) :
    FnC P w K mg base 1 "is_worded" [false, false] d_is_worded :=
  fnC_of df sc_is_worded rfl fun f0 cdv A outer s H E hr =>
    (sd_one (sd_ret (ed_and (ed_bi call_isi on_isi z_isinstance bo_isi (ad_cons (ed_var 0) (ad_cons (ed_ty z_tuple bo_tuple) ad_nil))) (ed_and (ed_ofC (cd_ne hr (ed_var 0) (ed_tup ad_nil))) (ed_and (ed_bi call_isi on_isi z_isinstance bo_isi (ad_cons (ed_ixA hr (ed_var 0) ed_int) (ad_cons (ed_ty z_str bo_str) ad_nil))) (ed_one (ed_ofC (cd_in hr (ed_ixA hr (ed_var 0) ed_int) (ed_var 1)))))))))
/-! ### is_term -/
abbrev st_is_term : Stmt := top 28
abbrev n_is_term : List Str := ["thing"]
theorem sc_is_term : FnScope ["thing"] ["thing"] (defScope st_is_term) := ⟨rfl, rfl, rfl, by decide +kernel, rfl, by decide +kernel, by decide +kernel⟩
theorem ok_is_term (df : DefAt K mg "is_term" st_is_term ["thing"]) (c_is_worded : FnC P w K mg base 1 "is_worded" [false, false] d_is_worded) (c_is_between : FnC P w K mg base 2 "is_between" [false, false, false] d_is_between) (c_is_name : FnC P w K mg base 1 "is_name" [false] d_is_name) (z_len : mg "len" = none) (q_MOST_NUMBER : GlobD K mg "MOST_NUMBER" k_MOST_NUMBER) (q_MOST_OFTEN : GlobD K mg "MOST_OFTEN" k_MOST_OFTEN) (q_PAIRS : GlobD K mg "PAIRS" k_PAIRS) :
    ∀ n : Nat, FnC P w K mg base (2 + n) "is_term" [false] (d_is_term n)
  | 0 => fnC_zero df rfl
  | n + 1 => by
    have ih := ok_is_term df c_is_worded c_is_between c_is_name z_len q_MOST_NUMBER q_MOST_OFTEN q_PAIRS n
    exact fnC_of (k := 2 + n) df sc_is_term rfl fun f0 cdv A outer s H E hr =>
    (sd_cons (sd_if (td_truth (ed_callF c_is_worded hr (takes_of rfl rfl rfl rfl) (ad_cons (ed_var 0) (ad_cons (ed_tup (ad_cons ed_str ad_nil)) ad_nil))))
      (sd_one (sd_ret (ed_and (ed_ofC (cd_eq hr (ed_bi call_lenA on_len z_len bo_len (ad_cons (ed_var 0) ad_nil)) ed_int)) (ed_one (ed_callF c_is_between hr (takes_of rfl rfl rfl rfl) (ad_cons (ed_ixA hr (ed_var 0) ed_int) (ad_cons ed_int (ad_cons (ed_globD q_MOST_NUMBER) ad_nil))))))))
      sd_nil)
    (sd_cons (sd_if (td_truth (ed_callF c_is_worded hr (takes_of rfl rfl rfl rfl) (ad_cons (ed_var 0) (ad_cons (ed_tup (ad_cons ed_str ad_nil)) ad_nil))))
      (sd_one (sd_ret (ed_and (ed_ofC (cd_eq hr (ed_bi call_lenA on_len z_len bo_len (ad_cons (ed_var 0) ad_nil)) ed_int)) (ed_one (ed_callF c_is_name hr (takes_of rfl rfl rfl rfl) (ad_cons (ed_ixA hr (ed_var 0) ed_int) ad_nil))))))
      sd_nil)
    (sd_cons (sd_if (td_truth (ed_callF c_is_worded hr (takes_of rfl rfl rfl rfl) (ad_cons (ed_var 0) (ad_cons (ed_tup (ad_cons ed_str ad_nil)) ad_nil))))
      (sd_one (sd_ret (ed_and (ed_ofC (cd_eq hr (ed_bi call_lenA on_len z_len bo_len (ad_cons (ed_var 0) ad_nil)) ed_int)) (ed_and (ed_callF c_is_between hr (takes_of rfl rfl rfl rfl) (ad_cons (ed_ixA hr (ed_var 0) ed_int) (ad_cons ed_int (ad_cons (ed_globD q_MOST_OFTEN) ad_nil)))) (ed_one (ed_callF ih hr (takes_of rfl rfl rfl rfl) (ad_cons (ed_ixA hr (ed_var 0) ed_int) ad_nil)))))))
      sd_nil)
    (sd_one (sd_ret (ed_and (ed_callF c_is_worded hr (takes_of rfl rfl rfl rfl) (ad_cons (ed_var 0) (ad_cons (ed_globD q_PAIRS) ad_nil))) (ed_and (ed_ofC (cd_eq hr (ed_bi call_lenA on_len z_len bo_len (ad_cons (ed_var 0) ad_nil)) ed_int)) (ed_and (ed_callF ih hr (takes_of rfl rfl rfl rfl) (ad_cons (ed_ixA hr (ed_var 0) ed_int) ad_nil)) (ed_one (ed_callF ih hr (takes_of rfl rfl rfl rfl) (ad_cons (ed_ixA hr (ed_var 0) ed_int) ad_nil)))))))))))
/-! ### worth -/
abbrev st_worth : Stmt := top 30
abbrev n_worth : List Str := ["term", "counts", "word", "one", "other"]
theorem sc_worth : FnScope ["term", "counts", "word", "one", "other"] ["term", "counts"] (defScope st_worth) := ⟨rfl, rfl, rfl, by decide +kernel, rfl, by decide +kernel, by decide +kernel⟩
theorem ok_worth (df : DefAt K mg "worth" st_worth ["term", "counts"]) (z_max : mg "max" = none) (z_min : mg "min" = none) :
    ∀ n : Nat, FnC P w K mg base (0 + n) "worth" [false, false] (d_worth n)
  | 0 => fnC_zero df rfl
  | n + 1 => by
    have ih := ok_worth df z_max z_min n
    exact fnC_of (k := 0 + n) df sc_worth rfl fun f0 cdv A outer s H E hr =>
    (sd_cons (sd_set sc_worth.nd (ed_ixA hr (ed_var 0) ed_int) (i := 2))
    (sd_cons (sd_if (td_ofC (cd_eq hr (ed_var 2) ed_str) bf_eq)
      (sd_one (sd_ret (ed_ixA hr (ed_var 0) ed_int)))
      sd_nil)
    (sd_cons (sd_if (td_ofC (cd_eq hr (ed_var 2) ed_str) bf_eq)
      (sd_one (sd_ret (ed_ixA hr (ed_var 1) (ed_ixA hr (ed_var 0) ed_int))))
      sd_nil)
    (sd_cons (sd_if (td_ofC (cd_eq hr (ed_var 2) ed_str) bf_eq)
      (sd_one (sd_ret (ed_mul (ed_ixA hr (ed_var 0) ed_int) (ed_callF ih hr (takes_of rfl rfl rfl rfl) (ad_cons (ed_ixA hr (ed_var 0) ed_int) (ad_cons (ed_var 1) ad_nil))))))
      sd_nil)
    (sd_cons (sd_par rfl sc_worth.nd (ed_callF ih hr (takes_of rfl rfl rfl rfl) (ad_cons (ed_ixA hr (ed_var 0) ed_int) (ad_cons (ed_var 1) ad_nil))) (ed_callF ih hr (takes_of rfl rfl rfl rfl) (ad_cons (ed_ixA hr (ed_var 0) ed_int) (ad_cons (ed_var 1) ad_nil))) (by decide) (i := 3) (j := 4))
    (sd_cons (sd_if (td_ofC (cd_eq hr (ed_var 2) ed_str) bf_eq)
      (sd_one (sd_ret (ed_add (ed_var 3) (ed_var 4))))
      sd_nil)
    (sd_cons (sd_if (td_ofC (cd_eq hr (ed_var 2) ed_str) bf_eq)
      (sd_one (sd_ret (ed_bi (call_max2 rfl) on_max2 z_max bo_max (ad_cons ed_int (ad_cons (ed_sub (ed_var 3) (ed_var 4)) ad_nil)))))
      sd_nil)
    (sd_one (sd_ret (ed_if (td_ofC (cd_eq hr (ed_var 2) ed_str) bf_eq) (ed_bi (call_min2 rfl) on_min2 z_min bo_min (ad_cons (ed_var 3) (ad_cons (ed_var 4) ad_nil))) (ed_bi (call_max2 rfl) on_max2 z_max bo_max (ad_cons (ed_var 3) (ad_cons (ed_var 4) ad_nil)))))))))))))
/-! ### names_in -/
abbrev st_names_in : Stmt := top 31
abbrev n_names_in : List Str := ["term", "found", "part"]
theorem sc_names_in : FnScope ["term", "found", "part"] ["term"] (defScope st_names_in) := ⟨rfl, rfl, rfl, by decide +kernel, rfl, by decide +kernel, by decide +kernel⟩
theorem ok_names_in (df : DefAt K mg "names_in" st_names_in ["term"]) (z_isinstance : mg "isinstance" = none) (z_tuple : mg "tuple" = none) :
    ∀ n : Nat, FnC P w K mg base (0 + n) "names_in" [false] (d_names_in n)
  | 0 => fnC_zero df rfl
  | n + 1 => by
    have ih := ok_names_in df z_isinstance z_tuple n
    exact fnC_of (k := 0 + n) df sc_names_in rfl fun f0 cdv A outer s H E hr =>
    (sd_cons (sd_if (td_ofC (cd_eq hr (ed_ixA hr (ed_var 0) ed_int) ed_str) bf_eq)
      (sd_one (sd_ret (ed_lst ad_nil)))
      sd_nil)
    (sd_cons (sd_if (td_ofC (cd_eq hr (ed_ixA hr (ed_var 0) ed_int) ed_str) bf_eq)
      (sd_one (sd_ret (ed_lst (ad_cons (ed_ixA hr (ed_var 0) ed_int) ad_nil))))
      sd_nil)
    (sd_cons (sd_set sc_names_in.nd (ed_lst ad_nil) (i := 1))
    (sd_cons (sd_for (passes_of rfl) rfl (id_seq (ed_slice (ed_var 0) (od_some ed_int) od_none)) (gd_name sc_names_in.nd (i := 2))
      (sd_one (sd_expr (ed_extend (ed_var 1) (ad_cons (ed_if (td_truth (ed_bi call_isi on_isi z_isinstance bo_isi (ad_cons (ed_var 2) (ad_cons (ed_ty z_tuple bo_tuple) ad_nil)))) (ed_callF ih hr (takes_of rfl rfl rfl rfl) (ad_cons (ed_var 2) ad_nil)) (ed_lst ad_nil)) ad_nil)))))
    (sd_one (sd_ret (ed_var 1)))))))
/-! ### term_worth -/
abbrev st_term_worth : Stmt := top 32
abbrev n_term_worth : List Str := ["term", "counts", "name", "its"]
theorem sc_term_worth : FnScope ["term", "counts", "name", "its"] ["term", "counts"] (defScope st_term_worth) := ⟨rfl, rfl, rfl, by decide +kernel, rfl, by decide +kernel, by decide +kernel⟩
theorem ok_term_worth (df : DefAt K mg "term_worth" st_term_worth ["term", "counts"]) (c_is_term : FnC P w K mg base 14 "is_term" [false] (d_is_term 12)) (c_is_name : FnC P w K mg base 1 "is_name" [false] d_is_name) (c_is_index : FnC P w K mg base 2 "is_index" [false] d_is_index) (c_names_in : FnC P w K mg base 12 "names_in" [false] (d_names_in 12)) (c_worth : FnC P w K mg base 12 "worth" [false, false] (d_worth 12)) (z_isinstance : mg "isinstance" = none) (z_dict : mg "dict" = none) (z_all : mg "all" = none) {C_Nothing : Addr} (o_Nothing : OwnX K mg "Nothing" C_Nothing) (s_Nothing : PySem.W.subIn K (.ref C_Nothing) (.ref C_Nothing) = some true) (x_Nothing : PySem.W.excIn K C_Nothing [.type "ValueError", .type "Exception", .type "BaseException", .type "object"] "ValueError.__new__" = true) :
    FnC P w K mg base 15 "term_worth" [false, false] d_term_worth :=
  fnC_of df sc_term_worth rfl fun f0 cdv A outer s H E hr =>
    (sd_cons (sd_if (tw_or (td_not (td_truth (ed_callF c_is_term hr (takes_of rfl rfl rfl rfl) (ad_cons (ed_var 0) ad_nil)))) (tw_or1 (td_not (td_truth (ed_bi call_isi on_isi z_isinstance bo_isi (ad_cons (ed_var 1) (ad_cons (ed_ty z_dict bo_dict) ad_nil))))))).pt
      (sd_one (sd_raise0 rfl (takes_of rfl rfl rfl rfl) PySem.F.excBase_ValueError x_Nothing o_Nothing))
      sd_nil)
    (sd_cons (sd_if (td_not (td_truth (ed_bi (cr_all rfl) on_all z_all bo_all (ad_cons (ed_lcD rfl sc_term_worth.nd (blkOk_by (own := [("name", 2), ("its", 3)]) (show blkC n_term_worth (defScope st_term_worth) _ _ = true from by decide +kernel)) (by decide) (iw_items (pv 1)) (fun _ _ _ _ _ => (gd_tup rfl (gd_cons (gd_name sc_term_worth.nd (i := 2)) (gd_cons (gd_name sc_term_worth.nd (i := 3)) gd_nil)))) (fun _ _ _ _ _ => id_yes) (fun _ _ _ _ _ => (ed_and (ed_callF c_is_name hr takes0 (ad_cons (ed_var 2) ad_nil)) (ed_one (ed_callF c_is_index hr takes0 (ad_cons (ed_var 3) ad_nil)))))) ad_nil))))
      (sd_one (sd_raise0 rfl (takes_of rfl rfl rfl rfl) PySem.F.excBase_ValueError x_Nothing o_Nothing))
      sd_nil)
    (sd_cons (sd_if (td_ofC (cd_ne hr (ed_lc rfl sc_term_worth.nd (blkOk_by (own := [("name", 2)]) (show blkC n_term_worth (defScope st_term_worth) _ _ = true from by decide +kernel)) (by decide) (id_seq (ed_callF c_names_in hr (takes_of rfl rfl rfl rfl) (ad_cons (ed_var 0) ad_nil))) (fun _ _ _ _ _ => (gd_name sc_term_worth.nd (i := 2))) (fun _ _ _ _ _ => (id_test (td_ofC (cd_notIn hr (ed_var 2) (ed_var 1)) bf_notIn))) (fun _ _ _ _ _ => (ed_var 2))) (ed_lst ad_nil)) bf_ne)
      (sd_one (sd_raise0 rfl (takes_of rfl rfl rfl rfl) PySem.F.excBase_ValueError x_Nothing o_Nothing))
      sd_nil)
    (sd_one (sd_ret (ed_callF c_worth hr (takes_of rfl rfl rfl rfl) (ad_cons (ed_var 0) (ad_cons (ed_var 1) ad_nil))))))))
/-! ### _law_bag -/
abbrev st__law_bag : Stmt := top 34
abbrev n__law_bag : List Str := ["script", "cell"]
theorem sc__law_bag : FnScope ["script", "cell"] ["script"] (defScope st__law_bag) := ⟨rfl, rfl, rfl, by decide +kernel, rfl, by decide +kernel, by decide +kernel⟩
theorem ok__law_bag (df : DefAt K mg "_law_bag" st__law_bag ["script"]) (z_abs : mg "abs" = none) :
    FnC P w K mg base 1 "_law_bag" [false] d__law_bag :=
  fnC_of df sc__law_bag rfl fun f0 cdv A outer s H E hr =>
    (sd_one (sd_ret (ed_lst (ad_cons ed_int (ad_cons ed_int (ad_cons ed_int (ad_cons (ed_lc rfl sc__law_bag.nd (blkOk_by (own := [("cell", 1)]) (show blkC n__law_bag (defScope st__law_bag) _ _ = true from by decide +kernel)) (by decide) (id_seq (ed_slice (ed_var 0) od_none (od_some ed_int))) (fun _ _ _ _ _ => (gd_name sc__law_bag.nd (i := 1))) (fun _ _ _ _ _ => id_yes) (fun _ _ _ _ _ => (ed_bi call_abs on_abs z_abs bo_abs (ad_cons (ed_var 1) ad_nil)))) ad_nil)))))))
/-! ### _law_take -/
abbrev st__law_take : Stmt := top 35
abbrev n__law_take : List Str := ["bag", "many", "cell", "stirred", "drawn", "begin", "second"]
theorem sc__law_take : FnScope ["bag", "many", "cell", "stirred", "drawn", "begin", "second"] ["bag", "many"] (defScope st__law_take) := ⟨rfl, rfl, rfl, by decide +kernel, rfl, by decide +kernel, by decide +kernel⟩
theorem ok__law_take (df : DefAt K mg "_law_take" st__law_take ["bag", "many"]) (z_int : mg "int" = none) :
    FnC P w K mg base 1 "_law_take" [true, false] d__law_take :=
  fnC_of df sc__law_take rfl fun f0 cdv A outer s H E hr =>
    (sd_cons (sd_if (td_ofC (cd_eq hr (ed_ixA hr (ed_var 0) ed_int) ed_int) bf_eq)
      (sd_cons (sd_set sc__law_take.nd (ed_ixA hr (ed_add (ed_slice (ed_ixA hr (ed_var 0) ed_int) (od_some (ed_ixA hr (ed_var 0) ed_int)) od_none) (ed_lst (ad_cons ed_int ad_nil))) ed_int) (i := 2))
    (sd_cons (sd_augS hr iop_add o_addI (ed_var 0) ed_int ed_int)
    (sd_cons (sd_if (td_ofC (cd_ge (ed_var 2) (ed_pow ed_int ed_int)) bf_ge)
      (sd_one (sd_store hr (ed_var 0) ed_int (ed_var 2)))
      sd_nil)
    (sd_cons (sd_set sc__law_take.nd (ed_add (ed_add (ed_mul (ed_ixA hr (ed_var 0) ed_int) ed_int) (ed_mod (ed_bt call_int1 on_int z_int bo_int (ad_cons (ed_var 2) ad_nil)) ed_int)) (ed_mul ed_int (ed_ixA hr (ed_var 0) ed_int))) (i := 3))
    (sd_one (sd_store hr (ed_var 0) ed_int (ed_mod (ed_bt call_int1 on_int z_int bo_int (ad_cons (ed_var 3) ad_nil)) ed_int)))))))
      sd_nil)
    (sd_cons (sd_if (td_ofC (cd_gt (ed_ixA hr (ed_var 0) ed_int) ed_int) bf_gt)
      (sd_cons (sd_set sc__law_take.nd (ed_mod (ed_bt call_int1 on_int z_int bo_int (ad_cons (ed_ixA hr (ed_var 0) ed_int) ad_nil)) (ed_var 1)) (i := 4))
    (sd_cons (sd_store hr (ed_var 0) ed_int (ed_fdiv (ed_bt call_int1 on_int z_int bo_int (ad_cons (ed_ixA hr (ed_var 0) ed_int) ad_nil)) (ed_var 1)))
    (sd_one (sd_ret (ed_var 4)))))
      sd_nil)
    (sd_cons (sd_set sc__law_take.nd (ed_mod (ed_bt call_int1 on_int z_int bo_int (ad_cons (ed_mul (ed_add (ed_ixA hr (ed_var 0) ed_int) ed_int) ed_int) ad_nil)) ed_int) (i := 5))
    (sd_cons (sd_set sc__law_take.nd (ed_mod (ed_bt call_int1 on_int z_int bo_int (ad_cons (ed_mul (ed_mod (ed_bt call_int1 on_int z_int bo_int (ad_cons (ed_mul (ed_var 5) (ed_var 5)) ad_nil)) ed_int) ed_int) ad_nil)) ed_int) (i := 6))
    (sd_one (sd_ret (ed_mod (ed_bt call_int1 on_int z_int bo_int (ad_cons (ed_fdiv (ed_var 6) ed_int) ad_nil)) (ed_var 1))))))))
/-! ### _law_some -/
abbrev st__law_some : Stmt := top 36
abbrev n__law_some : List Str := ["bag", "things"]
theorem sc__law_some : FnScope ["bag", "things"] ["bag", "things"] (defScope st__law_some) := ⟨rfl, rfl, rfl, by decide +kernel, rfl, by decide +kernel, by decide +kernel⟩
theorem ok__law_some (df : DefAt K mg "_law_some" st__law_some ["bag", "things"]) (c__law_take : FnC P w K mg base 1 "_law_take" [true, false] d__law_take) (z_len : mg "len" = none) :
    FnC P w K mg base 2 "_law_some" [true, false] d__law_some :=
  fnC_of df sc__law_some rfl fun f0 cdv A outer s H E hr =>
    (sd_one (sd_ret (ed_ixA hr (ed_var 1) (ed_callF c__law_take hr (takes_of rfl rfl rfl rfl) (ad_cons (ed_var 0) (ad_cons (ed_bi call_lenA on_len z_len bo_len (ad_cons (ed_var 1) ad_nil)) ad_nil))))))
/-! ### _law_alike -/
abbrev st__law_alike : Stmt := top 37
abbrev n__law_alike : List Str := ["found", "due"]
theorem sc__law_alike : FnScope ["found", "due"] ["found", "due"] (defScope st__law_alike) := ⟨rfl, rfl, rfl, by decide +kernel, rfl, by decide +kernel, by decide +kernel⟩
theorem ok__law_alike (df : DefAt K mg "_law_alike" st__law_alike ["found", "due"]) (z_repr : mg "repr" = none) :
    FnC P w K mg base 1 "_law_alike" [false, false] d__law_alike :=
  fnC_of df sc__law_alike rfl fun f0 cdv A outer s H E hr =>
    (sd_one (sd_ret (ed_and (ed_ofC (cd_eq hr (ed_bi (call_repr hr) on_repr z_repr bo_repr (ad_cons (ed_var 0) ad_nil)) (ed_bi (call_repr hr) on_repr z_repr bo_repr (ad_cons (ed_var 1) ad_nil)))) (ed_one (ed_ofC (cd_eq hr (ed_var 0) (ed_var 1)))))))
/-! ### _law_worth -/
abbrev st__law_worth : Stmt := top 38
abbrev n__law_worth : List Str := ["term", "counts", "one", "other"]
theorem sc__law_worth : FnScope ["term", "counts", "one", "other"] ["term", "counts"] (defScope st__law_worth) := ⟨rfl, rfl, rfl, by decide +kernel, rfl, by decide +kernel, by decide +kernel⟩
theorem ok__law_worth (df : DefAt K mg "_law_worth" st__law_worth ["term", "counts"]) (z_max : mg "max" = none) (z_min : mg "min" = none) :
    ∀ n : Nat, FnC P w K mg base (0 + n) "_law_worth" [false, false] (d__law_worth n)
  | 0 => fnC_zero df rfl
  | n + 1 => by
    have ih := ok__law_worth df z_max z_min n
    exact fnC_of (k := 0 + n) df sc__law_worth rfl fun f0 cdv A outer s H E hr =>
    (sd_cons (sd_if (td_ofC (cd_eq hr (ed_ixA hr (ed_var 0) ed_int) ed_str) bf_eq)
      (sd_one (sd_ret (ed_ixA hr (ed_var 0) ed_int)))
      sd_nil)
    (sd_cons (sd_if (td_ofC (cd_eq hr (ed_ixA hr (ed_var 0) ed_int) ed_str) bf_eq)
      (sd_one (sd_ret (ed_ixA hr (ed_var 1) (ed_ixA hr (ed_var 0) ed_int))))
      sd_nil)
    (sd_cons (sd_if (td_ofC (cd_eq hr (ed_ixA hr (ed_var 0) ed_int) ed_str) bf_eq)
      (sd_one (sd_ret (ed_mul (ed_ixA hr (ed_var 0) ed_int) (ed_callF ih hr (takes_of rfl rfl rfl rfl) (ad_cons (ed_ixA hr (ed_var 0) ed_int) (ad_cons (ed_var 1) ad_nil))))))
      sd_nil)
    (sd_cons (sd_par rfl sc__law_worth.nd (ed_callF ih hr (takes_of rfl rfl rfl rfl) (ad_cons (ed_ixA hr (ed_var 0) ed_int) (ad_cons (ed_var 1) ad_nil))) (ed_callF ih hr (takes_of rfl rfl rfl rfl) (ad_cons (ed_ixA hr (ed_var 0) ed_int) (ad_cons (ed_var 1) ad_nil))) (by decide) (i := 2) (j := 3))
    (sd_one (sd_ret (ed_ixA hr (ed_disp (pd_cons ed_str (ed_add (ed_var 2) (ed_var 3)) (pd_cons ed_str (ed_bi (call_max2 rfl) on_max2 z_max bo_max (ad_cons (ed_sub (ed_var 2) (ed_var 3)) (ad_cons ed_int ad_nil))) (pd_cons ed_str (ed_bi (call_min2 rfl) on_min2 z_min bo_min (ad_cons (ed_var 2) (ad_cons (ed_var 3) ad_nil))) (pd_cons ed_str (ed_bi (call_max2 rfl) on_max2 z_max bo_max (ad_cons (ed_var 2) (ad_cons (ed_var 3) ad_nil))) pd_nil))))) (ed_ixA hr (ed_var 0) ed_int))))))))
/-! ### _law_drawn_term -/
abbrev st__law_drawn_term : Stmt := top 39
abbrev n__law_drawn_term : List Str := ["bag", "deep", "word"]
theorem sc__law_drawn_term : FnScope ["bag", "deep", "word"] ["bag", "deep"] (defScope st__law_drawn_term) := ⟨rfl, rfl, rfl, by decide +kernel, rfl, by decide +kernel, by decide +kernel⟩
theorem ok__law_drawn_term (df : DefAt K mg "_law_drawn_term" st__law_drawn_term ["bag", "deep"]) (c__law_some : FnC P w K mg base 2 "_law_some" [true, false] d__law_some) (c__law_take : FnC P w K mg base 1 "_law_take" [true, false] d__law_take) :
    ∀ n : Nat, FnC P w K mg base (2 + n) "_law_drawn_term" [true, false] (d__law_drawn_term n)
  | 0 => fnC_zero df rfl
  | n + 1 => by
    have ih := ok__law_drawn_term df c__law_some c__law_take n
    exact fnC_of (k := 2 + n) df sc__law_drawn_term rfl fun f0 cdv A outer s H E hr =>
    (sd_cons (sd_set sc__law_drawn_term.nd (ed_callF c__law_some hr (takes_of rfl rfl rfl rfl) (ad_cons (ed_var 0) (ad_cons (ed_if (td_ofC (cd_gt (ed_var 1) ed_int) bf_gt) (ed_lst (ad_cons ed_str (ad_cons ed_str (ad_cons ed_str (ad_cons ed_str (ad_cons ed_str (ad_cons ed_str (ad_cons ed_str (ad_cons ed_str (ad_cons ed_str ad_nil)))))))))) (ed_lst (ad_cons ed_str (ad_cons ed_str (ad_cons ed_str ad_nil))))) ad_nil))) (i := 2))
    (sd_cons (sd_if (td_ofC (cd_eq hr (ed_var 2) ed_str) bf_eq)
      (sd_one (sd_ret (ed_tup (ad_cons ed_str (ad_cons (ed_callF c__law_some hr (takes_of rfl rfl rfl rfl) (ad_cons (ed_var 0) (ad_cons (ed_lst (ad_cons ed_str (ad_cons ed_str ad_nil))) ad_nil))) ad_nil)))))
      sd_nil)
    (sd_cons (sd_if (td_ofC (cd_eq hr (ed_var 2) ed_str) bf_eq)
      (sd_one (sd_ret (ed_tup (ad_cons ed_str (ad_cons (ed_callF c__law_take hr (takes_of rfl rfl rfl rfl) (ad_cons (ed_var 0) (ad_cons ed_int ad_nil))) ad_nil)))))
      sd_nil)
    (sd_cons (sd_if (td_ofC (cd_eq hr (ed_var 2) ed_str) bf_eq)
      (sd_one (sd_ret (ed_tup (ad_cons ed_str (ad_cons (ed_callF c__law_take hr (takes_of rfl rfl rfl rfl) (ad_cons (ed_var 0) (ad_cons ed_int ad_nil))) (ad_cons (ed_callF ih hr (takes_of rfl rfl rfl rfl) (ad_cons (ed_var 0) (ad_cons (ed_sub (ed_var 1) ed_int) ad_nil))) ad_nil))))))
      sd_nil)
    (sd_one (sd_ret (ed_tup (ad_cons (ed_var 2) (ad_cons (ed_callF ih hr (takes_of rfl rfl rfl rfl) (ad_cons (ed_var 0) (ad_cons (ed_sub (ed_var 1) ed_int) ad_nil))) (ad_cons (ed_callF ih hr (takes_of rfl rfl rfl rfl) (ad_cons (ed_var 0) (ad_cons (ed_sub (ed_var 1) ed_int) ad_nil))) ad_nil))))))))))
/-! ### _law_value -/
abbrev st__law_value : Stmt := top 40
abbrev n__law_value : List Str := ["row", "numbers", "part", "number"]
theorem sc__law_value : FnScope ["row", "numbers", "part", "number"] ["row", "numbers"] (defScope st__law_value) := ⟨rfl, rfl, rfl, by decide +kernel, rfl, by decide +kernel, by decide +kernel⟩
theorem ok__law_value (df : DefAt K mg "_law_value" st__law_value ["row", "numbers"]) (z_sum : mg "sum" = none) (z_zip : mg "zip" = none) :
    FnC P w K mg base 1 "_law_value" [false, false] d__law_value :=
  fnC_of df sc__law_value rfl fun f0 cdv A outer s H E hr =>
    (sd_one (sd_ret (ed_add (ed_ixA hr (ed_var 0) ed_int) (ed_bi (cr_sum rfl) on_sum z_sum bo_sum (ad_cons (ed_lc rfl sc__law_value.nd (blkOk_by (own := [("part", 2), ("number", 3)]) (show blkC n__law_value (defScope st__law_value) _ _ = true from by decide +kernel)) (by decide) (id_zip z_zip (ad_cons (ed_ixA hr (ed_var 0) ed_int) (ad_cons (ed_var 1) ad_nil))) (fun _ _ _ _ _ => (gd_tup rfl (gd_cons (gd_name sc__law_value.nd (i := 2)) (gd_cons (gd_name sc__law_value.nd (i := 3)) gd_nil)))) (fun _ _ _ _ _ => id_yes) (fun _ _ _ _ _ => (ed_mul (ed_var 2) (ed_var 3)))) ad_nil)))))
/-! ### law -/
abbrev st_law : Stmt := top 41
abbrev n_law : List Str := ["script", "bag", "lap", "term", "told", "few", "counts", "there", "due", "x", "turn", "lines", "line", "row"]
theorem sc_law : FnScope ["script", "bag", "lap", "term", "told", "few", "counts", "there", "due", "x", "turn", "lines", "line", "row"] ["script"] (defScope st_law) := ⟨rfl, rfl, rfl, by decide +kernel, rfl, by decide +kernel, by decide +kernel⟩
theorem ok_law {f : Addr} {fd : FuncData} (F : Fun K "law" "law" st_law f fd) (c__law_bag : FnC P w K mg base 1 "_law_bag" [false] d__law_bag) (c__law_drawn_term : FnC P w K mg base 14 "_law_drawn_term" [true, false] (d__law_drawn_term 12)) (c_pieces : FnC P w K mg base 16 "pieces" [false, false] (d_pieces 12)) (c__law_take : FnC P w K mg base 1 "_law_take" [true, false] d__law_take) (c__law_value : FnC P w K mg base 1 "_law_value" [false, false] d__law_value) (c__law_worth : FnC P w K mg base 12 "_law_worth" [false, false] (d__law_worth 12)) (c__law_alike : FnC P w K mg base 1 "_law_alike" [false, false] d__law_alike) (c_term_worth : FnC P w K mg base 15 "term_worth" [false, false] d_term_worth) (z_range : mg "range" = none) (z_sum : mg "sum" = none) (z_len : mg "len" = none) :
    FnG P w K mg base 17 f fd ["script"] (spD K [false] d_law) :=
  def_okG F sc_law rfl fun cdv A outer s H E hr =>
    (sd_cons (sd_set sc_law.nd (ed_callF c__law_bag hr (takes_of rfl rfl rfl rfl) (ad_cons (ed_var 0) ad_nil)) (i := 1))
    (sd_cons (sd_for (passes_of rfl) rfl (id_range1 z_range (ad_cons ed_int ad_nil)) (gd_name sc_law.nd (i := 2))
      (sd_cons (sd_set sc_law.nd (ed_callF c__law_drawn_term hr (takes_of rfl rfl rfl rfl) (ad_cons (ed_var 1) (ad_cons ed_int ad_nil))) (i := 3))
    (sd_cons (sd_set sc_law.nd (ed_callF c_pieces hr (takes_of rfl rfl rfl rfl) (ad_cons (ed_tup (ad_cons ed_str (ad_cons ed_str ad_nil))) (ad_cons (ed_var 3) ad_nil))) (i := 4))
    (sd_cons (sd_set sc_law.nd (ed_sumL rfl z_sum (ad_cons (ed_lc rfl sc_law.nd (blkOk_by (own := [("x", 9)]) (show blkC n_law (defScope st_law) _ _ = true from by decide +kernel)) (by decide) (id_range1 z_range (ad_cons ed_int ad_nil)) (fun _ _ _ _ _ => (gd_name sc_law.nd (i := 9))) (fun _ _ _ _ _ => id_yes) (fun _ _ _ _ _ => (ed_lst (ad_cons (ed_tup (ad_cons (ed_var 9) (ad_cons ed_int ad_nil))) (ad_cons (ed_tup (ad_cons (ed_var 9) (ad_cons ed_int ad_nil))) (ad_cons (ed_tup (ad_cons (ed_var 9) (ad_cons ed_int ad_nil))) ad_nil)))))) (ad_cons (ed_lst ad_nil) ad_nil))) (i := 5))
    (sd_one (sd_for (passes_of rfl) rfl (id_seq (ed_add (ed_var 5) (ed_lc rfl sc_law.nd (blkOk_by (own := [("turn", 10)]) (show blkC n_law (defScope st_law) _ _ = true from by decide +kernel)) (by decide) (id_range1 z_range (ad_cons ed_int ad_nil)) (fun _ _ _ _ _ => (gd_name sc_law.nd (i := 10))) (fun _ _ _ _ _ => id_yes) (fun _ _ _ _ _ => (ed_tup (ad_cons (ed_callF c__law_take hr takes0 (ad_cons (ed_var 1) (ad_cons ed_int ad_nil))) (ad_cons (ed_callF c__law_take hr takes0 (ad_cons (ed_var 1) (ad_cons ed_int ad_nil))) ad_nil))))))) (gd_name sc_law.nd (i := 6))
      (sd_cons (sd_setLc rfl sc_law.nd (blkOk_by (own := [("lines", 11), ("line", 12)]) (show blkC n_law (defScope st_law) _ _ = true from by decide +kernel)) (by decide) (id_seq (ed_var 4)) (fun _ _ _ _ _ => (gd_tup rfl (gd_cons (gd_name sc_law.nd (i := 11)) (gd_cons (gd_name sc_law.nd (i := 12)) gd_nil)))) (fun _ _ _ _ _ => (id_test (td_ofC (cd_eq hr (ed_lc rfl sc_law.nd (blkOk_by (own := [("row", 13)]) (by kernel_rfl)) (by decide) (id_seq (ed_var 11)) (fun _ _ _ _ _ => (gd_name sc_law.nd (i := 13))) (fun _ _ _ _ _ => (id_test (td_ofC (cd_lt (ed_callF c__law_value hr takes0 (ad_cons (ed_var 13) (ad_cons (ed_var 6) ad_nil))) ed_int) bf_lt))) (fun _ _ _ _ _ => (ed_var 13))) (ed_lst ad_nil)) bf_eq))) (fun _ _ _ _ _ => (ed_var 12)) (i := 7))
    (sd_cons (sd_set sc_law.nd (ed_callF c__law_worth hr (takes_of rfl rfl rfl rfl) (ad_cons (ed_var 3) (ad_cons (ed_disp (pd_cons ed_str (ed_ixA hr (ed_var 6) ed_int) (pd_cons ed_str (ed_ixA hr (ed_var 6) ed_int) pd_nil))) ad_nil))) (i := 8))
    (sd_one (sd_if (tw_or (td_ofC (cd_ne hr (ed_bi call_lenA on_len z_len bo_len (ad_cons (ed_var 7) ad_nil)) ed_int) bf_ne) (tw_or1 (td_not (td_truth (ed_callF c__law_alike hr (takes_of rfl rfl rfl rfl) (ad_cons (ed_lst (ad_cons (ed_callF c__law_value hr (takes_of rfl rfl rfl rfl) (ad_cons (ed_ixA hr (ed_var 7) ed_int) (ad_cons (ed_var 6) ad_nil))) (ad_cons (ed_callF c_term_worth hr (takes_of rfl rfl rfl rfl) (ad_cons (ed_var 3) (ad_cons (ed_disp (pd_cons ed_str (ed_ixA hr (ed_var 6) ed_int) (pd_cons ed_str (ed_ixA hr (ed_var 6) ed_int) pd_nil))) ad_nil))) ad_nil))) (ad_cons (ed_lst (ad_cons (ed_var 8) (ad_cons (ed_var 8) ad_nil))) ad_nil))))))).pt
      (sd_one (sd_ret ed_bl))
      sd_nil))))))))))
    (sd_one (sd_ret ed_bl))))
end
end K22

/-! law_k22: what is computed is True, at every script. -/
namespace K22
open PySem PySem.Spec L2 DL
@[simp] theorem w_number_of : ((("number" : Str)) = (("of" : Str))) = False := by simp only [eq_iff_iff, iff_false]; decide +kernel
@[simp] theorem w_number_often : ((("number" : Str)) = (("often" : Str))) = False := by simp only [eq_iff_iff, iff_false]; decide +kernel
@[simp] theorem w_number_plus : ((("number" : Str)) = (("plus" : Str))) = False := by simp only [eq_iff_iff, iff_false]; decide +kernel
@[simp] theorem w_number_less : ((("number" : Str)) = (("less" : Str))) = False := by simp only [eq_iff_iff, iff_false]; decide +kernel
@[simp] theorem w_number_least : ((("number" : Str)) = (("least" : Str))) = False := by simp only [eq_iff_iff, iff_false]; decide +kernel
@[simp] theorem w_number_greatest : ((("number" : Str)) = (("greatest" : Str))) = False := by simp only [eq_iff_iff, iff_false]; decide +kernel
@[simp] theorem w_of_number : ((("of" : Str)) = (("number" : Str))) = False := by simp only [eq_iff_iff, iff_false]; decide +kernel
@[simp] theorem w_of_often : ((("of" : Str)) = (("often" : Str))) = False := by simp only [eq_iff_iff, iff_false]; decide +kernel
@[simp] theorem w_of_plus : ((("of" : Str)) = (("plus" : Str))) = False := by simp only [eq_iff_iff, iff_false]; decide +kernel
@[simp] theorem w_of_less : ((("of" : Str)) = (("less" : Str))) = False := by simp only [eq_iff_iff, iff_false]; decide +kernel
@[simp] theorem w_of_least : ((("of" : Str)) = (("least" : Str))) = False := by simp only [eq_iff_iff, iff_false]; decide +kernel
@[simp] theorem w_of_greatest : ((("of" : Str)) = (("greatest" : Str))) = False := by simp only [eq_iff_iff, iff_false]; decide +kernel
@[simp] theorem w_often_number : ((("often" : Str)) = (("number" : Str))) = False := by simp only [eq_iff_iff, iff_false]; decide +kernel
@[simp] theorem w_often_of : ((("often" : Str)) = (("of" : Str))) = False := by simp only [eq_iff_iff, iff_false]; decide +kernel
@[simp] theorem w_often_plus : ((("often" : Str)) = (("plus" : Str))) = False := by simp only [eq_iff_iff, iff_false]; decide +kernel
@[simp] theorem w_often_less : ((("often" : Str)) = (("less" : Str))) = False := by simp only [eq_iff_iff, iff_false]; decide +kernel
@[simp] theorem w_often_least : ((("often" : Str)) = (("least" : Str))) = False := by simp only [eq_iff_iff, iff_false]; decide +kernel
@[simp] theorem w_often_greatest : ((("often" : Str)) = (("greatest" : Str))) = False := by simp only [eq_iff_iff, iff_false]; decide +kernel
@[simp] theorem w_plus_number : ((("plus" : Str)) = (("number" : Str))) = False := by simp only [eq_iff_iff, iff_false]; decide +kernel
@[simp] theorem w_plus_of : ((("plus" : Str)) = (("of" : Str))) = False := by simp only [eq_iff_iff, iff_false]; decide +kernel
@[simp] theorem w_plus_often : ((("plus" : Str)) = (("often" : Str))) = False := by simp only [eq_iff_iff, iff_false]; decide +kernel
@[simp] theorem w_plus_less : ((("plus" : Str)) = (("less" : Str))) = False := by simp only [eq_iff_iff, iff_false]; decide +kernel
@[simp] theorem w_plus_least : ((("plus" : Str)) = (("least" : Str))) = False := by simp only [eq_iff_iff, iff_false]; decide +kernel
@[simp] theorem w_plus_greatest : ((("plus" : Str)) = (("greatest" : Str))) = False := by simp only [eq_iff_iff, iff_false]; decide +kernel
@[simp] theorem w_less_number : ((("less" : Str)) = (("number" : Str))) = False := by simp only [eq_iff_iff, iff_false]; decide +kernel
@[simp] theorem w_less_of : ((("less" : Str)) = (("of" : Str))) = False := by simp only [eq_iff_iff, iff_false]; decide +kernel
@[simp] theorem w_less_often : ((("less" : Str)) = (("often" : Str))) = False := by simp only [eq_iff_iff, iff_false]; decide +kernel
@[simp] theorem w_less_plus : ((("less" : Str)) = (("plus" : Str))) = False := by simp only [eq_iff_iff, iff_false]; decide +kernel
@[simp] theorem w_less_least : ((("less" : Str)) = (("least" : Str))) = False := by simp only [eq_iff_iff, iff_false]; decide +kernel
@[simp] theorem w_less_greatest : ((("less" : Str)) = (("greatest" : Str))) = False := by simp only [eq_iff_iff, iff_false]; decide +kernel
@[simp] theorem w_least_number : ((("least" : Str)) = (("number" : Str))) = False := by simp only [eq_iff_iff, iff_false]; decide +kernel
@[simp] theorem w_least_of : ((("least" : Str)) = (("of" : Str))) = False := by simp only [eq_iff_iff, iff_false]; decide +kernel
@[simp] theorem w_least_often : ((("least" : Str)) = (("often" : Str))) = False := by simp only [eq_iff_iff, iff_false]; decide +kernel
@[simp] theorem w_least_plus : ((("least" : Str)) = (("plus" : Str))) = False := by simp only [eq_iff_iff, iff_false]; decide +kernel
@[simp] theorem w_least_less : ((("least" : Str)) = (("less" : Str))) = False := by simp only [eq_iff_iff, iff_false]; decide +kernel
@[simp] theorem w_least_greatest : ((("least" : Str)) = (("greatest" : Str))) = False := by simp only [eq_iff_iff, iff_false]; decide +kernel
@[simp] theorem w_greatest_number : ((("greatest" : Str)) = (("number" : Str))) = False := by simp only [eq_iff_iff, iff_false]; decide +kernel
@[simp] theorem w_greatest_of : ((("greatest" : Str)) = (("of" : Str))) = False := by simp only [eq_iff_iff, iff_false]; decide +kernel
@[simp] theorem w_greatest_often : ((("greatest" : Str)) = (("often" : Str))) = False := by simp only [eq_iff_iff, iff_false]; decide +kernel
@[simp] theorem w_greatest_plus : ((("greatest" : Str)) = (("plus" : Str))) = False := by simp only [eq_iff_iff, iff_false]; decide +kernel
@[simp] theorem w_greatest_less : ((("greatest" : Str)) = (("less" : Str))) = False := by simp only [eq_iff_iff, iff_false]; decide +kernel
@[simp] theorem w_greatest_least : ((("greatest" : Str)) = (("least" : Str))) = False := by simp only [eq_iff_iff, iff_false]; decide +kernel
/-- a bag -/
def bagD (a b c : Int) (cs : List Int) : D := .lst [.int a, .int b, .int c, .lst (cs.map .int)]
theorem head_of (cs : List Int) (n : Nat) : ∃ x : Int, ∀ h, ((cs.map D.int).drop n ++ [D.int 0])[0]'h = .int x := by
  cases h : (cs.map D.int).drop n with
  | nil => exact ⟨0, fun _ => rfl⟩
  | cons d r =>
    have : d ∈ cs.map D.int := List.mem_of_mem_drop (by rw [h]; exact List.mem_cons_self)
    obtain ⟨x, _, rfl⟩ := List.mem_map.mp this
    exact ⟨x, fun _ => rfl⟩
theorem take_spec (a b c : Int) (cs : List Int) (m : Int) (hc : cs.length ≤ 1000) (h0 : 0 < m) (h1 : m < 1073741824) :
    ∃ r a' b' c', 0 ≤ r ∧ r < m ∧ d__law_take [bagD a b c cs, .int m] = .ok (.val (.int r)) [bagD a' b' c' cs, .int m] := by
  obtain ⟨n, hn⟩ := cut_from (cs.map D.int) c
  obtain ⟨x, hx⟩ := head_of cs n
  have hl : cs.length - n + 1 ≤ sizeLine := by rw [sizeLine_eq]; omega
  have p1 : ∀ z : Int, 0 ≤ z % m := fun z => Int.emod_nonneg _ (by omega)
  have p2 : ∀ z : Int, z % m < m := fun z => Int.emod_lt_of_pos _ h0
  have p3 : ∀ z : Int, (-18446744073709551616 < z % 1000000007 ∧ z % 1000000007 < 18446744073709551616) = True := fun z => by
    have := Int.emod_nonneg z (b := 1000000007) (by decide)
    have := Int.emod_lt_of_pos z (b := 1000000007) (by decide)
    simp only [eq_iff_iff, iff_true]
    omega
  unfold d__law_take dDef bagD
  by_cases e1 : a = 0
  · subst e1
    by_cases e2 : 1000000000000000000 ≤ x
    · have e3 : 0 < x := by omega
      simp [argEnv, dVar_ap, peek_loc, frz_loc, setV_ap, atI_zero, atI_one, atI_two, atI_three, hn, hl, hx, ownAt, stAt_ap, ixN, setO, CPow_ap, CMul_ap, CDiv_ap, e2, e3, h0, h1, outsOf]
      exact ⟨p1 _, p2 _⟩
    · simp [argEnv, dVar_ap, peek_loc, frz_loc, setV_ap, atI_zero, atI_one, atI_two, atI_three, hn, hl, hx, ownAt, stAt_ap, ixN, setO, CPow_ap, CMul_ap, CDiv_ap, e2, h0, h1, outsOf, p3]
      exact ⟨p1 _, p2 _⟩
  · by_cases e2 : 0 < a
    · simp [argEnv, dVar_ap, peek_loc, frz_loc, setV_ap, atI_zero, atI_one, atI_two, atI_three, ownAt, stAt_ap, ixN, setO, CPow_ap, CMul_ap, CDiv_ap, e1, e2, h0, h1, outsOf]
      exact ⟨p1 _, p2 _⟩
    · simp [argEnv, dVar_ap, peek_loc, frz_loc, setV_ap, atI_zero, atI_one, atI_two, atI_three, ownAt, stAt_ap, ixN, setO, CPow_ap, CMul_ap, CDiv_ap, e1, e2, h0, h1, outsOf, p3]
      exact ⟨p1 _, p2 _⟩

/-- a thing of a list, drawn -/
theorem some_spec (a b c : Int) (cs : List Int) (ds : List D) (hc : cs.length ≤ 1000) (h0 : 0 < ds.length) (h1 : ds.length < 1000000) :
    ∃ d a' b' c', d ∈ ds ∧ d__law_some [bagD a b c cs, .lst ds] = .ok (.val d) [bagD a' b' c' cs, .lst ds] := by
  obtain ⟨r, a', b', c', r0, r1, e⟩ := take_spec a b c cs (ds.length : Int) hc (by omega) (by omega)
  have hr : r.toNat < ds.length := by omega
  refine ⟨ds[r.toNat], a', b', c', List.getElem_mem hr, ?_⟩
  unfold d__law_some dDef
  simp [argEnv, dVar_ap, peek_loc, frz_loc, passes, lents, backs, setO, e, atI_of _ _ r0, List.getElem?_eq_getElem hr, outsOf]
/-! ### terms -/
inductive Tm where | num (k : Int) | of (b : Bool) | often (k : Int) (t : Tm) | plus (l r : Tm) | less (l r : Tm) | least (l r : Tm) | greatest (l r : Tm)
def nm (b : Bool) : Str := if b then "b" else "a"
def Tm.d : Tm → D
  | .num k => .tup [.str "number", .int k]
  | .of b => .tup [.str "of", .str (nm b)]
  | .often k t => .tup [.str "often", .int k, t.d]
  | .plus l r => .tup [.str "plus", l.d, r.d]
  | .less l r => .tup [.str "less", l.d, r.d]
  | .least l r => .tup [.str "least", l.d, r.d]
  | .greatest l r => .tup [.str "greatest", l.d, r.d]
def Tm.p : Tm → PyData
  | .num k => .tuple [.str "number", .int k]
  | .of b => .tuple [.str "of", .str (nm b)]
  | .often k t => .tuple [.str "often", .int k, t.p]
  | .plus l r => .tuple [.str "plus", l.p, r.p]
  | .less l r => .tuple [.str "less", l.p, r.p]
  | .least l r => .tuple [.str "least", l.p, r.p]
  | .greatest l r => .tuple [.str "greatest", l.p, r.p]
/-- at most n deep, its numbers below 3 -/
def Tm.ok : Nat → Tm → Prop
  | _, .num k => 0 ≤ k ∧ k < 3
  | _, .of _ => True
  | 0, _ => False
  | n + 1, .often k t => (0 ≤ k ∧ k < 3) ∧ t.ok n
  | n + 1, .plus l r => l.ok n ∧ r.ok n
  | n + 1, .less l r => l.ok n ∧ r.ok n
  | n + 1, .least l r => l.ok n ∧ r.ok n
  | n + 1, .greatest l r => l.ok n ∧ r.ok n
theorem tm_py : ∀ t : Tm, py t.d = some t.p
  | .num k => rfl
  | .of b => rfl
  | .often k t => by simp [Tm.d, Tm.p, py, pys, tm_py t]
  | .plus l r => by simp [Tm.d, Tm.p, py, pys, tm_py l, tm_py r]
  | .less l r => by simp [Tm.d, Tm.p, py, pys, tm_py l, tm_py r]
  | .least l r => by simp [Tm.d, Tm.p, py, pys, tm_py l, tm_py r]
  | .greatest l r => by simp [Tm.d, Tm.p, py, pys, tm_py l, tm_py r]
theorem lay_nm (b : Bool) : PyData.strOk (nm b) = true := by cases b <;> decide +kernel
theorem lay_w : PyData.strOk ("number" : Str) = true ∧ PyData.strOk ("of" : Str) = true ∧ PyData.strOk ("often" : Str) = true ∧ PyData.strOk ("plus" : Str) = true ∧ PyData.strOk ("less" : Str) = true ∧ PyData.strOk ("least" : Str) = true ∧ PyData.strOk ("greatest" : Str) = true := by decide +kernel
theorem tm_lay : ∀ t : Tm, t.p.canLay0 = true
  | .num k => by simp [Tm.p, PyData.canLay0, PyData.canLayAll0, lay_w]
  | .of b => by simp [Tm.p, PyData.canLay0, PyData.canLayAll0, lay_w, lay_nm]
  | .often k t => by simp [Tm.p, PyData.canLay0, PyData.canLayAll0, lay_w, tm_lay t]
  | .plus l r => by simp [Tm.p, PyData.canLay0, PyData.canLayAll0, lay_w, tm_lay l, tm_lay r]
  | .less l r => by simp [Tm.p, PyData.canLay0, PyData.canLayAll0, lay_w, tm_lay l, tm_lay r]
  | .least l r => by simp [Tm.p, PyData.canLay0, PyData.canLayAll0, lay_w, tm_lay l, tm_lay r]
  | .greatest l r => by simp [Tm.p, PyData.canLay0, PyData.canLayAll0, lay_w, tm_lay l, tm_lay r]
theorem tm_deep : ∀ (n : Nat) (t : Tm), t.ok n → t.p.depth ≤ n + 1
  | n, .num k, _ => by simp [Tm.p, PyData.depth, PyData.depthAll]
  | n, .of b, _ => by simp [Tm.p, PyData.depth, PyData.depthAll]
  | 0, .often _ _, h => h.elim
  | 0, .plus _ _, h => h.elim
  | 0, .less _ _, h => h.elim
  | 0, .least _ _, h => h.elim
  | 0, .greatest _ _, h => h.elim
  | n + 1, .often k t, h => by have := tm_deep n t h.2; simp [Tm.p, PyData.depth, PyData.depthAll]; omega
  | n + 1, .plus l r, h => by have := tm_deep n l h.1; have := tm_deep n r h.2; simp [Tm.p, PyData.depth, PyData.depthAll]; omega
  | n + 1, .less l r, h => by have := tm_deep n l h.1; have := tm_deep n r h.2; simp [Tm.p, PyData.depth, PyData.depthAll]; omega
  | n + 1, .least l r, h => by have := tm_deep n l h.1; have := tm_deep n r h.2; simp [Tm.p, PyData.depth, PyData.depthAll]; omega
  | n + 1, .greatest l r, h => by have := tm_deep n l h.1; have := tm_deep n r h.2; simp [Tm.p, PyData.depth, PyData.depthAll]; omega
theorem tm_shaped {n : Nat} {t : Tm} (h : t.ok n) (hn : n ≤ 60) : SeqAt.shaped t.p = true := by
  unfold SeqAt.shaped
  rw [tm_lay t, Bool.true_and]
  have := tm_deep n t h
  simp
  omega
/-- none of them is () -/
theorem tm_ne {n : Nat} {t : Tm} (h : t.ok n) (hn : n ≤ 60) : opNe t.d (.tup []) = some (.val (.bl true)) := by
  have s := tm_shaped h hn
  have e : eqDeep t.d (.tup []) = some false := by
    unfold eqDeep
    rw [tm_py t]
    have e2 : py (.tup []) = some (.tuple []) := rfl
    rw [e2]
    have s2 : SeqAt.shaped (.tuple []) = true := by decide +kernel
    show (if SeqAt.shaped t.p = true ∧ SeqAt.shaped (.tuple []) = true then some (PyData.eqv t.p (.tuple [])) else none) = some false
    rw [if_pos ⟨s, s2⟩]
    cases t <;> simp [Tm.p, PyData.eqv, PyData.eqvAll]
  unfold opNe
  have e3 : eqD t.d (.tup []) = some false := by
    cases t <;> exact e
  rw [e3]
  rfl
/-! ### is_term -/
def wd : Tm → Str
  | .num _ => "number" | .of _ => "of" | .often _ _ => "often" | .plus _ _ => "plus" | .less _ _ => "less" | .least _ _ => "least" | .greatest _ _ => "greatest"
def rs : Tm → List D
  | .num k => [.int k] | .of b => [.str (nm b)] | .often k t => [.int k, t.d] | .plus l r => [l.d, r.d] | .less l r => [l.d, r.d] | .least l r => [l.d, r.d] | .greatest l r => [l.d, r.d]
theorem tm_d (t : Tm) : t.d = .tup (.str (wd t) :: rs t) := by cases t <;> rfl
theorem is_worded_spec {n : Nat} {t : Tm} (h : t.ok n) (hn : n ≤ 60) {ws : List D} {b : Bool} (hm : memD (.str (wd t)) (.tup ws) = some b) : d_is_worded [t.d, .tup ws] = .ok (.val (.bl b)) [t.d, .tup ws] := by
  have ne := tm_ne h hn
  rw [tm_d] at ne ⊢
  have hi : opIn (.str (wd t)) (.tup ws) = some (.val (.bl b)) := by unfold opIn; rw [hm]; rfl
  unfold d_is_worded dDef
  simp [argEnv, dVar_ap, ne, atI_zero, hi, outsOf]
theorem m_number_number : memD (.str ("number" : Str)) (.tup [.str "number"]) = some true := by decide +kernel
theorem m_number_of : memD (.str ("number" : Str)) (.tup [.str "of"]) = some false := by decide +kernel
theorem m_number_often : memD (.str ("number" : Str)) (.tup [.str "often"]) = some false := by decide +kernel
theorem m_number_pairs : memD (.str ("number" : Str)) (.tup [.str "greatest", .str "least", .str "less", .str "plus"]) = some false := by decide +kernel
theorem m_of_number : memD (.str ("of" : Str)) (.tup [.str "number"]) = some false := by decide +kernel
theorem m_of_of : memD (.str ("of" : Str)) (.tup [.str "of"]) = some true := by decide +kernel
theorem m_of_often : memD (.str ("of" : Str)) (.tup [.str "often"]) = some false := by decide +kernel
theorem m_of_pairs : memD (.str ("of" : Str)) (.tup [.str "greatest", .str "least", .str "less", .str "plus"]) = some false := by decide +kernel
theorem m_often_number : memD (.str ("often" : Str)) (.tup [.str "number"]) = some false := by decide +kernel
theorem m_often_of : memD (.str ("often" : Str)) (.tup [.str "of"]) = some false := by decide +kernel
theorem m_often_often : memD (.str ("often" : Str)) (.tup [.str "often"]) = some true := by decide +kernel
theorem m_often_pairs : memD (.str ("often" : Str)) (.tup [.str "greatest", .str "least", .str "less", .str "plus"]) = some false := by decide +kernel
theorem m_plus_number : memD (.str ("plus" : Str)) (.tup [.str "number"]) = some false := by decide +kernel
theorem m_plus_of : memD (.str ("plus" : Str)) (.tup [.str "of"]) = some false := by decide +kernel
theorem m_plus_often : memD (.str ("plus" : Str)) (.tup [.str "often"]) = some false := by decide +kernel
theorem m_plus_pairs : memD (.str ("plus" : Str)) (.tup [.str "greatest", .str "least", .str "less", .str "plus"]) = some true := by decide +kernel
theorem m_less_number : memD (.str ("less" : Str)) (.tup [.str "number"]) = some false := by decide +kernel
theorem m_less_of : memD (.str ("less" : Str)) (.tup [.str "of"]) = some false := by decide +kernel
theorem m_less_often : memD (.str ("less" : Str)) (.tup [.str "often"]) = some false := by decide +kernel
theorem m_less_pairs : memD (.str ("less" : Str)) (.tup [.str "greatest", .str "least", .str "less", .str "plus"]) = some true := by decide +kernel
theorem m_least_number : memD (.str ("least" : Str)) (.tup [.str "number"]) = some false := by decide +kernel
theorem m_least_of : memD (.str ("least" : Str)) (.tup [.str "of"]) = some false := by decide +kernel
theorem m_least_often : memD (.str ("least" : Str)) (.tup [.str "often"]) = some false := by decide +kernel
theorem m_least_pairs : memD (.str ("least" : Str)) (.tup [.str "greatest", .str "least", .str "less", .str "plus"]) = some true := by decide +kernel
theorem m_greatest_number : memD (.str ("greatest" : Str)) (.tup [.str "number"]) = some false := by decide +kernel
theorem m_greatest_of : memD (.str ("greatest" : Str)) (.tup [.str "of"]) = some false := by decide +kernel
theorem m_greatest_often : memD (.str ("greatest" : Str)) (.tup [.str "often"]) = some false := by decide +kernel
theorem m_greatest_pairs : memD (.str ("greatest" : Str)) (.tup [.str "greatest", .str "least", .str "less", .str "plus"]) = some true := by decide +kernel
theorem is_name_spec (b : Bool) : d_is_name [.str (nm b)] = .ok (.val (.bl true)) [.str (nm b)] := by cases b <;> kernel_rfl
theorem is_number_int (i : Int) : d_is_number [.int i] = .ok (.val (.bl true)) [.int i] := by rfl
theorem is_between_spec (i l h : Int) (h1 : l ≤ i) (h2 : i ≤ h) : d_is_between [.int i, .int l, .int h] = .ok (.val (.bl true)) [.int i, .int l, .int h] := by
  unfold d_is_between dDef
  simp [argEnv, dVar_ap, passes, frz_loc, lents, backs, outsOf, is_number_int, h1, h2]
theorem is_term_spec : ∀ (n m : Nat) (t : Tm), t.ok n → n ≤ 60 → n < m → d_is_term m [t.d] = .ok (.val (.bl true)) [t.d]
  | n, 0, t, _, _, h => by omega
  | n, m + 1, .num k, h, hn, hm => by
    have e_number := is_worded_spec (t := .num k) h hn (ws := [.str "number"]) m_number_number
    have e_of := is_worded_spec (t := .num k) h hn (ws := [.str "of"]) m_number_of
    have e_often := is_worded_spec (t := .num k) h hn (ws := [.str "often"]) m_number_often
    have e_pairs := is_worded_spec (t := .num k) h hn (ws := [.str "greatest", .str "least", .str "less", .str "plus"]) m_number_pairs
    simp only [Tm.d] at e_number e_of e_often e_pairs
    have hk : 0 ≤ k ∧ k < 3 := by cases n <;> exact h
    have e5 := is_between_spec k 0 9 (by omega) (by omega)
    unfold d_is_term dDef
    simp [Tm.d, argEnv, dVar_ap, passes, frz_loc, lents, backs, outsOf, atI_zero, atI_one, atI_two, e_number, e_of, e_often, e_pairs, k_MOST_NUMBER, k_MOST_OFTEN, k_PAIRS, e5]
  | n, m + 1, .of b, h, hn, hm => by
    have e_number := is_worded_spec (t := .of b) h hn (ws := [.str "number"]) m_of_number
    have e_of := is_worded_spec (t := .of b) h hn (ws := [.str "of"]) m_of_of
    have e_often := is_worded_spec (t := .of b) h hn (ws := [.str "often"]) m_of_often
    have e_pairs := is_worded_spec (t := .of b) h hn (ws := [.str "greatest", .str "least", .str "less", .str "plus"]) m_of_pairs
    simp only [Tm.d] at e_number e_of e_often e_pairs
    unfold d_is_term dDef
    simp [Tm.d, argEnv, dVar_ap, passes, frz_loc, lents, backs, outsOf, atI_zero, atI_one, atI_two, e_number, e_of, e_often, e_pairs, k_MOST_NUMBER, k_MOST_OFTEN, k_PAIRS, is_name_spec]
  | n + 1, m + 1, .often k t, h, hn, hm => by
    have e_number := is_worded_spec (t := .often k t) h hn (ws := [.str "number"]) m_often_number
    have e_of := is_worded_spec (t := .often k t) h hn (ws := [.str "of"]) m_often_of
    have e_often := is_worded_spec (t := .often k t) h hn (ws := [.str "often"]) m_often_often
    have e_pairs := is_worded_spec (t := .often k t) h hn (ws := [.str "greatest", .str "least", .str "less", .str "plus"]) m_often_pairs
    simp only [Tm.d] at e_number e_of e_often e_pairs
    have hk : 0 ≤ k ∧ k < 3 := h.1
    have e5 := is_between_spec k 0 4 (by omega) (by omega)
    have e6 := is_term_spec n m t h.2 (by omega) (by omega)
    unfold d_is_term dDef
    simp [Tm.d, argEnv, dVar_ap, passes, frz_loc, lents, backs, outsOf, atI_zero, atI_one, atI_two, e_number, e_of, e_often, e_pairs, k_MOST_NUMBER, k_MOST_OFTEN, k_PAIRS, e5, e6]
  | n + 1, m + 1, .plus l r, h, hn, hm => by
    have e_number := is_worded_spec (t := .plus l r) h hn (ws := [.str "number"]) m_plus_number
    have e_of := is_worded_spec (t := .plus l r) h hn (ws := [.str "of"]) m_plus_of
    have e_often := is_worded_spec (t := .plus l r) h hn (ws := [.str "often"]) m_plus_often
    have e_pairs := is_worded_spec (t := .plus l r) h hn (ws := [.str "greatest", .str "least", .str "less", .str "plus"]) m_plus_pairs
    simp only [Tm.d] at e_number e_of e_often e_pairs
    have e5 := is_term_spec n m l h.1 (by omega) (by omega)
    have e6 := is_term_spec n m r h.2 (by omega) (by omega)
    unfold d_is_term dDef
    simp [Tm.d, argEnv, dVar_ap, passes, frz_loc, lents, backs, outsOf, atI_zero, atI_one, atI_two, e_number, e_of, e_often, e_pairs, k_MOST_NUMBER, k_MOST_OFTEN, k_PAIRS, e5, e6]
  | n + 1, m + 1, .less l r, h, hn, hm => by
    have e_number := is_worded_spec (t := .less l r) h hn (ws := [.str "number"]) m_less_number
    have e_of := is_worded_spec (t := .less l r) h hn (ws := [.str "of"]) m_less_of
    have e_often := is_worded_spec (t := .less l r) h hn (ws := [.str "often"]) m_less_often
    have e_pairs := is_worded_spec (t := .less l r) h hn (ws := [.str "greatest", .str "least", .str "less", .str "plus"]) m_less_pairs
    simp only [Tm.d] at e_number e_of e_often e_pairs
    have e5 := is_term_spec n m l h.1 (by omega) (by omega)
    have e6 := is_term_spec n m r h.2 (by omega) (by omega)
    unfold d_is_term dDef
    simp [Tm.d, argEnv, dVar_ap, passes, frz_loc, lents, backs, outsOf, atI_zero, atI_one, atI_two, e_number, e_of, e_often, e_pairs, k_MOST_NUMBER, k_MOST_OFTEN, k_PAIRS, e5, e6]
  | n + 1, m + 1, .least l r, h, hn, hm => by
    have e_number := is_worded_spec (t := .least l r) h hn (ws := [.str "number"]) m_least_number
    have e_of := is_worded_spec (t := .least l r) h hn (ws := [.str "of"]) m_least_of
    have e_often := is_worded_spec (t := .least l r) h hn (ws := [.str "often"]) m_least_often
    have e_pairs := is_worded_spec (t := .least l r) h hn (ws := [.str "greatest", .str "least", .str "less", .str "plus"]) m_least_pairs
    simp only [Tm.d] at e_number e_of e_often e_pairs
    have e5 := is_term_spec n m l h.1 (by omega) (by omega)
    have e6 := is_term_spec n m r h.2 (by omega) (by omega)
    unfold d_is_term dDef
    simp [Tm.d, argEnv, dVar_ap, passes, frz_loc, lents, backs, outsOf, atI_zero, atI_one, atI_two, e_number, e_of, e_often, e_pairs, k_MOST_NUMBER, k_MOST_OFTEN, k_PAIRS, e5, e6]
  | n + 1, m + 1, .greatest l r, h, hn, hm => by
    have e_number := is_worded_spec (t := .greatest l r) h hn (ws := [.str "number"]) m_greatest_number
    have e_of := is_worded_spec (t := .greatest l r) h hn (ws := [.str "of"]) m_greatest_of
    have e_often := is_worded_spec (t := .greatest l r) h hn (ws := [.str "often"]) m_greatest_often
    have e_pairs := is_worded_spec (t := .greatest l r) h hn (ws := [.str "greatest", .str "least", .str "less", .str "plus"]) m_greatest_pairs
    simp only [Tm.d] at e_number e_of e_often e_pairs
    have e5 := is_term_spec n m l h.1 (by omega) (by omega)
    have e6 := is_term_spec n m r h.2 (by omega) (by omega)
    unfold d_is_term dDef
    simp [Tm.d, argEnv, dVar_ap, passes, frz_loc, lents, backs, outsOf, atI_zero, atI_one, atI_two, e_number, e_of, e_often, e_pairs, k_MOST_NUMBER, k_MOST_OFTEN, k_PAIRS, e5, e6]
  | 0, _ + 1, .often k t, h, _, _ => h.elim
  | 0, _ + 1, .plus l r, h, _, _ => h.elim
  | 0, _ + 1, .less l r, h, _, _ => h.elim
  | 0, _ + 1, .least l r, h, _, _ => h.elim
  | 0, _ + 1, .greatest l r, h, _, _ => h.elim
/-! ### worths -/
def nms : Tm → List Bool
  | .num _ => [] | .of b => [b] | .often _ t => nms t | .plus l r => nms l ++ nms r | .less l r => nms l ++ nms r | .least l r => nms l ++ nms r | .greatest l r => nms l ++ nms r
def wv (e : Bool → Int) : Tm → Int
  | .num k => k
  | .of b => e b
  | .often k t => k * wv e t
  | .plus l r => wv e l + wv e r
  | .less l r => if wv e l - wv e r > 0 then wv e l - wv e r else 0
  | .least l r => if wv e r < wv e l then wv e r else wv e l
  | .greatest l r => if wv e r > wv e l then wv e r else wv e l
theorem opIx_dic_str {ks : List Key} {xs : List D} {a : Str} : opIx (.dic ks xs) (.str a) = (dGet ks xs (.inr a)).map .val := rfl
theorem merge4 (x y z w : D) : mergeD [(.inr ("plus" : Str), x), (.inr ("less" : Str), y), (.inr ("least" : Str), z), (.inr ("greatest" : Str), w)] = .dic [.inr ("plus" : Str), .inr ("less" : Str), .inr ("least" : Str), .inr ("greatest" : Str)] [x, y, z, w] := by kernel_rfl
theorem get_plus (x y z w : D) : dGet [.inr ("plus" : Str), .inr ("less" : Str), .inr ("least" : Str), .inr ("greatest" : Str)] [x, y, z, w] (.inr ("plus" : Str)) = some x := by kernel_rfl
theorem get_less (x y z w : D) : dGet [.inr ("plus" : Str), .inr ("less" : Str), .inr ("least" : Str), .inr ("greatest" : Str)] [x, y, z, w] (.inr ("less" : Str)) = some y := by kernel_rfl
theorem get_least (x y z w : D) : dGet [.inr ("plus" : Str), .inr ("less" : Str), .inr ("least" : Str), .inr ("greatest" : Str)] [x, y, z, w] (.inr ("least" : Str)) = some z := by kernel_rfl
theorem get_greatest (x y z w : D) : dGet [.inr ("plus" : Str), .inr ("less" : Str), .inr ("least" : Str), .inr ("greatest" : Str)] [x, y, z, w] (.inr ("greatest" : Str)) = some w := by kernel_rfl
theorem max_swap (z : Int) : (if 0 > z then 0 else z) = (if z > 0 then z else 0) := by
  by_cases h : z > 0
  · rw [if_pos h, if_neg (by omega)]
  · rw [if_neg h]
    by_cases h2 : 0 > z
    · rw [if_pos h2]
    · rw [if_neg h2]; omega
theorem opMul_ok {i j : Int} (h : CMul i j) : opMul (.int i) (.int j) = some (.val (.int (i * j))) := by
  rw [opMul_int, if_pos h]
theorem worth_number (ks : List Key) (xs : List D) (e : Bool → Int) (m : Nat) (k : Int)  : d_worth (m + 1) [(Tm.num k).d, .dic ks xs] = .ok (.val (.int (wv e (.num k)))) [(Tm.num k).d, .dic ks xs] := by
    unfold d_worth dDef
    simp [Tm.d, wv, argEnv, dVar_ap, passes, frz_loc, peek_loc, setV_ap, lents, backs, outsOf, atI_zero, atI_one, atI_two]
theorem worth_of (ks : List Key) (xs : List D) (e : Bool → Int) (m : Nat) (b : Bool) (e5 : dGet ks xs (.inr (nm b)) = some (.int (e b))) : d_worth (m + 1) [(Tm.of b).d, .dic ks xs] = .ok (.val (.int (wv e (.of b)))) [(Tm.of b).d, .dic ks xs] := by
    unfold d_worth dDef
    simp [Tm.d, wv, argEnv, dVar_ap, passes, frz_loc, peek_loc, setV_ap, lents, backs, outsOf, atI_zero, atI_one, atI_two, e5, opIx_dic_str]
theorem worth_often (ks : List Key) (xs : List D) (e : Bool → Int) (m : Nat) (k : Int) (t : Tm) (e5 : opMul (.int k) (.int (wv e t)) = some (.val (.int (k * wv e t)))) (e6 : d_worth m [t.d, .dic ks xs] = .ok (.val (.int (wv e t))) [t.d, .dic ks xs]) : d_worth (m + 1) [(Tm.often k t).d, .dic ks xs] = .ok (.val (.int (wv e (.often k t)))) [(Tm.often k t).d, .dic ks xs] := by
    unfold d_worth dDef
    simp [-opMul_int, Tm.d, wv, argEnv, dVar_ap, passes, frz_loc, peek_loc, setV_ap, lents, backs, outsOf, atI_zero, atI_one, atI_two, e5, e6]
theorem worth_plus (ks : List Key) (xs : List D) (e : Bool → Int) (m : Nat) (l r : Tm) (e5 : d_worth m [l.d, .dic ks xs] = .ok (.val (.int (wv e l))) [l.d, .dic ks xs]) (e6 : d_worth m [r.d, .dic ks xs] = .ok (.val (.int (wv e r))) [r.d, .dic ks xs]) : d_worth (m + 1) [(Tm.plus l r).d, .dic ks xs] = .ok (.val (.int (wv e (.plus l r)))) [(Tm.plus l r).d, .dic ks xs] := by
    unfold d_worth dDef
    simp [Tm.d, wv, argEnv, dVar_ap, passes, frz_loc, peek_loc, setV_ap, lents, backs, outsOf, atI_zero, atI_one, atI_two, e5, e6]
theorem worth_less (ks : List Key) (xs : List D) (e : Bool → Int) (m : Nat) (l r : Tm) (e5 : d_worth m [l.d, .dic ks xs] = .ok (.val (.int (wv e l))) [l.d, .dic ks xs]) (e6 : d_worth m [r.d, .dic ks xs] = .ok (.val (.int (wv e r))) [r.d, .dic ks xs]) : d_worth (m + 1) [(Tm.less l r).d, .dic ks xs] = .ok (.val (.int (wv e (.less l r)))) [(Tm.less l r).d, .dic ks xs] := by
    unfold d_worth dDef
    simp [Tm.d, wv, argEnv, dVar_ap, passes, frz_loc, peek_loc, setV_ap, lents, backs, outsOf, atI_zero, atI_one, atI_two, e5, e6]
theorem worth_least (ks : List Key) (xs : List D) (e : Bool → Int) (m : Nat) (l r : Tm) (e5 : d_worth m [l.d, .dic ks xs] = .ok (.val (.int (wv e l))) [l.d, .dic ks xs]) (e6 : d_worth m [r.d, .dic ks xs] = .ok (.val (.int (wv e r))) [r.d, .dic ks xs]) : d_worth (m + 1) [(Tm.least l r).d, .dic ks xs] = .ok (.val (.int (wv e (.least l r)))) [(Tm.least l r).d, .dic ks xs] := by
    unfold d_worth dDef
    simp [Tm.d, wv, argEnv, dVar_ap, passes, frz_loc, peek_loc, setV_ap, lents, backs, outsOf, atI_zero, atI_one, atI_two, e5, e6]
theorem worth_greatest (ks : List Key) (xs : List D) (e : Bool → Int) (m : Nat) (l r : Tm) (e5 : d_worth m [l.d, .dic ks xs] = .ok (.val (.int (wv e l))) [l.d, .dic ks xs]) (e6 : d_worth m [r.d, .dic ks xs] = .ok (.val (.int (wv e r))) [r.d, .dic ks xs]) : d_worth (m + 1) [(Tm.greatest l r).d, .dic ks xs] = .ok (.val (.int (wv e (.greatest l r)))) [(Tm.greatest l r).d, .dic ks xs] := by
    unfold d_worth dDef
    simp [Tm.d, wv, argEnv, dVar_ap, passes, frz_loc, peek_loc, setV_ap, lents, backs, outsOf, atI_zero, atI_one, atI_two, e5, e6]
theorem law_worth_number (ks : List Key) (xs : List D) (e : Bool → Int) (m : Nat) (k : Int)  : d__law_worth (m + 1) [(Tm.num k).d, .dic ks xs] = .ok (.val (.int (wv e (.num k)))) [(Tm.num k).d, .dic ks xs] := by
    unfold d__law_worth dDef
    simp [Tm.d, wv, argEnv, dVar_ap, passes, frz_loc, peek_loc, setV_ap, lents, backs, outsOf, atI_zero, atI_one, atI_two]
theorem law_worth_of (ks : List Key) (xs : List D) (e : Bool → Int) (m : Nat) (b : Bool) (e5 : dGet ks xs (.inr (nm b)) = some (.int (e b))) : d__law_worth (m + 1) [(Tm.of b).d, .dic ks xs] = .ok (.val (.int (wv e (.of b)))) [(Tm.of b).d, .dic ks xs] := by
    unfold d__law_worth dDef
    simp [Tm.d, wv, argEnv, dVar_ap, passes, frz_loc, peek_loc, setV_ap, lents, backs, outsOf, atI_zero, atI_one, atI_two, e5, opIx_dic_str]
theorem law_worth_often (ks : List Key) (xs : List D) (e : Bool → Int) (m : Nat) (k : Int) (t : Tm) (e5 : opMul (.int k) (.int (wv e t)) = some (.val (.int (k * wv e t)))) (e6 : d__law_worth m [t.d, .dic ks xs] = .ok (.val (.int (wv e t))) [t.d, .dic ks xs]) : d__law_worth (m + 1) [(Tm.often k t).d, .dic ks xs] = .ok (.val (.int (wv e (.often k t)))) [(Tm.often k t).d, .dic ks xs] := by
    unfold d__law_worth dDef
    simp [-opMul_int, Tm.d, wv, argEnv, dVar_ap, passes, frz_loc, peek_loc, setV_ap, lents, backs, outsOf, atI_zero, atI_one, atI_two, e5, e6]
theorem law_worth_plus (ks : List Key) (xs : List D) (e : Bool → Int) (m : Nat) (l r : Tm) (e5 : d__law_worth m [l.d, .dic ks xs] = .ok (.val (.int (wv e l))) [l.d, .dic ks xs]) (e6 : d__law_worth m [r.d, .dic ks xs] = .ok (.val (.int (wv e r))) [r.d, .dic ks xs]) : d__law_worth (m + 1) [(Tm.plus l r).d, .dic ks xs] = .ok (.val (.int (wv e (.plus l r)))) [(Tm.plus l r).d, .dic ks xs] := by
    unfold d__law_worth dDef
    simp [Tm.d, wv, argEnv, dVar_ap, passes, frz_loc, peek_loc, setV_ap, lents, backs, outsOf, atI_zero, atI_one, atI_two, e5, e6, dDisp, dPairs, dFrz, merge4, opIx_dic_str, get_plus]
theorem law_worth_less (ks : List Key) (xs : List D) (e : Bool → Int) (m : Nat) (l r : Tm) (e5 : d__law_worth m [l.d, .dic ks xs] = .ok (.val (.int (wv e l))) [l.d, .dic ks xs]) (e6 : d__law_worth m [r.d, .dic ks xs] = .ok (.val (.int (wv e r))) [r.d, .dic ks xs]) : d__law_worth (m + 1) [(Tm.less l r).d, .dic ks xs] = .ok (.val (.int (wv e (.less l r)))) [(Tm.less l r).d, .dic ks xs] := by
    unfold d__law_worth dDef
    simp [Tm.d, wv, argEnv, dVar_ap, passes, frz_loc, peek_loc, setV_ap, lents, backs, outsOf, atI_zero, atI_one, atI_two, e5, e6, dDisp, dPairs, dFrz, merge4, opIx_dic_str, get_less, max_swap]
theorem law_worth_least (ks : List Key) (xs : List D) (e : Bool → Int) (m : Nat) (l r : Tm) (e5 : d__law_worth m [l.d, .dic ks xs] = .ok (.val (.int (wv e l))) [l.d, .dic ks xs]) (e6 : d__law_worth m [r.d, .dic ks xs] = .ok (.val (.int (wv e r))) [r.d, .dic ks xs]) : d__law_worth (m + 1) [(Tm.least l r).d, .dic ks xs] = .ok (.val (.int (wv e (.least l r)))) [(Tm.least l r).d, .dic ks xs] := by
    unfold d__law_worth dDef
    simp [Tm.d, wv, argEnv, dVar_ap, passes, frz_loc, peek_loc, setV_ap, lents, backs, outsOf, atI_zero, atI_one, atI_two, e5, e6, dDisp, dPairs, dFrz, merge4, opIx_dic_str, get_least]
theorem law_worth_greatest (ks : List Key) (xs : List D) (e : Bool → Int) (m : Nat) (l r : Tm) (e5 : d__law_worth m [l.d, .dic ks xs] = .ok (.val (.int (wv e l))) [l.d, .dic ks xs]) (e6 : d__law_worth m [r.d, .dic ks xs] = .ok (.val (.int (wv e r))) [r.d, .dic ks xs]) : d__law_worth (m + 1) [(Tm.greatest l r).d, .dic ks xs] = .ok (.val (.int (wv e (.greatest l r)))) [(Tm.greatest l r).d, .dic ks xs] := by
    unfold d__law_worth dDef
    simp [Tm.d, wv, argEnv, dVar_ap, passes, frz_loc, peek_loc, setV_ap, lents, backs, outsOf, atI_zero, atI_one, atI_two, e5, e6, dDisp, dPairs, dFrz, merge4, opIx_dic_str, get_greatest]
theorem worth_spec (ks : List Key) (xs : List D) (e : Bool → Int) : ∀ (n m : Nat) (t : Tm), t.ok n → n < m → (∀ b ∈ nms t, dGet ks xs (.inr (nm b)) = some (.int (e b))) → d_worth m [t.d, .dic ks xs] = .ok (.val (.int (wv e t))) [t.d, .dic ks xs]
  | n, 0, t, _, h, _ => by omega
  | n, m + 1, .num k, h, hm, he => worth_number ks xs e m k
  | n, m + 1, .of b, h, hm, he => worth_of ks xs e m b (he b (List.mem_singleton.mpr rfl))
  | n + 1, m + 1, .often k t, h, hm, he => worth_often ks xs e m k t (opMul_ok (Or.inl ⟨by have := h.1.1; omega, by have := h.1.2; omega⟩)) (worth_spec ks xs e n m t h.2 (by omega) he)
  | n + 1, m + 1, .plus l r, h, hm, he => worth_plus ks xs e m l r (worth_spec ks xs e n m l h.1 (by omega) fun b hb => he b (List.mem_append_left _ hb)) (worth_spec ks xs e n m r h.2 (by omega) fun b hb => he b (List.mem_append_right _ hb))
  | n + 1, m + 1, .less l r, h, hm, he => worth_less ks xs e m l r (worth_spec ks xs e n m l h.1 (by omega) fun b hb => he b (List.mem_append_left _ hb)) (worth_spec ks xs e n m r h.2 (by omega) fun b hb => he b (List.mem_append_right _ hb))
  | n + 1, m + 1, .least l r, h, hm, he => worth_least ks xs e m l r (worth_spec ks xs e n m l h.1 (by omega) fun b hb => he b (List.mem_append_left _ hb)) (worth_spec ks xs e n m r h.2 (by omega) fun b hb => he b (List.mem_append_right _ hb))
  | n + 1, m + 1, .greatest l r, h, hm, he => worth_greatest ks xs e m l r (worth_spec ks xs e n m l h.1 (by omega) fun b hb => he b (List.mem_append_left _ hb)) (worth_spec ks xs e n m r h.2 (by omega) fun b hb => he b (List.mem_append_right _ hb))
  | 0, _ + 1, .often k t, h, _, _ => h.elim
  | 0, _ + 1, .plus l r, h, _, _ => h.elim
  | 0, _ + 1, .less l r, h, _, _ => h.elim
  | 0, _ + 1, .least l r, h, _, _ => h.elim
  | 0, _ + 1, .greatest l r, h, _, _ => h.elim
theorem law_worth_spec (ks : List Key) (xs : List D) (e : Bool → Int) : ∀ (n m : Nat) (t : Tm), t.ok n → n < m → (∀ b ∈ nms t, dGet ks xs (.inr (nm b)) = some (.int (e b))) → d__law_worth m [t.d, .dic ks xs] = .ok (.val (.int (wv e t))) [t.d, .dic ks xs]
  | n, 0, t, _, h, _ => by omega
  | n, m + 1, .num k, h, hm, he => law_worth_number ks xs e m k
  | n, m + 1, .of b, h, hm, he => law_worth_of ks xs e m b (he b (List.mem_singleton.mpr rfl))
  | n + 1, m + 1, .often k t, h, hm, he => law_worth_often ks xs e m k t (opMul_ok (Or.inl ⟨by have := h.1.1; omega, by have := h.1.2; omega⟩)) (law_worth_spec ks xs e n m t h.2 (by omega) he)
  | n + 1, m + 1, .plus l r, h, hm, he => law_worth_plus ks xs e m l r (law_worth_spec ks xs e n m l h.1 (by omega) fun b hb => he b (List.mem_append_left _ hb)) (law_worth_spec ks xs e n m r h.2 (by omega) fun b hb => he b (List.mem_append_right _ hb))
  | n + 1, m + 1, .less l r, h, hm, he => law_worth_less ks xs e m l r (law_worth_spec ks xs e n m l h.1 (by omega) fun b hb => he b (List.mem_append_left _ hb)) (law_worth_spec ks xs e n m r h.2 (by omega) fun b hb => he b (List.mem_append_right _ hb))
  | n + 1, m + 1, .least l r, h, hm, he => law_worth_least ks xs e m l r (law_worth_spec ks xs e n m l h.1 (by omega) fun b hb => he b (List.mem_append_left _ hb)) (law_worth_spec ks xs e n m r h.2 (by omega) fun b hb => he b (List.mem_append_right _ hb))
  | n + 1, m + 1, .greatest l r, h, hm, he => law_worth_greatest ks xs e m l r (law_worth_spec ks xs e n m l h.1 (by omega) fun b hb => he b (List.mem_append_left _ hb)) (law_worth_spec ks xs e n m r h.2 (by omega) fun b hb => he b (List.mem_append_right _ hb))
  | 0, _ + 1, .often k t, h, _, _ => h.elim
  | 0, _ + 1, .plus l r, h, _, _ => h.elim
  | 0, _ + 1, .less l r, h, _, _ => h.elim
  | 0, _ + 1, .least l r, h, _, _ => h.elim
  | 0, _ + 1, .greatest l r, h, _, _ => h.elim
/-! ### names -/
def nds (l : List Bool) : List D := l.map fun b => .str (nm b)
theorem nds_nil : nds [] = [] := rfl
theorem nds_one (b : Bool) : nds [b] = [.str (nm b)] := rfl
theorem nds_app (l r : List Bool) : nds (l ++ r) = nds l ++ nds r := List.map_append
theorem nds_len (l : List Bool) : (nds l).length = l.length := List.length_map _
theorem cut3 (a b c : D) : cutD [a, b, c] (some 1) none = [b, c] := rfl
theorem cut2 (a b : D) : cutD [a, b] (some 1) none = [b] := rfl
theorem isi_tm (t : Tm) : fIsi [t.d, .raw (.ty "tuple")] = some (.val (.bl true)) := by rw [tm_d]; exact isi_tup_tuple
theorem line_pos (k : Nat) (h : k ≤ 100000) : k ≤ sizeLine := by rw [sizeLine_eq]; omega
theorem names_number (m : Nat) (k : Int)  : d_names_in (m + 1) [(Tm.num k).d] = .ok (.new (.lst (nds (nms (.num k))))) [(Tm.num k).d] := by
    unfold d_names_in dDef
    simp [Tm.d, nms, argEnv, dVar_ap, passes, frz_loc, peek_loc, setV_ap, lents, backs, outsOf, atI_zero, atI_one, atI_two, iSeq, seqOf, forGo, gtName, dMut, ownAt, tyName, mExtend, setO, cut3, cut2, nds_nil]
theorem names_of (m : Nat) (b : Bool)  : d_names_in (m + 1) [(Tm.of b).d] = .ok (.new (.lst (nds (nms (.of b))))) [(Tm.of b).d] := by
    unfold d_names_in dDef
    simp [Tm.d, nms, argEnv, dVar_ap, passes, frz_loc, peek_loc, setV_ap, lents, backs, outsOf, atI_zero, atI_one, atI_two, iSeq, seqOf, forGo, gtName, dMut, ownAt, tyName, mExtend, setO, cut3, cut2, nds_one]
theorem names_often (m : Nat) (k : Int) (t : Tm) (e6 : d_names_in m [t.d] = .ok (.new (.lst (nds (nms t)))) [t.d]) (e7 : (nms t).length ≤ 100000) : d_names_in (m + 1) [(Tm.often k t).d] = .ok (.new (.lst (nds (nms (.often k t))))) [(Tm.often k t).d] := by
    unfold d_names_in dDef
    simp [Tm.d, nms, argEnv, dVar_ap, passes, frz_loc, peek_loc, setV_ap, lents, backs, outsOf, atI_zero, atI_one, atI_two, iSeq, seqOf, forGo, gtName, dMut, ownAt, tyName, mExtend, setO, cut3, cut2, e6, isi_tm, nds_len, line_pos _ e7, nds_nil]
theorem names_plus (m : Nat) (l r : Tm) (e5 : d_names_in m [l.d] = .ok (.new (.lst (nds (nms l)))) [l.d]) (e6 : d_names_in m [r.d] = .ok (.new (.lst (nds (nms r)))) [r.d]) (e7 : (nms l).length ≤ 100000) (e8 : (nms l).length + (nms r).length ≤ 100000) : d_names_in (m + 1) [(Tm.plus l r).d] = .ok (.new (.lst (nds (nms (.plus l r))))) [(Tm.plus l r).d] := by
    unfold d_names_in dDef
    simp [Tm.d, nms, argEnv, dVar_ap, passes, frz_loc, peek_loc, setV_ap, lents, backs, outsOf, atI_zero, atI_one, atI_two, iSeq, seqOf, forGo, gtName, dMut, ownAt, tyName, mExtend, setO, cut3, cut2, e5, e6, isi_tm, nds_app, nds_len, line_pos _ e7, line_pos _ e8]
theorem names_less (m : Nat) (l r : Tm) (e5 : d_names_in m [l.d] = .ok (.new (.lst (nds (nms l)))) [l.d]) (e6 : d_names_in m [r.d] = .ok (.new (.lst (nds (nms r)))) [r.d]) (e7 : (nms l).length ≤ 100000) (e8 : (nms l).length + (nms r).length ≤ 100000) : d_names_in (m + 1) [(Tm.less l r).d] = .ok (.new (.lst (nds (nms (.less l r))))) [(Tm.less l r).d] := by
    unfold d_names_in dDef
    simp [Tm.d, nms, argEnv, dVar_ap, passes, frz_loc, peek_loc, setV_ap, lents, backs, outsOf, atI_zero, atI_one, atI_two, iSeq, seqOf, forGo, gtName, dMut, ownAt, tyName, mExtend, setO, cut3, cut2, e5, e6, isi_tm, nds_app, nds_len, line_pos _ e7, line_pos _ e8]
theorem names_least (m : Nat) (l r : Tm) (e5 : d_names_in m [l.d] = .ok (.new (.lst (nds (nms l)))) [l.d]) (e6 : d_names_in m [r.d] = .ok (.new (.lst (nds (nms r)))) [r.d]) (e7 : (nms l).length ≤ 100000) (e8 : (nms l).length + (nms r).length ≤ 100000) : d_names_in (m + 1) [(Tm.least l r).d] = .ok (.new (.lst (nds (nms (.least l r))))) [(Tm.least l r).d] := by
    unfold d_names_in dDef
    simp [Tm.d, nms, argEnv, dVar_ap, passes, frz_loc, peek_loc, setV_ap, lents, backs, outsOf, atI_zero, atI_one, atI_two, iSeq, seqOf, forGo, gtName, dMut, ownAt, tyName, mExtend, setO, cut3, cut2, e5, e6, isi_tm, nds_app, nds_len, line_pos _ e7, line_pos _ e8]
theorem names_greatest (m : Nat) (l r : Tm) (e5 : d_names_in m [l.d] = .ok (.new (.lst (nds (nms l)))) [l.d]) (e6 : d_names_in m [r.d] = .ok (.new (.lst (nds (nms r)))) [r.d]) (e7 : (nms l).length ≤ 100000) (e8 : (nms l).length + (nms r).length ≤ 100000) : d_names_in (m + 1) [(Tm.greatest l r).d] = .ok (.new (.lst (nds (nms (.greatest l r))))) [(Tm.greatest l r).d] := by
    unfold d_names_in dDef
    simp [Tm.d, nms, argEnv, dVar_ap, passes, frz_loc, peek_loc, setV_ap, lents, backs, outsOf, atI_zero, atI_one, atI_two, iSeq, seqOf, forGo, gtName, dMut, ownAt, tyName, mExtend, setO, cut3, cut2, e5, e6, isi_tm, nds_app, nds_len, line_pos _ e7, line_pos _ e8]
theorem nms_len : ∀ (n : Nat) (t : Tm), t.ok n → (nms t).length ≤ 2 ^ n
  | n, .num k, _ => Nat.zero_le _
  | n, .of b, _ => Nat.one_le_two_pow
  | 0, .often _ _, h => h.elim
  | 0, .plus _ _, h => h.elim
  | 0, .less _ _, h => h.elim
  | 0, .least _ _, h => h.elim
  | 0, .greatest _ _, h => h.elim
  | n + 1, .often k t, h => by have := nms_len n t h.2; simp only [nms, Nat.pow_succ]; omega
  | n + 1, .plus l r, h => by have := nms_len n l h.1; have := nms_len n r h.2; simp only [nms, Nat.pow_succ, List.length_append]; omega
  | n + 1, .less l r, h => by have := nms_len n l h.1; have := nms_len n r h.2; simp only [nms, Nat.pow_succ, List.length_append]; omega
  | n + 1, .least l r, h => by have := nms_len n l h.1; have := nms_len n r h.2; simp only [nms, Nat.pow_succ, List.length_append]; omega
  | n + 1, .greatest l r, h => by have := nms_len n l h.1; have := nms_len n r h.2; simp only [nms, Nat.pow_succ, List.length_append]; omega
theorem small_names2 (n : Nat) (t : Tm) (h : t.ok n) (hn : n ≤ 12) : (nms t).length ≤ 4096 :=
  Nat.le_trans (nms_len n t h) (Nat.le_trans (Nat.pow_le_pow_right (by decide) hn) (by decide))
theorem small_names (n : Nat) (t : Tm) (h : t.ok n) (hn : n ≤ 12) : (nms t).length ≤ 100000 := Nat.le_trans (small_names2 n t h hn) (by decide)
theorem names_spec : ∀ (n m : Nat) (t : Tm), t.ok n → n ≤ 12 → n < m → d_names_in m [t.d] = .ok (.new (.lst (nds (nms t)))) [t.d]
  | n, 0, t, _, _, h => by omega
  | n, m + 1, .num k, h, hn, hm => names_number m k
  | n, m + 1, .of b, h, hn, hm => names_of m b
  | n + 1, m + 1, .often k t, h, hn, hm => names_often m k t (names_spec n m t h.2 (by omega) (by omega)) (small_names n t h.2 (by omega))
  | n + 1, m + 1, .plus l r, h, hn, hm => names_plus m l r (names_spec n m l h.1 (by omega) (by omega)) (names_spec n m r h.2 (by omega) (by omega)) (small_names n l h.1 (by omega)) (by have := small_names2 n l h.1 (by omega); have := small_names2 n r h.2 (by omega); omega)
  | n + 1, m + 1, .less l r, h, hn, hm => names_less m l r (names_spec n m l h.1 (by omega) (by omega)) (names_spec n m r h.2 (by omega) (by omega)) (small_names n l h.1 (by omega)) (by have := small_names2 n l h.1 (by omega); have := small_names2 n r h.2 (by omega); omega)
  | n + 1, m + 1, .least l r, h, hn, hm => names_least m l r (names_spec n m l h.1 (by omega) (by omega)) (names_spec n m r h.2 (by omega) (by omega)) (small_names n l h.1 (by omega)) (by have := small_names2 n l h.1 (by omega); have := small_names2 n r h.2 (by omega); omega)
  | n + 1, m + 1, .greatest l r, h, hn, hm => names_greatest m l r (names_spec n m l h.1 (by omega) (by omega)) (names_spec n m r h.2 (by omega) (by omega)) (small_names n l h.1 (by omega)) (by have := small_names2 n l h.1 (by omega); have := small_names2 n r h.2 (by omega); omega)
  | 0, _ + 1, .often k t, h, _, _ => h.elim
  | 0, _ + 1, .plus l r, h, _, _ => h.elim
  | 0, _ + 1, .less l r, h, _, _ => h.elim
  | 0, _ + 1, .least l r, h, _, _ => h.elim
  | 0, _ + 1, .greatest l r, h, _, _ => h.elim
/-! ### term_worth -/
theorem compGo_filter {vs : List Nat} {ft : D → DL.Env → Option DL.Env} {gt ge : Ev} {β : Type} {f : β → D} {p : β → Bool} {ρ : DL.Env} (h : ∀ b, ∃ ρ1, ft (f b) ρ = some ρ1 ∧ gt ρ1 = .ok (.val (.bl (p b))) ρ1 ∧ ge ρ1 = .ok (.val (f b)) ρ1 ∧ wipeE ρ1 vs = ρ) :
    ∀ l : List β, compGo vs ft gt ge (l.map f) ρ = some ((l.filter p).map f, ρ)
  | [] => rfl
  | b :: l => by
    obtain ⟨ρ1, h1, h2, h3, h4⟩ := h b
    have ih := compGo_filter h l
    rw [List.map_cons]
    unfold compGo
    rw [h1]
    dsimp only
    rw [h2]
    cases hp : p b with
    | true =>
      dsimp only
      rw [h3]
      simp [h4, ih, hp]
    | false =>
      dsimp only
      rw [h4, ih]
      simp [hp]
theorem pys_nds : ∀ l : List Bool, pys (nds l) = some (l.map fun b => PyData.str (nm b))
  | [] => rfl
  | b :: l => by
    have := pys_nds l
    simp only [nds, List.map_cons] at this ⊢
    simp [pys, py, this]
theorem lay_nds : ∀ l : List Bool, PyData.canLayAll0 (l.map fun b => PyData.str (nm b)) = true
  | [] => rfl
  | b :: l => by simp [PyData.canLayAll0, PyData.canLay0, lay_nm, lay_nds l]
theorem deep_nds : ∀ l : List Bool, PyData.depthAll (l.map fun b => PyData.str (nm b)) = 0
  | [] => rfl
  | b :: l => by simp [PyData.depthAll, PyData.depth, deep_nds l]
theorem eq_nds (l : List Bool) : eqD (.lst (nds l)) (.lst []) = some l.isEmpty := by
  show eqDeep (.lst (nds l)) (.lst []) = _
  unfold eqDeep
  have e1 : py (.lst (nds l)) = some (.list (l.map fun b => PyData.str (nm b))) := by simp [py, pys_nds]
  have e2 : py (.lst []) = some (.list []) := rfl
  have s1 : SeqAt.shaped (.list (l.map fun b => PyData.str (nm b))) = true := by simp [SeqAt.shaped, PyData.canLay0, lay_nds, PyData.depth, deep_nds]
  have s2 : SeqAt.shaped (.list []) = true := by decide +kernel
  rw [e1, e2]
  show (if SeqAt.shaped (.list (l.map fun b => PyData.str (nm b))) = true ∧ SeqAt.shaped (.list []) = true then some (PyData.eqv (.list (l.map fun b => PyData.str (nm b))) (.list [])) else none) = _
  rw [if_pos ⟨s1, s2⟩]
  cases l <;> simp [PyData.eqv, PyData.eqvAll]
theorem ne_nds (l : List Bool) : opNe (.lst (nds l)) (.lst []) = some (.val (.bl (!l.isEmpty))) := by unfold opNe; rw [eq_nds]; rfl
theorem eqq_nds (l : List Bool) : opEq (.lst (nds l)) (.lst []) = some (.val (.bl l.isEmpty)) := by unfold opEq; rw [eq_nds]; rfl
theorem is_index_int (i : Int) : d_is_index [.int i] = .ok (.val (.bl (decide (0 ≤ i)))) [.int i] := by
  unfold d_is_index dDef
  simp [argEnv, dVar_ap, passes, frz_loc, lents, backs, outsOf, is_number_int]
theorem is_index_bl (b : Bool) : d_is_index [.bl b] = .ok (.val (.bl false)) [.bl b] := by cases b <;> kernel_rfl
theorem is_name_a : d_is_name [.str ("a" : Str)] = .ok (.val (.bl true)) [.str ("a" : Str)] := by kernel_rfl
theorem is_name_b : d_is_name [.str ("b" : Str)] = .ok (.val (.bl true)) [.str ("b" : Str)] := by kernel_rfl
theorem is_name_c : d_is_name [.str ("c" : Str)] = .ok (.val (.bl true)) [.str ("c" : Str)] := by kernel_rfl
theorem fAll_bl (bs : List Bool) : fAll [.lst (bs.map .bl)] = some (.val (.bl (bs.all id))) := by
  show ((listOf [D.lst (bs.map .bl)]).bind boolsD).map (fun bs => RV.val (.bl (bs.all id))) = _
  show (boolsD (bs.map .bl)).map (fun bs => RV.val (.bl (bs.all id))) = _
  rw [bools_map]
  rfl
abbrev gItems : Ev := dLcD .items 1 [2, 3] (gtTup 2 (gtCons (gtName 2) (gtCons (gtName 3) gtNil))) dYes (dAndV (dCall [false] d_is_name (dCons (dVar 2) dNil)) (dCall [false] d_is_index (dCons (dVar 3) dNil)))
/-- what a dict says: are its values indexes, which names it has, their counts -/
structure Says (ks : List Key) (xs : List D) (idx : Bool) (has : Bool → Bool) (e : Bool → Int) : Prop where
  items : ∀ x : D, ∃ bs : List Bool, gItems [.val x, .val (.dic ks xs), .non, .non] = .ok (.new (.lst (bs.map .bl))) [.val x, .val (.dic ks xs), .non, .non] ∧ bs.all id = idx
  names : ∀ b, opNotIn (.str (nm b)) (.dic ks xs) = some (.val (.bl (!has b)))
  gets : idx = true → ∀ b, has b = true → dGet ks xs (.inr (nm b)) = some (.int (e b))
  small : ∀ b, 0 ≤ e b ∧ e b ≤ 60
abbrev gNames : Ev := dLc (iSeq (dCall [false] (d_names_in 12) (dCons (dVar 0) dNil))) [2] (gtName 2) (dOp2 opNotIn (dVar 2) (dVar 1)) (dVar 2)
theorem gNames_spec {ks : List Key} {xs : List D} {idx : Bool} {has : Bool → Bool} {e : Bool → Int} (s : Says ks xs idx has e) {t : Tm} (h : t.ok 3) : gNames [.val t.d, .val (.dic ks xs), .non, .non] = .ok (.new (.lst (nds ((nms t).filter fun b => !has b)))) [.val t.d, .val (.dic ks xs), .non, .non] := by
  have e1 := names_spec 3 12 t h (by omega) (by omega)
  have e2 := compGo_filter (vs := [2]) (ft := gtName 2) (gt := dOp2 opNotIn (dVar 2) (dVar 1)) (ge := dVar 2) (f := fun b => D.str (nm b)) (p := fun b => !has b) (ρ := [.val t.d, .val (.dic ks xs), .non, .non])
    (fun b => ⟨[.val t.d, .val (.dic ks xs), .val (.str (nm b)), .non], by simp [gtName, setV_ap], by simp [dVar_ap, s.names b], by simp [dVar_ap], by simp [wipeE]⟩) (nms t)
  have e3 : (nds (nms t)).length ≤ 1000000 := by rw [nds_len]; have := small_names 3 t h (by omega); omega
  unfold gNames dLc
  simp [iSeq, dVar_ap, passes, frz_loc, lents, backs, e1, seqOf, idle, Slot.owns, e3, wipeE]
  have e2' : compGo [2] (gtName 2) (dOp2 opNotIn (dVar 2) (dVar 1)) (dVar 2) (nds (nms t)) [.val t.d, .val (.dic ks xs), .non, .non] = some (nds ((nms t).filter fun b => !has b), [.val t.d, .val (.dic ks xs), .non, .non]) := e2
  rw [e2']
  simp [restE]
theorem filter_none (has : Bool → Bool) (l : List Bool) : (l.filter fun b => !has b).isEmpty = l.all has := by
  induction l with
  | nil => rfl
  | cons b l ih =>
    rw [List.filter_cons, List.all_cons]
    cases has b <;> simp [ih]
theorem term_worth_spec {ks : List Key} {xs : List D} {idx : Bool} {has : Bool → Bool} {e : Bool → Int} (s : Says ks xs idx has e) {t : Tm} (h : t.ok 3) :
    d_term_worth [t.d, .dic ks xs] = if (idx && (nms t).all has) = true then .ok (.val (.int (wv e t))) [t.d, .dic ks xs] else .ex ⟨.own "Nothing", []⟩ [t.d, .dic ks xs] := by
  have e1 := is_term_spec 3 12 t h (by omega) (by omega)
  obtain ⟨bs, e2, e3⟩ := s.items t.d
  have e4 := gNames_spec s h
  have e5 := ne_nds ((nms t).filter fun b => !has b)
  rw [filter_none] at e5
  have e6 := fAll_bl bs
  rw [e3] at e6
  unfold d_term_worth dDef
  cases idx with
  | false =>
    simp [argEnv, dVar_ap, passes, frz_loc, peek_loc, lents, backs, outsOf, e1, e2, e6]
  | true =>
    cases hf : (nms t).all has with
    | false =>
      rw [hf] at e5
      simp [argEnv, dVar_ap, passes, frz_loc, peek_loc, lents, backs, outsOf, e1, e2, e6, e4, e5]
    | true =>
      rw [hf] at e5
      have e7 := worth_spec ks xs e 3 12 t h (by omega) fun b hb => s.gets rfl b (List.all_eq_true.mp hf b hb)
      simp [argEnv, dVar_ap, passes, frz_loc, peek_loc, lents, backs, outsOf, e1, e2, e6, e4, e5, e7]
/-! ### the dicts -/
theorem walk_items {ks : List Key} {xs : List D} {x : D} : gItems [.val x, .val (.dic ks xs), .non, .non] = offEx (match compGo [2, 3] (gtTup 2 (gtCons (gtName 2) (gtCons (gtName 3) gtNil))) dYes (dAndV (dCall [false] d_is_name (dCons (dVar 2) dNil)) (dCall [false] d_is_index (dCons (dVar 3) dNil))) (walked .items ks xs) [.val x, .val (.dic ks xs), .non, .non] with
    | some (ys, ρ2) => if (walked .items ks xs).length ≤ 1000000 then .ok (.new (.lst ys)) (restE ρ2 [.val x, .val (.dic ks xs), .non, .non] [2, 3]) else .no
    | none => .no) := by
  unfold gItems dLcD dLc iDic dicAt
  simp [idle, Slot.owns, wipeE]
  cases compGo [2, 3] (gtTup 2 (gtCons (gtName 2) (gtCons (gtName 3) gtNil))) dYes (dAndV (dCall [false] d_is_name (dCons (dVar 2) dNil)) (dCall [false] d_is_index (dCons (dVar 3) dNil))) (walked .items ks xs) [.val x, .val (.dic ks xs), .non, .non] with
  | none => simp
  | some w => rfl
theorem items_counts (x y : Int) (hx : 0 ≤ x ∧ x ≤ 8) (hy : 0 ≤ y ∧ y ≤ 8) (z : D) : gItems [.val z, .val (.dic [.inr ("a" : Str), .inr ("b" : Str), .inr ("c" : Str)] [.int x, .int y, .int 3]), .non, .non] = .ok (.new (.lst (([true, true, true] : List Bool).map .bl))) [.val z, .val (.dic [.inr ("a" : Str), .inr ("b" : Str), .inr ("c" : Str)] [.int x, .int y, .int 3]), .non, .non] := by
  rw [walk_items]
  simp [walked, keyD, compGo, gtTup, gtCons, gtName, gtNil, dYes, wipeE, restE, offEx, argEnv, dVar_ap, passes, frz_loc, peek_loc, setV_ap, lents, backs, outsOf, is_name_a, is_name_b, is_name_c, is_index_int, is_index_bl, hx.1, hy.1]
theorem items_l1  (z : D) : gItems [.val z, .val (.dic [.inr ("a" : Str)] [.int 1]), .non, .non] = .ok (.new (.lst (([true] : List Bool).map .bl))) [.val z, .val (.dic [.inr ("a" : Str)] [.int 1]), .non, .non] := by
  rw [walk_items]
  simp [walked, keyD, compGo, gtTup, gtCons, gtName, gtNil, dYes, wipeE, restE, offEx, argEnv, dVar_ap, passes, frz_loc, peek_loc, setV_ap, lents, backs, outsOf, is_name_a, is_name_b, is_name_c, is_index_int, is_index_bl]
theorem items_l2  (z : D) : gItems [.val z, .val (.dic [.inr ("b" : Str), .inr ("c" : Str)] [.int 2, .int 1]), .non, .non] = .ok (.new (.lst (([true, true] : List Bool).map .bl))) [.val z, .val (.dic [.inr ("b" : Str), .inr ("c" : Str)] [.int 2, .int 1]), .non, .non] := by
  rw [walk_items]
  simp [walked, keyD, compGo, gtTup, gtCons, gtName, gtNil, dYes, wipeE, restE, offEx, argEnv, dVar_ap, passes, frz_loc, peek_loc, setV_ap, lents, backs, outsOf, is_name_a, is_name_b, is_name_c, is_index_int, is_index_bl]
theorem items_l3  (z : D) : gItems [.val z, .val (.dic [.inr ("a" : Str), .inr ("b" : Str)] [.int (-1), .int 1]), .non, .non] = .ok (.new (.lst (([false, true] : List Bool).map .bl))) [.val z, .val (.dic [.inr ("a" : Str), .inr ("b" : Str)] [.int (-1), .int 1]), .non, .non] := by
  rw [walk_items]
  simp [walked, keyD, compGo, gtTup, gtCons, gtName, gtNil, dYes, wipeE, restE, offEx, argEnv, dVar_ap, passes, frz_loc, peek_loc, setV_ap, lents, backs, outsOf, is_name_a, is_name_b, is_name_c, is_index_int, is_index_bl]
theorem items_l4  (z : D) : gItems [.val z, .val (.dic [.inr ("a" : Str), .inr ("b" : Str)] [.int 1, .bl true]), .non, .non] = .ok (.new (.lst (([true, false] : List Bool).map .bl))) [.val z, .val (.dic [.inr ("a" : Str), .inr ("b" : Str)] [.int 1, .bl true]), .non, .non] := by
  rw [walk_items]
  simp [walked, keyD, compGo, gtTup, gtCons, gtName, gtNil, dYes, wipeE, restE, offEx, argEnv, dVar_ap, passes, frz_loc, peek_loc, setV_ap, lents, backs, outsOf, is_name_a, is_name_b, is_name_c, is_index_int, is_index_bl]
theorem items_l5  (z : D) : gItems [.val z, .val (.dic [] []), .non, .non] = .ok (.new (.lst (([] : List Bool).map .bl))) [.val z, .val (.dic [] []), .non, .non] := by
  rw [walk_items]
  simp [walked, keyD, compGo, gtTup, gtCons, gtName, gtNil, dYes, wipeE, restE, offEx, argEnv, dVar_ap, passes, frz_loc, peek_loc, setV_ap, lents, backs, outsOf, is_name_a, is_name_b, is_name_c, is_index_int, is_index_bl]
theorem says_counts (x y : Int) (hx : 0 ≤ x ∧ x ≤ 8) (hy : 0 ≤ y ∧ y ≤ 8) : Says [.inr ("a" : Str), .inr ("b" : Str), .inr ("c" : Str)] [.int x, .int y, .int 3] true (fun _ => true) (fun b => if b then y else x) :=
  ⟨fun z => ⟨[true, true, true], items_counts x y hx hy z, rfl⟩, fun b => by cases b <;> kernel_rfl, (fun _ b h => by cases b <;> first | exact absurd h (by decide) | kernel_rfl), fun b => by cases b <;> (constructor <;> simp <;> omega)⟩
theorem says_l1  : Says [.inr ("a" : Str)] [.int 1] true (fun b => !b) (fun b => if b then 0 else 1) :=
  ⟨fun z => ⟨[true], items_l1 z, rfl⟩, fun b => by cases b <;> kernel_rfl, (fun _ b h => by cases b <;> first | exact absurd h (by decide) | kernel_rfl), fun b => by cases b <;> decide⟩
theorem says_l2  : Says [.inr ("b" : Str), .inr ("c" : Str)] [.int 2, .int 1] true (fun b => b) (fun b => if b then 2 else 0) :=
  ⟨fun z => ⟨[true, true], items_l2 z, rfl⟩, fun b => by cases b <;> kernel_rfl, (fun _ b h => by cases b <;> first | exact absurd h (by decide) | kernel_rfl), fun b => by cases b <;> decide⟩
theorem says_l3  : Says [.inr ("a" : Str), .inr ("b" : Str)] [.int (-1), .int 1] false (fun _ => true) (fun b => if b then 1 else 1) :=
  ⟨fun z => ⟨[false, true], items_l3 z, rfl⟩, fun b => by cases b <;> kernel_rfl, (fun h => by cases h), fun b => by cases b <;> decide⟩
theorem says_l4  : Says [.inr ("a" : Str), .inr ("b" : Str)] [.int 1, .bl true] false (fun _ => true) (fun b => if b then 1 else 1) :=
  ⟨fun z => ⟨[true, false], items_l4 z, rfl⟩, fun b => by cases b <;> kernel_rfl, (fun h => by cases h), fun b => by cases b <;> decide⟩
theorem says_l5  : Says [] [] true (fun _ => false) (fun _ => 0) :=
  ⟨fun z => ⟨[], items_l5 z, rfl⟩, fun b => by cases b <;> kernel_rfl, (fun _ b h => by cases b <;> first | exact absurd h (by decide) | kernel_rfl), fun b => by cases b <;> decide⟩
/-! ### heard -/
def told (v : Int) : D := .tup [.str "told", .int v]
def noth : D := .tup [.str "nothing"]
theorem worth_none {t : Tm} (h : t.ok 3) : d_term_worth [t.d, .non] = .ex ⟨.own "Nothing", []⟩ [t.d, .non] := by
  have e1 := is_term_spec 3 12 t h (by omega) (by omega)
  unfold d_term_worth dDef
  simp [argEnv, dVar_ap, passes, frz_loc, peek_loc, setV_ap, lents, backs, outsOf, e1]
theorem odd_non : d_is_term 12 [.non] = .ok (.val (.bl false)) [.non] := by kernel_rfl
theorem odd_nil : d_is_term 12 [.tup []] = .ok (.val (.bl false)) [.tup []] := by kernel_rfl
theorem odd_of : d_is_term 12 [.tup [.str "of"]] = .ok (.val (.bl false)) [.tup [.str "of"]] := by kernel_rfl
theorem odd_ten : d_is_term 12 [.tup [.str "number", .int 10]] = .ok (.val (.bl false)) [.tup [.str "number", .int 10]] := by kernel_rfl
theorem worded_gen {w : Str} {rest ws : List D} {b : Bool} (ne : opNe (.tup (.str w :: rest)) (.tup []) = some (.val (.bl true))) (hm : memD (.str w) (.tup ws) = some b) : d_is_worded [.tup (.str w :: rest), .tup ws] = .ok (.val (.bl b)) [.tup (.str w :: rest), .tup ws] := by
  have hi : opIn (.str w) (.tup ws) = some (.val (.bl b)) := by unfold opIn; rw [hm]; rfl
  unfold d_is_worded dDef
  simp [argEnv, dVar_ap, ne, atI_zero, hi, outsOf]
theorem odd_plus {t : Tm} (h : t.ok 3) : d_is_term 12 [.tup [.str "plus", t.d]] = .ok (.val (.bl false)) [.tup [.str "plus", t.d]] := by
  have s : SeqAt.shaped (.tuple [.str "plus", t.p]) = true := by
    have h1 := tm_lay t
    have h2 := tm_deep 3 t h
    simp [SeqAt.shaped, PyData.canLay0, PyData.canLayAll0, lay_w, h1, PyData.depth, PyData.depthAll]
    omega
  have ne : opNe (.tup [.str "plus", t.d]) (.tup []) = some (.val (.bl true)) := by
    have e : eqDeep (.tup [.str "plus", t.d]) (.tup []) = some false := by
      unfold eqDeep
      have e1 : py (.tup [.str "plus", t.d]) = some (.tuple [.str "plus", t.p]) := by simp [py, pys, tm_py]
      have e2 : py (.tup []) = some (.tuple []) := rfl
      have s2 : SeqAt.shaped (.tuple []) = true := by decide +kernel
      rw [e1, e2]
      show (if SeqAt.shaped (.tuple [.str "plus", t.p]) = true ∧ SeqAt.shaped (.tuple []) = true then some (PyData.eqv (.tuple [.str "plus", t.p]) (.tuple [])) else none) = some false
      rw [if_pos ⟨s, s2⟩]
      simp [PyData.eqv, PyData.eqvAll]
    unfold opNe
    have e3 : eqD (.tup [.str "plus", t.d]) (.tup []) = some false := e
    rw [e3]
    rfl
  have e1 := worded_gen (rest := [t.d]) ne m_plus_number
  have e2 := worded_gen (rest := [t.d]) ne m_plus_of
  have e3 := worded_gen (rest := [t.d]) ne m_plus_often
  have e4 := worded_gen (rest := [t.d]) ne m_plus_pairs
  unfold d_is_term dDef
  simp [argEnv, dVar_ap, passes, frz_loc, peek_loc, setV_ap, lents, backs, outsOf, atI_zero, e1, e2, e3, e4, k_PAIRS]
/-! ### alike -/
theorem log_small {i : Int} (h0 : 0 ≤ i) (h1 : i < 10000) : i.natAbs.log2 < 1920 := by
  have : i.natAbs.log2 ≤ i.natAbs := Nat.log2_le_self _
  by_cases h : i.natAbs = 0
  · rw [h]; decide
  · have h2 : i.natAbs < 2 ^ 14 := by omega
    have := (Nat.log2_lt h).mpr h2
    omega
theorem shown_small {i : Int} (h0 : 0 ≤ i) (h1 : i < 10000) : (PyData.shown (.tuple [.str "told", .int i])).length ≤ sizeLine := by
  have hl : PyData.layable0 (.tuple [.str "told", .int i]) = true := by
    have e1 : PyData.strOk ("told" : Str) = true := by decide +kernel
    have e2 : (Str.ofString "told").cps.size = 4 := by decide +kernel
    have := log_small h0 h1
    simp [PyData.layable0, PyData.canLay0, PyData.canLayAll0, e1, PyData.depth, PyData.depthAll, PyData.weight, PyData.weightAll, e2]
    split <;> omega
  have hi : PyData.intsShort 13 (.tuple [.str "told", .int i]) = true := by
    have e1 : (Str.ofString (toString i)).length ≤ 13 := Nat.le_trans (PyProof.Rows.toString_length_le h0 (k := 4) (by decide) (by omega)) (by decide)
    simp [PyData.intsShort, PyData.intsShortAll, PyData.shown]
    exact e1
  have := PyProof.Rows.shown_le13 hl hi
  rw [sizeLine_eq]
  omega
theorem alike_self {d : D} {p : PyData} (h1 : py d = some p) (h2 : p.showable = true) (h3 : p.depth ≤ 64) (h4 : p.shown.length ≤ sizeLine) (h5 : eqD d d = some true) : d__law_alike [d, d] = .ok (.val (.bl true)) [d, d] := by
  have e1 : fRepr [d] = some (.val (.str p.shown)) := by
    unfold fRepr
    simp [h1, h2, h3, h4]
  have e2 : opEq d d = some (.val (.bl true)) := by unfold opEq; rw [h5]; rfl
  unfold d__law_alike dDef
  simp [argEnv, dVar_ap, passes, frz_loc, peek_loc, setV_ap, lents, backs, outsOf, e1, e2]
theorem alike_told {i : Int} (h0 : 0 ≤ i) (h1 : i < 10000) : d__law_alike [told i, told i] = .ok (.val (.bl true)) [told i, told i] := by
  have e1 : PyData.strOk ("told" : Str) = true := by decide +kernel
  refine alike_self (p := .tuple [.str "told", .int i]) rfl ?_ (by simp [PyData.depth, PyData.depthAll]) (shown_small h0 h1) ?_
  · simp [PyData.showable, PyData.showableAll, log_small h0 h1]
  · have s : SeqAt.shaped (.tuple [.str "told", .int i]) = true := by simp [SeqAt.shaped, PyData.canLay0, PyData.canLayAll0, e1, PyData.depth, PyData.depthAll]
    show eqDeep (told i) (told i) = _
    unfold eqDeep
    have e2 : py (told i) = some (.tuple [.str "told", .int i]) := rfl
    rw [e2]
    show (if SeqAt.shaped (.tuple [.str "told", .int i]) = true ∧ SeqAt.shaped (.tuple [.str "told", .int i]) = true then some (PyData.eqv (.tuple [.str "told", .int i]) (.tuple [.str "told", .int i])) else none) = _
    rw [if_pos ⟨s, s⟩]
    simp [PyData.eqv, PyData.eqvAll]
theorem alike_noth : d__law_alike [noth, noth] = .ok (.val (.bl true)) [noth, noth] := by kernel_rfl
theorem wv_small (e : Bool → Int) (he : ∀ b, 0 ≤ e b ∧ e b ≤ 60) : ∀ (n : Nat) (t : Tm), t.ok n → 0 ≤ wv e t ∧ wv e t ≤ 60 * 2 ^ n
  | n, .num k, h => by
    have hk : 0 ≤ k ∧ k < 3 := by cases n <;> exact h
    have : (1 : Int) ≤ 2 ^ n := by exact_mod_cast Nat.one_le_two_pow
    simp only [wv]; omega
  | n, .of b, _ => by
    have := he b
    have : (1 : Int) ≤ 2 ^ n := by exact_mod_cast Nat.one_le_two_pow
    simp only [wv]; omega
  | n + 1, .often k t, h => by
    obtain ⟨h1, h2⟩ := wv_small e he n t h.2
    have hk := h.1
    have e1 : (2 : Int) ^ (n + 1) = 2 * 2 ^ n := by rw [Int.pow_succ, Int.mul_comm]
    simp only [wv, e1]
    have : k = 0 ∨ k = 1 ∨ k = 2 := by omega
    rcases this with rfl | rfl | rfl <;> omega
  | n + 1, .plus l r, h => by
    obtain ⟨h1, h2⟩ := wv_small e he n l h.1
    obtain ⟨h3, h4⟩ := wv_small e he n r h.2
    have e1 : (2 : Int) ^ (n + 1) = 2 * 2 ^ n := by rw [Int.pow_succ, Int.mul_comm]
    simp only [wv, e1]
    omega
  | n + 1, .less l r, h => by
    obtain ⟨h1, h2⟩ := wv_small e he n l h.1
    obtain ⟨h3, h4⟩ := wv_small e he n r h.2
    have e1 : (2 : Int) ^ (n + 1) = 2 * 2 ^ n := by rw [Int.pow_succ, Int.mul_comm]
    simp only [wv, e1]
    split <;> omega
  | n + 1, .least l r, h => by
    obtain ⟨h1, h2⟩ := wv_small e he n l h.1
    obtain ⟨h3, h4⟩ := wv_small e he n r h.2
    have e1 : (2 : Int) ^ (n + 1) = 2 * 2 ^ n := by rw [Int.pow_succ, Int.mul_comm]
    simp only [wv, e1]
    split <;> omega
  | n + 1, .greatest l r, h => by
    obtain ⟨h1, h2⟩ := wv_small e he n l h.1
    obtain ⟨h3, h4⟩ := wv_small e he n r h.2
    have e1 : (2 : Int) ^ (n + 1) = 2 * 2 ^ n := by rw [Int.pow_succ, Int.mul_comm]
    simp only [wv, e1]
    split <;> omega
  | 0, .often k t, h => h.elim
  | 0, .plus l r, h => h.elim
  | 0, .less l r, h => h.elim
  | 0, .least l r, h => h.elim
  | 0, .greatest l r, h => h.elim
theorem wv_line {ks : List Key} {xs : List D} {idx : Bool} {has : Bool → Bool} {e : Bool → Int} (s : Says ks xs idx has e) {t : Tm} (h : t.ok 3) : 0 ≤ wv e t ∧ wv e t < 10000 := by
  have := wv_small e s.small 3 t h
  omega
/-! ### a drawn term -/
def Drawn (cs : List Int) (n m : Nat) (deep : Int) : Prop := ∀ a b c : Int, ∃ t a' b' c', Tm.ok n t ∧ d__law_drawn_term m [bagD a b c cs, .int deep] = .ok (.val t.d) [bagD a' b' c' cs, .int deep]
section
variable {cs : List Int} (hc : cs.length ≤ 1000) {n m : Nat} {deep : Int}
include hc
theorem drawn_base (hd : ¬ 0 < deep) : Drawn cs 0 (m + 1) deep := by
  intro a b c
  obtain ⟨w, a1, b1, c1, hw, e1⟩ := some_spec a b c cs [.str "of", .str "of", .str "number"] hc (by decide) (by decide)
  obtain ⟨x, a2, b2, c2, hx, e2⟩ := some_spec a1 b1 c1 cs [.str "a", .str "b"] hc (by decide) (by decide)
  obtain ⟨r, a3, b3, c3, r0, r1, e3⟩ := take_spec a1 b1 c1 cs 3 hc (by decide) (by decide)
  simp only [List.mem_cons, List.not_mem_nil, or_false] at hw hx
  rcases hw with rfl | rfl | rfl
  · rcases hx with rfl | rfl
    · refine ⟨.of false, a2, b2, c2, trivial, ?_⟩
      unfold d__law_drawn_term dDef
      simp [argEnv, dVar_ap, passes, frz_loc, peek_loc, setV_ap, lents, backs, outsOf, setO, hd, e1, e2, Tm.d, nm]
    · refine ⟨.of true, a2, b2, c2, trivial, ?_⟩
      unfold d__law_drawn_term dDef
      simp [argEnv, dVar_ap, passes, frz_loc, peek_loc, setV_ap, lents, backs, outsOf, setO, hd, e1, e2, Tm.d, nm]
  · rcases hx with rfl | rfl
    · refine ⟨.of false, a2, b2, c2, trivial, ?_⟩
      unfold d__law_drawn_term dDef
      simp [argEnv, dVar_ap, passes, frz_loc, peek_loc, setV_ap, lents, backs, outsOf, setO, hd, e1, e2, Tm.d, nm]
    · refine ⟨.of true, a2, b2, c2, trivial, ?_⟩
      unfold d__law_drawn_term dDef
      simp [argEnv, dVar_ap, passes, frz_loc, peek_loc, setV_ap, lents, backs, outsOf, setO, hd, e1, e2, Tm.d, nm]
  · refine ⟨.num r, a3, b3, c3, ⟨r0, r1⟩, ?_⟩
    unfold d__law_drawn_term dDef
    simp [argEnv, dVar_ap, passes, frz_loc, peek_loc, setV_ap, lents, backs, outsOf, setO, hd, e1, e3, Tm.d]
theorem drawn_step (hd : 0 < deep) (ih : Drawn cs n m (deep - 1)) : Drawn cs (n + 1) (m + 1) deep := by
  intro a b c
  obtain ⟨w, a1, b1, c1, hw, e1⟩ := some_spec a b c cs [.str "of", .str "of", .str "of", .str "number", .str "plus", .str "less", .str "least", .str "greatest", .str "often"] hc (by decide) (by decide)
  obtain ⟨x, a2, b2, c2, hx, e2⟩ := some_spec a1 b1 c1 cs [.str "a", .str "b"] hc (by decide) (by decide)
  obtain ⟨r, a3, b3, c3, r0, r1, e3⟩ := take_spec a1 b1 c1 cs 3 hc (by decide) (by decide)
  obtain ⟨t1, a4, b4, c4, ok1, e4⟩ := ih a1 b1 c1
  obtain ⟨t2, a5, b5, c5, ok2, e5⟩ := ih a4 b4 c4
  obtain ⟨t3, a6, b6, c6, ok3, e6⟩ := ih a3 b3 c3
  simp only [List.mem_cons, List.not_mem_nil, or_false] at hw hx
  rcases hw with rfl | rfl | rfl | rfl | rfl | rfl | rfl | rfl | rfl
  all_goals first
    | (rcases hx with rfl | rfl
       · refine ⟨.of false, a2, b2, c2, trivial, ?_⟩
         unfold d__law_drawn_term dDef
         simp [argEnv, dVar_ap, passes, frz_loc, peek_loc, setV_ap, lents, backs, outsOf, setO, hd, e1, e2, Tm.d, nm]
         done
       · refine ⟨.of true, a2, b2, c2, trivial, ?_⟩
         unfold d__law_drawn_term dDef
         simp [argEnv, dVar_ap, passes, frz_loc, peek_loc, setV_ap, lents, backs, outsOf, setO, hd, e1, e2, Tm.d, nm]
         done)
    | (refine ⟨.num r, a3, b3, c3, ⟨r0, r1⟩, ?_⟩
       unfold d__law_drawn_term dDef
       simp [argEnv, dVar_ap, passes, frz_loc, peek_loc, setV_ap, lents, backs, outsOf, setO, hd, e1, e3, Tm.d]
       done)
    | (refine ⟨.often r t3, a6, b6, c6, ⟨⟨r0, r1⟩, ok3⟩, ?_⟩
       unfold d__law_drawn_term dDef
       simp [argEnv, dVar_ap, passes, frz_loc, peek_loc, setV_ap, lents, backs, outsOf, setO, hd, e1, e3, e6, Tm.d]
       done)
    | (refine ⟨.plus t1 t2, a5, b5, c5, ⟨ok1, ok2⟩, ?_⟩
       unfold d__law_drawn_term dDef
       simp [argEnv, dVar_ap, passes, frz_loc, peek_loc, setV_ap, lents, backs, outsOf, setO, hd, e1, e4, e5, Tm.d]
       done)
    | (refine ⟨.less t1 t2, a5, b5, c5, ⟨ok1, ok2⟩, ?_⟩
       unfold d__law_drawn_term dDef
       simp [argEnv, dVar_ap, passes, frz_loc, peek_loc, setV_ap, lents, backs, outsOf, setO, hd, e1, e4, e5, Tm.d]
       done)
    | (refine ⟨.least t1 t2, a5, b5, c5, ⟨ok1, ok2⟩, ?_⟩
       unfold d__law_drawn_term dDef
       simp [argEnv, dVar_ap, passes, frz_loc, peek_loc, setV_ap, lents, backs, outsOf, setO, hd, e1, e4, e5, Tm.d]
       done)
    | (refine ⟨.greatest t1 t2, a5, b5, c5, ⟨ok1, ok2⟩, ?_⟩
       unfold d__law_drawn_term dDef
       simp [argEnv, dVar_ap, passes, frz_loc, peek_loc, setV_ap, lents, backs, outsOf, setO, hd, e1, e4, e5, Tm.d]
       done)
theorem drawn_spec : Drawn cs 3 12 3 := by
  have h0 : Drawn cs 0 9 0 := drawn_base hc (by decide)
  have h1 : Drawn cs 1 10 1 := drawn_step hc (by decide) h0
  have h2 : Drawn cs 2 11 2 := drawn_step hc (by decide) h1
  exact drawn_step hc (by decide) h2
end
end K22

/-! law_k22: lines and pieces, plainly. -/
namespace K22
open PySem PySem.Spec L2 DL
structure Ln where
  c : Int
  p : Int
  q : Int
deriving DecidableEq
def Ln.d (l : Ln) : D := .tup [.int l.c, .tup [.int l.p, .int l.q]]
def Ln.v (l : Ln) (x y : Int) : Int := l.c + (l.p * x + l.q * y)
def Ln.plus (l m : Ln) : Ln := ⟨l.c + m.c, l.p + m.p, l.q + m.q⟩
def Ln.times (k : Int) (l : Ln) : Ln := ⟨k * l.c, k * l.p, k * l.q⟩
def Ln.less (l m : Ln) : Ln := l.plus (m.times (-1))
def Ln.below (l m : Ln) : Ln := ⟨(m.less l).c - 1, (m.less l).p, (m.less l).q⟩
def Ln.never (l : Ln) : Bool := decide (l.c < 0) && (decide (l.p ≤ 0) && decide (l.q ≤ 0))
def Ln.plain (l : Ln) : Bool := decide (0 ≤ l.c) && (decide (0 ≤ l.p) && decide (0 ≤ l.q))
def withL (o : Option (List Ln)) (l : Ln) : Option (List Ln) := match o with
  | none => none
  | some ls => if l.never then none else if l.plain || decide (l ∈ ls) then some ls else some (ls ++ [l])
abbrev Pc := List Ln × Ln
def nought : Ln := ⟨0, 0, 0⟩
def wide (f s : Pc) : Option (List Ln) := s.1.foldl withL (some f.1)
def keepP (o : Option (List Ln)) (l : Ln) : List Pc := match o with
  | some ls => [(ls, l)]
  | none => []
inductive Wd where | less | least | greatest
def chosenP (w : Wd) (f s : Pc) : List Pc :=
  keepP (withL (wide f s) (f.2.less s.2)) (match w with | .less => f.2.less s.2 | .least => s.2 | .greatest => f.2) ++
  keepP (withL (wide f s) (f.2.below s.2)) (match w with | .less => nought | .least => f.2 | .greatest => s.2)
def bothP (f s : Pc) : List Pc := keepP (wide f s) (f.2.plus s.2)
def piecesP : Tm → List Pc
  | .num k => [([], ⟨k, 0, 0⟩)]
  | .of b => [([], if b then ⟨0, 0, 1⟩ else ⟨0, 1, 0⟩)]
  | .often k t => (piecesP t).map fun p => (p.1, p.2.times k)
  | .plus l r => (piecesP l).flatMap fun f => (piecesP r).flatMap fun s => bothP f s
  | .less l r => (piecesP l).flatMap fun f => (piecesP r).flatMap fun s => chosenP .less f s
  | .least l r => (piecesP l).flatMap fun f => (piecesP r).flatMap fun s => chosenP .least f s
  | .greatest l r => (piecesP l).flatMap fun f => (piecesP r).flatMap fun s => chosenP .greatest f s
section
variable {x y : Int}
def sat (x y : Int) (ls : List Ln) : Bool := ls.all fun l => decide (0 ≤ l.v x y)
def satO (x y : Int) (o : Option (List Ln)) : Bool := match o with
  | none => false
  | some ls => sat x y ls
theorem v_plus (l m : Ln) : (l.plus m).v x y = l.v x y + m.v x y := by simp only [Ln.v, Ln.plus, Int.add_mul]; omega
theorem v_times (k : Int) (l : Ln) : (l.times k).v x y = k * l.v x y := by simp only [Ln.v, Ln.times, Int.mul_add, Int.mul_assoc]
theorem v_less (l m : Ln) : (l.less m).v x y = l.v x y - m.v x y := by unfold Ln.less; rw [v_plus, v_times]; omega
theorem v_below (l m : Ln) : (l.below m).v x y = m.v x y - l.v x y - 1 := by
  have := v_less (x := x) (y := y) m l
  simp only [Ln.v, Ln.below] at this ⊢
  omega
theorem v_nought : nought.v x y = 0 := by simp [Ln.v, nought]
theorem never_v {l : Ln} (hx : 0 ≤ x) (hy : 0 ≤ y) (h : l.never = true) : ¬ 0 ≤ l.v x y := by
  simp only [Ln.never, Bool.and_eq_true, decide_eq_true_eq] at h
  have h1 := Int.mul_nonpos_of_nonpos_of_nonneg h.2.1 hx
  have h2 := Int.mul_nonpos_of_nonpos_of_nonneg h.2.2 hy
  unfold Ln.v
  omega
theorem plain_v {l : Ln} (hx : 0 ≤ x) (hy : 0 ≤ y) (h : l.plain = true) : 0 ≤ l.v x y := by
  simp only [Ln.plain, Bool.and_eq_true, decide_eq_true_eq] at h
  have h1 := Int.mul_nonneg h.2.1 hx
  have h2 := Int.mul_nonneg h.2.2 hy
  unfold Ln.v
  omega
theorem satO_with (hx : 0 ≤ x) (hy : 0 ≤ y) (o : Option (List Ln)) (l : Ln) : satO x y (withL o l) = (satO x y o && decide (0 ≤ l.v x y)) := by
  cases o with
  | none => rfl
  | some ls =>
    unfold withL
    dsimp only
    by_cases h1 : l.never = true
    · rw [if_pos h1]
      have := never_v hx hy h1
      simp [satO, this]
    · rw [if_neg h1]
      by_cases h2 : (l.plain || decide (l ∈ ls)) = true
      · rw [if_pos h2]
        rw [Bool.or_eq_true] at h2
        rcases h2 with h2 | h2
        · have := plain_v hx hy h2
          simp [satO, this]
        · have h3 : l ∈ ls := of_decide_eq_true h2
          show sat x y ls = (sat x y ls && _)
          cases e : sat x y ls with
          | false => rfl
          | true =>
            have := List.all_eq_true.mp e l h3
            rw [this]
            rfl
      · rw [if_neg h2]
        simp [satO, sat, List.all_append]
theorem satO_fold (hx : 0 ≤ x) (hy : 0 ≤ y) : ∀ (ls : List Ln) (o : Option (List Ln)), satO x y (ls.foldl withL o) = (satO x y o && sat x y ls)
  | [], o => by simp [sat]
  | l :: ls, o => by
    rw [List.foldl_cons, satO_fold hx hy ls, satO_with hx hy]
    simp [sat, Bool.and_assoc]
theorem satO_wide (hx : 0 ≤ x) (hy : 0 ≤ y) (f s : Pc) : satO x y (wide f s) = (sat x y f.1 && sat x y s.1) := satO_fold hx hy _ _
theorem filter_keep (o : Option (List Ln)) (l : Ln) : ((keepP o l).filter fun p => sat x y p.1) = if satO x y o then keepP o l else [] := by
  cases o with
  | none => simp [keepP]
  | some ls =>
    show (List.filter _ [(ls, l)]) = if sat x y ls = true then [(ls, l)] else []
    cases h : sat x y ls <;> simp [List.filter, h]
/-- just one of them holds, and it is worth v -/
def One (x y : Int) (ps : List Pc) (v : Int) : Prop := ∃ p, (ps.filter fun p => sat x y p.1) = [p] ∧ p.2.v x y = v
theorem keep_of {o : Option (List Ln)} {l : Ln} (h : satO x y o = true) : ∃ ls, keepP o l = [(ls, l)] := by
  cases o with
  | none => cases h
  | some ls => exact ⟨ls, rfl⟩
theorem both_one (hx : 0 ≤ x) (hy : 0 ≤ y) (f s : Pc) (hf : sat x y f.1 = true) (hs : sat x y s.1 = true) : One x y (bothP f s) (f.2.v x y + s.2.v x y) := by
  have h : satO x y (wide f s) = true := by rw [satO_wide hx hy, hf, hs]; rfl
  obtain ⟨ls, e⟩ := keep_of (l := f.2.plus s.2) h
  refine ⟨(ls, f.2.plus s.2), ?_, v_plus _ _⟩
  unfold bothP
  rw [filter_keep, if_pos h, e]
theorem both_off (hx : 0 ≤ x) (hy : 0 ≤ y) (f s : Pc) (h : (sat x y f.1 && sat x y s.1) = false) : ((bothP f s).filter fun p => sat x y p.1) = [] := by
  unfold bothP
  rw [filter_keep, satO_wide hx hy, h]
  rfl
def Wd.of (w : Wd) (i j : Int) : Int := match w with
  | .less => if j ≤ i then i - j else 0
  | .least => if j ≤ i then j else i
  | .greatest => if j ≤ i then i else j
theorem chosen_one (hx : 0 ≤ x) (hy : 0 ≤ y) (w : Wd) (f s : Pc) (hf : sat x y f.1 = true) (hs : sat x y s.1 = true) : One x y (chosenP w f s) (w.of (f.2.v x y) (s.2.v x y)) := by
  have h : satO x y (wide f s) = true := by rw [satO_wide hx hy, hf, hs]; rfl
  have a1 : satO x y (withL (wide f s) (f.2.less s.2)) = decide (s.2.v x y ≤ f.2.v x y) := by
    rw [satO_with hx hy, h, v_less, Bool.true_and, decide_eq_decide]; omega
  have a2 : satO x y (withL (wide f s) (f.2.below s.2)) = decide (¬ s.2.v x y ≤ f.2.v x y) := by
    rw [satO_with hx hy, h, v_below, Bool.true_and, decide_eq_decide]; omega
  unfold One chosenP
  rw [List.filter_append, filter_keep, filter_keep]
  by_cases c : s.2.v x y ≤ f.2.v x y
  · rw [decide_eq_true c] at a1
    rw [decide_eq_false (by omega)] at a2
    obtain ⟨ls, e⟩ := keep_of (l := match w with | .less => f.2.less s.2 | .least => s.2 | .greatest => f.2) a1
    rw [a1, a2, e]
    refine ⟨_, rfl, ?_⟩
    cases w
    · show (f.2.less s.2).v x y = if _ then _ else _
      rw [if_pos c, v_less]
    · exact (if_pos c).symm
    · exact (if_pos c).symm
  · rw [decide_eq_false c] at a1
    rw [decide_eq_true c] at a2
    obtain ⟨ls, e⟩ := keep_of (l := match w with | .less => nought | .least => f.2 | .greatest => s.2) a2
    rw [a1, a2, e]
    refine ⟨_, rfl, ?_⟩
    cases w
    · show nought.v x y = if _ then _ else _
      rw [if_neg c, v_nought]
    · exact (if_neg c).symm
    · exact (if_neg c).symm
theorem chosen_off (hx : 0 ≤ x) (hy : 0 ≤ y) (w : Wd) (f s : Pc) (h : (sat x y f.1 && sat x y s.1) = false) : ((chosenP w f s).filter fun p => sat x y p.1) = [] := by
  unfold chosenP
  rw [List.filter_append, filter_keep, filter_keep, satO_with hx hy, satO_with hx hy, satO_wide hx hy, h]
  rfl
end
end K22

/-! law_k22: just one piece holds. -/
namespace K22
open PySem PySem.Spec L2 DL
theorem flat_filter {α β : Type} {c : α → Bool} {f : α → List β} (h : ∀ a, c a = false → f a = []) : ∀ l : List α, l.flatMap f = (l.filter c).flatMap f
  | [] => rfl
  | a :: l => by
    cases e : c a with
    | false => rw [List.flatMap_cons, h a e, List.filter_cons, if_neg (by rw [e]; decide), flat_filter h l]; rfl
    | true => rw [List.flatMap_cons, List.filter_cons, if_pos e, List.flatMap_cons, flat_filter h l]
theorem prod_one {x y v u : Int} {ps qs : List Pc} {h : Pc → Pc → List Pc} {g : Int → Int → Int} (hp : One x y ps v) (hq : One x y qs u)
    (on : ∀ f s, sat x y f.1 = true → sat x y s.1 = true → One x y (h f s) (g (f.2.v x y) (s.2.v x y))) (off : ∀ f s, (sat x y f.1 && sat x y s.1) = false → ((h f s).filter fun p => sat x y p.1) = []) :
    One x y (ps.flatMap fun f => qs.flatMap fun s => h f s) (g v u) := by
  obtain ⟨f, ef, vf⟩ := hp
  obtain ⟨s, es, vs⟩ := hq
  have sf : sat x y f.1 = true := (List.mem_filter.mp (ef ▸ List.mem_cons_self : f ∈ ps.filter fun p => sat x y p.1)).2
  have ss : sat x y s.1 = true := (List.mem_filter.mp (es ▸ List.mem_cons_self : s ∈ qs.filter fun p => sat x y p.1)).2
  have key : ((ps.flatMap fun f => qs.flatMap fun s => h f s).filter fun p => sat x y p.1) = (h f s).filter fun p => sat x y p.1 := by
    rw [List.filter_flatMap]
    rw [flat_filter (c := fun p : Pc => sat x y p.1) ?_ ps, ef, List.flatMap_cons, List.flatMap_nil, List.append_nil, List.filter_flatMap]
    · rw [flat_filter (c := fun p : Pc => sat x y p.1) ?_ qs, es, List.flatMap_cons, List.flatMap_nil, List.append_nil]
      intro s' e
      exact off f s' (by rw [e, Bool.and_false])
    · intro f' e
      show List.filter _ (qs.flatMap _) = []
      rw [List.filter_flatMap]
      have : ∀ s', (h f' s').filter (fun p => sat x y p.1) = [] := fun s' => off f' s' (by have e' : sat x y f'.1 = false := e; rw [e', Bool.false_and])
      simp only [this]
      induction qs <;> simp_all
  obtain ⟨p, ep, vp⟩ := on f s sf ss
  exact ⟨p, key.trans ep, by rw [vp, vf, vs]⟩
theorem pieces_one {x y : Int} (hx : 0 ≤ x) (hy : 0 ≤ y) : ∀ t : Tm, One x y (piecesP t) (wv (fun b => if b then y else x) t)
  | .num k => ⟨([], ⟨k, 0, 0⟩), rfl, by simp [Ln.v, wv]⟩
  | .of b => ⟨([], if b then ⟨0, 0, 1⟩ else ⟨0, 1, 0⟩), rfl, by cases b <;> simp [Ln.v, wv]⟩
  | .often k t => by
    obtain ⟨p, e, v⟩ := pieces_one hx hy t
    refine ⟨(p.1, p.2.times k), ?_, ?_⟩
    · show (List.filter _ (List.map _ (piecesP t))) = _
      rw [List.filter_map]
      show List.map _ (List.filter (fun p => sat x y p.1) (piecesP t)) = _
      rw [e]
      rfl
    · rw [v_times, v]
      rfl
  | .plus l r => prod_one (g := fun i j => i + j) (pieces_one hx hy l) (pieces_one hx hy r) (both_one hx hy) (both_off hx hy)
  | .less l r => by
    have := prod_one (g := Wd.less.of) (pieces_one hx hy l) (pieces_one hx hy r) (chosen_one hx hy .less) (chosen_off hx hy .less)
    have e : Wd.less.of (wv (fun b => if b then y else x) l) (wv (fun b => if b then y else x) r) = wv (fun b => if b then y else x) (.less l r) := by
      simp only [Wd.of, wv]; split <;> split <;> omega
    exact e ▸ this
  | .least l r => by
    have := prod_one (g := Wd.least.of) (pieces_one hx hy l) (pieces_one hx hy r) (chosen_one hx hy .least) (chosen_off hx hy .least)
    have e : Wd.least.of (wv (fun b => if b then y else x) l) (wv (fun b => if b then y else x) r) = wv (fun b => if b then y else x) (.least l r) := by
      simp only [Wd.of, wv]; split <;> split <;> omega
    exact e ▸ this
  | .greatest l r => by
    have := prod_one (g := Wd.greatest.of) (pieces_one hx hy l) (pieces_one hx hy r) (chosen_one hx hy .greatest) (chosen_off hx hy .greatest)
    have e : Wd.greatest.of (wv (fun b => if b then y else x) l) (wv (fun b => if b then y else x) r) = wv (fun b => if b then y else x) (.greatest l r) := by
      simp only [Wd.of, wv]; split <;> split <;> omega
    exact e ▸ this
end K22

/-! law_k22: what the defs over lines compute. -/
namespace K22
open PySem PySem.Spec L2 DL
theorem tuple_two (a b : D) : fTuple [.lst [a, b]] = some (.val (.tup [a, b])) := by kernel_rfl
theorem plus_line_spec (l m : Ln) : d_plus_line [l.d, m.d] = .ok (.val (l.plus m).d) [l.d, m.d] := by
  unfold d_plus_line dDef Ln.d Ln.plus
  simp [argEnv, dVar_ap, passes, frz_loc, peek_loc, lents, backs, outsOf, setO, setV_ap, dLc, iArgs, kZip, seqOf, idle, Slot.owns, wipeE, compGo, gtTup, gtCons, gtNil, gtName, dYes, restE, atI_zero, atI_one, tuple_two]
theorem times_line_spec (k : Int) (l : Ln) (h : -(2 ^ 64) < k ∧ k < 2 ^ 64) : d_times_line [.int k, l.d] = .ok (.val (l.times k).d) [.int k, l.d] := by
  unfold d_times_line dDef Ln.d Ln.times
  have e : ∀ j, CMul k j = True := fun j => by simp only [eq_iff_iff, iff_true]; exact .inl h
  simp [argEnv, dVar_ap, passes, frz_loc, peek_loc, lents, backs, outsOf, setO, setV_ap, dLc, iSeq, seqOf, idle, Slot.owns, wipeE, compGo, gtName, dYes, restE, atI_zero, atI_one, e, tuple_two]
theorem less_line_spec (l m : Ln) : d_less_line [l.d, m.d] = .ok (.val (l.less m).d) [l.d, m.d] := by
  have e1 := times_line_spec (-1) m (by decide)
  have e2 := plus_line_spec l (m.times (-1))
  unfold d_less_line dDef
  simp [argEnv, dVar_ap, passes, frz_loc, peek_loc, lents, backs, outsOf, setO, setV_ap, e1, e2]
  rfl
theorem below_line_spec (l m : Ln) : d_below_line [l.d, m.d] = .ok (.val (l.below m).d) [l.d, m.d] := by
  have e1 := less_line_spec m l
  have e2 : (m.less l).d = .tup [.int (m.less l).c, .tup [.int (m.less l).p, .int (m.less l).q]] := rfl
  unfold d_below_line dDef
  simp [argEnv, dVar_ap, passes, frz_loc, peek_loc, lents, backs, outsOf, setO, setV_ap, e1, e2, gtTup, gtCons, gtNil, gtName, seqOf]
  rfl
theorem plain_spec (l : Ln) : d_is_plainly [l.d] = .ok (.val (.bl l.plain)) [l.d] := by
  have e1 : opEq (.lst [.int l.p, .int l.q]) (.lst []) = some (.val (.bl false)) := by kernel_rfl
  have e2 : opEq (.lst [.int l.p]) (.lst []) = some (.val (.bl false)) := by kernel_rfl
  have e3 : opEq (.lst [.int l.q]) (.lst []) = some (.val (.bl false)) := by kernel_rfl
  have e4 : opEq (.lst []) (.lst []) = some (.val (.bl true)) := by kernel_rfl
  unfold d_is_plainly dDef Ln.d Ln.plain
  have g1 : (l.p < 0) = (¬ 0 ≤ l.p) := by simp
  have g2 : (l.q < 0) = (¬ 0 ≤ l.q) := by simp
  by_cases h0 : 0 ≤ l.c <;> by_cases h1 : 0 ≤ l.p <;> by_cases h2 : 0 ≤ l.q <;>
    simp [argEnv, dVar_ap, passes, frz_loc, peek_loc, lents, backs, outsOf, setO, setV_ap, dLc, iSeq, seqOf, idle, Slot.owns, wipeE, compGo, gtName, dYes, restE, atI_zero, atI_one, h0, h1, h2, g1, g2, e1, e2, e3, e4]
theorem never_spec (l : Ln) : d_is_never [l.d] = .ok (.val (.bl l.never)) [l.d] := by
  have e1 : opEq (.lst [.int l.p, .int l.q]) (.lst []) = some (.val (.bl false)) := by kernel_rfl
  have e2 : opEq (.lst [.int l.p]) (.lst []) = some (.val (.bl false)) := by kernel_rfl
  have e3 : opEq (.lst [.int l.q]) (.lst []) = some (.val (.bl false)) := by kernel_rfl
  have e4 : opEq (.lst []) (.lst []) = some (.val (.bl true)) := by kernel_rfl
  unfold d_is_never dDef Ln.d Ln.never
  have g1 : (0 < l.p) = (¬ l.p ≤ 0) := by simp
  have g2 : (0 < l.q) = (¬ l.q ≤ 0) := by simp
  by_cases h0 : l.c < 0 <;> by_cases h1 : l.p ≤ 0 <;> by_cases h2 : l.q ≤ 0 <;>
    simp [argEnv, dVar_ap, passes, frz_loc, peek_loc, lents, backs, outsOf, setO, setV_ap, dLc, iSeq, seqOf, idle, Slot.owns, wipeE, compGo, gtName, dYes, restE, atI_zero, atI_one, h0, h1, h2, g1, g2, e1, e2, e3, e4]
end K22

/-! law_k22: with_line, both, chosen. -/
namespace K22
open PySem PySem.Spec L2 DL
def Ln.py (l : Ln) : PyData := .tuple [.int l.c, .tuple [.int l.p, .int l.q]]
theorem pys_lines : ∀ ls : List Ln, pys (ls.map Ln.d) = some (ls.map Ln.py)
  | [] => rfl
  | l :: ls => by
    have e : py l.d = some l.py := rfl
    rw [List.map_cons]
    unfold pys
    rw [e, pys_lines ls]
    rfl
theorem lay_lines : ∀ ls : List Ln, PyData.canLayAll0 (ls.map Ln.py) = true
  | [] => rfl
  | l :: ls => by
    have e : l.py.canLay0 = true := by simp [Ln.py, PyData.canLay0, PyData.canLayAll0]
    simp [PyData.canLayAll0, e, lay_lines ls]
theorem deep_lines : ∀ ls : List Ln, PyData.depthAll (ls.map Ln.py) ≤ 2
  | [] => by simp [PyData.depthAll]
  | l :: ls => by
    have e : l.py.depth ≤ 2 := by simp [Ln.py, PyData.depth, PyData.depthAll]
    have := deep_lines ls
    simp [PyData.depthAll]
    omega
theorem eqv_line (l m : Ln) : PyData.eqv l.py m.py = decide (l = m) := by
  cases l; cases m
  simp [Ln.py, PyData.eqv, PyData.eqvAll, Bool.and_assoc]
  simp only [Bool.beq_eq_decide_eq, Bool.eq_iff_iff, Bool.and_eq_true, decide_eq_true_eq, beq_iff_eq]
theorem mem_line (l : Ln) (ls : List Ln) : memD l.d (.tup (ls.map Ln.d)) = some (decide (l ∈ ls)) := by
  have e1 : py l.d = some l.py := rfl
  have s1 : SeqAt.shaped l.py = true := by simp [SeqAt.shaped, Ln.py, PyData.canLay0, PyData.canLayAll0, PyData.depth, PyData.depthAll]
  have s2 : SeqAt.shaped (.tuple (ls.map Ln.py)) = true := by
    have := deep_lines ls
    simp [SeqAt.shaped, PyData.canLay0, PyData.depth, lay_lines ls]
    omega
  show among l.d (ls.map Ln.d) .tuple = _
  unfold among
  rw [e1, pys_lines]
  dsimp only
  rw [if_pos ⟨s1, s2⟩]
  congr 1
  rw [List.any_map]
  induction ls with
  | nil => rfl
  | cons m ls ih => 
    have e : (List.any ls ((fun z => PyData.eqv z l.py) ∘ Ln.py)) = decide (l ∈ ls) := ih (by
      have := deep_lines ls
      simp [SeqAt.shaped, PyData.canLay0, PyData.depth, lay_lines ls]
      omega)
    rw [List.any_cons, e]
    show (PyData.eqv m.py l.py || _) = _
    rw [eqv_line]
    by_cases h : m = l
    · simp [h]
    · have h' : ¬ l = m := fun q => h q.symm
      simp [h, h']
def oD (o : Option (List Ln)) : D := match o with
  | none => .non
  | some ls => .tup (ls.map Ln.d)
theorem with_line_spec (o : Option (List Ln)) (l : Ln) (h : ∀ ls, o = some ls → ls.length ≤ 900) : d_with_line [oD o, l.d] = .ok (.val (oD (withL o l))) [oD o, l.d] := by
  have e1 := never_spec l
  have e2 := plain_spec l
  cases o with
  | none =>
    unfold d_with_line dDef withL oD
    simp [argEnv, dVar_ap, passes, frz_loc, peek_loc, lents, backs, outsOf, setO, setV_ap]
  | some ls =>
    have e3 := mem_line l ls
    have e4 : opIn l.d (.tup (ls.map Ln.d)) = some (.val (.bl (decide (l ∈ ls)))) := by unfold opIn; rw [e3]; rfl
    have hl := h ls rfl
    unfold d_with_line dDef withL oD
    cases n : l.never with
    | true =>
      rw [n] at e1
      simp [argEnv, dVar_ap, passes, frz_loc, peek_loc, lents, backs, outsOf, setO, setV_ap, e1]
    | false =>
      rw [n] at e1
      cases pl : l.plain with
      | true =>
        rw [pl] at e2
        simp [argEnv, dVar_ap, passes, frz_loc, peek_loc, lents, backs, outsOf, setO, setV_ap, e1, e2]
      | false =>
        rw [pl] at e2
        by_cases m : l ∈ ls
        · simp [argEnv, dVar_ap, passes, frz_loc, peek_loc, lents, backs, outsOf, setO, setV_ap, e1, e2, e4, m]
        · have : ls.length + 1 ≤ sizeLine := line_pos _ (by omega)
          simp [argEnv, dVar_ap, passes, frz_loc, peek_loc, lents, backs, outsOf, setO, setV_ap, e1, e2, e4, m, this]
end K22

/-! law_k22: both, chosen. -/
namespace K22
open PySem PySem.Spec L2 DL
def Pc.D (p : Pc) : D := .tup [.tup (p.1.map Ln.d), p.2.d]
def lnO (o : Option (List Ln)) : Nat := match o with | none => 0 | some ls => ls.length
theorem with_len (o : Option (List Ln)) (l : Ln) : lnO (withL o l) ≤ lnO o + 1 := by
  cases o with
  | none => exact Nat.zero_le _
  | some ls =>
    unfold withL
    dsimp only
    by_cases h1 : l.never = true
    · rw [if_pos h1]; exact Nat.zero_le _
    · rw [if_neg h1]
      by_cases h2 : (l.plain || decide (l ∈ ls)) = true
      · rw [if_pos h2]; exact Nat.le_succ _
      · rw [if_neg h2]; simp [lnO]
theorem fold_len : ∀ (ls : List Ln) (o : Option (List Ln)), lnO (ls.foldl withL o) ≤ lnO o + ls.length
  | [], o => by simp
  | l :: ls, o => by
    have h1 := with_len o l
    have h2 := fold_len ls (withL o l)
    rw [List.foldl_cons, List.length_cons]
    omega
theorem lnO_le {o : Option (List Ln)} {n : Nat} (h : lnO o ≤ n) : ∀ ls, o = some ls → ls.length ≤ n := by
  rintro ls rfl
  exact h
def NB (x : Slot) : Prop := ∀ d, x ≠ .bor d
theorem nb_non : NB .non := fun d h => by cases h
theorem nb_val (d : D) : NB (.val d) := fun e h => by cases h
theorem nb_own (d : D) : NB (.own d) := fun e h => by cases h
theorem setV_nb {ρ : DL.Env} {i : Nat} {x s : Slot} (h : ρ[i]? = some x) (hx : NB x) : setV ρ i s = some (ρ.set i s) := by
  unfold setV
  rw [h]
  cases x with
  | bor d => exact absurd rfl (hx d)
  | _ => rfl
abbrev bothB : Sv := dSet 2 (dCall [false, false] d_with_line (dCons (dVar 2) (dCons (dVar 3) dNil)))
theorem both_loop (a b : D) : ∀ (ls : List Ln) (o : Option (List Ln)) (x : Slot) (hx : NB x) (h : lnO o + ls.length ≤ 900), ∃ x', NB x' ∧ forGo (gtName 3) bothB (ls.map Ln.d) [.val a, .val b, .val (oD o), x] = .nx [.val a, .val b, .val (oD (ls.foldl withL o)), x']
  | [], o, x, hx, h => ⟨x, hx, rfl⟩
  | l :: ls, o, x, hx, h => by
    rw [List.length_cons] at h
    have h1 := with_len o l
    obtain ⟨x', hx', e⟩ := both_loop a b ls (withL o l) (.val l.d) (nb_val _) (by omega)
    have e1 := with_line_spec o l (lnO_le (by omega))
    have e2 : gtName 3 l.d [.val a, .val b, .val (oD o), x] = some [.val a, .val b, .val (oD o), .val l.d] := setV_nb rfl hx
    refine ⟨x', hx', ?_⟩
    rw [List.map_cons, List.foldl_cons]
    unfold forGo
    rw [e2]
    simp [setV_ap, argEnv, dVar_ap, passes, frz_loc, peek_loc, lents, backs, outsOf, setO, e1]
    exact e
theorem both_spec (f s : Pc) (h : f.1.length + s.1.length ≤ 900) : d_both [f.D, s.D] = .ok (.new (.lst ((bothP f s).map Pc.D))) [f.D, s.D] := by
  obtain ⟨x', hx', e⟩ := both_loop f.D s.D s.1 (some f.1) .non nb_non h
  have e1 := plus_line_spec f.2 s.2
  have e3 : f.D = .tup [.tup (f.1.map Ln.d), f.2.d] := rfl
  have e4 : s.D = .tup [.tup (s.1.map Ln.d), s.2.d] := rfl
  have e5 : (s.1.length ≤ 1000000) = True := by simp only [eq_iff_iff, iff_true]; omega
  unfold d_both dDef bothP
  rw [e3, e4] at e ⊢
  have o1 : oD (some f.1) = .tup (f.1.map Ln.d) := rfl
  rw [o1] at e
  have hw : s.1.foldl withL (some f.1) = wide f s := rfl
  rw [hw] at e
  cases hv : wide f s with
  | none =>
    rw [hv] at e
    simp only [oD] at e
    simp [atI_zero, atI_one, gtName, setV_ap, argEnv, dVar_ap, passes, frz_loc, peek_loc, lents, backs, outsOf, setO, iSeq, seqOf, e5, keepP]
    simp only [bothB, gtName] at e
    simp [e, dVar_ap, peek_loc, frz_loc, outsOf, dIf, setO]
  | some ls =>
    rw [hv] at e
    simp only [oD] at e
    simp [atI_zero, atI_one, gtName, setV_ap, argEnv, dVar_ap, passes, frz_loc, peek_loc, lents, backs, outsOf, setO, iSeq, seqOf, e5, keepP, Pc.D]
    simp only [bothB, gtName] at e
    simp [e, atI_zero, atI_one, argEnv, dVar_ap, passes, frz_loc, peek_loc, lents, backs, outsOf, setO, e1]
end K22

/-! law_k22: chosen. -/
namespace K22
open PySem PySem.Spec L2 DL
def Wd.s : Wd → Str | .less => "less" | .least => "least" | .greatest => "greatest"
def Pl (x : Slot) : Prop := x = .non ∨ ∃ d, x = .val d
theorem Pl.nb {x : Slot} (h : Pl x) : NB x := by rcases h with rfl | ⟨d, rfl⟩ <;> intro e h <;> cases h
abbrev choB : Sv := dSet 3 (dCall [false, false] d_with_line (dCons (dVar 3) (dCons (dVar 4) dNil)))
theorem cho_loop (a b c : D) : ∀ (ls : List Ln) (o : Option (List Ln)) (x : Slot) (hx : Pl x) (h : lnO o + ls.length ≤ 900), ∃ x', Pl x' ∧ forGo (gtName 4) choB (ls.map Ln.d) [.val a, .val b, .val c, .val (oD o), x, .non, .non, .non, .non, .non, .non, .non] = .nx [.val a, .val b, .val c, .val (oD (ls.foldl withL o)), x', .non, .non, .non, .non, .non, .non, .non]
  | [], o, x, hx, h => ⟨x, hx, rfl⟩
  | l :: ls, o, x, hx, h => by
    rw [List.length_cons] at h
    have h1 := with_len o l
    obtain ⟨x', hx', e⟩ := cho_loop a b c ls (withL o l) (.val l.d) (.inr ⟨_, rfl⟩) (by omega)
    have e1 := with_line_spec o l (lnO_le (by omega))
    have e2 : gtName 4 l.d [.val a, .val b, .val c, .val (oD o), x, .non, .non, .non, .non, .non, .non, .non] = some [.val a, .val b, .val c, .val (oD o), .val l.d, .non, .non, .non, .non, .non, .non, .non] := setV_nb rfl hx.nb
    refine ⟨x', hx', ?_⟩
    rw [List.map_cons, List.foldl_cons]
    unfold forGo
    rw [e2]
    simp [setV_ap, argEnv, dVar_ap, passes, frz_loc, peek_loc, lents, backs, outsOf, setO, e1]
    exact e
theorem mg_ll (x y : D) : mergeD [(.inr ("less" : Str), x), (.inr ("least" : Str), y)] = .dic [.inr ("less" : Str), .inr ("least" : Str)] [x, y] := by kernel_rfl
theorem get_ll (w : Wd) (x y z : D) : (dGet [.inr ("less" : Str), .inr ("least" : Str)] [x, y] (.inr w.s)).getD z = match w with | .less => x | .least => y | .greatest => z := by cases w <;> kernel_rfl
theorem mul_two : opMul (.tup [.int 0]) (.int 2) = some (.val (.tup [.int 0, .int 0])) := by kernel_rfl
def aboveP (w : Wd) (f s : Pc) : Ln := match w with | .less => f.2.less s.2 | .least => s.2 | .greatest => f.2
def belowP (w : Wd) (f s : Pc) : Ln := match w with | .less => nought | .least => f.2 | .greatest => s.2
theorem got (w : Wd) (f s : Pc) : (match w with | .less => D.tup [(f.2.less s.2).d, nought.d] | .least => .tup [s.2.d, f.2.d] | .greatest => .tup [f.2.d, s.2.d]) = .tup [(aboveP w f s).d, (belowP w f s).d] := by cases w <;> rfl
theorem chosen_spec (w : Wd) (f s : Pc) (h : f.1.length + s.1.length ≤ 800) : d_chosen [f.D, s.D, .str w.s] = .ok (.new (.lst ((chosenP w f s).map Pc.D))) [f.D, s.D, .str w.s] := by
  obtain ⟨x', hx', e⟩ := cho_loop f.D s.D (.str w.s) s.1 (some f.1) .non (.inl rfl) (by show f.1.length + _ ≤ _; omega)
  have e1 := less_line_spec f.2 s.2
  have e2 := below_line_spec f.2 s.2
  have e3 : f.D = .tup [.tup (f.1.map Ln.d), f.2.d] := rfl
  have e4 : s.D = .tup [.tup (s.1.map Ln.d), s.2.d] := rfl
  have e5 : (s.1.length ≤ 1000000) = True := by simp only [eq_iff_iff, iff_true]; omega
  have hw : s.1.foldl withL (some f.1) = wide f s := rfl
  have hl : lnO (wide f s) ≤ 900 := by
    have := fold_len s.1 (some f.1)
    rw [hw] at this
    have q : lnO (some f.1) = f.1.length := rfl
    omega
  have w1 := with_line_spec (wide f s) (f.2.less s.2) (lnO_le hl)
  have w2 := with_line_spec (wide f s) (f.2.below s.2) (lnO_le hl)
  have o1 : oD (some f.1) = .tup (f.1.map Ln.d) := rfl
  have n0 : nought.d = .tup [.int 0, .tup [.int 0, .int 0]] := rfl
  have f2 : f.2.d = .tup [.int f.2.c, .tup [.int f.2.p, .int f.2.q]] := rfl
  have g1 := get_ll w (.tup [(f.2.less s.2).d, nought.d]) (.tup [s.2.d, f.2.d]) (.tup [f.2.d, s.2.d])
  rw [got] at g1
  rw [hw, o1, e3, e4] at e
  unfold d_chosen dDef chosenP
  rw [e3, e4]
  simp only [choB, gtName] at e
  simp [atI_zero, atI_one, gtName, setV_ap, argEnv, dVar_ap, passes, frz_loc, peek_loc, lents, backs, outsOf, setO, iSeq, seqOf, e5]
  have ix1 : opIx f.2.d (.int 1) = some (.val (.tup [.int f.2.p, .int f.2.q])) := rfl
  have m2 := mul_two
  have n1 : D.tup [.int 0, .tup [.int 0, .int 0]] = nought.d := rfl
  have gg : ∀ z, dGet [.inr ("less" : Str), .inr ("least" : Str)] [.tup [(f.2.less s.2).d, nought.d], .tup [s.2.d, f.2.d]] (.inr w.s) = z → z.getD (.tup [f.2.d, s.2.d]) = .tup [(aboveP w f s).d, (belowP w f s).d] := fun z q => q ▸ g1
  have k1 : keyOf (.str w.s) = some (.inr w.s) := rfl
  rcases hx' with rfl | ⟨d, rfl⟩
  all_goals
    simp [e, argEnv, dVar_ap, passes, frz_loc, peek_loc, lents, backs, outsOf, setO, atI_zero, atI_one, ix1, m2, n1, dPar, setV_ap, e1, e2, w1, w2, dDisp, dPairs, dFrz, mg_ll, k1, g1, gtTup, gtCons, gtNil, gtName, seqOf]
    simp [dAsg, gtTup, gtCons, gtNil, gtName, argEnv, dVar_ap, passes, frz_loc, peek_loc, lents, backs, outsOf, setO, atI_zero, atI_one, setV_ap, k1, g1, seqOf]
    cases c1 : withL (wide f s) (f.2.less s.2) <;> cases c2 : withL (wide f s) (f.2.below s.2) <;>
    simp [dLc, iSeq, seqOf, idle, Slot.owns, wipeE, compGo, gtTup, gtCons, gtNil, gtName, argEnv, dVar_ap, passes, frz_loc, peek_loc, lents, backs, outsOf, setO, atI_zero, atI_one, setV_ap, oD, restE, keepP, Pc.D, aboveP, belowP] <;>
    (cases w <;> first | rfl | exact ⟨rfl, rfl⟩)
end K22

/-! law_k22: _law_value. -/
namespace K22
open PySem PySem.Spec L2 DL
theorem sum_two (i j : Int) : fSum [.lst [.int i, .int j]] = some (.val (.int (i + j))) := by
  have h : fSum [.lst [.int i, .int j]] = some (.val (.int (i + (j + 0)))) := by simp [fSum, DL.listOf, intsD]
  rw [h, Int.add_zero]
theorem value_spec (l : Ln) (x y : Int) (hx : 0 ≤ x ∧ x < 1000) (hy : 0 ≤ y ∧ y < 1000) : d__law_value [l.d, .tup [.int x, .int y]] = .ok (.val (.int (l.v x y))) [l.d, .tup [.int x, .int y]] := by
  have m1 : CMul l.p x = True := by simp only [eq_iff_iff, iff_true]; exact .inr (by constructor <;> omega)
  have m2 : CMul l.q y = True := by simp only [eq_iff_iff, iff_true]; exact .inr (by constructor <;> omega)
  unfold d__law_value dDef Ln.d Ln.v
  simp [argEnv, dVar_ap, passes, frz_loc, peek_loc, lents, backs, outsOf, setO, setV_ap, dLc, iArgs, kZip, seqOf, idle, Slot.owns, wipeE, compGo, gtTup, gtCons, gtNil, gtName, dYes, restE, atI_zero, atI_one, m1, m2, sum_two]
end K22

/-! law_k22: pieces are few and short. -/
namespace K22
open PySem PySem.Spec L2 DL
/-- at most m pieces, of at most k lines each -/
def Few (m k : Nat) (ps : List Pc) : Prop := ps.length ≤ m ∧ ∀ p ∈ ps, p.1.length ≤ k
theorem keep_few {o : Option (List Ln)} {l : Ln} {k : Nat} (h : lnO o ≤ k) : Few 1 k (keepP o l) := by
  cases o with
  | none => exact ⟨Nat.zero_le _, fun p h => by cases h⟩
  | some ls => exact ⟨Nat.le_refl _, fun p hp => by rw [List.mem_singleton.mp hp]; exact h⟩
theorem Few.app {m k m' : Nat} {ps qs : List Pc} (h : Few m k ps) (g : Few m' k qs) : Few (m + m') k (ps ++ qs) :=
  ⟨by rw [List.length_append]; exact Nat.add_le_add h.1 g.1, fun p hp => (List.mem_append.mp hp).elim (h.2 p) (g.2 p)⟩
theorem wide_len (f s : Pc) : lnO (wide f s) ≤ f.1.length + s.1.length := fold_len s.1 (some f.1)
theorem both_few {f s : Pc} {k : Nat} (h : f.1.length + s.1.length ≤ k) : Few 2 (k + 1) (bothP f s) := by
  have := wide_len f s
  have g := keep_few (l := f.2.plus s.2) (show lnO (wide f s) ≤ k + 1 by omega)
  exact ⟨Nat.le_trans g.1 (by decide), g.2⟩
theorem chosen_few (w : Wd) {f s : Pc} {k : Nat} (h : f.1.length + s.1.length ≤ k) : Few 2 (k + 1) (chosenP w f s) := by
  have h0 := wide_len f s
  have h1 := with_len (wide f s) (f.2.less s.2)
  have h2 := with_len (wide f s) (f.2.below s.2)
  exact (keep_few (by omega)).app (keep_few (by omega))
theorem flat_few {m m' k k' c : Nat} {ps qs : List Pc} {h : Pc → Pc → List Pc} (hp : Few m k ps) (hq : Few m' k qs) (hh : ∀ f ∈ ps, ∀ s ∈ qs, Few c k' (h f s)) : Few (m * (m' * c)) k' (ps.flatMap fun f => qs.flatMap fun s => h f s) := by
  have len : ∀ (l : List Pc) (g : Pc → List Pc) (b : Nat), (∀ a ∈ l, (g a).length ≤ b) → (l.flatMap g).length ≤ l.length * b := by
    intro l g b
    induction l with
    | nil => intro _; simp
    | cons a l ih =>
      intro ha
      rw [List.flatMap_cons, List.length_append, List.length_cons, Nat.add_mul, Nat.one_mul]
      have := ha a List.mem_cons_self
      have := ih fun b hb => ha b (List.mem_cons_of_mem _ hb)
      omega
  refine ⟨?_, fun p hp' => ?_⟩
  · refine Nat.le_trans (len ps _ (m' * c) fun f hf => ?_) (Nat.mul_le_mul_right _ hp.1)
    exact Nat.le_trans (len qs _ c fun s hs => (hh f hf s hs).1) (Nat.mul_le_mul_right _ hq.1)
  · obtain ⟨f, hf, h1⟩ := List.mem_flatMap.mp hp'
    obtain ⟨s, hs, h2⟩ := List.mem_flatMap.mp h1
    exact (hh f hf s hs).2 p h2
def bN : Nat → Nat | 0 => 1 | n + 1 => bN n * (bN n * 2)
def bL : Nat → Nat | 0 => 0 | n + 1 => 2 * bL n + 1
theorem Few.up {m k m' k' : Nat} {ps : List Pc} (h : Few m k ps) (a : m ≤ m') (b : k ≤ k') : Few m' k' ps := ⟨Nat.le_trans h.1 a, fun p hp => Nat.le_trans (h.2 p hp) b⟩
theorem bN_pos : ∀ n, 1 ≤ bN n
  | 0 => Nat.le_refl 1
  | n + 1 => by
    have := bN_pos n
    show 1 ≤ bN n * (bN n * 2)
    exact Nat.le_trans (by decide : 1 ≤ 1 * (1 * 2)) (Nat.mul_le_mul this (Nat.mul_le_mul_right _ this))
theorem one_few (n : Nat) (l : Ln) : Few (bN n) (bL n) [([], l)] := ⟨bN_pos n, fun p hp => by rw [List.mem_singleton.mp hp]; exact Nat.zero_le _⟩
theorem sum_le {n : Nat} {ps qs : List Pc} (hp : Few (bN n) (bL n) ps) (hq : Few (bN n) (bL n) qs) {f s : Pc} (hf : f ∈ ps) (hs : s ∈ qs) : f.1.length + s.1.length ≤ 2 * bL n := by
  have := hp.2 f hf; have := hq.2 s hs; omega
theorem pieces_few : ∀ (n : Nat) (t : Tm), t.ok n → Few (bN n) (bL n) (piecesP t)
  | n, .num k, _ => one_few n _
  | n, .of b, _ => one_few n _
  | 0, .often _ _, h => h.elim
  | 0, .plus _ _, h => h.elim
  | 0, .less _ _, h => h.elim
  | 0, .least _ _, h => h.elim
  | 0, .greatest _ _, h => h.elim
  | n + 1, .often k t, h => by
    have ih := pieces_few n t h.2
    have p := bN_pos n
    refine ⟨?_, fun q hq => ?_⟩
    · show (List.map _ _).length ≤ bN n * (bN n * 2)
      rw [List.length_map]
      exact Nat.le_trans ih.1 (Nat.le_mul_of_pos_right _ (by omega))
    · obtain ⟨a, ha, rfl⟩ := List.mem_map.mp hq
      have := ih.2 a ha
      show a.1.length ≤ 2 * bL n + 1
      omega
  | n + 1, .plus l r, h => flat_few (pieces_few n l h.1) (pieces_few n r h.2) fun f hf s hs => both_few (sum_le (pieces_few n l h.1) (pieces_few n r h.2) hf hs)
  | n + 1, .less l r, h => flat_few (pieces_few n l h.1) (pieces_few n r h.2) fun f hf s hs => chosen_few _ (sum_le (pieces_few n l h.1) (pieces_few n r h.2) hf hs)
  | n + 1, .least l r, h => flat_few (pieces_few n l h.1) (pieces_few n r h.2) fun f hf s hs => chosen_few _ (sum_le (pieces_few n l h.1) (pieces_few n r h.2) hf hs)
  | n + 1, .greatest l r, h => flat_few (pieces_few n l h.1) (pieces_few n r h.2) fun f hf s hs => chosen_few _ (sum_le (pieces_few n l h.1) (pieces_few n r h.2) hf hs)
end K22

/-! what is computed, by simp alone. -/
namespace DL
open PySem PySem.Spec L2
section
variable {ρ : Env} {d e : D} {i j : Nat} {r : RV} {ms : List Bool} {ds os : List D} {rs : List RV} {s : Slot} {b : Bool}
@[simp] theorem s_argEnv_nil : argEnv [] ds = [] := by cases ds <;> rfl
@[simp] theorem s_argEnv_t : argEnv (true :: ms) (d :: ds) = .bor d :: argEnv ms ds := rfl
@[simp] theorem s_argEnv_f : argEnv (false :: ms) (d :: ds) = .val d :: argEnv ms ds := rfl
@[simp] theorem s_passes_nil : passes [] [] ρ = some ([], ρ) := rfl
@[simp] theorem s_passes_f : passes (false :: ms) (r :: rs) ρ = match frz r ρ with
    | some (d, ρ1) => match passes ms rs ρ1 with
      | some (ds, ρ2) => some (d :: ds, ρ2)
      | none => none
    | none => none := rfl
@[simp] theorem s_passes_t : passes (true :: ms) (.loc i :: rs) ρ = match passes ms rs ρ with
    | some (ds, ρ2) => match ρ2[i]? with
      | some (.own d) => some (d :: ds, ρ2)
      | some (.bor d) => some (d :: ds, ρ2)
      | _ => none
    | none => none := rfl
@[simp] theorem s_lents_nil : lents [] rs = [] := by cases rs <;> rfl
@[simp] theorem s_lents_t : lents (true :: ms) (.loc i :: rs) = i :: lents ms rs := rfl
@[simp] theorem s_lents_f : lents (false :: ms) (r :: rs) = lents ms rs := rfl
@[simp] theorem s_backs_nil : backs [] rs os ρ = ρ := by cases rs <;> cases os <;> rfl
@[simp] theorem s_backs_t : backs (true :: ms) (.loc i :: rs) (d :: ds) ρ = setO (backs ms rs ds ρ) i d := rfl
@[simp] theorem s_backs_f : backs (false :: ms) (r :: rs) (d :: ds) ρ = backs ms rs ds ρ := rfl
@[simp] theorem s_outs_nil : outsOf [] [] ρ = some [] := rfl
@[simp] theorem s_outs_t : outsOf (true :: ms) (e :: ds) (.bor d :: ρ) = match outsOf ms ds ρ with
    | some os => some (d :: os)
    | none => none := rfl
@[simp] theorem s_outs_f : outsOf (false :: ms) (d :: ds) (s :: ρ) = match outsOf ms ds ρ with
    | some os => some (d :: os)
    | none => none := rfl
@[simp] theorem s_dVar : dVar i ρ = match ρ[i]? with
    | some (.val d) => .ok (.val d) ρ
    | some (.own _) => .ok (.loc i) ρ
    | some (.bor _) => .ok (.loc i) ρ
    | _ => .no := rfl
@[simp] theorem s_frz_loc : frz (.loc i) ρ = match ρ[i]? with
    | some (.val d) => some (d, ρ)
    | some (.own d) => some (d, ρ.set i (.val d))
    | _ => none := rfl
@[simp] theorem s_peek_loc : peek (.loc i) ρ = match ρ[i]? with
    | some (.val d) => some d
    | some (.own d) => some d
    | some (.bor d) => some d
    | _ => none := rfl
@[simp] theorem s_setV : setV ρ i s = match ρ[i]? with
  | some (.bor _) => none
  | some _ => some (ρ.set i s)
  | none => none := rfl
@[simp] theorem s_setO : setO ρ i d = match ρ[i]? with
  | some (.own _) => ρ.set i (.own d)
  | some (.bor _) => ρ.set i (.bor d)
  | _ => ρ := rfl
@[simp] theorem s_ownAt : ownAt ρ i = match ρ[i]? with
  | some (.own d) => some d
  | some (.bor d) => some d
  | _ => none := rfl
@[simp] theorem s_stAt {k : D} : stAt i k d ρ = match ownAt ρ i with
  | some x => (stored x k d).map fun x' => setO ρ i x'
  | none => none := rfl
@[simp] theorem s_owns_non : Slot.non.owns = false := rfl
@[simp] theorem s_owns_val : (Slot.val d).owns = false := rfl
@[simp] theorem s_idle_nil : idle ρ [] = true := rfl
@[simp] theorem s_idle_cons {vs : List Nat} : idle ρ (i :: vs) = ((match ρ[i]? with
    | some s => !s.owns
    | none => true) && idle ρ vs) := rfl
@[simp] theorem s_wipe_nil : wipeE ρ [] = ρ := rfl
@[simp] theorem s_wipe_cons {vs : List Nat} : wipeE ρ (i :: vs) = (wipeE ρ vs).set i .non := rfl
@[simp] theorem s_rest_nil {ρ1 : Env} : restE ρ ρ1 [] = ρ := rfl
@[simp] theorem s_rest_cons {ρ1 : Env} {vs : List Nat} : restE ρ ρ1 (i :: vs) = match ρ1[i]? with
    | some s => (restE ρ ρ1 vs).set i s
    | none => restE ρ ρ1 vs := rfl
@[simp] theorem s_gtName : gtName i d ρ = setV ρ i (.val d) := rfl
@[simp] theorem s_gtNil : gtNil [] ρ = some ρ := rfl
@[simp] theorem s_gtCons {f : D → Env → Option Env} {fs : List D → Env → Option Env} : gtCons f fs (d :: ds) ρ = match f d ρ with
    | some ρ1 => fs ds ρ1
    | none => none := rfl
@[simp] theorem s_gtTup {n : Nat} {fs : List D → Env → Option Env} : gtTup n fs (.tup ds) ρ = if ds.length = n then fs ds ρ else none := rfl
@[simp] theorem s_dYes : dYes ρ = .ok (.val (.bl true)) ρ := rfl
@[simp] theorem s_dAsg {ft : D → Env → Option Env} {g : Ev} : dAsg ft g ρ = (g ρ).settle.st fun r ρ1 => match frz r ρ1 with
  | some (d, ρ2) => SR.of (ft d ρ2)
  | none => .no := rfl
@[simp] theorem s_iSeq {g : Ev} : iSeq g ρ = match (g ρ).settle with
  | .ok r ρ1 => match frz r ρ1 with
    | some (d, ρ2) => match seqOf d with
      | some xs => .ok xs ρ2
      | none => .no
    | none => .no
  | .ex x ρ1 => .ex x ρ1
  | .no => .no := rfl
@[simp] theorem s_seq_lst : seqOf (.lst ds) = some ds := rfl
@[simp] theorem s_seq_tup : seqOf (.tup ds) = some ds := rfl
@[simp] theorem s_seq_scr : seqOf (.scr ds) = some ds := rfl
@[simp] theorem s_iArgs {k : List D → Option (List D)} {gs : Av} : iArgs k gs ρ = match gs ρ with
  | .ok rs ρ1 => match frzs rs ρ1 with
    | some (ds, ρ2) => match k ds with
      | some xs => .ok xs ρ2
      | none => .no
    | none => .no
  | .ex x ρ1 => .ex x ρ1
  | .no => .no := rfl
@[simp] theorem s_zipL {xs ys : List D} : kZip [.lst xs, .lst ys] = some (List.zipWith (fun x y => .tup [x, y]) xs ys) := rfl
@[simp] theorem s_zipT {xs ys : List D} : kZip [.tup xs, .tup ys] = some (List.zipWith (fun x y => .tup [x, y]) xs ys) := rfl
@[simp] theorem s_dLc {gi : Iv} {vs : List Nat} {ft : D → Env → Option Env} {gt ge : Ev} : dLc gi vs ft gt ge ρ = match gi ρ with
  | .ok ds ρ1 => if idle ρ1 vs = true ∧ ds.length ≤ 1000000 then match compGo vs ft gt ge ds (wipeE ρ1 vs) with
      | some (ys, ρ2) => .ok (.new (.lst ys)) (restE ρ2 ρ1 vs)
      | none => .no
    else .no
  | .ex x ρ1 => .ex x ρ1
  | .no => .no := rfl
@[simp] theorem s_dMut {T : String} {f : D → List D → Option (D × D)} {gs : Av} : dMut T i f gs ρ = match (ownAt ρ i).bind tyName with
  | none => .no
  | some T' => if T' = T then match gs ρ with
    | .ok rs ρ1 => match frzs rs ρ1 with
      | some (ds, ρ2) => match ownAt ρ2 i with
        | some d => match f d ds with
          | some (ret, d') => .ok (.val ret) (setO ρ2 i d')
          | none => .no
        | none => .no
      | none => .no
    | .ex x ρ1 => .ex x ρ1
    | .no => .no
    else .no := rfl
@[simp] theorem s_ty_lst : tyName (.lst ds) = some "list" := rfl
@[simp] theorem s_ty_tup : tyName (.tup ds) = some "tuple" := rfl
@[simp] theorem s_ty_dic {ks : List Key} : tyName (.dic ks ds) = some "dict" := rfl
@[simp] theorem s_append {xs : List D} : mAppend (.lst xs) [d] = if xs.length < sizeLine then some (.non, .lst (xs ++ [d])) else none := rfl
@[simp] theorem s_extend {xs ys : List D} : mExtend (.lst xs) [.lst ys] = if xs.length + ys.length ≤ sizeLine then some (.non, .lst (xs ++ ys)) else none := rfl
@[simp] theorem s_dAug {g : Ev} {f : D → D → Option RV} : dAug i g f ρ = match ρ[i]? with
  | some (.val d0) => (g ρ).settle.st fun r2 ρ2 => match peek r2 ρ2 with
    | some y => match f d0 y with
      | some z => SR.of (asgn i z ρ2)
      | none => .no
    | none => .no
  | _ => .no := rfl
@[simp] theorem s_tupOf {xs : List D} : fTuple [.lst xs] = some (.val (.tup xs)) := rfl
@[simp] theorem s_tupOfT {xs : List D} : fTuple [.tup xs] = some (.val (.tup xs)) := rfl
@[simp] theorem s_lstOf {xs : List D} : fList [.tup xs] = some (.new (.lst xs)) := rfl
@[simp] theorem s_lstOfL {xs : List D} : fList [.lst xs] = some (.new (.lst xs)) := rfl
@[simp] theorem s_truth_bl : truth (.bl b) = some b := rfl
theorem dDef_run {n : Nat} {g : Sv} (h : ds.length = ms.length) : dDef n ms g ds = match g (argEnv ms ds ++ List.replicate (n - ms.length) .non) with
    | .nx ρ => match outsOf ms ds ρ with
      | some os => .ok (.val .non) os
      | none => .no
    | .rt r ρ => match r with
      | .loc _ => .no
      | r => match outsOf ms ds ρ with
        | some os => .ok r os
        | none => .no
    | .ex x ρ => match outsOf ms ds ρ with
      | some os => .ex x os
      | none => .no
    | _ => .no := if_pos h
end
/-! comprehensions over what is given by a function -/
theorem compGo_fm {vs : List Nat} {ft : D → Env → Option Env} {gt ge : Ev} {β : Type} {f g : β → D} {p : β → Bool} {ρ : Env} :
    ∀ l : List β, (∀ b ∈ l, ∃ ρ1, ft (f b) ρ = some ρ1 ∧ gt ρ1 = .ok (.val (.bl (p b))) ρ1 ∧ (p b = true → ∃ r, (ge ρ1).settle = .ok r ρ1 ∧ frz r ρ1 = some (g b, ρ1)) ∧ wipeE ρ1 vs = ρ) → compGo vs ft gt ge (l.map f) ρ = some ((l.filter p).map g, ρ)
  | [], _ => rfl
  | b :: l, h => by
    obtain ⟨ρ1, h1, h2, h3, h4⟩ := h b List.mem_cons_self
    have ih := compGo_fm l fun c hc => h c (List.mem_cons_of_mem _ hc)
    rw [List.map_cons]
    unfold compGo
    rw [h1]
    dsimp only
    rw [h2]
    cases e : p b with
    | false =>
      dsimp only
      rw [h4, ih, List.filter_cons, if_neg (by rw [e]; decide)]
    | true =>
      obtain ⟨r, h5, h6⟩ := h3 e
      dsimp only
      rw [h5]
      dsimp only
      rw [h6]
      dsimp only
      rw [h4, ih, List.filter_cons, if_pos e]
      rfl
theorem compGo_m {vs : List Nat} {ft : D → Env → Option Env} {ge : Ev} {β : Type} {f g : β → D} {ρ : Env} (l : List β) (h : ∀ b ∈ l, ∃ ρ1, ft (f b) ρ = some ρ1 ∧ (∃ r, (ge ρ1).settle = .ok r ρ1 ∧ frz r ρ1 = some (g b, ρ1)) ∧ wipeE ρ1 vs = ρ) : compGo vs ft dYes ge (l.map f) ρ = some (l.map g, ρ) := by
  have := compGo_fm (vs := vs) (ft := ft) (gt := dYes) (ge := ge) (f := f) (g := g) (p := fun _ => true) (ρ := ρ) l fun b hb => by
    obtain ⟨ρ1, h1, h2, h3⟩ := h b hb
    exact ⟨ρ1, h1, rfl, fun _ => h2, h3⟩
  rw [this, List.filter_eq_self.mpr fun _ _ => rfl]
end DL

/-! law_k22: pieces. -/
namespace K22
open PySem PySem.Spec L2 DL
abbrev NS : D := .tup [.str "a", .str "b"]
theorem pieces_number (m : Nat) (k : Int) : d_pieces (m + 1) [NS, (Tm.num k).d] = .ok (.new (.lst ((piecesP (.num k)).map Pc.D))) [NS, (Tm.num k).d] := by
  unfold d_pieces dDef
  simp [Tm.d, Pc.D, Ln.d, piecesP, atI_zero, atI_one, mul_two]
theorem pieces_of (m : Nat) (b : Bool) : d_pieces (m + 1) [NS, (Tm.of b).d] = .ok (.new (.lst ((piecesP (.of b)).map Pc.D))) [NS, (Tm.of b).d] := by
  cases b <;> kernel_rfl
theorem pieces_often (m : Nat) (k : Int) (t : Tm) (hk : -(2 ^ 64) < k ∧ k < 2 ^ 64) (hl : (piecesP t).length ≤ 1000000) (e5 : d_pieces m [NS, t.d] = .ok (.new (.lst ((piecesP t).map Pc.D))) [NS, t.d]) : d_pieces (m + 1) [NS, (Tm.often k t).d] = .ok (.new (.lst ((piecesP (.often k t)).map Pc.D))) [NS, (Tm.often k t).d] := by
  have e6 := compGo_m (vs := [7, 8]) (ft := gtTup 2 (gtCons (gtName 7) (gtCons (gtName 8) gtNil))) (ge := dTup (dCons (dVar 7) (dCons (dCall [false, false] d_times_line (dCons (dOp2 opIx (dVar 1) (dC (.int 1))) (dCons (dVar 8) dNil))) dNil))) (f := Pc.D) (g := fun p => Pc.D (p.1, p.2.times k))
    (ρ := [.val NS, .val (.tup [.str "often", .int k, t.d]), .val (.int 2), .non, .non, .non, .non, .non, .non]) (piecesP t) (fun p hp => by
      have e7 := times_line_spec k p.2 hk
      refine ⟨_, by simp [Pc.D]; rfl, ⟨.val (Pc.D (p.1, p.2.times k)), ?_, rfl⟩, by simp⟩
      simp [atI_one, e7, Pc.D])
  unfold d_pieces dDef
  simp [Tm.d, atI_zero, atI_one, atI_two, e5, hl]
  rw [e6]
  simp [piecesP]
theorem pieces_spec_test : True := trivial
abbrev inB : Sv := (dExpr (dMut "list" 3 mExtend (dCons (dIf (dOp2 opEq (dOp2 opIx (dVar 1) (dC (.int 0))) (dC (.str "plus"))) (dCall [false, false] d_both (dCons (dVar 4) (dCons (dVar 5) dNil))) (dCall [false, false, false] d_chosen (dCons (dVar 4) (dCons (dVar 5) (dCons (dOp2 opIx (dVar 1) (dC (.int 0))) dNil))))) dNil)))
abbrev outB (n : Nat) : Sv := (dFor (iSeq (dCall [false, false] (d_pieces n) (dCons (dVar 0) (dCons (dOp2 opIx (dVar 1) (dC (.int 2))) dNil)))) (gtName 5) inB)
abbrev Pv (t : D) (acc : List Pc) (x4 x5 : Slot) : DL.Env := [.val NS, .val t, .val (.int 2), .own (.lst (acc.map Pc.D)), x4, x5, .non, .non, .non]
def Steps (t : D) (h : Pc → Pc → List Pc) (f s : Pc) : Prop := ∀ acc : List Pc, acc.length + (h f s).length ≤ sizeLine → inB (Pv t acc (.val f.D) (.val s.D)) = .nx (Pv t (acc ++ h f s) (.val f.D) (.val s.D))
theorem in_loop {t : D} {h : Pc → Pc → List Pc} {f : Pc} : ∀ (ss : List Pc) (acc : List Pc) (x5 : Slot), NB x5 → (∀ s ∈ ss, Steps t h f s) → acc.length + (ss.flatMap (h f)).length ≤ sizeLine →
    ∃ x5', NB x5' ∧ forGo (gtName 5) inB (ss.map Pc.D) (Pv t acc (.val f.D) x5) = .nx (Pv t (acc ++ ss.flatMap (h f)) (.val f.D) x5')
  | [], acc, x5, n5, _, _ => ⟨x5, n5, by simp [forGo]⟩
  | s :: ss, acc, x5, n5, hs, hl => by
    rw [List.flatMap_cons, List.length_append] at hl
    obtain ⟨x', n', e⟩ := in_loop ss (acc ++ h f s) (.val s.D) (nb_val _) (fun q hq => hs q (List.mem_cons_of_mem _ hq)) (by rw [List.length_append]; omega)
    have e1 := hs s List.mem_cons_self acc (by omega)
    have e2 : gtName 5 s.D (Pv t acc (.val f.D) x5) = some (Pv t acc (.val f.D) (.val s.D)) := setV_nb rfl n5
    refine ⟨x', n', ?_⟩
    rw [List.map_cons, List.flatMap_cons]
    unfold forGo
    rw [e2]
    dsimp only
    rw [e1]
    dsimp only
    rw [e, List.append_assoc]
theorem out_loop {t : D} {td rd : D} {h : Pc → Pc → List Pc} {m : Nat} {qs : List Pc} (ht : opIx t (.int 2) = some (.val rd)) (e5 : d_pieces m [NS, rd] = .ok (.new (.lst (qs.map Pc.D))) [NS, rd]) : ∀ (ps : List Pc) (acc : List Pc) (x4 x5 : Slot), NB x4 → NB x5 → (∀ f ∈ ps, ∀ s ∈ qs, Steps t h f s) → acc.length + (ps.flatMap fun f => qs.flatMap (h f)).length ≤ sizeLine →
    ∃ x4' x5', forGo (gtName 4) (outB m) (ps.map Pc.D) (Pv t acc x4 x5) = .nx (Pv t (acc ++ ps.flatMap fun f => qs.flatMap (h f)) x4' x5')
  | [], acc, x4, x5, n4, n5, _, _ => ⟨x4, x5, by simp [forGo]⟩
  | f :: ps, acc, x4, x5, n4, n5, hs, hl => by
    rw [List.flatMap_cons, List.length_append] at hl
    obtain ⟨x5', n5', e1⟩ := in_loop (h := h) (f := f) qs acc x5 n5 (hs f List.mem_cons_self) (by omega)
    obtain ⟨y4, y5, e⟩ := out_loop (td := td) ht e5 ps (acc ++ qs.flatMap (h f)) (.val f.D) x5' (nb_val _) n5' (fun q hq => hs q (List.mem_cons_of_mem _ hq)) (by rw [List.length_append]; omega)
    have e2 : gtName 4 f.D (Pv t acc x4 x5) = some (Pv t acc (.val f.D) x5) := setV_nb rfl n4
    have e3 : outB m (Pv t acc (.val f.D) x5) = forGo (gtName 5) inB (qs.map Pc.D) (Pv t acc (.val f.D) x5) := by
      simp [ht, e5]
    refine ⟨y4, y5, ?_⟩
    rw [List.map_cons, List.flatMap_cons]
    unfold forGo
    rw [e2]
    dsimp only
    rw [e3, e1]
    dsimp only
    rw [e, List.append_assoc]
theorem pieces_bin {t : Tm} {w : Str} {l r : D} {ps qs : List Pc} {h : Pc → Pc → List Pc} {m : Nat} (td : t.d = .tup [.str w, l, r]) (n1 : ¬ w = "number") (n2 : ¬ w = "of") (n3 : ¬ w = "often") (e5 : d_pieces m [NS, l] = .ok (.new (.lst (ps.map Pc.D))) [NS, l]) (e6 : d_pieces m [NS, r] = .ok (.new (.lst (qs.map Pc.D))) [NS, r])
    (hs : ∀ f ∈ ps, ∀ s ∈ qs, Steps t.d h f s) (hl : (ps.flatMap fun f => qs.flatMap (h f)).length ≤ sizeLine) :
    d_pieces (m + 1) [NS, t.d] = .ok (.new (.lst ((ps.flatMap fun f => qs.flatMap (h f)).map Pc.D))) [NS, t.d] := by
  have t2 : opIx t.d (.int 2) = some (.val r) := by rw [td]; rfl
  obtain ⟨y4, y5, e⟩ := out_loop (td := t.d) (h := h) t2 e6 ps [] .non .non nb_non nb_non hs (by simpa using hl)
  unfold d_pieces dDef
  rw [td] at e ⊢
  simp only [Pv, List.map_nil, outB, inB, List.nil_append] at e
  simp [-opEq_str, opEq_str, atI_zero, atI_one, n1, n2, n3, e5, -s_gtName]
  rw [e]
  simp
theorem step_plus {t : D} {l r : D} (ht : t = .tup [.str "plus", l, r]) {f s : Pc} (hl : f.1.length + s.1.length ≤ 800) : Steps t bothP f s := by
  intro acc ha
  have e1 := both_spec f s (by omega)
  subst ht
  simp [atI_zero, e1, ha]
theorem step_wd {t : D} {w : Wd} {l r : D} (ht : t = .tup [.str w.s, l, r]) {f s : Pc} (hl : f.1.length + s.1.length ≤ 800) : Steps t (chosenP w) f s := by
  intro acc ha
  have e1 := chosen_spec w f s (by omega)
  have n : ¬ w.s = "plus" := by cases w <;> decide
  subst ht
  simp [atI_zero, e1, ha, n]
theorem few_bin {n : Nat} {l r : Tm} (hn : n ≤ 2) (hl : l.ok n) (hr : r.ok n) : ∀ f ∈ piecesP l, ∀ s ∈ piecesP r, f.1.length + s.1.length ≤ 800 := fun f hf s hs => by
  have h1 := sum_le (pieces_few n l hl) (pieces_few n r hr) hf hs
  have h2 : 2 * bL n ≤ 800 := by
    rcases n with _ | _ | _ | n
    · decide
    · decide
    · decide
    · omega
  omega
theorem few_len {n : Nat} {t : Tm} (hn : n ≤ 3) (h : t.ok n) : (piecesP t).length ≤ 1000 := by
  refine Nat.le_trans (pieces_few n t h).1 ?_
  rcases n with _ | _ | _ | _ | n
  · decide
  · decide
  · decide
  · decide
  · omega
theorem few_line {n : Nat} {t : Tm} (hn : n ≤ 3) (h : t.ok n) : (piecesP t).length ≤ sizeLine := line_pos _ (by have := few_len hn h; omega)
theorem pieces_spec : ∀ (n m : Nat) (t : Tm), t.ok n → n ≤ 3 → n < m → d_pieces m [NS, t.d] = .ok (.new (.lst ((piecesP t).map Pc.D))) [NS, t.d]
  | n, 0, t, _, _, h => by omega
  | n, m + 1, .num k, h, hn, hm => pieces_number m k
  | n, m + 1, .of b, h, hn, hm => pieces_of m b
  | n + 1, m + 1, .often k t, h, hn, hm => pieces_often m k t (by have := h.1; omega) (by have := few_len (by omega) h.2; omega) (pieces_spec n m t h.2 (by omega) (by omega))
  | n + 1, m + 1, .plus l r, h, hn, hm => pieces_bin (t := .plus l r) (l := l.d) (r := r.d) (w := "plus") rfl (by decide) (by decide) (by decide) (pieces_spec n m l h.1 (by omega) (by omega)) (pieces_spec n m r h.2 (by omega) (by omega)) (fun f hf s hs => step_plus rfl (few_bin (by omega) h.1 h.2 f hf s hs)) (few_line (t := .plus l r) hn h)
  | n + 1, m + 1, .less l r, h, hn, hm => pieces_bin (t := .less l r) (l := l.d) (r := r.d) (w := "less") rfl (by decide) (by decide) (by decide) (pieces_spec n m l h.1 (by omega) (by omega)) (pieces_spec n m r h.2 (by omega) (by omega)) (fun f hf s hs => step_wd (w := .less) rfl (few_bin (by omega) h.1 h.2 f hf s hs)) (few_line (t := .less l r) hn h)
  | n + 1, m + 1, .least l r, h, hn, hm => pieces_bin (t := .least l r) (l := l.d) (r := r.d) (w := "least") rfl (by decide) (by decide) (by decide) (pieces_spec n m l h.1 (by omega) (by omega)) (pieces_spec n m r h.2 (by omega) (by omega)) (fun f hf s hs => step_wd (w := .least) rfl (few_bin (by omega) h.1 h.2 f hf s hs)) (few_line (t := .least l r) hn h)
  | n + 1, m + 1, .greatest l r, h, hn, hm => pieces_bin (t := .greatest l r) (l := l.d) (r := r.d) (w := "greatest") rfl (by decide) (by decide) (by decide) (pieces_spec n m l h.1 (by omega) (by omega)) (pieces_spec n m r h.2 (by omega) (by omega)) (fun f hf s hs => step_wd (w := .greatest) rfl (few_bin (by omega) h.1 h.2 f hf s hs)) (few_line (t := .greatest l r) hn h)
  | 0, _ + 1, .often k t, h, _, _ => h.elim
  | 0, _ + 1, .plus l r, h, _, _ => h.elim
  | 0, _ + 1, .less l r, h, _, _ => h.elim
  | 0, _ + 1, .least l r, h, _, _ => h.elim
  | 0, _ + 1, .greatest l r, h, _, _ => h.elim
end K22

/-! data that may be shown and compared. -/
namespace DL
open PySem PySem.Spec L2
/-- d is the kit's p, of whole numbers that are not great, h deep, of weight w at the most -/
structure Nice (d : D) (p : PyData) (h w : Nat) : Prop where
  py : py d = some p
  lay : p.canLay0 = true
  show' : p.showable = true
  short : p.intsShort 13 = true
  deep : p.depth ≤ h
  wt : p.weight ≤ w
structure NiceL (ds : List D) (ps : List PyData) (h w : Nat) : Prop where
  py : pys ds = some ps
  lay : PyData.canLayAll0 ps = true
  show' : PyData.showableAll ps = true
  short : PyData.intsShortAll 13 ps = true
  deep : PyData.depthAll ps ≤ h
  wt : PyData.weightAll ps ≤ w
theorem log_lt {i : Int} {k : Nat} (hk : 0 < k) (h : i.natAbs < 2 ^ k) : i.natAbs.log2 < k := by
  by_cases h0 : i.natAbs = 0
  · rw [h0]; simpa using hk
  · exact (Nat.log2_lt h0).mpr h
theorem shown_int {i : Int} (h : i.natAbs < 10 ^ 12) : (PyData.shown (.int i)).length ≤ 13 := by
  simp only [PyData.shown]
  by_cases h0 : 0 ≤ i
  · exact Nat.le_trans (PyProof.Rows.toString_length_le h0 (k := 12) (by decide) (by omega)) (by decide)
  · have h1 : 0 ≤ -i := by omega
    have h2 := PyProof.Rows.toString_length_le h1 (k := 12) (by decide) (by omega)
    have e : (0 : Int) - i = -i := by omega
    rw [PyProof.Rows.toString_neg (by omega), e, PyProof.Rows.ofString_len, String.length_append]
    rw [PyProof.Rows.ofString_len] at h2
    have : ("-" : String).length = 1 := by decide
    omega
theorem Nice.int {i : Int} (h : i.natAbs < 10 ^ 12) : Nice (.int i) (.int i) 0 41 where
  py := rfl
  lay := rfl
  show' := by
    have := log_lt (i := i) (k := 40) (by decide) (Nat.lt_trans h (by decide))
    simp only [PyData.showable, decide_eq_true_eq]
    omega
  short := by
    have := shown_int h
    simp only [PyData.intsShort]
    exact decide_eq_true this
  deep := Nat.le_refl 0
  wt := by
    have := log_lt (i := i) (k := 40) (by decide) (Nat.lt_trans h (by decide))
    simp only [PyData.weight]
    split <;> omega
theorem Nice.non : Nice .non .none 0 0 := ⟨rfl, rfl, rfl, rfl, Nat.le_refl 0, Nat.le_refl 0⟩
theorem Nice.bl (b : Bool) : Nice (.bl b) (.bool b) 0 0 := ⟨rfl, rfl, rfl, rfl, Nat.le_refl 0, Nat.le_refl 0⟩
theorem Nice.str {x : Str} (h : PyData.strOk x = true) : Nice (.str x) (.str x) 0 x.cps.size := ⟨rfl, h, rfl, rfl, Nat.le_refl 0, Nat.le_refl _⟩
theorem NiceL.nil : NiceL [] [] 0 0 := ⟨rfl, rfl, rfl, rfl, Nat.le_refl 0, Nat.le_refl 0⟩
theorem Nice.up {d : D} {p : PyData} {h w h' w' : Nat} (a : Nice d p h w) (b : h ≤ h') (c : w ≤ w') : Nice d p h' w' := ⟨a.py, a.lay, a.show', a.short, Nat.le_trans a.deep b, Nat.le_trans a.wt c⟩
theorem NiceL.up {d : List D} {p : List PyData} {h w h' w' : Nat} (a : NiceL d p h w) (b : h ≤ h') (c : w ≤ w') : NiceL d p h' w' := ⟨a.py, a.lay, a.show', a.short, Nat.le_trans a.deep b, Nat.le_trans a.wt c⟩
theorem NiceL.cons {d : D} {p : PyData} {ds : List D} {ps : List PyData} {h w h' w' : Nat} (a : Nice d p h w) (b : NiceL ds ps h' w') : NiceL (d :: ds) (p :: ps) (max h h') (w + 1 + w') where
  py := by unfold pys; rw [a.py, b.py]
  lay := by simp [PyData.canLayAll0, a.lay, b.lay]
  show' := by simp [PyData.showableAll, a.show', b.show']
  short := by simp [PyData.intsShortAll, a.short, b.short]
  deep := by have := a.deep; have := b.deep; simp only [PyData.depthAll]; omega
  wt := by have := a.wt; have := b.wt; simp only [PyData.weightAll]; omega
theorem NiceL.map {β : Type} {f : β → D} {g : β → PyData} {h w : Nat} : ∀ (l : List β), (∀ b ∈ l, Nice (f b) (g b) h w) → NiceL (l.map f) (l.map g) h (l.length * (w + 1))
  | [], _ => ⟨rfl, rfl, rfl, rfl, Nat.zero_le _, Nat.zero_le _⟩
  | b :: l, hb => by
    have ih := NiceL.map l fun c hc => hb c (List.mem_cons_of_mem _ hc)
    exact (NiceL.cons (hb b List.mem_cons_self) ih).up (by omega) (by rw [List.length_cons, Nat.add_mul]; omega)
theorem Nice.tup {ds : List D} {ps : List PyData} {h w : Nat} (a : NiceL ds ps h w) : Nice (.tup ds) (.tuple ps) (h + 1) w where
  py := by unfold DL.py; rw [a.py]; rfl
  lay := by simp [PyData.canLay0, a.lay]
  show' := by simp [PyData.showable, a.show']
  short := by simp [PyData.intsShort, a.short]
  deep := by have := a.deep; simp only [PyData.depth]; omega
  wt := by have := a.wt; simp only [PyData.weight]; omega
theorem Nice.lst {ds : List D} {ps : List PyData} {h w : Nat} (a : NiceL ds ps h w) : Nice (.lst ds) (.list ps) (h + 1) w where
  py := by unfold DL.py; rw [a.py]; rfl
  lay := by simp [PyData.canLay0, a.lay]
  show' := by simp [PyData.showable, a.show']
  short := by simp [PyData.intsShort, a.short]
  deep := by have := a.deep; simp only [PyData.depth]; omega
  wt := by have := a.wt; simp only [PyData.weight]; omega
theorem Nice.shaped {d : D} {p : PyData} {h w : Nat} (a : Nice d p h w) (h1 : h ≤ 60) : SeqAt.shaped p = true := by
  have := a.deep
  simp only [SeqAt.shaped, a.lay, Bool.true_and, decide_eq_true_eq]
  omega
mutual
theorem eqv_refl : ∀ p : PyData, p.canLay0 = true → PyData.eqv p p = true
  | .none, _ => by simp [PyData.eqv]
  | .bool b, _ => by simp [PyData.eqv]
  | .int i, _ => by simp [PyData.eqv]
  | .str x, _ => by simp [PyData.eqv]
  | .list xs, h => by
    have h1 : PyData.canLayAll0 xs = true := by simpa [PyData.canLay0] using h
    simpa [PyData.eqv] using eqvAll_refl xs h1
  | .tuple xs, h => by
    have h1 : PyData.canLayAll0 xs = true := by simpa [PyData.canLay0] using h
    simpa [PyData.eqv] using eqvAll_refl xs h1
  | .dict kvs, h => by simp [PyData.canLay0] at h
theorem eqvAll_refl : ∀ ps : List PyData, PyData.canLayAll0 ps = true → PyData.eqvAll ps ps = true
  | [], _ => by simp [PyData.eqvAll]
  | p :: ps, h => by
    have h1 : p.canLay0 = true ∧ PyData.canLayAll0 ps = true := by simpa [PyData.canLayAll0] using h
    simp [PyData.eqvAll, eqv_refl p h1.1, eqvAll_refl ps h1.2]
end
theorem Nice.repr {d : D} {p : PyData} {h w : Nat} (a : Nice d p h w) (h1 : h ≤ 60) (h2 : w ≤ 2 ^ 20) : fRepr [d] = some (.val (.str p.shown)) := by
  have d1 := a.deep
  have w1 := a.wt
  have l : PyData.layable0 p = true := by
    simp only [PyData.layable0, a.lay, Bool.true_and, Bool.and_eq_true, decide_eq_true_eq]
    exact ⟨by omega, by omega⟩
  have s := PyProof.Rows.shown_le13 l a.short
  have s2 : p.shown.length ≤ sizeLine := by rw [sizeLine_eq]; omega
  have d2 : p.depth ≤ 64 := by omega
  unfold fRepr
  simp [a.py, a.show', d2, s2]
theorem eqDeep_nice {d e : D} {p q : PyData} {h w h' w' : Nat} (a : Nice d p h w) (b : Nice e q h' w') (h1 : h ≤ 60) (h2 : h' ≤ 60) : eqDeep d e = some (PyData.eqv p q) := by
  unfold eqDeep
  rw [a.py, b.py]
  exact if_pos ⟨a.shaped h1, b.shaped h2⟩
theorem eqD_self {d : D} {p : PyData} {h w : Nat} (a : Nice d p h w) (h1 : h ≤ 60) : eqD d d = some true := by
  have e := eqDeep_nice a a h1 h1
  rw [eqv_refl p a.lay] at e
  cases d with
  | int i => simp [eqD]
  | str x => simp [eqD]
  | bl b => simp [eqD]
  | _ => exact e
/-- the body of _law_alike -/
def alikeD : List D → DR := dDef 2 [false, false]
    (dRet (dAndV (dOp2 opEq (dB fRepr (dCons (dVar 0) dNil)) (dB fRepr (dCons (dVar 1) dNil))) (dOp2 opEq (dVar 0) (dVar 1))))
theorem alike_nice {d : D} {p : PyData} {h w : Nat} (a : Nice d p h w) (h1 : h ≤ 60) (h2 : w ≤ 2 ^ 20) : alikeD [d, d] = .ok (.val (.bl true)) [d, d] := by
  have e1 := a.repr h1 h2
  have e2 : opEq d d = some (.val (.bl true)) := by unfold opEq; rw [eqD_self a h1]; rfl
  unfold alikeD dDef
  simp [e1, e2]
end DL

/-! law_k22: a turn of the inner loop. -/
namespace K22
open PySem PySem.Spec L2 DL
theorem ok_up : ∀ (n : Nat) (t : Tm), t.ok n → t.ok (n + 1)
  | 0, .num k, h => h
  | n + 1, .num k, h => h
  | 0, .of b, h => h
  | n + 1, .of b, h => h
  | n + 1, .often k t, h => ⟨h.1, ok_up n t h.2⟩
  | n + 1, .plus l r, h => ⟨ok_up n l h.1, ok_up n r h.2⟩
  | n + 1, .less l r, h => ⟨ok_up n l h.1, ok_up n r h.2⟩
  | n + 1, .least l r, h => ⟨ok_up n l h.1, ok_up n r h.2⟩
  | n + 1, .greatest l r, h => ⟨ok_up n l h.1, ok_up n r h.2⟩
  | 0, .often k t, h => h.elim
  | 0, .plus l r, h => h.elim
  | 0, .less l r, h => h.elim
  | 0, .least l r, h => h.elim
  | 0, .greatest l r, h => h.elim
theorem drawn2 {cs : List Int} (hc : cs.length ≤ 1000) : Drawn cs 2 12 2 := by
  have h0 : Drawn cs 0 10 0 := drawn_base hc (by decide)
  have h1 : Drawn cs 1 11 1 := drawn_step hc (by decide) h0
  exact drawn_step hc (by decide) h1
abbrev abK : List Key := [.inr ("a" : Str), .inr ("b" : Str)]
theorem items_ab (x y : Int) (hx : 0 ≤ x ∧ x ≤ 60) (hy : 0 ≤ y ∧ y ≤ 60) (z : D) : gItems [.val z, .val (.dic abK [.int x, .int y]), .non, .non] = .ok (.new (.lst (([true, true] : List Bool).map .bl))) [.val z, .val (.dic abK [.int x, .int y]), .non, .non] := by
  rw [walk_items]
  simp [walked, keyD, compGo, gtTup, gtCons, gtName, gtNil, dYes, wipeE, restE, offEx, argEnv, dVar_ap, passes, frz_loc, peek_loc, setV_ap, lents, backs, outsOf, is_name_a, is_name_b, is_index_int, hx.1, hy.1]
theorem says_ab (x y : Int) (hx : 0 ≤ x ∧ x ≤ 60) (hy : 0 ≤ y ∧ y ≤ 60) : Says abK [.int x, .int y] true (fun _ => true) (fun b => if b then y else x) :=
  ⟨fun z => ⟨[true, true], items_ab x y hx hy z, rfl⟩, fun b => by cases b <;> kernel_rfl, (fun _ b h => by cases b <;> first | exact absurd h (by decide) | kernel_rfl), fun b => by cases b <;> (constructor <;> simp <;> omega)⟩
theorem nice_lines : ∀ ls : List Ln, pys (ls.map Ln.d) = some (ls.map Ln.py) := pys_lines
theorem eq_lines (ls : List Ln) : opEq (.lst (ls.map Ln.d)) (.lst []) = some (.val (.bl ls.isEmpty)) := by
  have s1 : SeqAt.shaped (.list (ls.map Ln.py)) = true := by
    have := deep_lines ls
    simp [SeqAt.shaped, PyData.canLay0, PyData.depth, lay_lines ls]
    omega
  have s2 : SeqAt.shaped (.list []) = true := by decide +kernel
  have e : eqD (.lst (ls.map Ln.d)) (.lst []) = some ls.isEmpty := by
    show eqDeep _ _ = _
    unfold eqDeep
    have e1 : py (.lst (ls.map Ln.d)) = some (.list (ls.map Ln.py)) := by unfold py; rw [pys_lines]; rfl
    have e2 : py (.lst []) = some (.list []) := rfl
    rw [e1, e2]
    dsimp only
    rw [if_pos ⟨s1, s2⟩]
    cases ls <;> simp [PyData.eqv, PyData.eqvAll]
  unfold opEq
  rw [e]
  rfl
abbrev cD (c : Int × Int) : D := .tup [.int c.1, .int c.2]
def InC (c : Int × Int) : Prop := (0 ≤ c.1 ∧ c.1 ≤ 60) ∧ (0 ≤ c.2 ∧ c.2 ≤ 60)
abbrev E (s bag : D) (x2 x3 x4 x5 x6 x7 x8 : Slot) : DL.Env := [.val s, .own bag, x2, x3, x4, x5, x6, x7, x8, .non, .non, .non, .non, .non]
abbrev c1 : Sv := (dSet 7 (dLc (iSeq (dVar 4)) [11, 12] (gtTup 2 (gtCons (gtName 11) (gtCons (gtName 12) gtNil))) (dOp2 opEq (dLc (iSeq (dVar 11)) [13] (gtName 13) (dOp2 opLt (dCall [false, false] d__law_value (dCons (dVar 13) (dCons (dVar 6) dNil))) (dC (.int 0))) (dVar 13)) (dLst dNil)) (dVar 12)))
abbrev c2 : Sv := (dSet 8 (dCall [false, false] (d__law_worth 12) (dCons (dVar 3) (dCons (dDisp [((dC (.str "a")), (dOp2 opIx (dVar 6) (dC (.int 0)))), ((dC (.str "b")), (dOp2 opIx (dVar 6) (dC (.int 1))))]) dNil))))
abbrev c3 : Sv := (dIfS (dOrT (dOp2 opNe (dB fLen (dCons (dVar 7) dNil)) (dC (.int 1))) (dNot (dTru (dCall [false, false] d__law_alike (dCons (dLst (dCons (dCall [false, false] d__law_value (dCons (dOp2 opIx (dVar 7) (dC (.int 0))) (dCons (dVar 6) dNil))) (dCons (dCall [false, false] d_term_worth (dCons (dVar 3) (dCons (dDisp [((dC (.str "a")), (dOp2 opIx (dVar 6) (dC (.int 0)))), ((dC (.str "b")), (dOp2 opIx (dVar 6) (dC (.int 1))))]) dNil))) dNil))) (dCons (dLst (dCons (dVar 8) (dCons (dVar 8) dNil))) dNil))))))
      (dRet (dC (.bl false)))
      (fun ρ => .nx ρ))
section
variable {s bag : D} {x2 x3 x4 x5 x6 x7 x8 : Slot} {t : Tm} {c : Int × Int}
theorem inner_lines (hc : InC c) (y12 : Slot) (p : Pc) (hl : p.1.length ≤ 1000000) : dLc (iSeq (dVar 11)) [13] (gtName 13) (dOp2 opLt (dCall [false, false] d__law_value (dCons (dVar 13) (dCons (dVar 6) dNil))) (dC (.int 0))) (dVar 13) [.val s, .own bag, x2, x3, x4, x5, .val (cD c), x7, x8, .non, .non, .val (.tup (p.1.map Ln.d)), y12, .non] =
    .ok (.new (.lst ((p.1.filter fun l => decide (l.v c.1 c.2 < 0)).map Ln.d))) [.val s, .own bag, x2, x3, x4, x5, .val (cD c), x7, x8, .non, .non, .val (.tup (p.1.map Ln.d)), y12, .non] := by
  have e1 := compGo_fm (vs := [13]) (ft := gtName 13) (gt := dOp2 opLt (dCall [false, false] d__law_value (dCons (dVar 13) (dCons (dVar 6) dNil))) (dC (.int 0))) (ge := dVar 13) (f := Ln.d) (g := Ln.d) (p := fun l : Ln => decide (l.v c.1 c.2 < 0)) (ρ := [.val s, .own bag, x2, x3, x4, x5, .val (cD c), x7, x8, .non, .non, .val (.tup (p.1.map Ln.d)), y12, .non]) p.1 (fun l _ => by
      have e2 := value_spec l c.1 c.2 (by have := hc.1; omega) (by have := hc.2; omega)
      refine ⟨[.val s, .own bag, x2, x3, x4, x5, .val (cD c), x7, x8, .non, .non, .val (.tup (p.1.map Ln.d)), y12, .val l.d], by simp, by simp [e2], fun _ => ⟨.val l.d, by simp, rfl⟩, by simp⟩)
  simp [hl, e1]
theorem c1_spec (hc : InC c) (ps : List Pc) (hps : ∀ p ∈ ps, p.1.length ≤ 1000000) (hl : ps.length ≤ 1000000) (h7 : NB x7) (h4 : x4 = .own (.lst (ps.map Pc.D)) ∨ x4 = .val (.lst (ps.map Pc.D))) : c1 (E s bag x2 x3 x4 x5 (.val (cD c)) x7 x8) =
    .nx (E s bag x2 x3 (.val (.lst (ps.map Pc.D))) x5 (.val (cD c)) (.own (.lst ((ps.filter fun p => sat c.1 c.2 p.1).map fun p => p.2.d))) x8) := by
  have e1 := compGo_fm (vs := [11, 12]) (ft := gtTup 2 (gtCons (gtName 11) (gtCons (gtName 12) gtNil))) (gt := (dOp2 opEq (dLc (iSeq (dVar 11)) [13] (gtName 13) (dOp2 opLt (dCall [false, false] d__law_value (dCons (dVar 13) (dCons (dVar 6) dNil))) (dC (.int 0))) (dVar 13)) (dLst dNil))) (ge := dVar 12) (f := Pc.D) (g := fun p => p.2.d) (p := fun p : Pc => sat c.1 c.2 p.1) (ρ := E s bag x2 x3 (.val (.lst (ps.map Pc.D))) x5 (.val (cD c)) x7 x8) ps (fun p hp => by
      have e2 := inner_lines (s := s) (bag := bag) (x2 := x2) (x3 := x3) (x4 := .val (.lst (ps.map Pc.D))) (x5 := x5) (x7 := x7) (x8 := x8) hc (.val p.2.d) p (hps p hp)
      have e3 := eq_lines (p.1.filter fun l => decide (l.v c.1 c.2 < 0))
      have e4 : (p.1.filter fun l => decide (l.v c.1 c.2 < 0)).isEmpty = sat c.1 c.2 p.1 := by
        unfold sat
        generalize p.1 = ls
        induction ls with
        | nil => rfl
        | cons l ls ih =>
          rw [List.filter_cons, List.all_cons]
          by_cases q : l.v c.1 c.2 < 0
          · have q' : ¬ 0 ≤ l.v c.1 c.2 := by omega
            simp [q, q']
          · have q' : 0 ≤ l.v c.1 c.2 := by omega
            simp [q, q', ih]
      rw [e4] at e3
      refine ⟨[.val s, .own bag, x2, x3, .val (.lst (ps.map Pc.D)), x5, .val (cD c), x7, x8, .non, .non, .val (.tup (p.1.map Ln.d)), .val p.2.d, .non], by simp [Pc.D], ?_, fun _ => ⟨.val p.2.d, by simp, rfl⟩, by simp⟩
      rw [dOp2_ap, e2]
      simp [e3])
  have e5 : ∀ d, asgn 7 (.new d) (E s bag x2 x3 (.val (.lst (ps.map Pc.D))) x5 (.val (cD c)) x7 x8) = some (E s bag x2 x3 (.val (.lst (ps.map Pc.D))) x5 (.val (cD c)) (.own d) x8) := fun d => setV_nb rfl h7
  have e6 : ∀ g : Ev, ∀ q : (E s bag x2 x3 x4 x5 (.val (cD c)) x7 x8)[4]? = some x4, iSeq (dVar 4) (E s bag x2 x3 x4 x5 (.val (cD c)) x7 x8) = .ok (ps.map Pc.D) (E s bag x2 x3 (.val (.lst (ps.map Pc.D))) x5 (.val (cD c)) x7 x8) := by
    intro _ _
    rcases h4 with rfl | rfl <;> simp
  unfold c1
  rw [dSet_ap, s_dLc, e6 dYes rfl]
  dsimp only
  rw [if_pos ⟨rfl, by rw [List.length_map]; exact hl⟩]
  have e7 : wipeE (E s bag x2 x3 (.val (.lst (ps.map Pc.D))) x5 (.val (cD c)) x7 x8) [11, 12] = E s bag x2 x3 (.val (.lst (ps.map Pc.D))) x5 (.val (cD c)) x7 x8 := rfl
  rw [e7, e1]
  show SR.of (asgn 7 (.new (.lst ((ps.filter fun p => sat c.1 c.2 p.1).map fun p => p.2.d))) (E s bag x2 x3 (.val (.lst (ps.map Pc.D))) x5 (.val (cD c)) x7 x8)) = _
  rw [e5]
  rfl
theorem mgab (x y : D) : mergeD [(.inr ("a" : Str), x), (.inr ("b" : Str), y)] = .dic abK [x, y] := by kernel_rfl
theorem c2_spec (hc : InC c) (h : t.ok 3) (h8 : NB x8) : c2 (E s bag x2 (.val t.d) x4 x5 (.val (cD c)) x7 x8) = .nx (E s bag x2 (.val t.d) x4 x5 (.val (cD c)) x7 (.val (.int (wv (fun b => if b then c.2 else c.1) t)))) := by
  have sy := says_ab c.1 c.2 hc.1 hc.2
  have e2 := law_worth_spec _ _ _ 3 12 t h (by omega) fun b _ => sy.gets rfl b rfl
  have e5 : ∀ d, setV (E s bag x2 (.val t.d) x4 x5 (.val (cD c)) x7 x8) 8 (.val d) = some (E s bag x2 (.val t.d) x4 x5 (.val (cD c)) x7 (.val d)) := fun d => setV_nb rfl h8
  simp only [E] at e5
  unfold c2
  simp [-s_setV, dDisp, dPairs, dFrz, mgab, atI_zero, atI_one, e2, E, e5]
theorem c3_spec (hc : InC c) (h : t.ok 3) (l : Ln) (hv : l.v c.1 c.2 = wv (fun b => if b then c.2 else c.1) t) : c3 (E s bag x2 (.val t.d) x4 x5 (.val (cD c)) (.own (.lst [l.d])) (.val (.int (wv (fun b => if b then c.2 else c.1) t)))) =
    .nx (E s bag x2 (.val t.d) x4 x5 (.val (cD c)) (.own (.lst [l.d])) (.val (.int (wv (fun b => if b then c.2 else c.1) t)))) := by
  have sy := says_ab c.1 c.2 hc.1 hc.2
  have e1 := term_worth_spec sy h
  have e0 : (nms t).all (fun _ => true) = true := List.all_eq_true.mpr fun _ _ => rfl
  rw [e0] at e1
  simp only [Bool.and_self, if_true] at e1
  obtain ⟨l1, l2⟩ := wv_line sy h
  have e2 := value_spec l c.1 c.2 (by have := hc.1; omega) (by have := hc.2; omega)
  rw [hv] at e2
  generalize wv (fun b => if b then c.2 else c.1) t = v at *
  have n1 : Nice (.int v) (.int v) 0 41 := .int (by omega)
  have e3 : d__law_alike [.lst [.int v, .int v], .lst [.int v, .int v]] = _ := alike_nice (Nice.lst (.cons n1 (.cons n1 .nil))) (by decide) (by decide)
  unfold c3
  simp [dDisp, dPairs, dFrz, mgab, atI_zero, atI_one, e1, e2, e3, E]
end
end K22

/-! law_k22: the law. -/
namespace K22
open PySem PySem.Spec L2 DL
abbrev turnB : Sv := dSeq c1 (dSeq c2 c3)
section
variable {cs : List Int} {s bag : D} {x2 x3 x4 x5 x6 x7 x8 : Slot} {t : Tm}
theorem turn_spec (h : t.ok 3) {c : Int × Int} (hc : InC c) (h4 : x4 = .own (.lst ((piecesP t).map Pc.D)) ∨ x4 = .val (.lst ((piecesP t).map Pc.D))) (h7 : NB x7) (h8 : NB x8) :
    ∃ x7' x8', NB x7' ∧ NB x8' ∧ turnB (E s bag x2 (.val t.d) x4 x5 (.val (cD c)) x7 x8) = .nx (E s bag x2 (.val t.d) (.val (.lst ((piecesP t).map Pc.D))) x5 (.val (cD c)) x7' x8') := by
  have few := pieces_few 3 t h
  have len := few_len (Nat.le_refl 3) h
  have e1 := c1_spec (s := s) (bag := bag) (x2 := x2) (x3 := .val t.d) (x5 := x5) (x8 := x8) hc (piecesP t) (fun p hp => Nat.le_trans (few.2 p hp) (by decide)) (by omega) h7 h4
  obtain ⟨p, ep, vp⟩ := pieces_one hc.1.1 hc.2.1 t
  rw [ep] at e1
  have e2 := c2_spec (s := s) (bag := bag) (x2 := x2) (x4 := .val (.lst ((piecesP t).map Pc.D))) (x5 := x5) (x7 := .own (.lst [p.2.d])) hc h h8
  have e3 := c3_spec (s := s) (bag := bag) (x2 := x2) (x4 := .val (.lst ((piecesP t).map Pc.D))) (x5 := x5) hc h p.2 vp
  refine ⟨.own (.lst [p.2.d]), .val (.int (wv (fun b => if b then c.2 else c.1) t)), nb_own _, nb_val _, ?_⟩
  show (c1 _).bind _ = _
  rw [e1]
  show (c2 _).bind _ = _
  rw [List.map_cons, List.map_nil, e2]
  exact e3
theorem turns_spec (h : t.ok 3) : ∀ (l : List (Int × Int)) (x4 x6 x7 x8 : Slot), (∀ c ∈ l, InC c) → (x4 = .own (.lst ((piecesP t).map Pc.D)) ∨ x4 = .val (.lst ((piecesP t).map Pc.D))) → NB x6 → NB x7 → NB x8 →
    ∃ x4' x6' x7' x8', NB x4' ∧ NB x6' ∧ NB x7' ∧ NB x8' ∧ forGo (gtName 6) turnB (l.map cD) (E s bag x2 (.val t.d) x4 x5 x6 x7 x8) = .nx (E s bag x2 (.val t.d) x4' x5 x6' x7' x8')
  | [], x4, x6, x7, x8, _, h4, h6, h7, h8 => ⟨x4, x6, x7, x8, by rcases h4 with rfl | rfl; exact nb_own _; exact nb_val _, h6, h7, h8, rfl⟩
  | c :: l, x4, x6, x7, x8, hl, h4, h6, h7, h8 => by
    obtain ⟨y7, y8, n7, n8, e1⟩ := turn_spec (s := s) (bag := bag) (x2 := x2) (x5 := x5) h (hl c List.mem_cons_self) h4 h7 h8
    obtain ⟨z4, z6, z7, z8, m4, m6, m7, m8, e2⟩ := turns_spec h l _ (.val (cD c)) y7 y8 (fun d hd => hl d (List.mem_cons_of_mem _ hd)) (.inr rfl) (nb_val _) n7 n8
    have e0 : gtName 6 (cD c) (E s bag x2 (.val t.d) x4 x5 x6 x7 x8) = some (E s bag x2 (.val t.d) x4 x5 (.val (cD c)) x7 x8) := setV_nb rfl h6
    refine ⟨z4, z6, z7, z8, m4, m6, m7, m8, ?_⟩
    rw [List.map_cons]
    unfold forGo
    rw [e0]
    dsimp only
    rw [e1]
    exact e2
abbrev gDr : Ev := (dTup (dCons (dCall [true, false] d__law_take (dCons (dVar 1) (dCons (dC (.int 50)) dNil))) (dCons (dCall [true, false] d__law_take (dCons (dVar 1) (dCons (dC (.int 50)) dNil))) dNil)))
theorem draws (hc : cs.length ≤ 1000) : ∀ (ds : List D) (a b c : Int), ∃ (l : List (Int × Int)) (a' b' c' : Int), l.length = ds.length ∧ (∀ p ∈ l, InC p) ∧ compGo [10] (gtName 10) dYes gDr ds (E s (bagD a b c cs) x2 x3 x4 x5 x6 x7 x8) = some (l.map cD, E s (bagD a' b' c' cs) x2 x3 x4 x5 x6 x7 x8)
  | [], a, b, c => ⟨[], a, b, c, rfl, (fun p h => nomatch h), rfl⟩
  | d :: ds, a, b, c => by
    obtain ⟨x, a1, b1, c1, h0, h1, e1⟩ := take_spec a b c cs 50 hc (by decide) (by decide)
    obtain ⟨y, a2, b2, c2, h2, h3, e2⟩ := take_spec a1 b1 c1 cs 50 hc (by decide) (by decide)
    obtain ⟨l, a3, b3, c3, hl, hi, e3⟩ := draws hc ds a2 b2 c2
    refine ⟨(x, y) :: l, a3, b3, c3, by simp [hl], fun p hp => ?_, ?_⟩
    · rcases List.mem_cons.mp hp with rfl | hp
      · exact ⟨⟨h0, by show x ≤ 60; omega⟩, ⟨h2, by show y ≤ 60; omega⟩⟩
      · exact hi p hp
    · unfold compGo
      simp only [E] at e3
      simp [E, e1, e2, e3]
abbrev fewC : List (Int × Int) := [(0, 0), (0, 1), (0, 3), (1, 0), (1, 1), (1, 3), (2, 0), (2, 1), (2, 3), (3, 0), (3, 1), (3, 3)]
abbrev b1 : Sv := (dSet 3 (dCall [true, false] (d__law_drawn_term 12) (dCons (dVar 1) (dCons (dC (.int 2)) dNil))))
abbrev b2 : Sv := (dSet 4 (dCall [false, false] (d_pieces 12) (dCons (dTup (dCons (dC (.str "a")) (dCons (dC (.str "b")) dNil))) (dCons (dVar 3) dNil))))
abbrev gFew : Ev := (dSumL (dCons (dLc (iArgs kRange1 (dCons (dC (.int 4)) dNil)) [9] (gtName 9) dYes (dLst (dCons (dTup (dCons (dVar 9) (dCons (dC (.int 0)) dNil))) (dCons (dTup (dCons (dVar 9) (dCons (dC (.int 1)) dNil))) (dCons (dTup (dCons (dVar 9) (dCons (dC (.int 3)) dNil))) dNil))))) (dCons (dLst dNil) dNil)))
abbrev b3 : Sv := (dSet 5 gFew)
abbrev b4 : Sv := (dFor (iSeq (dOp2 opAdd (dVar 5) (dLc (iArgs kRange1 (dCons (dC (.int 6)) dNil)) [10] (gtName 10) dYes gDr))) (gtName 6) turnB)
theorem gFew_spec : gFew (E s bag x2 x3 x4 x5 x6 x7 x8) = .ok (.new (.lst (fewC.map cD))) (E s bag x2 x3 x4 x5 x6 x7 x8) := by kernel_rfl
theorem range6 : iArgs kRange1 (dCons (dC (.int 6)) dNil) (E s bag x2 x3 x4 x5 x6 x7 x8) = .ok ((List.range 6).map fun (k : Nat) => D.int (k : Int)) (E s bag x2 x3 x4 x5 x6 x7 x8) := by kernel_rfl
theorem few_in : ∀ c ∈ fewC, InC c := by
  intro c hc
  simp only [fewC, List.mem_cons, List.not_mem_nil, or_false] at hc
  rcases hc with rfl | rfl | rfl | rfl | rfl | rfl | rfl | rfl | rfl | rfl | rfl | rfl <;> (unfold InC; decide)
theorem b4_spec (hc : cs.length ≤ 1000) (a b c : Int) (h : t.ok 3) (h6 : NB x6) (h7 : NB x7) (h8 : NB x8) :
    ∃ a' b' c' x4' x6' x7' x8', NB x4' ∧ NB x6' ∧ NB x7' ∧ NB x8' ∧ b4 (E s (bagD a b c cs) x2 (.val t.d) (.own (.lst ((piecesP t).map Pc.D))) (.own (.lst (fewC.map cD))) x6 x7 x8) = .nx (E s (bagD a' b' c' cs) x2 (.val t.d) x4' (.own (.lst (fewC.map cD))) x6' x7' x8') := by
  obtain ⟨l, a', b', c', hl, hi, e1⟩ := draws (s := s) (x2 := x2) (x3 := .val t.d) (x4 := .own (.lst ((piecesP t).map Pc.D))) (x5 := .own (.lst (fewC.map cD))) (x6 := x6) (x7 := x7) (x8 := x8) hc ((List.range 6).map fun (k : Nat) => D.int (k : Int)) a b c
  have e2 := range6 (s := s) (bag := bagD a b c cs) (x2 := x2) (x3 := .val t.d) (x4 := .own (.lst ((piecesP t).map Pc.D))) (x5 := .own (.lst (fewC.map cD))) (x6 := x6) (x7 := x7) (x8 := x8)
  obtain ⟨x4', x6', x7', x8', n4, n6, n7, n8, e3⟩ := turns_spec (s := s) (bag := bagD a' b' c' cs) (x2 := x2) (x5 := .own (.lst (fewC.map cD))) h (fewC ++ l) (.own (.lst ((piecesP t).map Pc.D))) x6 x7 x8 (fun q hq => (List.mem_append.mp hq).elim (few_in q) (hi q)) (.inl rfl) h6 h7 h8
  refine ⟨a', b', c', x4', x6', x7', x8', n4, n6, n7, n8, ?_⟩
  have e4 : l.length = 6 := by rw [hl]; rfl
  have e5 : (fewC.map cD).length + (l.map cD).length ≤ sizeLine := by rw [List.length_map, List.length_map, e4, sizeLine_eq]; decide
  have e6 : opAdd (.lst (fewC.map cD)) (.lst (l.map cD)) = some (.new (.lst ((fewC ++ l).map cD))) := by
    rw [opAdd_lst, if_pos e5, List.map_append]
  have lc : dLc (iArgs kRange1 (dCons (dC (.int 6)) dNil)) [10] (gtName 10) dYes gDr (E s (bagD a b c cs) x2 (.val t.d) (.own (.lst ((piecesP t).map Pc.D))) (.own (.lst (fewC.map cD))) x6 x7 x8) = .ok (.new (.lst (l.map cD))) (E s (bagD a' b' c' cs) x2 (.val t.d) (.own (.lst ((piecesP t).map Pc.D))) (.own (.lst (fewC.map cD))) x6 x7 x8) := by
    rw [s_dLc, e2]
    dsimp only
    rw [if_pos ⟨rfl, by decide⟩]
    show (match compGo [10] (gtName 10) dYes gDr ((List.range 6).map fun (k : Nat) => D.int (k : Int)) (E s (bagD a b c cs) x2 (.val t.d) (.own (.lst ((piecesP t).map Pc.D))) (.own (.lst (fewC.map cD))) x6 x7 x8) with
      | some (ys, ρ2) => ER.ok (.new (.lst ys)) (restE ρ2 _ [10])
      | none => .no) = _
    rw [e1]
    rfl
  have it : iSeq (dOp2 opAdd (dVar 5) (dLc (iArgs kRange1 (dCons (dC (.int 6)) dNil)) [10] (gtName 10) dYes gDr)) (E s (bagD a b c cs) x2 (.val t.d) (.own (.lst ((piecesP t).map Pc.D))) (.own (.lst (fewC.map cD))) x6 x7 x8) = .ok ((fewC ++ l).map cD) (E s (bagD a' b' c' cs) x2 (.val t.d) (.own (.lst ((piecesP t).map Pc.D))) (.own (.lst (fewC.map cD))) x6 x7 x8) := by
    have v5 : dVar 5 (E s (bagD a b c cs) x2 (.val t.d) (.own (.lst ((piecesP t).map Pc.D))) (.own (.lst (fewC.map cD))) x6 x7 x8) = .ok (.loc 5) (E s (bagD a b c cs) x2 (.val t.d) (.own (.lst ((piecesP t).map Pc.D))) (.own (.lst (fewC.map cD))) x6 x7 x8) := rfl
    have pk : peek (.loc 5) (E s (bagD a' b' c' cs) x2 (.val t.d) (.own (.lst ((piecesP t).map Pc.D))) (.own (.lst (fewC.map cD))) x6 x7 x8) = some (.lst (fewC.map cD)) := rfl
    have st : (RV.loc 5).settle = .loc 5 := rfl
    rw [s_iSeq, dOp2_ap, v5]
    show (match (((dLc _ _ _ _ _ _).settle).bind _).settle with | .ok r ρ1 => _ | .ex x ρ1 => _ | .no => _) = _
    rw [lc]
    simp only [st, er_settle_new, er_bind_ok, pk, peek_val, e6, er_of_some, frz_val, s_seq_lst]
  unfold b4
  rw [dFor_ap, it]
  exact e3
abbrev lapB : Sv := dSeq b1 (dSeq b2 (dSeq b3 b4))
theorem d_law_eq : d_law = dDef 14 [false] (dSeq (dSet 1 (dCall [false] d__law_bag (dCons (dVar 0) dNil))) (dSeq (dFor (iArgs kRange1 (dCons (dC (.int 12)) dNil)) (gtName 2) lapB) (dRet (dC (.bl true))))) := rfl
/-- an env between laps -/
def Sh (cs : List Int) (s : D) (ρ : DL.Env) : Prop := ∃ a b c x2 x3 x4 x5 x6 x7 x8, NB x2 ∧ NB x3 ∧ NB x4 ∧ NB x5 ∧ NB x6 ∧ NB x7 ∧ NB x8 ∧ ρ = E s (bagD a b c cs) x2 x3 x4 x5 x6 x7 x8
theorem lap_spec (hc : cs.length ≤ 1000) {ρ : DL.Env} (h : Sh cs s ρ) : ∃ ρ', lapB ρ = .nx ρ' ∧ Sh cs s ρ' := by
  obtain ⟨a, b, c, x2, x3, x4, x5, x6, x7, x8, n2, n3, n4, n5, n6, n7, n8, rfl⟩ := h
  obtain ⟨t, a1, b1', c1, ht, e1⟩ := drawn2 hc a b c
  have ht3 := ok_up 2 t ht
  have ep := pieces_spec 3 12 t ht3 (by omega) (by omega)
  obtain ⟨a2, b2', c2, y4, y6, y7, y8, m4, m6, m7, m8, e4⟩ := b4_spec (s := s) (x2 := x2) hc a1 b1' c1 ht3 n6 n7 n8
  have s3 : ∀ bg : D, setV (E s bg x2 x3 x4 x5 x6 x7 x8) 3 (.val t.d) = some (E s bg x2 (.val t.d) x4 x5 x6 x7 x8) := fun bg => setV_nb rfl n3
  have s4 : ∀ (bg d : D), setV (E s bg x2 (.val t.d) x4 x5 x6 x7 x8) 4 (.own d) = some (E s bg x2 (.val t.d) (.own d) x5 x6 x7 x8) := fun bg d => setV_nb rfl n4
  have s5 : ∀ (bg d e : D), setV (E s bg x2 (.val t.d) (.own d) x5 x6 x7 x8) 5 (.own e) = some (E s bg x2 (.val t.d) (.own d) (.own e) x6 x7 x8) := fun bg d e => setV_nb rfl n5
  have q1 : b1 (E s (bagD a b c cs) x2 x3 x4 x5 x6 x7 x8) = .nx (E s (bagD a1 b1' c1 cs) x2 (.val t.d) x4 x5 x6 x7 x8) := by
    have := s3 (bagD a1 b1' c1 cs)
    simp only [E] at this
    unfold b1
    simp [-s_setV, E, e1, this]
  have q2 : b2 (E s (bagD a1 b1' c1 cs) x2 (.val t.d) x4 x5 x6 x7 x8) = .nx (E s (bagD a1 b1' c1 cs) x2 (.val t.d) (.own (.lst ((piecesP t).map Pc.D))) x5 x6 x7 x8) := by
    have := s4 (bagD a1 b1' c1 cs)
    simp only [E] at this
    unfold b2
    simp [-s_setV, E, ep, this]
  have q3 : b3 (E s (bagD a1 b1' c1 cs) x2 (.val t.d) (.own (.lst ((piecesP t).map Pc.D))) x5 x6 x7 x8) = .nx (E s (bagD a1 b1' c1 cs) x2 (.val t.d) (.own (.lst ((piecesP t).map Pc.D))) (.own (.lst (fewC.map cD))) x6 x7 x8) := by
    unfold b3
    rw [dSet_ap, gFew_spec]
    show SR.of (setV _ 5 (.own _)) = _
    rw [s5]
    rfl
  refine ⟨_, ?_, a2, b2', c2, x2, .val t.d, y4, .own (.lst (fewC.map cD)), y6, y7, y8, n2, nb_val _, m4, nb_own _, m6, m7, m8, rfl⟩
  show (b1 _).bind _ = _
  rw [q1]
  show (b2 _).bind _ = _
  rw [q2]
  show (b3 _).bind _ = _
  rw [q3]
  exact e4
theorem laps_spec (hc : cs.length ≤ 1000) : ∀ (ds : List D) {ρ : DL.Env}, Sh cs s ρ → ∃ ρ', forGo (gtName 2) lapB ds ρ = .nx ρ' ∧ Sh cs s ρ'
  | [], ρ, h => ⟨ρ, rfl, h⟩
  | d :: ds, ρ, h => by
    obtain ⟨a, b, c, x2, x3, x4, x5, x6, x7, x8, n2, n3, n4, n5, n6, n7, n8, rfl⟩ := h
    have e0 : gtName 2 d (E s (bagD a b c cs) x2 x3 x4 x5 x6 x7 x8) = some (E s (bagD a b c cs) (.val d) x3 x4 x5 x6 x7 x8) := setV_nb rfl n2
    obtain ⟨ρ1, e1, h1⟩ := lap_spec (s := s) hc (ρ := E s (bagD a b c cs) (.val d) x3 x4 x5 x6 x7 x8) ⟨a, b, c, _, _, _, _, _, _, _, nb_val _, n3, n4, n5, n6, n7, n8, rfl⟩
    obtain ⟨ρ2, e2, h2⟩ := laps_spec hc ds h1
    refine ⟨ρ2, ?_, h2⟩
    unfold forGo
    rw [e0]
    dsimp only
    rw [e1]
    exact e2
end
theorem bag_spec (ns : List Int) : ∃ cs : List Int, cs.length ≤ 63 ∧ d__law_bag [.scr (ns.map .int)] = .ok (.new (bagD 0 1234567891 0 cs)) [.scr (ns.map .int)] := by
  refine ⟨(ns.take 63).map fun i => if i < 0 then -i else i, by rw [List.length_map, List.length_take]; omega, ?_⟩
  have e1 : cutD (ns.map .int) none (some 63) = (ns.take 63).map .int := by
    have := cut_front (ns.map .int) 63
    rw [List.map_take]
    exact this
  have e2 := compGo_m (vs := [1]) (ft := gtName 1) (ge := dB fAbs (dCons (dVar 1) dNil)) (f := D.int) (g := fun i => D.int (if i < 0 then -i else i)) (ρ := [.val (.scr (ns.map .int)), .non])
    (ns.take 63) (fun i _ => ⟨[.val (.scr (ns.map .int)), .val (.int i)], by simp, ⟨.val (.int (if i < 0 then -i else i)), by simp, rfl⟩, by simp⟩)
  have e3 : (ns.take 63).length ≤ 1000000 := by rw [List.length_take]; omega
  unfold d__law_bag dDef bagD
  simp [e1, -List.map_take, -List.length_take, e3, e2]
theorem law_true (ns : List Int) (h : ns.length ≤ 63) : ∃ outs, d_law [.scr (ns.map .int)] = .ok (.val (.bl true)) outs := by
  obtain ⟨cs, hc, e1⟩ := bag_spec ns
  obtain ⟨ρ', e2, h2⟩ := laps_spec (cs := cs) (s := .scr (ns.map .int)) (by omega) ((List.range 12).map fun (k : Nat) => D.int (k : Int)) (ρ := E (.scr (ns.map .int)) (bagD 0 1234567891 0 cs) .non .non .non .non .non .non .non) ⟨0, 1234567891, 0, _, _, _, _, _, _, _, nb_non, nb_non, nb_non, nb_non, nb_non, nb_non, nb_non, rfl⟩
  obtain ⟨a, b, c, x2, x3, x4, x5, x6, x7, x8, n2, n3, n4, n5, n6, n7, n8, rfl⟩ := h2
  refine ⟨[.scr (ns.map .int)], ?_⟩
  have e3 : iArgs kRange1 (dCons (dC (.int 12)) dNil) (E (.scr (ns.map .int)) (bagD 0 1234567891 0 cs) .non .non .non .non .non .non .non) = .ok ((List.range 12).map fun (k : Nat) => D.int (k : Int)) (E (.scr (ns.map .int)) (bagD 0 1234567891 0 cs) .non .non .non .non .non .non .non) := by kernel_rfl
  rw [d_law_eq]
  unfold dDef
  simp only [E] at e2 e3
  simp [-s_iArgs, e1, e3, e2, -List.map_map]
end K22

/-! the end (printed by gen.py). -/
namespace K22
open PySem PySem.Spec L2 DL
theorem all_mk {l : PySem.W.OpenLaw} {w : World} {K : PySem.W.Frag} {h : Heap} {mg : Str → Option Value} {fa : Addr} (X : K.In h) (G : h.Ns mainGlobals mg) (hfa : mg "law" = some (.ref fa))
    {f_plus_line : Addr} {oc_plus_line : Value} {od_plus_line an_plus_line : Option Addr} {sl_plus_line : Array (Option Value)} {kV_plus_line dc_plus_line pm_plus_line cd_plus_line ct_plus_line : Value}
    (a_plus_line : PySem.W.nsIn K mainGlobals "plus_line" = some (some (.ref f_plus_line))) (l_plus_line : K.lookup f_plus_line = some ⟨oc_plus_line, od_plus_line, .func (PySem.W.fnOf "plus_line" "plus_line" (defArgs st_plus_line) (defBody st_plus_line) (defScope st_plus_line) .none kV_plus_line dc_plus_line pm_plus_line an_plus_line cd_plus_line ct_plus_line), sl_plus_line⟩) (e_plus_line : PySem.W.codeIn K cd_plus_line "plus_line" = true) (k_plus_line : PySem.W.keepIn K (.ref f_plus_line) = true)
    {f_times_line : Addr} {oc_times_line : Value} {od_times_line an_times_line : Option Addr} {sl_times_line : Array (Option Value)} {kV_times_line dc_times_line pm_times_line cd_times_line ct_times_line : Value}
    (a_times_line : PySem.W.nsIn K mainGlobals "times_line" = some (some (.ref f_times_line))) (l_times_line : K.lookup f_times_line = some ⟨oc_times_line, od_times_line, .func (PySem.W.fnOf "times_line" "times_line" (defArgs st_times_line) (defBody st_times_line) (defScope st_times_line) .none kV_times_line dc_times_line pm_times_line an_times_line cd_times_line ct_times_line), sl_times_line⟩) (e_times_line : PySem.W.codeIn K cd_times_line "times_line" = true) (k_times_line : PySem.W.keepIn K (.ref f_times_line) = true)
    {f_less_line : Addr} {oc_less_line : Value} {od_less_line an_less_line : Option Addr} {sl_less_line : Array (Option Value)} {kV_less_line dc_less_line pm_less_line cd_less_line ct_less_line : Value}
    (a_less_line : PySem.W.nsIn K mainGlobals "less_line" = some (some (.ref f_less_line))) (l_less_line : K.lookup f_less_line = some ⟨oc_less_line, od_less_line, .func (PySem.W.fnOf "less_line" "less_line" (defArgs st_less_line) (defBody st_less_line) (defScope st_less_line) .none kV_less_line dc_less_line pm_less_line an_less_line cd_less_line ct_less_line), sl_less_line⟩) (e_less_line : PySem.W.codeIn K cd_less_line "less_line" = true) (k_less_line : PySem.W.keepIn K (.ref f_less_line) = true)
    {f_below_line : Addr} {oc_below_line : Value} {od_below_line an_below_line : Option Addr} {sl_below_line : Array (Option Value)} {kV_below_line dc_below_line pm_below_line cd_below_line ct_below_line : Value}
    (a_below_line : PySem.W.nsIn K mainGlobals "below_line" = some (some (.ref f_below_line))) (l_below_line : K.lookup f_below_line = some ⟨oc_below_line, od_below_line, .func (PySem.W.fnOf "below_line" "below_line" (defArgs st_below_line) (defBody st_below_line) (defScope st_below_line) .none kV_below_line dc_below_line pm_below_line an_below_line cd_below_line ct_below_line), sl_below_line⟩) (e_below_line : PySem.W.codeIn K cd_below_line "below_line" = true) (k_below_line : PySem.W.keepIn K (.ref f_below_line) = true)
    {f_is_plainly : Addr} {oc_is_plainly : Value} {od_is_plainly an_is_plainly : Option Addr} {sl_is_plainly : Array (Option Value)} {kV_is_plainly dc_is_plainly pm_is_plainly cd_is_plainly ct_is_plainly : Value}
    (a_is_plainly : PySem.W.nsIn K mainGlobals "is_plainly" = some (some (.ref f_is_plainly))) (l_is_plainly : K.lookup f_is_plainly = some ⟨oc_is_plainly, od_is_plainly, .func (PySem.W.fnOf "is_plainly" "is_plainly" (defArgs st_is_plainly) (defBody st_is_plainly) (defScope st_is_plainly) .none kV_is_plainly dc_is_plainly pm_is_plainly an_is_plainly cd_is_plainly ct_is_plainly), sl_is_plainly⟩) (e_is_plainly : PySem.W.codeIn K cd_is_plainly "is_plainly" = true) (k_is_plainly : PySem.W.keepIn K (.ref f_is_plainly) = true)
    {f_is_never : Addr} {oc_is_never : Value} {od_is_never an_is_never : Option Addr} {sl_is_never : Array (Option Value)} {kV_is_never dc_is_never pm_is_never cd_is_never ct_is_never : Value}
    (a_is_never : PySem.W.nsIn K mainGlobals "is_never" = some (some (.ref f_is_never))) (l_is_never : K.lookup f_is_never = some ⟨oc_is_never, od_is_never, .func (PySem.W.fnOf "is_never" "is_never" (defArgs st_is_never) (defBody st_is_never) (defScope st_is_never) .none kV_is_never dc_is_never pm_is_never an_is_never cd_is_never ct_is_never), sl_is_never⟩) (e_is_never : PySem.W.codeIn K cd_is_never "is_never" = true) (k_is_never : PySem.W.keepIn K (.ref f_is_never) = true)
    {f_with_line : Addr} {oc_with_line : Value} {od_with_line an_with_line : Option Addr} {sl_with_line : Array (Option Value)} {kV_with_line dc_with_line pm_with_line cd_with_line ct_with_line : Value}
    (a_with_line : PySem.W.nsIn K mainGlobals "with_line" = some (some (.ref f_with_line))) (l_with_line : K.lookup f_with_line = some ⟨oc_with_line, od_with_line, .func (PySem.W.fnOf "with_line" "with_line" (defArgs st_with_line) (defBody st_with_line) (defScope st_with_line) .none kV_with_line dc_with_line pm_with_line an_with_line cd_with_line ct_with_line), sl_with_line⟩) (e_with_line : PySem.W.codeIn K cd_with_line "with_line" = true) (k_with_line : PySem.W.keepIn K (.ref f_with_line) = true)
    {f_chosen : Addr} {oc_chosen : Value} {od_chosen an_chosen : Option Addr} {sl_chosen : Array (Option Value)} {kV_chosen dc_chosen pm_chosen cd_chosen ct_chosen : Value}
    (a_chosen : PySem.W.nsIn K mainGlobals "chosen" = some (some (.ref f_chosen))) (l_chosen : K.lookup f_chosen = some ⟨oc_chosen, od_chosen, .func (PySem.W.fnOf "chosen" "chosen" (defArgs st_chosen) (defBody st_chosen) (defScope st_chosen) .none kV_chosen dc_chosen pm_chosen an_chosen cd_chosen ct_chosen), sl_chosen⟩) (e_chosen : PySem.W.codeIn K cd_chosen "chosen" = true) (k_chosen : PySem.W.keepIn K (.ref f_chosen) = true)
    {f_both : Addr} {oc_both : Value} {od_both an_both : Option Addr} {sl_both : Array (Option Value)} {kV_both dc_both pm_both cd_both ct_both : Value}
    (a_both : PySem.W.nsIn K mainGlobals "both" = some (some (.ref f_both))) (l_both : K.lookup f_both = some ⟨oc_both, od_both, .func (PySem.W.fnOf "both" "both" (defArgs st_both) (defBody st_both) (defScope st_both) .none kV_both dc_both pm_both an_both cd_both ct_both), sl_both⟩) (e_both : PySem.W.codeIn K cd_both "both" = true) (k_both : PySem.W.keepIn K (.ref f_both) = true)
    {f_pieces : Addr} {oc_pieces : Value} {od_pieces an_pieces : Option Addr} {sl_pieces : Array (Option Value)} {kV_pieces dc_pieces pm_pieces cd_pieces ct_pieces : Value}
    (a_pieces : PySem.W.nsIn K mainGlobals "pieces" = some (some (.ref f_pieces))) (l_pieces : K.lookup f_pieces = some ⟨oc_pieces, od_pieces, .func (PySem.W.fnOf "pieces" "pieces" (defArgs st_pieces) (defBody st_pieces) (defScope st_pieces) .none kV_pieces dc_pieces pm_pieces an_pieces cd_pieces ct_pieces), sl_pieces⟩) (e_pieces : PySem.W.codeIn K cd_pieces "pieces" = true) (k_pieces : PySem.W.keepIn K (.ref f_pieces) = true)
    {f_is_number : Addr} {oc_is_number : Value} {od_is_number an_is_number : Option Addr} {sl_is_number : Array (Option Value)} {kV_is_number dc_is_number pm_is_number cd_is_number ct_is_number : Value}
    (a_is_number : PySem.W.nsIn K mainGlobals "is_number" = some (some (.ref f_is_number))) (l_is_number : K.lookup f_is_number = some ⟨oc_is_number, od_is_number, .func (PySem.W.fnOf "is_number" "is_number" (defArgs st_is_number) (defBody st_is_number) (defScope st_is_number) .none kV_is_number dc_is_number pm_is_number an_is_number cd_is_number ct_is_number), sl_is_number⟩) (e_is_number : PySem.W.codeIn K cd_is_number "is_number" = true) (k_is_number : PySem.W.keepIn K (.ref f_is_number) = true)
    {f_is_index : Addr} {oc_is_index : Value} {od_is_index an_is_index : Option Addr} {sl_is_index : Array (Option Value)} {kV_is_index dc_is_index pm_is_index cd_is_index ct_is_index : Value}
    (a_is_index : PySem.W.nsIn K mainGlobals "is_index" = some (some (.ref f_is_index))) (l_is_index : K.lookup f_is_index = some ⟨oc_is_index, od_is_index, .func (PySem.W.fnOf "is_index" "is_index" (defArgs st_is_index) (defBody st_is_index) (defScope st_is_index) .none kV_is_index dc_is_index pm_is_index an_is_index cd_is_index ct_is_index), sl_is_index⟩) (e_is_index : PySem.W.codeIn K cd_is_index "is_index" = true) (k_is_index : PySem.W.keepIn K (.ref f_is_index) = true)
    {f_is_between : Addr} {oc_is_between : Value} {od_is_between an_is_between : Option Addr} {sl_is_between : Array (Option Value)} {kV_is_between dc_is_between pm_is_between cd_is_between ct_is_between : Value}
    (a_is_between : PySem.W.nsIn K mainGlobals "is_between" = some (some (.ref f_is_between))) (l_is_between : K.lookup f_is_between = some ⟨oc_is_between, od_is_between, .func (PySem.W.fnOf "is_between" "is_between" (defArgs st_is_between) (defBody st_is_between) (defScope st_is_between) .none kV_is_between dc_is_between pm_is_between an_is_between cd_is_between ct_is_between), sl_is_between⟩) (e_is_between : PySem.W.codeIn K cd_is_between "is_between" = true) (k_is_between : PySem.W.keepIn K (.ref f_is_between) = true)
    {f_is_name : Addr} {oc_is_name : Value} {od_is_name an_is_name : Option Addr} {sl_is_name : Array (Option Value)} {kV_is_name dc_is_name pm_is_name cd_is_name ct_is_name : Value}
    (a_is_name : PySem.W.nsIn K mainGlobals "is_name" = some (some (.ref f_is_name))) (l_is_name : K.lookup f_is_name = some ⟨oc_is_name, od_is_name, .func (PySem.W.fnOf "is_name" "is_name" (defArgs st_is_name) (defBody st_is_name) (defScope st_is_name) .none kV_is_name dc_is_name pm_is_name an_is_name cd_is_name ct_is_name), sl_is_name⟩) (e_is_name : PySem.W.codeIn K cd_is_name "is_name" = true) (k_is_name : PySem.W.keepIn K (.ref f_is_name) = true)
    {f_is_worded : Addr} {oc_is_worded : Value} {od_is_worded an_is_worded : Option Addr} {sl_is_worded : Array (Option Value)} {kV_is_worded dc_is_worded pm_is_worded cd_is_worded ct_is_worded : Value}
    (a_is_worded : PySem.W.nsIn K mainGlobals "is_worded" = some (some (.ref f_is_worded))) (l_is_worded : K.lookup f_is_worded = some ⟨oc_is_worded, od_is_worded, .func (PySem.W.fnOf "is_worded" "is_worded" (defArgs st_is_worded) (defBody st_is_worded) (defScope st_is_worded) .none kV_is_worded dc_is_worded pm_is_worded an_is_worded cd_is_worded ct_is_worded), sl_is_worded⟩) (e_is_worded : PySem.W.codeIn K cd_is_worded "is_worded" = true) (k_is_worded : PySem.W.keepIn K (.ref f_is_worded) = true)
    {f_is_term : Addr} {oc_is_term : Value} {od_is_term an_is_term : Option Addr} {sl_is_term : Array (Option Value)} {kV_is_term dc_is_term pm_is_term cd_is_term ct_is_term : Value}
    (a_is_term : PySem.W.nsIn K mainGlobals "is_term" = some (some (.ref f_is_term))) (l_is_term : K.lookup f_is_term = some ⟨oc_is_term, od_is_term, .func (PySem.W.fnOf "is_term" "is_term" (defArgs st_is_term) (defBody st_is_term) (defScope st_is_term) .none kV_is_term dc_is_term pm_is_term an_is_term cd_is_term ct_is_term), sl_is_term⟩) (e_is_term : PySem.W.codeIn K cd_is_term "is_term" = true) (k_is_term : PySem.W.keepIn K (.ref f_is_term) = true)
    {f_worth : Addr} {oc_worth : Value} {od_worth an_worth : Option Addr} {sl_worth : Array (Option Value)} {kV_worth dc_worth pm_worth cd_worth ct_worth : Value}
    (a_worth : PySem.W.nsIn K mainGlobals "worth" = some (some (.ref f_worth))) (l_worth : K.lookup f_worth = some ⟨oc_worth, od_worth, .func (PySem.W.fnOf "worth" "worth" (defArgs st_worth) (defBody st_worth) (defScope st_worth) .none kV_worth dc_worth pm_worth an_worth cd_worth ct_worth), sl_worth⟩) (e_worth : PySem.W.codeIn K cd_worth "worth" = true) (k_worth : PySem.W.keepIn K (.ref f_worth) = true)
    {f_names_in : Addr} {oc_names_in : Value} {od_names_in an_names_in : Option Addr} {sl_names_in : Array (Option Value)} {kV_names_in dc_names_in pm_names_in cd_names_in ct_names_in : Value}
    (a_names_in : PySem.W.nsIn K mainGlobals "names_in" = some (some (.ref f_names_in))) (l_names_in : K.lookup f_names_in = some ⟨oc_names_in, od_names_in, .func (PySem.W.fnOf "names_in" "names_in" (defArgs st_names_in) (defBody st_names_in) (defScope st_names_in) .none kV_names_in dc_names_in pm_names_in an_names_in cd_names_in ct_names_in), sl_names_in⟩) (e_names_in : PySem.W.codeIn K cd_names_in "names_in" = true) (k_names_in : PySem.W.keepIn K (.ref f_names_in) = true)
    {f_term_worth : Addr} {oc_term_worth : Value} {od_term_worth an_term_worth : Option Addr} {sl_term_worth : Array (Option Value)} {kV_term_worth dc_term_worth pm_term_worth cd_term_worth ct_term_worth : Value}
    (a_term_worth : PySem.W.nsIn K mainGlobals "term_worth" = some (some (.ref f_term_worth))) (l_term_worth : K.lookup f_term_worth = some ⟨oc_term_worth, od_term_worth, .func (PySem.W.fnOf "term_worth" "term_worth" (defArgs st_term_worth) (defBody st_term_worth) (defScope st_term_worth) .none kV_term_worth dc_term_worth pm_term_worth an_term_worth cd_term_worth ct_term_worth), sl_term_worth⟩) (e_term_worth : PySem.W.codeIn K cd_term_worth "term_worth" = true) (k_term_worth : PySem.W.keepIn K (.ref f_term_worth) = true)
    {f__law_bag : Addr} {oc__law_bag : Value} {od__law_bag an__law_bag : Option Addr} {sl__law_bag : Array (Option Value)} {kV__law_bag dc__law_bag pm__law_bag cd__law_bag ct__law_bag : Value}
    (a__law_bag : PySem.W.nsIn K mainGlobals "_law_bag" = some (some (.ref f__law_bag))) (l__law_bag : K.lookup f__law_bag = some ⟨oc__law_bag, od__law_bag, .func (PySem.W.fnOf "_law_bag" "_law_bag" (defArgs st__law_bag) (defBody st__law_bag) (defScope st__law_bag) .none kV__law_bag dc__law_bag pm__law_bag an__law_bag cd__law_bag ct__law_bag), sl__law_bag⟩) (e__law_bag : PySem.W.codeIn K cd__law_bag "_law_bag" = true) (k__law_bag : PySem.W.keepIn K (.ref f__law_bag) = true)
    {f__law_take : Addr} {oc__law_take : Value} {od__law_take an__law_take : Option Addr} {sl__law_take : Array (Option Value)} {kV__law_take dc__law_take pm__law_take cd__law_take ct__law_take : Value}
    (a__law_take : PySem.W.nsIn K mainGlobals "_law_take" = some (some (.ref f__law_take))) (l__law_take : K.lookup f__law_take = some ⟨oc__law_take, od__law_take, .func (PySem.W.fnOf "_law_take" "_law_take" (defArgs st__law_take) (defBody st__law_take) (defScope st__law_take) .none kV__law_take dc__law_take pm__law_take an__law_take cd__law_take ct__law_take), sl__law_take⟩) (e__law_take : PySem.W.codeIn K cd__law_take "_law_take" = true) (k__law_take : PySem.W.keepIn K (.ref f__law_take) = true)
    {f__law_some : Addr} {oc__law_some : Value} {od__law_some an__law_some : Option Addr} {sl__law_some : Array (Option Value)} {kV__law_some dc__law_some pm__law_some cd__law_some ct__law_some : Value}
    (a__law_some : PySem.W.nsIn K mainGlobals "_law_some" = some (some (.ref f__law_some))) (l__law_some : K.lookup f__law_some = some ⟨oc__law_some, od__law_some, .func (PySem.W.fnOf "_law_some" "_law_some" (defArgs st__law_some) (defBody st__law_some) (defScope st__law_some) .none kV__law_some dc__law_some pm__law_some an__law_some cd__law_some ct__law_some), sl__law_some⟩) (e__law_some : PySem.W.codeIn K cd__law_some "_law_some" = true) (k__law_some : PySem.W.keepIn K (.ref f__law_some) = true)
    {f__law_alike : Addr} {oc__law_alike : Value} {od__law_alike an__law_alike : Option Addr} {sl__law_alike : Array (Option Value)} {kV__law_alike dc__law_alike pm__law_alike cd__law_alike ct__law_alike : Value}
    (a__law_alike : PySem.W.nsIn K mainGlobals "_law_alike" = some (some (.ref f__law_alike))) (l__law_alike : K.lookup f__law_alike = some ⟨oc__law_alike, od__law_alike, .func (PySem.W.fnOf "_law_alike" "_law_alike" (defArgs st__law_alike) (defBody st__law_alike) (defScope st__law_alike) .none kV__law_alike dc__law_alike pm__law_alike an__law_alike cd__law_alike ct__law_alike), sl__law_alike⟩) (e__law_alike : PySem.W.codeIn K cd__law_alike "_law_alike" = true) (k__law_alike : PySem.W.keepIn K (.ref f__law_alike) = true)
    {f__law_worth : Addr} {oc__law_worth : Value} {od__law_worth an__law_worth : Option Addr} {sl__law_worth : Array (Option Value)} {kV__law_worth dc__law_worth pm__law_worth cd__law_worth ct__law_worth : Value}
    (a__law_worth : PySem.W.nsIn K mainGlobals "_law_worth" = some (some (.ref f__law_worth))) (l__law_worth : K.lookup f__law_worth = some ⟨oc__law_worth, od__law_worth, .func (PySem.W.fnOf "_law_worth" "_law_worth" (defArgs st__law_worth) (defBody st__law_worth) (defScope st__law_worth) .none kV__law_worth dc__law_worth pm__law_worth an__law_worth cd__law_worth ct__law_worth), sl__law_worth⟩) (e__law_worth : PySem.W.codeIn K cd__law_worth "_law_worth" = true) (k__law_worth : PySem.W.keepIn K (.ref f__law_worth) = true)
    {f__law_drawn_term : Addr} {oc__law_drawn_term : Value} {od__law_drawn_term an__law_drawn_term : Option Addr} {sl__law_drawn_term : Array (Option Value)} {kV__law_drawn_term dc__law_drawn_term pm__law_drawn_term cd__law_drawn_term ct__law_drawn_term : Value}
    (a__law_drawn_term : PySem.W.nsIn K mainGlobals "_law_drawn_term" = some (some (.ref f__law_drawn_term))) (l__law_drawn_term : K.lookup f__law_drawn_term = some ⟨oc__law_drawn_term, od__law_drawn_term, .func (PySem.W.fnOf "_law_drawn_term" "_law_drawn_term" (defArgs st__law_drawn_term) (defBody st__law_drawn_term) (defScope st__law_drawn_term) .none kV__law_drawn_term dc__law_drawn_term pm__law_drawn_term an__law_drawn_term cd__law_drawn_term ct__law_drawn_term), sl__law_drawn_term⟩) (e__law_drawn_term : PySem.W.codeIn K cd__law_drawn_term "_law_drawn_term" = true) (k__law_drawn_term : PySem.W.keepIn K (.ref f__law_drawn_term) = true)
    {f__law_value : Addr} {oc__law_value : Value} {od__law_value an__law_value : Option Addr} {sl__law_value : Array (Option Value)} {kV__law_value dc__law_value pm__law_value cd__law_value ct__law_value : Value}
    (a__law_value : PySem.W.nsIn K mainGlobals "_law_value" = some (some (.ref f__law_value))) (l__law_value : K.lookup f__law_value = some ⟨oc__law_value, od__law_value, .func (PySem.W.fnOf "_law_value" "_law_value" (defArgs st__law_value) (defBody st__law_value) (defScope st__law_value) .none kV__law_value dc__law_value pm__law_value an__law_value cd__law_value ct__law_value), sl__law_value⟩) (e__law_value : PySem.W.codeIn K cd__law_value "_law_value" = true) (k__law_value : PySem.W.keepIn K (.ref f__law_value) = true)
    {f_law : Addr} {oc_law : Value} {od_law an_law : Option Addr} {sl_law : Array (Option Value)} {kV_law dc_law pm_law cd_law ct_law : Value}
    (a_law : PySem.W.nsIn K mainGlobals "law" = some (some (.ref f_law))) (l_law : K.lookup f_law = some ⟨oc_law, od_law, .func (PySem.W.fnOf "law" "law" (defArgs st_law) (defBody st_law) (defScope st_law) .none kV_law dc_law pm_law an_law cd_law ct_law), sl_law⟩) (e_law : PySem.W.codeIn K cd_law "law" = true) (k_law : PySem.W.keepIn K (.ref f_law) = true)
    (y_abs : PySem.W.nsIn K mainGlobals "abs" = some none)
    (y_all : PySem.W.nsIn K mainGlobals "all" = some none)
    (y_bool : PySem.W.nsIn K mainGlobals "bool" = some none)
    (y_dict : PySem.W.nsIn K mainGlobals "dict" = some none)
    (y_int : PySem.W.nsIn K mainGlobals "int" = some none)
    (y_isinstance : PySem.W.nsIn K mainGlobals "isinstance" = some none)
    (y_len : PySem.W.nsIn K mainGlobals "len" = some none)
    (y_max : PySem.W.nsIn K mainGlobals "max" = some none)
    (y_min : PySem.W.nsIn K mainGlobals "min" = some none)
    (y_range : PySem.W.nsIn K mainGlobals "range" = some none)
    (y_repr : PySem.W.nsIn K mainGlobals "repr" = some none)
    (y_str : PySem.W.nsIn K mainGlobals "str" = some none)
    (y_sum : PySem.W.nsIn K mainGlobals "sum" = some none)
    (y_tuple : PySem.W.nsIn K mainGlobals "tuple" = some none)
    (y_zip : PySem.W.nsIn K mainGlobals "zip" = some none)
    {u_LETTERS : Value} (b_LETTERS : PySem.W.nsIn K mainGlobals "LETTERS" = some (some u_LETTERS)) (h_LETTERS : flatOk u_LETTERS k_LETTERS = true)
    {u_DIGITS : Value} (b_DIGITS : PySem.W.nsIn K mainGlobals "DIGITS" = some (some u_DIGITS)) (h_DIGITS : flatOk u_DIGITS k_DIGITS = true)
    {u_MOST_LETTERS : Value} (b_MOST_LETTERS : PySem.W.nsIn K mainGlobals "MOST_LETTERS" = some (some u_MOST_LETTERS)) (h_MOST_LETTERS : flatOk u_MOST_LETTERS k_MOST_LETTERS = true)
    {u_MOST_NUMBER : Value} (b_MOST_NUMBER : PySem.W.nsIn K mainGlobals "MOST_NUMBER" = some (some u_MOST_NUMBER)) (h_MOST_NUMBER : flatOk u_MOST_NUMBER k_MOST_NUMBER = true)
    {u_MOST_OFTEN : Value} (b_MOST_OFTEN : PySem.W.nsIn K mainGlobals "MOST_OFTEN" = some (some u_MOST_OFTEN)) (h_MOST_OFTEN : flatOk u_MOST_OFTEN k_MOST_OFTEN = true)
    {p_PAIRS : Addr} {dd_PAIRS : Option Addr} {us_PAIRS : Array Value} {nn_PAIRS : Nat} {ss_PAIRS : Array (Option Value)} (b_PAIRS : PySem.W.nsIn K mainGlobals "PAIRS" = some (some (.ref p_PAIRS))) (m_PAIRS : K.lookup p_PAIRS = some ⟨.type "tuple", dd_PAIRS, .seq us_PAIRS nn_PAIRS, ss_PAIRS⟩) (g_PAIRS : us_PAIRS.size ≤ 1000) (h_PAIRS : flatsOk us_PAIRS.toList (seqOfK k_PAIRS) = true)
    {p_RESERVED : Addr} {dd_RESERVED : Option Addr} {us_RESERVED : Array Value} {nn_RESERVED : Nat} {ss_RESERVED : Array (Option Value)} (b_RESERVED : PySem.W.nsIn K mainGlobals "RESERVED" = some (some (.ref p_RESERVED))) (m_RESERVED : K.lookup p_RESERVED = some ⟨.type "tuple", dd_RESERVED, .seq us_RESERVED nn_RESERVED, ss_RESERVED⟩) (g_RESERVED : us_RESERVED.size ≤ 1000) (h_RESERVED : flatsOk us_RESERVED.toList (seqOfK k_RESERVED) = true)
    {C_Nothing : Addr} (ac_Nothing : PySem.W.nsIn K mainGlobals "Nothing" = some (some (.ref C_Nothing))) (kc_Nothing : PySem.W.keepIn K (.ref C_Nothing) = true) (ec_Nothing : PySem.W.subIn K (.ref C_Nothing) (.type "BaseException") = some true) (tc_Nothing : PySem.W.typeIn K (.ref C_Nothing) = some (.type "type")) (hc_Nothing : PySem.W.hasDictIn K C_Nothing = true) (s_Nothing : PySem.W.subIn K (.ref C_Nothing) (.ref C_Nothing) = some true) (x_Nothing : PySem.W.excIn K C_Nothing [.type "ValueError", .type "Exception", .type "BaseException", .type "object"] "ValueError.__new__" = true) :
    ∃ fd : FuncData, (∀ (s : Shared) (u : Value), BindsTo s fd ⟨[u], []⟩ [("script", u)]) ∧ ∀ base : Heap, K.In base → base.Ns mainGlobals mg → FnG l.prog w K mg base 17 fa fd ["script"] (spD K [false] d_law) := by
  have e := hfa.symm.trans (PySem.W.mg_of X G a_law)
  cases e
  have df_plus_line : DefAt K mg "plus_line" st_plus_line ["one", "other"] := defAt_of X G a_plus_line l_plus_line e_plus_line k_plus_line fun _ _ _ _ _ _ us hl => match us, hl with | [_, _], _ => rfl
  have df_times_line : DefAt K mg "times_line" st_times_line ["often", "one"] := defAt_of X G a_times_line l_times_line e_times_line k_times_line fun _ _ _ _ _ _ us hl => match us, hl with | [_, _], _ => rfl
  have df_less_line : DefAt K mg "less_line" st_less_line ["one", "other"] := defAt_of X G a_less_line l_less_line e_less_line k_less_line fun _ _ _ _ _ _ us hl => match us, hl with | [_, _], _ => rfl
  have df_below_line : DefAt K mg "below_line" st_below_line ["one", "other"] := defAt_of X G a_below_line l_below_line e_below_line k_below_line fun _ _ _ _ _ _ us hl => match us, hl with | [_, _], _ => rfl
  have df_is_plainly : DefAt K mg "is_plainly" st_is_plainly ["line"] := defAt_of X G a_is_plainly l_is_plainly e_is_plainly k_is_plainly fun _ _ _ _ _ _ us hl => match us, hl with | [_], _ => rfl
  have df_is_never : DefAt K mg "is_never" st_is_never ["line"] := defAt_of X G a_is_never l_is_never e_is_never k_is_never fun _ _ _ _ _ _ us hl => match us, hl with | [_], _ => rfl
  have df_with_line : DefAt K mg "with_line" st_with_line ["lines", "line"] := defAt_of X G a_with_line l_with_line e_with_line k_with_line fun _ _ _ _ _ _ us hl => match us, hl with | [_, _], _ => rfl
  have df_chosen : DefAt K mg "chosen" st_chosen ["first", "second", "word"] := defAt_of X G a_chosen l_chosen e_chosen k_chosen fun _ _ _ _ _ _ us hl => match us, hl with | [_, _, _], _ => rfl
  have df_both : DefAt K mg "both" st_both ["first", "second"] := defAt_of X G a_both l_both e_both k_both fun _ _ _ _ _ _ us hl => match us, hl with | [_, _], _ => rfl
  have df_pieces : DefAt K mg "pieces" st_pieces ["names", "term"] := defAt_of X G a_pieces l_pieces e_pieces k_pieces fun _ _ _ _ _ _ us hl => match us, hl with | [_, _], _ => rfl
  have df_is_number : DefAt K mg "is_number" st_is_number ["thing"] := defAt_of X G a_is_number l_is_number e_is_number k_is_number fun _ _ _ _ _ _ us hl => match us, hl with | [_], _ => rfl
  have df_is_index : DefAt K mg "is_index" st_is_index ["thing"] := defAt_of X G a_is_index l_is_index e_is_index k_is_index fun _ _ _ _ _ _ us hl => match us, hl with | [_], _ => rfl
  have df_is_between : DefAt K mg "is_between" st_is_between ["thing", "low", "high"] := defAt_of X G a_is_between l_is_between e_is_between k_is_between fun _ _ _ _ _ _ us hl => match us, hl with | [_, _, _], _ => rfl
  have df_is_name : DefAt K mg "is_name" st_is_name ["thing"] := defAt_of X G a_is_name l_is_name e_is_name k_is_name fun _ _ _ _ _ _ us hl => match us, hl with | [_], _ => rfl
  have df_is_worded : DefAt K mg "is_worded" st_is_worded ["thing", "words"] := defAt_of X G a_is_worded l_is_worded e_is_worded k_is_worded fun _ _ _ _ _ _ us hl => match us, hl with | [_, _], _ => rfl
  have df_is_term : DefAt K mg "is_term" st_is_term ["thing"] := defAt_of X G a_is_term l_is_term e_is_term k_is_term fun _ _ _ _ _ _ us hl => match us, hl with | [_], _ => rfl
  have df_worth : DefAt K mg "worth" st_worth ["term", "counts"] := defAt_of X G a_worth l_worth e_worth k_worth fun _ _ _ _ _ _ us hl => match us, hl with | [_, _], _ => rfl
  have df_names_in : DefAt K mg "names_in" st_names_in ["term"] := defAt_of X G a_names_in l_names_in e_names_in k_names_in fun _ _ _ _ _ _ us hl => match us, hl with | [_], _ => rfl
  have df_term_worth : DefAt K mg "term_worth" st_term_worth ["term", "counts"] := defAt_of X G a_term_worth l_term_worth e_term_worth k_term_worth fun _ _ _ _ _ _ us hl => match us, hl with | [_, _], _ => rfl
  have df__law_bag : DefAt K mg "_law_bag" st__law_bag ["script"] := defAt_of X G a__law_bag l__law_bag e__law_bag k__law_bag fun _ _ _ _ _ _ us hl => match us, hl with | [_], _ => rfl
  have df__law_take : DefAt K mg "_law_take" st__law_take ["bag", "many"] := defAt_of X G a__law_take l__law_take e__law_take k__law_take fun _ _ _ _ _ _ us hl => match us, hl with | [_, _], _ => rfl
  have df__law_some : DefAt K mg "_law_some" st__law_some ["bag", "things"] := defAt_of X G a__law_some l__law_some e__law_some k__law_some fun _ _ _ _ _ _ us hl => match us, hl with | [_, _], _ => rfl
  have df__law_alike : DefAt K mg "_law_alike" st__law_alike ["found", "due"] := defAt_of X G a__law_alike l__law_alike e__law_alike k__law_alike fun _ _ _ _ _ _ us hl => match us, hl with | [_, _], _ => rfl
  have df__law_worth : DefAt K mg "_law_worth" st__law_worth ["term", "counts"] := defAt_of X G a__law_worth l__law_worth e__law_worth k__law_worth fun _ _ _ _ _ _ us hl => match us, hl with | [_, _], _ => rfl
  have df__law_drawn_term : DefAt K mg "_law_drawn_term" st__law_drawn_term ["bag", "deep"] := defAt_of X G a__law_drawn_term l__law_drawn_term e__law_drawn_term k__law_drawn_term fun _ _ _ _ _ _ us hl => match us, hl with | [_, _], _ => rfl
  have df__law_value : DefAt K mg "_law_value" st__law_value ["row", "numbers"] := defAt_of X G a__law_value l__law_value e__law_value k__law_value fun _ _ _ _ _ _ us hl => match us, hl with | [_, _], _ => rfl
  have z_abs : mg "abs" = none := PySem.W.mg_none_of X G y_abs
  have z_all : mg "all" = none := PySem.W.mg_none_of X G y_all
  have z_bool : mg "bool" = none := PySem.W.mg_none_of X G y_bool
  have z_dict : mg "dict" = none := PySem.W.mg_none_of X G y_dict
  have z_int : mg "int" = none := PySem.W.mg_none_of X G y_int
  have z_isinstance : mg "isinstance" = none := PySem.W.mg_none_of X G y_isinstance
  have z_len : mg "len" = none := PySem.W.mg_none_of X G y_len
  have z_max : mg "max" = none := PySem.W.mg_none_of X G y_max
  have z_min : mg "min" = none := PySem.W.mg_none_of X G y_min
  have z_range : mg "range" = none := PySem.W.mg_none_of X G y_range
  have z_repr : mg "repr" = none := PySem.W.mg_none_of X G y_repr
  have z_str : mg "str" = none := PySem.W.mg_none_of X G y_str
  have z_sum : mg "sum" = none := PySem.W.mg_none_of X G y_sum
  have z_tuple : mg "tuple" = none := PySem.W.mg_none_of X G y_tuple
  have z_zip : mg "zip" = none := PySem.W.mg_none_of X G y_zip
  have q_LETTERS : GlobD K mg "LETTERS" k_LETTERS := glob_flat X G b_LETTERS h_LETTERS
  have q_DIGITS : GlobD K mg "DIGITS" k_DIGITS := glob_flat X G b_DIGITS h_DIGITS
  have q_MOST_LETTERS : GlobD K mg "MOST_LETTERS" k_MOST_LETTERS := glob_flat X G b_MOST_LETTERS h_MOST_LETTERS
  have q_MOST_NUMBER : GlobD K mg "MOST_NUMBER" k_MOST_NUMBER := glob_flat X G b_MOST_NUMBER h_MOST_NUMBER
  have q_MOST_OFTEN : GlobD K mg "MOST_OFTEN" k_MOST_OFTEN := glob_flat X G b_MOST_OFTEN h_MOST_OFTEN
  have q_PAIRS : GlobD K mg "PAIRS" k_PAIRS := glob_tup X G b_PAIRS m_PAIRS g_PAIRS h_PAIRS
  have q_RESERVED : GlobD K mg "RESERVED" k_RESERVED := glob_tup X G b_RESERVED m_RESERVED g_RESERVED h_RESERVED
  have o_Nothing : OwnX K mg "Nothing" C_Nothing := ⟨ac_Nothing, PySem.W.mg_of X G ac_Nothing, kc_Nothing, ec_Nothing, tc_Nothing, hc_Nothing⟩
  refine ⟨PySem.W.fnOf "law" "law" (defArgs st_law) (defBody st_law) (defScope st_law) .none kV_law dc_law pm_law an_law cd_law ct_law, fun s v => .of_eq rfl, fun base _ _ => ?_⟩
  have c_plus_line := ok_plus_line (P := l.prog) (w := w) (base := base) df_plus_line z_tuple z_zip
  have c_times_line := ok_times_line (P := l.prog) (w := w) (base := base) df_times_line z_tuple
  have c_less_line := ok_less_line (P := l.prog) (w := w) (base := base) df_less_line c_plus_line c_times_line
  have c_below_line := ok_below_line (P := l.prog) (w := w) (base := base) df_below_line c_less_line
  have c_is_plainly := ok_is_plainly (P := l.prog) (w := w) (base := base) df_is_plainly
  have c_is_never := ok_is_never (P := l.prog) (w := w) (base := base) df_is_never
  have c_with_line := ok_with_line (P := l.prog) (w := w) (base := base) df_with_line c_is_never c_is_plainly
  have c_chosen := ok_chosen (P := l.prog) (w := w) (base := base) df_chosen c_with_line c_less_line c_below_line z_len
  have c_both := ok_both (P := l.prog) (w := w) (base := base) df_both c_with_line c_plus_line
  have c_pieces := ok_pieces (P := l.prog) (w := w) (base := base) df_pieces c_times_line c_both c_chosen z_len z_tuple z_int 12
  have c_is_number := ok_is_number (P := l.prog) (w := w) (base := base) df_is_number z_isinstance z_int z_bool
  have c_is_index := ok_is_index (P := l.prog) (w := w) (base := base) df_is_index c_is_number
  have c_is_between := ok_is_between (P := l.prog) (w := w) (base := base) df_is_between c_is_number
  have c_is_name := ok_is_name (P := l.prog) (w := w) (base := base) df_is_name z_isinstance z_str z_len z_all q_MOST_LETTERS q_LETTERS q_RESERVED q_DIGITS
  have c_is_worded := ok_is_worded (P := l.prog) (w := w) (base := base) df_is_worded z_isinstance z_tuple z_str
  have c_is_term := ok_is_term (P := l.prog) (w := w) (base := base) df_is_term c_is_worded c_is_between c_is_name z_len q_MOST_NUMBER q_MOST_OFTEN q_PAIRS 12
  have c_worth := ok_worth (P := l.prog) (w := w) (base := base) df_worth z_max z_min 12
  have c_names_in := ok_names_in (P := l.prog) (w := w) (base := base) df_names_in z_isinstance z_tuple 12
  have c_term_worth := ok_term_worth (P := l.prog) (w := w) (base := base) df_term_worth c_is_term c_is_name c_is_index c_names_in c_worth z_isinstance z_dict z_all o_Nothing s_Nothing x_Nothing
  have c__law_bag := ok__law_bag (P := l.prog) (w := w) (base := base) df__law_bag z_abs
  have c__law_take := ok__law_take (P := l.prog) (w := w) (base := base) df__law_take z_int
  have c__law_some := ok__law_some (P := l.prog) (w := w) (base := base) df__law_some c__law_take z_len
  have c__law_alike := ok__law_alike (P := l.prog) (w := w) (base := base) df__law_alike z_repr
  have c__law_worth := ok__law_worth (P := l.prog) (w := w) (base := base) df__law_worth z_max z_min 12
  have c__law_drawn_term := ok__law_drawn_term (P := l.prog) (w := w) (base := base) df__law_drawn_term c__law_some c__law_take 12
  have c__law_value := ok__law_value (P := l.prog) (w := w) (base := base) df__law_value z_sum z_zip
  exact ok_law (fun_mk l_law e_law k_law) c__law_bag c__law_drawn_term c_pieces c__law_take c__law_value c__law_worth c__law_alike c_term_worth z_range z_sum z_len
end K22
open PySem PySem.W PyProof.Rows
set_option maxRecDepth 100000 in
set_option maxHeartbeats 0 in
theorem PySem.Challenge.cw_mergewright_k22_terms_as_lines_holds : PySem.Challenge.rw_mergewright_k22_terms_as_lines.Holds := by
  w_on; o_law; k_head; (case hw => w_witness2)
  k_fill
  refine DL.walk_G (l := PySem.Challenge.rw_mergewright_k22_terms_as_lines) (n := 63) (k := 17) (x := "script") (den := K22.d_law) rfl (by decide) rfl ⟨rfl, by decide, by decide⟩ (fun w h Y => PySem.W.kIn_of Y) ?F K22.law_true
  case F =>
    intro w mg fa h KX G hmg
    refine' K22.all_mk KX G hmg ?a_plus_line ?l_plus_line ?e_plus_line ?k_plus_line ?a_times_line ?l_times_line ?e_times_line ?k_times_line ?a_less_line ?l_less_line ?e_less_line ?k_less_line ?a_below_line ?l_below_line ?e_below_line ?k_below_line ?a_is_plainly ?l_is_plainly ?e_is_plainly ?k_is_plainly ?a_is_never ?l_is_never ?e_is_never ?k_is_never ?a_with_line ?l_with_line ?e_with_line ?k_with_line ?a_chosen ?l_chosen ?e_chosen ?k_chosen ?a_both ?l_both ?e_both ?k_both ?a_pieces ?l_pieces ?e_pieces ?k_pieces ?a_is_number ?l_is_number ?e_is_number ?k_is_number ?a_is_index ?l_is_index ?e_is_index ?k_is_index ?a_is_between ?l_is_between ?e_is_between ?k_is_between ?a_is_name ?l_is_name ?e_is_name ?k_is_name ?a_is_worded ?l_is_worded ?e_is_worded ?k_is_worded ?a_is_term ?l_is_term ?e_is_term ?k_is_term ?a_worth ?l_worth ?e_worth ?k_worth ?a_names_in ?l_names_in ?e_names_in ?k_names_in ?a_term_worth ?l_term_worth ?e_term_worth ?k_term_worth ?a__law_bag ?l__law_bag ?e__law_bag ?k__law_bag ?a__law_take ?l__law_take ?e__law_take ?k__law_take ?a__law_some ?l__law_some ?e__law_some ?k__law_some ?a__law_alike ?l__law_alike ?e__law_alike ?k__law_alike ?a__law_worth ?l__law_worth ?e__law_worth ?k__law_worth ?a__law_drawn_term ?l__law_drawn_term ?e__law_drawn_term ?k__law_drawn_term ?a__law_value ?l__law_value ?e__law_value ?k__law_value ?a_law ?l_law ?e_law ?k_law ?y_abs ?y_all ?y_bool ?y_dict ?y_int ?y_isinstance ?y_len ?y_max ?y_min ?y_range ?y_repr ?y_str ?y_sum ?y_tuple ?y_zip ?b_LETTERS ?h_LETTERS ?b_DIGITS ?h_DIGITS ?b_MOST_LETTERS ?h_MOST_LETTERS ?b_MOST_NUMBER ?h_MOST_NUMBER ?b_MOST_OFTEN ?h_MOST_OFTEN ?b_PAIRS ?m_PAIRS ?g_PAIRS ?h_PAIRS ?b_RESERVED ?m_RESERVED ?g_RESERVED ?h_RESERVED ?ac_Nothing ?kc_Nothing ?ec_Nothing ?tc_Nothing ?hc_Nothing ?s_Nothing ?x_Nothing
    (case a_plus_line => k_is)
    (case l_plus_line => k_is)
    (case e_plus_line => k_is)
    (case k_plus_line => k_is)
    (case a_times_line => k_is)
    (case l_times_line => k_is)
    (case e_times_line => k_is)
    (case k_times_line => k_is)
    (case a_less_line => k_is)
    (case l_less_line => k_is)
    (case e_less_line => k_is)
    (case k_less_line => k_is)
    (case a_below_line => k_is)
    (case l_below_line => k_is)
    (case e_below_line => k_is)
    (case k_below_line => k_is)
    (case a_is_plainly => k_is)
    (case l_is_plainly => k_is)
    (case e_is_plainly => k_is)
    (case k_is_plainly => k_is)
    (case a_is_never => k_is)
    (case l_is_never => k_is)
    (case e_is_never => k_is)
    (case k_is_never => k_is)
    (case a_with_line => k_is)
    (case l_with_line => k_is)
    (case e_with_line => k_is)
    (case k_with_line => k_is)
    (case a_chosen => k_is)
    (case l_chosen => k_is)
    (case e_chosen => k_is)
    (case k_chosen => k_is)
    (case a_both => k_is)
    (case l_both => k_is)
    (case e_both => k_is)
    (case k_both => k_is)
    (case a_pieces => k_is)
    (case l_pieces => k_is)
    (case e_pieces => k_is)
    (case k_pieces => k_is)
    (case a_is_number => k_is)
    (case l_is_number => k_is)
    (case e_is_number => k_is)
    (case k_is_number => k_is)
    (case a_is_index => k_is)
    (case l_is_index => k_is)
    (case e_is_index => k_is)
    (case k_is_index => k_is)
    (case a_is_between => k_is)
    (case l_is_between => k_is)
    (case e_is_between => k_is)
    (case k_is_between => k_is)
    (case a_is_name => k_is)
    (case l_is_name => k_is)
    (case e_is_name => k_is)
    (case k_is_name => k_is)
    (case a_is_worded => k_is)
    (case l_is_worded => k_is)
    (case e_is_worded => k_is)
    (case k_is_worded => k_is)
    (case a_is_term => k_is)
    (case l_is_term => k_is)
    (case e_is_term => k_is)
    (case k_is_term => k_is)
    (case a_worth => k_is)
    (case l_worth => k_is)
    (case e_worth => k_is)
    (case k_worth => k_is)
    (case a_names_in => k_is)
    (case l_names_in => k_is)
    (case e_names_in => k_is)
    (case k_names_in => k_is)
    (case a_term_worth => k_is)
    (case l_term_worth => k_is)
    (case e_term_worth => k_is)
    (case k_term_worth => k_is)
    (case a__law_bag => k_is)
    (case l__law_bag => k_is)
    (case e__law_bag => k_is)
    (case k__law_bag => k_is)
    (case a__law_take => k_is)
    (case l__law_take => k_is)
    (case e__law_take => k_is)
    (case k__law_take => k_is)
    (case a__law_some => k_is)
    (case l__law_some => k_is)
    (case e__law_some => k_is)
    (case k__law_some => k_is)
    (case a__law_alike => k_is)
    (case l__law_alike => k_is)
    (case e__law_alike => k_is)
    (case k__law_alike => k_is)
    (case a__law_worth => k_is)
    (case l__law_worth => k_is)
    (case e__law_worth => k_is)
    (case k__law_worth => k_is)
    (case a__law_drawn_term => k_is)
    (case l__law_drawn_term => k_is)
    (case e__law_drawn_term => k_is)
    (case k__law_drawn_term => k_is)
    (case a__law_value => k_is)
    (case l__law_value => k_is)
    (case e__law_value => k_is)
    (case k__law_value => k_is)
    (case a_law => k_is)
    (case l_law => k_is)
    (case e_law => k_is)
    (case k_law => k_is)
    (case y_abs => k_is)
    (case y_all => k_is)
    (case y_bool => k_is)
    (case y_dict => k_is)
    (case y_int => k_is)
    (case y_isinstance => k_is)
    (case y_len => k_is)
    (case y_max => k_is)
    (case y_min => k_is)
    (case y_range => k_is)
    (case y_repr => k_is)
    (case y_str => k_is)
    (case y_sum => k_is)
    (case y_tuple => k_is)
    (case y_zip => k_is)
    (case b_LETTERS => k_is)
    (case h_LETTERS => decide +kernel)
    (case b_DIGITS => k_is)
    (case h_DIGITS => decide +kernel)
    (case b_MOST_LETTERS => k_is)
    (case h_MOST_LETTERS => decide +kernel)
    (case b_MOST_NUMBER => k_is)
    (case h_MOST_NUMBER => decide +kernel)
    (case b_MOST_OFTEN => k_is)
    (case h_MOST_OFTEN => decide +kernel)
    (case b_PAIRS => k_is)
    (case m_PAIRS => k_is)
    (case g_PAIRS => decide +kernel)
    (case h_PAIRS => decide +kernel)
    (case b_RESERVED => k_is)
    (case m_RESERVED => k_is)
    (case g_RESERVED => decide +kernel)
    (case h_RESERVED => decide +kernel)
    (case ac_Nothing => k_is)
    (case kc_Nothing => k_is)
    (case ec_Nothing => k_is)
    (case tc_Nothing => k_is)
    (case hc_Nothing => k_is)
    (case s_Nothing => first | rfl | k_is)
    (case x_Nothing => k_exc)

