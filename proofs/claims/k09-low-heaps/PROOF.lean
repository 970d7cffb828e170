import PyProof.Rows.All
import Wide.All
import OpenK.AllK
import Wide.FinOn
import HandS.ForMost
import HandS.Flow
import HandS.Deep
import HandS.TupAny
import HandS.WideBits
import HandS.IsInst
import HandS.Gcd
import KE.SortData
import HandS.Zip
import HandS.Style
import HandS.Defaults
import HandS.Iter
import HandS.Conv
import KE.KStateDown
import HandS.Base
import HandS.Call
import HandS.Ends
import HandS.More
import HandS.Words
import HandS.WordsExc
import HandS.Head0
import HandS.Head1
import HandS.Head2
import HandS.HeadEnd
import HandS.HeadHook1
import HandS.HeadHook2
import PySem.Challenge.RW_grainsfall_k09_low_heaps
set_option Elab.async false
set_option linter.all false
set_option maxRecDepth 100000
set_option maxHeartbeats 0
/-! E1: data, their places in the heap, the relation of slots and data. -/
namespace Eg
open PySem PySem.Spec PyProof.Rows L2

abbrev D := PyData

mutual
/-- the value v stands for the data d in the heap H; no list or tuple of it lies at a place of S -/
inductive Rp (T : Nat → V) (H : Hp) (S : Addr → Prop) : V → D → Prop
  | non : Rp T H S .non .none
  | bl (b : Bool) : Rp T H S (.bl b) (.bool b)
  | int (i : Int) : Rp T H S (.int i) (.int i)
  | str (x : Str) : Rp T H S (.str x) (.str x)
  | lst {a : Addr} {xs : List V} {ds : List D} : H a = some (.lst xs) → ¬ S a → RpAll T H S xs ds → Rp T H S (.ref a) (.list ds)
  | tup {a : Addr} {xs : List V} {ds : List D} : H a = some (.tup xs) → ¬ S a → RpAll T H S xs ds → Rp T H S (.ref a) (.tuple ds)
  | tok (k : Nat) : T k ≠ .non → Rp T H S (T k) (.dict [(.int k, .none)])
inductive RpAll (T : Nat → V) (H : Hp) (S : Addr → Prop) : List V → List D → Prop
  | nil : RpAll T H S [] []
  | cons {v : V} {vs : List V} {d : D} {ds : List D} : Rp T H S v d → RpAll T H S vs ds → RpAll T H S (v :: vs) (d :: ds)
end

section
variable {T : Nat → V} {H H' : Hp} {S S' : Addr → Prop}
theorem RpAll.length : ∀ {vs : List V} {ds : List D}, RpAll T H S vs ds → vs.length = ds.length
  | _, _, .nil => rfl
  | _, _, .cons _ t => congrArg (· + 1) t.length
mutual
theorem Rp.move (k : ∀ a o, H a = some o → ¬ S a → H' a = some o ∧ ¬ S' a) : ∀ {v : V} (d : D), Rp T H S v d → Rp T H' S' v d
  | _, .none, .non => .non
  | _, .bool _, .bl b => .bl b
  | _, .int _, .int i => .int i
  | _, .str _, .str x => .str x
  | _, .list ds, .lst h n r => .lst (k _ _ h n).1 (k _ _ h n).2 (RpAll.move k ds r)
  | _, .tuple ds, .tup h n r => .tup (k _ _ h n).1 (k _ _ h n).2 (RpAll.move k ds r)
  | _, .dict _, .tok j n => .tok j n
theorem RpAll.move (k : ∀ a o, H a = some o → ¬ S a → H' a = some o ∧ ¬ S' a) : ∀ {vs : List V} (ds : List D), RpAll T H S vs ds → RpAll T H' S' vs ds
  | _, [], .nil => .nil
  | _, d :: ds, .cons h t => .cons (Rp.move k d h) (RpAll.move k ds t)
end
theorem RpAll.append : ∀ {vs ws : List V} {ds es : List D}, RpAll T H S vs ds → RpAll T H S ws es → RpAll T H S (vs ++ ws) (ds ++ es)
  | _, _, _, _, .nil, h => h
  | _, _, _, _, .cons a t, h => .cons a (t.append h)
theorem RpAll.get : ∀ {vs : List V} {ds : List D} {i : Nat} {d : D}, RpAll T H S vs ds → ds[i]? = some d → ∃ v, vs[i]? = some v ∧ Rp T H S v d
  | _, _, _, _, .nil, e => by simp at e
  | _, _, 0, d, .cons a t, e => by simp at e; subst e; exact ⟨_, rfl, a⟩
  | _, _, i + 1, d, .cons a t, e => by
    obtain ⟨v, e1, r⟩ := RpAll.get (i := i) t (by simpa using e)
    exact ⟨v, by simpa using e1, r⟩
theorem RpAll.get' : ∀ {vs : List V} {ds : List D} {i : Nat} {v : V}, RpAll T H S vs ds → vs[i]? = some v → ∃ d, ds[i]? = some d ∧ Rp T H S v d
  | _, _, _, _, .nil, e => by simp at e
  | _, _, 0, d, .cons a t, e => by simp at e; subst e; exact ⟨_, rfl, a⟩
  | _, _, i + 1, d, .cons a t, e => by
    obtain ⟨v, e1, r⟩ := RpAll.get' (i := i) t (by simpa using e)
    exact ⟨v, by simpa using e1, r⟩
theorem RpAll.set {x : V} {y : D} (h : Rp T H S x y) : ∀ {vs : List V} {ds : List D} (i : Nat), RpAll T H S vs ds → RpAll T H S (vs.set i x) (ds.set i y)
  | _, _, _, .nil => .nil
  | _, _, 0, .cons _ t => .cons h t
  | _, _, i + 1, .cons a t => .cons a (RpAll.set h i t)
theorem RpAll.take : ∀ {vs : List V} {ds : List D} (n : Nat), RpAll T H S vs ds → RpAll T H S (vs.take n) (ds.take n)
  | _, _, 0, _ => .nil
  | _, _, _ + 1, .nil => .nil
  | _, _, n + 1, .cons a t => .cons a (RpAll.take n t)
theorem RpAll.drop : ∀ {vs : List V} {ds : List D} (n : Nat), RpAll T H S vs ds → RpAll T H S (vs.drop n) (ds.drop n)
  | _, _, 0, r => r
  | _, _, _ + 1, .nil => .nil
  | _, _, n + 1, .cons _ t => RpAll.drop n t
theorem RpAll.eraseIdx : ∀ {vs : List V} {ds : List D} (n : Nat), RpAll T H S vs ds → RpAll T H S (vs.eraseIdx n) (ds.eraseIdx n)
  | _, _, _, .nil => .nil
  | _, _, 0, .cons _ t => t
  | _, _, n + 1, .cons a t => .cons a (RpAll.eraseIdx n t)
theorem RpAll.flatRep {vs : List V} {ds : List D} (h : RpAll T H S vs ds) : ∀ n : Nat, RpAll T H S (List.replicate n vs).flatten (List.replicate n ds).flatten
  | 0 => .nil
  | n + 1 => by
    rw [List.replicate_succ, List.replicate_succ, List.flatten_cons, List.flatten_cons]
    exact h.append (h.flatRep n)
theorem RpAll.rev : ∀ {vs : List V} {ds : List D}, RpAll T H S vs ds → RpAll T H S vs.reverse ds.reverse
  | _, _, .nil => .nil
  | _, _, .cons a t => by
    rw [List.reverse_cons, List.reverse_cons]
    exact t.rev.append (.cons a .nil)

theorem Rp.dp (K : PySem.W.Frag) {d : D} : ∀ {v : V}, Rp T H S v d → d.canLay0 = true → Dp K H v d := by
  have key : ∀ (v : V), Rp T H S v d → d.canLay0 = true → Dp K H v d := by
    refine PyData.rec (motive_1 := fun d => ∀ (v : V), Rp T H S v d → d.canLay0 = true → Dp K H v d) (motive_2 := fun ds => ∀ (vs : List V), RpAll T H S vs ds → PyData.canLayAll0 ds = true → DpAll K H vs ds)
      (motive_3 := fun _ => True) (motive_4 := fun _ => True) ?_ ?_ ?_ ?_ ?_ ?_ ?_ ?_ ?_ ?_ ?_ ?_ d
    · intro v h _; cases h; exact .non
    · intro b v h _; cases h; exact .bl _
    · intro b v h _; cases h; exact .int _
    · intro b v h _; cases h; exact .str _
    · intro ds ih v h c
      cases h with
      | lst h1 h2 h3 => exact .lst (.inl (.inl h1)) (ih _ h3 (by simpa [PyData.canLay0] using c))
    · intro ds ih v h c
      cases h with
      | tup h1 h2 h3 => exact .tup (.inl (.inl h1)) (ih _ h3 (by simpa [PyData.canLay0] using c))
    · intro kvs _ v h c; simp [PyData.canLay0] at c
    · intro vs h _; cases h; exact .nil
    · intro d ds i1 i2 vs h c
      cases h with
      | cons a t =>
        have c' : (d.canLay0 && PyData.canLayAll0 ds) = true := by simpa [PyData.canLayAll0] using c
        rw [Bool.and_eq_true] at c'
        exact .cons (i1 _ a c'.1) (i2 _ t c'.2)
    · trivial
    · intros; trivial
    · intros; trivial
  intro v h c
  exact key v h c
end

/-- a slot's state: nothing known; a value that nobody changes any more; a list that this slot alone holds -/
inductive Sl where
  | un
  | sh (d : D)
  | ow (ds : List D)
abbrev En := List Sl
def En.at (env : En) (i : Nat) : Sl := env.getD i .un

/-- the drawer's state: cells left, a number; a place and a number, the script -/
def St1 (a c : Addr) (H : Hp) : Prop := ∃ (cells : List Int) (m : Int), H a = some (.lst [.ref c, .int m]) ∧ H c = some (.lst (cells.map V.int)) ∧ 0 ≤ m ∧ m < 2147483648
def St2 (a : Addr) (H : Hp) : Prop := ∃ (k v : Int), H a = some (.lst [.int k, .int v]) ∧ 0 ≤ k ∧ 0 ≤ v
structure DrawOk (T : Nat → V) (M : Addr → Prop) (J : Hp → Prop) : Prop where
  one : T 0 ≠ .non → ∃ a c, T 0 = .ref a ∧ a ≠ c ∧ M a ∧ M c ∧ ∀ H, J H ↔ St1 a c H
  two : T 1 ≠ .non → ∃ a, T 1 = .ref a ∧ M a ∧ ∀ H, J H ↔ St2 a H
/-- what surrounds: the tokens, the state's places and what holds of it, the heap at the entry, places to be left out of the result, values that loops around hold -/
structure Wd where
  T : Nat → V
  M : Addr → Prop
  J : Hp → Prop
  dr : DrawOk T M J
  jm : ∀ H, J H → ∀ a, M a → H a ≠ none
  jk : ∀ H H', (∀ a, M a → H a = H' a) → J H → J H'
  H0 : Hp
  S0 : Addr → Prop
  hold : List (V × D)

def KpJ (W : Wd) (H H' : Hp) : Prop := (∀ a o, H a = some o → ¬ W.M a → H' a = some o) ∧ W.J H'
theorem KpJ.refl {W : Wd} {H : Hp} (j : W.J H) : KpJ W H H := ⟨fun _ _ h _ => h, j⟩
theorem KpJ.trans {W : Wd} {H H1 H2 : Hp} (a : KpJ W H H1) (b : KpJ W H1 H2) : KpJ W H H2 := ⟨fun c o h n => b.1 c o (a.1 c o h n) n, b.2⟩
theorem KpJ.of_same {W : Wd} {H H' : Hp} (j : W.J H) (s : Same H H') : KpJ W H H' := ⟨fun a o h _ => s a o h, W.jk H H' (fun a m => by
  cases e : H a with
  | none => exact absurd e (W.jm H j a m)
  | some o => exact (s a o e).symm) j⟩
theorem same_new {H : Hp} {p : Addr} {o : HO} (h : H p = none) : Same H (upd H p o) := fun b x e => by
  rw [upd_ne (ne_of_none e h)]
  exact e
theorem KpJ.new {W : Wd} {H : Hp} {p : Addr} {o : HO} (j : W.J H) (h : H p = none) : KpJ W H (upd H p o) := .of_same j (same_new h)
theorem KpJ.none_of {W : Wd} {H H' : Hp} (k : KpJ W H H') (j : W.J H) {p : Addr} (h : H' p = none) : H p = none := by
  cases e : H p with
  | none => rfl
  | some o =>
    by_cases m : W.M p
    · exact absurd h (W.jm H' k.2 p m)
    · rw [k.1 p o e m] at h; cases h

/-- a list that a slot alone holds -/
structure Own (W : Wd) (S : Addr → Prop) (H : Hp) (a : Addr) (vs : List V) (ds : List D) : Prop where
  s : S a
  s0 : ¬ W.S0 a
  m : ¬ W.M a
  h0 : W.H0 a = none
  h : H a = some (.lst vs)
  r : RpAll W.T H S vs ds

def SlOk (W : Wd) (S : Addr → Prop) (H : Hp) : Sl → Option (Option V) → Prop
  | .un, _ => True
  | .sh d, x => ∃ v, x = some (some v) ∧ Rp W.T H S v d
  | .ow ds, x => ∃ a vs, x = some (some (.ref a)) ∧ Own W S H a vs ds

structure RlS (W : Wd) (env : En) (S : Addr → Prop) (σ : L2.St) (H : Hp) : Prop where
  s0 : ∀ a, W.S0 a → S a
  sm : ∀ a, W.M a → S a
  sn : ∀ a, S a → H a ≠ none
  h0 : ∀ a o, W.H0 a = some o → ¬ W.M a → H a = some o
  j : W.J H
  len : env.length = σ.length
  sl : ∀ i, SlOk W S H (env.at i) σ[i]?
  ne : ∀ i k a ds es, i ≠ k → env.at i = .ow ds → env.at k = .ow es → σ[i]? = some (some (.ref a)) → σ[k]? = some (some (.ref a)) → False
  hd : ∀ p ∈ W.hold, Rp W.T H S p.1 p.2

section
variable {W : Wd} {env : En} {S S' : Addr → Prop} {σ : L2.St} {H H' : Hp}
theorem Rp.kept {v : V} {d : D} (k : KpJ W H H') (sm : ∀ a, W.M a → S a) (r : Rp W.T H S v d) : Rp W.T H' S v d := r.move (d := d) fun a o h n => ⟨k.1 a o h fun m => n (sm a m), n⟩
theorem RpAll.kept {vs : List V} {ds : List D} (k : KpJ W H H') (sm : ∀ a, W.M a → S a) (r : RpAll W.T H S vs ds) : RpAll W.T H' S vs ds := r.move (ds := ds) fun a o h n => ⟨k.1 a o h fun m => n (sm a m), n⟩
theorem Rp.less {T : Nat → V} {v : V} {d : D} (r : Rp T H S v d) (h : ∀ a, S' a → S a) : Rp T H S' v d := r.move (d := d) fun a o e n => ⟨e, fun s => n (h a s)⟩
theorem RpAll.less {T : Nat → V} {vs : List V} {ds : List D} (r : RpAll T H S vs ds) (h : ∀ a, S' a → S a) : RpAll T H S' vs ds := r.move (ds := ds) fun a o e n => ⟨e, fun s => n (h a s)⟩
/-- S and one new place -/
def plus (S : Addr → Prop) (p : Addr) : Addr → Prop := fun a => S a ∨ a = p
theorem Rp.plus {T : Nat → V} {v : V} {d : D} {p : Addr} {o : HO} (r : Rp T H S v d) (hp : H p = none) : Rp T (upd H p o) (plus S p) v d := r.move (d := d) fun a o' e n =>
  ⟨by rw [upd_ne (ne_of_none e hp)]; exact e, fun s => s.elim n fun q => ne_of_none e hp q⟩
theorem RpAll.plus {T : Nat → V} {vs : List V} {ds : List D} {p : Addr} {o : HO} (r : RpAll T H S vs ds) (hp : H p = none) : RpAll T (upd H p o) (plus S p) vs ds := r.move (ds := ds) fun a o' e n =>
  ⟨by rw [upd_ne (ne_of_none e hp)]; exact e, fun s => s.elim n fun q => ne_of_none e hp q⟩

/-- behind an expression -/
theorem RlS.kept (r : RlS W env S σ H) (k : KpJ W H H') : RlS W env S σ H' where
  s0 := r.s0
  sm := r.sm
  sn := fun a h => by
    by_cases m : W.M a
    · exact W.jm H' k.2 a m
    · cases e : H a with
      | none => exact absurd e (r.sn a h)
      | some o => rw [k.1 a o e m]; simp
  h0 := fun a o h n => k.1 a o (r.h0 a o h n) n
  j := k.2
  len := r.len
  sl := fun i => by
    have q := r.sl i
    revert q
    generalize env.at i = x
    cases x with
    | un => intro _; trivial
    | sh d => rintro ⟨v, e, q⟩; exact ⟨v, e, q.kept k r.sm⟩
    | ow ds => rintro ⟨a, vs, e, q⟩; exact ⟨a, vs, e, q.s, q.s0, q.m, q.h0, k.1 a _ q.h q.m, q.r.kept k r.sm⟩
  ne := r.ne
  hd := fun p hp => (r.hd p hp).kept k r.sm

theorem at_set {env : En} {i j : Nat} {x : Sl} : En.at (env.set i x) j = if j = i ∧ i < env.length then x else env.at j := by
  unfold En.at
  rw [List.getD_eq_getElem?_getD, List.getD_eq_getElem?_getD, List.getElem?_set]
  by_cases h : i = j
  · subst h
    by_cases hl : i < env.length
    · simp [hl]
    · simp [hl]
  · have h' : ¬ (j = i ∧ i < env.length) := fun q => h q.1.symm
    rw [if_neg h, if_neg h']

/-- a slot is stored: a value that is to be shared -/
theorem RlS.setSh (r : RlS W env S σ H) {i : Nat} {v : V} {d : D} (h : Rp W.T H S v d) : RlS W (env.set i (.sh d)) S (σ.set i (some v)) H where
  s0 := r.s0
  sm := r.sm
  sn := r.sn
  h0 := r.h0
  j := r.j
  len := by rw [List.length_set, List.length_set]; exact r.len
  sl := fun k => by
    rw [at_set]
    split
    · rename_i q
      obtain ⟨rfl, hl⟩ := q
      exact ⟨v, List.getElem?_set_self (by rw [← r.len]; exact hl), h⟩
    · rename_i q
      by_cases hk : k = i
      · subst hk
        have hl : ¬ k < env.length := fun z => q ⟨rfl, z⟩
        have hs : σ[k]? = none := List.getElem?_eq_none (by rw [← r.len]; omega)
        have e : (σ.set k (some v))[k]? = none := List.getElem?_eq_none (by rw [List.length_set, ← r.len]; omega)
        rw [e, ← hs]
        exact r.sl k
      · rw [List.getElem?_set_ne (Ne.symm hk)]
        exact r.sl k
  ne := fun k l a ds es hkl h1 h2 e1 e2 => by
    rw [at_set] at h1 h2
    split at h1
    · cases h1
    · split at h2
      · cases h2
      · rename_i q1 q2
        by_cases hk : k = i
        · subst hk
          have e : (σ.set k (some v))[k]? = none := List.getElem?_eq_none (by rw [List.length_set, ← r.len]; exact Nat.le_of_not_lt fun z => q1 ⟨rfl, z⟩)
          rw [e] at e1; cases e1
        · by_cases hl : l = i
          · subst hl
            have e : (σ.set l (some v))[l]? = none := List.getElem?_eq_none (by rw [List.length_set, ← r.len]; exact Nat.le_of_not_lt fun z => q2 ⟨rfl, z⟩)
            rw [e] at e2; cases e2
          · rw [List.getElem?_set_ne (Ne.symm hk)] at e1
            rw [List.getElem?_set_ne (Ne.symm hl)] at e2
            exact r.ne k l a ds es hkl h1 h2 e1 e2
  hd := r.hd

/-- a slot is stored: a new list, this slot's own -/
theorem RlS.setOw (r : RlS W env S σ H) {i : Nat} {p : Addr} {vs : List V} {ds : List D} (hn : H p = none) (k : KpJ W H H') (hp : H' p = some (.lst vs)) (h : RpAll W.T H' (plus S p) vs ds) :
    RlS W (env.set i (.ow ds)) (plus S p) (σ.set i (some (.ref p))) H' := by
  have r' := r.kept k
  have npM : ¬ W.M p := fun m => W.jm H r.j p m hn
  have npS : ¬ S p := fun s => r.sn p s hn
  have up : ∀ {v : V} {d : D}, Rp W.T H S v d → Rp W.T H' (plus S p) v d := fun {v d} q => q.move (d := d) fun a o e n =>
    ⟨k.1 a o e fun m => n (r.sm a m), fun s => s.elim n fun z => ne_of_none e hn z⟩
  have upA : ∀ {v : List V} {d : List D}, RpAll W.T H S v d → RpAll W.T H' (plus S p) v d := fun {v d} q => q.move (ds := d) fun a o e n =>
    ⟨k.1 a o e fun m => n (r.sm a m), fun s => s.elim n fun z => ne_of_none e hn z⟩
  have other : ∀ l : Nat, SlOk W (plus S p) H' (env.at l) σ[l]? := fun l => by
    have q := r.sl l
    revert q
    generalize env.at l = x
    cases x with
    | un => intro _; trivial
    | sh d => rintro ⟨v, e, q⟩; exact ⟨v, e, up q⟩
    | ow es => rintro ⟨a, ws, e, q⟩; exact ⟨a, ws, e, .inl q.s, q.s0, q.m, q.h0, k.1 a _ q.h q.m, upA q.r⟩
  have apart : ∀ l es, env.at l = .ow es → σ[l]? ≠ some (some (.ref p)) := fun l es e z => by
    have q := r.sl l
    rw [e] at q
    obtain ⟨a, ws, e1, q⟩ := q
    rw [z] at e1
    cases e1
    rw [q.h] at hn; cases hn
  refine ⟨fun a s => .inl (r.s0 a s), fun a m => .inl (r.sm a m), fun a s => ?_, r'.h0, r'.j, by rw [List.length_set, List.length_set]; exact r.len, fun l => ?_, fun l m a es fs hlm h1 h2 e1 e2 => ?_, fun q hq => up (r.hd q hq)⟩
  · rcases s with s | s
    · exact r'.sn a s
    · subst s; rw [hp]; simp
  · rw [at_set]
    split
    · rename_i q
      obtain ⟨rfl, hl⟩ := q
      refine ⟨p, vs, List.getElem?_set_self (by rw [← r.len]; exact hl), .inr rfl, fun s => npS (r.s0 p s), npM, ?_, hp, h⟩
      cases e : W.H0 p with
      | none => rfl
      | some o => have := r.h0 p o e npM; rw [hn] at this; cases this
    · rename_i q
      by_cases hk : l = i
      · subst hk
        have hl : ¬ l < env.length := fun z => q ⟨rfl, z⟩
        have hs : σ[l]? = none := List.getElem?_eq_none (by rw [← r.len]; omega)
        have e : (σ.set l (some (.ref p)))[l]? = none := List.getElem?_eq_none (by rw [List.length_set, ← r.len]; omega)
        rw [e, ← hs]
        exact other l
      · rw [List.getElem?_set_ne (Ne.symm hk)]
        exact other l
  · have out : ∀ l, ¬ (l = i ∧ i < env.length) → ∀ b, (σ.set i (some (.ref p)))[l]? = some (some (.ref b)) → σ[l]? = some (some (.ref b)) := fun l q b e => by
      by_cases hk : l = i
      · subst hk
        have z : (σ.set l (some (.ref p)))[l]? = none := List.getElem?_eq_none (by rw [List.length_set, ← r.len]; exact Nat.le_of_not_lt fun z => q ⟨rfl, z⟩)
        rw [z] at e; cases e
      · rw [List.getElem?_set_ne (Ne.symm hk)] at e
        exact e
    have ins : ∀ l, (l = i ∧ i < env.length) → ∀ b, (σ.set i (some (.ref p)))[l]? = some (some (.ref b)) → b = p := fun l q b e => by
      obtain ⟨rfl, hl⟩ := q
      rw [List.getElem?_set_self (by rw [← r.len]; exact hl)] at e
      cases e; rfl
    rw [at_set] at h1 h2
    by_cases q1 : l = i ∧ i < env.length
    · by_cases q2 : m = i ∧ i < env.length
      · exact hlm (q1.1.trans q2.1.symm)
      · rw [if_neg q2] at h2
        have := ins l q1 a e1
        subst this
        exact apart m fs h2 (out m q2 a e2)
    · rw [if_neg q1] at h1
      by_cases q2 : m = i ∧ i < env.length
      · have := ins m q2 a e2
        subst this
        exact apart l es h1 (out l q1 a e1)
      · rw [if_neg q2] at h2
        exact r.ne l m a es fs hlm h1 h2 (out l q1 a e1) (out m q2 a e2)

/-- a slot's own list is written -/
theorem RlS.write (r : RlS W env S σ H) {i : Nat} {a : Addr} {ws : List V} {ds es : List D} (he : env.at i = .ow ds) (hs : σ[i]? = some (some (.ref a))) (hl : i < env.length) (h : RpAll W.T H S ws es) :
    RlS W (env.set i (.ow es)) S σ (upd H a (.lst ws)) := by
  have q := r.sl i
  rw [he] at q
  obtain ⟨b, us, e, O⟩ := q
  rw [hs] at e; cases e
  have mv : ∀ {v : V} {d : D}, Rp W.T H S v d → Rp W.T (upd H a (.lst ws)) S v d := fun {v d} q => q.move (d := d) fun b o e n => ⟨by rw [upd_ne (fun z => n (by rw [z]; exact O.s))]; exact e, n⟩
  have mvA : ∀ {v : List V} {d : List D}, RpAll W.T H S v d → RpAll W.T (upd H a (.lst ws)) S v d := fun {v d} q => q.move (ds := d) fun b o e n => ⟨by rw [upd_ne (fun z => n (by rw [z]; exact O.s))]; exact e, n⟩
  refine ⟨r.s0, r.sm, fun b s => ?_, fun b o e n => ?_, ?_, by rw [List.length_set]; exact r.len, fun l => ?_, fun l m b fs gs hlm h1 h2 e1 e2 => ?_, fun p hp => mv (r.hd p hp)⟩
  · by_cases hb : b = a
    · subst hb; rw [upd_same]; simp
    · rw [upd_ne hb]; exact r.sn b s
  · rw [upd_ne (fun z => by rw [z, O.h0] at e; cases e)]
    exact r.h0 b o e n
  · exact W.jk H _ (fun b m => by rw [upd_ne (fun z => O.m (by rw [← z]; exact m))]) r.j
  · rw [at_set]
    split
    · rename_i q
      obtain ⟨rfl, _⟩ := q
      exact ⟨a, ws, hs, O.s, O.s0, O.m, O.h0, upd_same, mvA h⟩
    · rename_i q
      have hne : l ≠ i := fun z => q ⟨z, hl⟩
      have q := r.sl l
      cases ex : env.at l with
      | un => trivial
      | sh d =>
        rw [ex] at q
        obtain ⟨v, e, q⟩ := q
        exact ⟨v, e, mv q⟩
      | ow gs =>
        rw [ex] at q
        obtain ⟨b, us', e, q⟩ := q
        refine ⟨b, us', e, q.s, q.s0, q.m, q.h0, ?_, mvA q.r⟩
        rw [upd_ne (fun z => ?_)]
        · exact q.h
        · subst z
          exact r.ne l i b gs ds hne ex he e hs
  · rw [at_set] at h1 h2
    have cl : ∀ l fs, (if l = i ∧ i < env.length then Sl.ow es else env.at l) = .ow fs → ∃ gs, env.at l = .ow gs := fun l fs e => by
      split at e
      · rename_i q; rw [q.1]; exact ⟨_, he⟩
      · exact ⟨_, e⟩
    obtain ⟨g1, h1⟩ := cl l fs h1
    obtain ⟨g2, h2⟩ := cl m gs h2
    exact r.ne l m b g1 g2 hlm h1 h2 e1 e2

/-- a slot's own list is its own no longer -/
theorem RlS.share (r : RlS W env S σ H) {i : Nat} {ds : List D} (he : env.at i = .ow ds) : ∃ S', (∀ a, S' a → S a) ∧ RlS W (env.set i (.sh (.list ds))) S' σ H := by
  have q := r.sl i
  rw [he] at q
  obtain ⟨a, vs, e, O⟩ := q
  have mv : ∀ {v : V} {d : D}, Rp W.T H S v d → Rp W.T H (fun b => S b ∧ b ≠ a) v d := fun q => q.less fun _ s => s.1
  have mvA : ∀ {v : List V} {d : List D}, RpAll W.T H S v d → RpAll W.T H (fun b => S b ∧ b ≠ a) v d := fun q => q.less fun _ s => s.1
  refine ⟨fun b => S b ∧ b ≠ a, fun _ s => s.1, fun b s => ⟨r.s0 b s, fun z => O.s0 (by rw [← z]; exact s)⟩, fun b m => ⟨r.sm b m, fun z => O.m (by rw [← z]; exact m)⟩, fun b s => r.sn b s.1, r.h0, r.j, by rw [List.length_set]; exact r.len, fun l => ?_, fun l m b fs gs hlm h1 h2 e1 e2 => ?_, fun p hp => mv (r.hd p hp)⟩
  · rw [at_set]
    split
    · rename_i q
      obtain ⟨rfl, _⟩ := q
      exact ⟨.ref a, e, .lst O.h (fun s => s.2 rfl) (mvA O.r)⟩
    · rename_i q
      have hne : ∀ gs, env.at l = .ow gs → l ≠ i := fun gs h z => by
        subst z
        have hl : ¬ l < env.length := fun z => q ⟨rfl, z⟩
        have hs : σ[l]? = none := List.getElem?_eq_none (by rw [← r.len]; omega)
        rw [hs] at e; cases e
      have q := r.sl l
      cases ex : env.at l with
      | un => trivial
      | sh d =>
        rw [ex] at q
        obtain ⟨v, e, q⟩ := q
        exact ⟨v, e, mv q⟩
      | ow gs =>
        have hn := hne gs ex
        rw [ex] at q
        obtain ⟨b, us', e', q⟩ := q
        exact ⟨b, us', e', ⟨q.s, fun z => by subst z; exact r.ne l i b gs ds hn ex he e' e⟩, q.s0, q.m, q.h0, q.h, mvA q.r⟩
  · rw [at_set] at h1 h2
    split at h1
    · cases h1
    · split at h2
      · cases h2
      · exact r.ne l m b fs gs hlm h1 h2 e1 e2
end
end Eg

/-! E2: expressions by what they make of data. -/
namespace Eg
open PySem PySem.Spec PyProof.Rows L2

abbrev WE := En → (D → Prop) → Prop
abbrev WA := En → (List D → Prop) → Prop
def Mono (w : WE) : Prop := ∀ env Q Q', (∀ d, Q d → Q' d) → w env Q → w env Q'
def MonoA (w : WA) : Prop := ∀ env Q Q', (∀ d, Q d → Q' d) → w env Q → w env Q'

/-- readable in place: shared, or a list whose items are -/
def Top (W : Wd) (H : Hp) (S : Addr → Prop) (v : V) (d : D) : Prop :=
  Rp W.T H S v d ∨ ∃ a vs ds, v = .ref a ∧ d = .list ds ∧ ¬ W.M a ∧ H a = some (.lst vs) ∧ RpAll W.T H S vs ds
inductive TopAll (W : Wd) (H : Hp) (S : Addr → Prop) : List V → List D → Prop
  | nil : TopAll W H S [] []
  | cons {v : V} {vs : List V} {d : D} {ds : List D} : Top W H S v d → TopAll W H S vs ds → TopAll W H S (v :: vs) (d :: ds)

/-- what is always so around an expression -/
structure Cn (W : Wd) (S : Addr → Prop) (H : Hp) : Prop where
  sm : ∀ a, W.M a → S a
  sn : ∀ a, S a → H a ≠ none
  j : W.J H
section
variable {W : Wd} {S : Addr → Prop} {H H' : Hp} {env : En} {σ : L2.St}
theorem RlS.cn (r : RlS W env S σ H) : Cn W S H := ⟨r.sm, r.sn, r.j⟩
theorem Cn.kept (c : Cn W S H) (k : KpJ W H H') : Cn W S H' := ⟨c.sm, fun a h => by
    by_cases m : W.M a
    · exact W.jm H' k.2 a m
    · cases e : H a with
      | none => exact absurd e (c.sn a h)
      | some o => rw [k.1 a o e m]; simp, k.2⟩
theorem Top.kept {v : V} {d : D} (k : KpJ W H H') (sm : ∀ a, W.M a → S a) (r : Top W H S v d) : Top W H' S v d := by
  rcases r with r | ⟨a, vs, ds, e1, e2, nm, h, r⟩
  · exact .inl (r.kept k sm)
  · exact .inr ⟨a, vs, ds, e1, e2, nm, k.1 a _ h nm, r.kept k sm⟩
theorem TopAll.kept (k : KpJ W H H') (sm : ∀ a, W.M a → S a) : ∀ {vs : List V} {ds : List D}, TopAll W H S vs ds → TopAll W H' S vs ds
  | _, _, .nil => .nil
  | _, _, .cons h t => .cons (h.kept k sm) (t.kept k sm)
theorem RpAll.top : ∀ {vs : List V} {ds : List D}, RpAll W.T H S vs ds → TopAll W H S vs ds
  | _, _, .nil => .nil
  | _, _, .cons h t => .cons (.inl h) t.top
theorem Cn.np (c : Cn W S H) {p : Addr} (h : H p = none) : ¬ S p := fun s => c.sn p s h
/-- a list that is read -/
theorem Top.list {v : V} {ds : List D} (r : Top W H S v (.list ds)) : ∃ a vs, v = .ref a ∧ H a = some (.lst vs) ∧ RpAll W.T H S vs ds := by
  rcases r with r | ⟨a, vs, es, e1, e2, nm, h, r⟩
  · cases r with
    | lst h n r => exact ⟨_, _, rfl, h, r⟩
  · cases e2; exact ⟨a, vs, e1, h, r⟩
theorem Top.tuple {v : V} {ds : List D} (r : Top W H S v (.tuple ds)) : ∃ a vs, v = .ref a ∧ H a = some (.tup vs) ∧ ¬ S a ∧ RpAll W.T H S vs ds := by
  rcases r with r | ⟨a, vs, es, e1, e2, nm, h, r⟩
  · cases r with
    | tup h n r => exact ⟨_, _, rfl, h, n, r⟩
  · cases e2
theorem Top.int {v : V} {i : Int} (r : Top W H S v (.int i)) : v = .int i := by
  rcases r with r | ⟨a, vs, es, e1, e2, nm, h, r⟩
  · cases r; rfl
  · cases e2
theorem Top.bl {v : V} {b : Bool} (r : Top W H S v (.bool b)) : v = .bl b := by
  rcases r with r | ⟨a, vs, es, e1, e2, nm, h, r⟩
  · cases r; rfl
  · cases e2
theorem Top.non {v : V} (r : Top W H S v .none) : v = .non := by
  rcases r with r | ⟨a, vs, es, e1, e2, nm, h, r⟩
  · cases r; rfl
  · cases e2
theorem Top.str {v : V} {x : Str} (r : Top W H S v (.str x)) : v = .str x := by
  rcases r with r | ⟨a, vs, es, e1, e2, nm, h, r⟩
  · cases r; rfl
  · cases e2
theorem TopAll.length : ∀ {vs : List V} {ds : List D}, TopAll W H S vs ds → vs.length = ds.length
  | _, _, .nil => rfl
  | _, _, .cons _ t => congrArg (· + 1) t.length
/-- deep data -/
theorem RpAll.dpAll (K : PySem.W.Frag) {T : Nat → V} : ∀ {vs : List V} {ds : List D}, RpAll T H S vs ds → PyData.canLayAll0 ds = true → DpAll K H vs ds
  | _, _, .nil, _ => .nil
  | _, _, .cons (d := d) (ds := ds) a t, c => by
    have c' : (d.canLay0 && PyData.canLayAll0 ds) = true := by simpa [PyData.canLayAll0] using c
    rw [Bool.and_eq_true] at c'
    exact .cons (a.dp K c'.1) (t.dpAll K c'.2)
theorem Top.dp (K : PySem.W.Frag) {v : V} {d : D} (r : Top W H S v d) (c : d.canLay0 = true) : Dp K H v d := by
  rcases r with r | ⟨a, vs, ds, rfl, rfl, nm, h, r⟩
  · exact r.dp K c
  · exact .lst (.inl (.inl h)) (r.dpAll K (by simpa [PyData.canLay0] using c))
end

def tE (w : WE) : TE := fun σ H Q => ∃ W env S, RlS W env S σ H ∧ w env fun d => ∀ v H', KpJ W H H' → Rp W.T H' S v d → Q v H'
def tP (w : WE) : TE := fun σ H Q => ∃ W env S, RlS W env S σ H ∧ w env fun d => ∀ v H', KpJ W H H' → Top W H' S v d → Q v H'
def tF (w : WE) : TE := fun σ H Q => ∃ W env S, RlS W env S σ H ∧ w env fun d => ∀ p vs ds H', d = .list ds → KpJ W H H' → H p = none → H' p = some (.lst vs) → RpAll W.T H' (plus S p) vs ds → Q (.ref p) H'
def tA (w : WA) : TA := fun σ H Q => ∃ W env S, RlS W env S σ H ∧ w env fun ds => ∀ vs H', KpJ W H H' → RpAll W.T H' S vs ds → Q vs H'
def tAP (w : WA) : TA := fun σ H Q => ∃ W env S, RlS W env S σ H ∧ w env fun ds => ∀ vs H', KpJ W H H' → TopAll W H' S vs ds → Q vs H'

/-- a shared value; a value read in place; a new list -/
structure PV (X : Cx) (e : Expr) (w : WE) : Prop where
  pe : PE X e (tE w)
  mono : Mono w
structure PP (X : Cx) (e : Expr) (w : WE) : Prop where
  pe : PE X e (tP w)
  mono : Mono w
structure PF (X : Cx) (e : Expr) (w : WE) : Prop where
  pe : PE X e (tF w)
  mono : Mono w
structure PAv (X : Cx) (es : List Expr) (w : WA) : Prop where
  pa : PA X es (tA w)
  mono : MonoA w
structure PAp (X : Cx) (es : List Expr) (w : WA) : Prop where
  pa : PA X es (tAP w)
  mono : MonoA w

theorem _root_.L2.PE.imp {X : Cx} {e : Expr} {t t' : TE} (h : PE X e t) (m : ∀ σ H Q, t' σ H Q → t σ H Q) : PE X e t' := ⟨fun pins s σ H Q I q => h.run pins s σ H Q I (m σ H Q q)⟩
theorem _root_.L2.PA.imp {X : Cx} {e : List Expr} {t t' : TA} (h : PA X e t) (m : ∀ σ H Q, t' σ H Q → t σ H Q) : PA X e t' := ⟨fun pos pins s σ H Q I q => h.run pos pins s σ H Q I (m σ H Q q)⟩
theorem _root_.L2.PT.imp {X : Cx} {e : Expr} {t t' : TT} (h : PT X e t) (m : ∀ σ H Q, t' σ H Q → t σ H Q) : PT X e t' := ⟨fun pins s σ H Q I q => h.run pins s σ H Q I (m σ H Q q)⟩
theorem _root_.L2.PS.imp {X : Cx} {e : Stmt} {t t' : TS} (h : PS X e t) (m : ∀ D σ H, t' D σ H → t D σ H) : PS X e t' := ⟨fun pins s σ H D I q => h.run pins s σ H D I (m D σ H q)⟩
theorem _root_.L2.PSs.imp {X : Cx} {e : List Stmt} {t t' : TS} (h : PSs X e t) (m : ∀ D σ H, t' D σ H → t D σ H) : PSs X e t' := ⟨fun pins s σ H D I q => h.run pins s σ H D I (m D σ H q)⟩

section
variable {X : Cx} {e a b c : Expr} {es : List Expr} {w wa wb wc : WE} {u : WA} {pos : Pos}
theorem PV.pp (h : PV X e w) : PP X e w := ⟨h.pe.imp fun σ H Q ⟨W, env, S, R, q⟩ => ⟨W, env, S, R, h.mono _ _ _ (fun d f v H' k r => f v H' k (.inl r)) q⟩, h.mono⟩
theorem PF.pv (h : PF X e w) : PV X e w := ⟨h.pe.imp fun σ H Q ⟨W, env, S, R, q⟩ => ⟨W, env, S, R, h.mono _ _ _ (fun d f p vs ds H' ed k hn hp r => by
  subst ed
  exact f _ H' k (.lst hp (R.cn.np hn) (r.less fun _ s => .inl s))) q⟩, h.mono⟩
theorem PF.pp (h : PF X e w) : PP X e w := h.pv.pp
theorem PAv.pp (h : PAv X es u) : PAp X es u := ⟨h.pa.imp fun σ H Q ⟨W, env, S, R, q⟩ => ⟨W, env, S, R, h.mono _ _ _ (fun d f v H' k r => f v H' k r.top) q⟩, h.mono⟩

/-! ### names, constants -/
def wV (i : Nat) : WE := fun env Q => match env.at i with
  | .sh d => Q d
  | _ => False
def wO (i : Nat) : WE := fun env Q => match env.at i with
  | .ow ds => Q (.list ds)
  | _ => False
def wC (d : D) : WE := fun _ Q => Q d
theorem v_ (i : Nat) {x : Str} (hN : X.N[i]? = some x := by rfl) (hv : Vis X.env.scope x := by first | exact Or.inl rfl | exact Or.inr (Or.inl rfl) | exact Or.inr (Or.inr rfl)) (hd : (x == ("__debug__" : Str)) = false := by decide)
    (hcd : (x == ("__classdict__" : Str)) = false := by decide) : PV X (.Name x pos) (wV i) := by
  refine ⟨(pe_var hN hv hd hcd).imp fun σ H Q ⟨W, env, S, R, q⟩ => ?_, fun env Q Q' f h => ?_⟩
  · have s := R.sl i
    unfold wV at q
    cases h : env.at i with
    | un => rw [h] at q; exact q.elim
    | ow ds => rw [h] at q; exact q.elim
    | sh d =>
      rw [h] at q s
      obtain ⟨v, ev, r⟩ := s
      exact ⟨v, ev, q v H (.refl R.j) r⟩
  · unfold wV at h ⊢
    cases h' : env.at i with
    | un => rw [h'] at h; exact h.elim
    | ow ds => rw [h'] at h; exact h.elim
    | sh d => rw [h'] at h; exact f _ h
theorem o_ (i : Nat) {x : Str} (hN : X.N[i]? = some x := by rfl) (hv : Vis X.env.scope x := by first | exact Or.inl rfl | exact Or.inr (Or.inl rfl) | exact Or.inr (Or.inr rfl)) (hd : (x == ("__debug__" : Str)) = false := by decide)
    (hcd : (x == ("__classdict__" : Str)) = false := by decide) : PP X (.Name x pos) (wO i) := by
  refine ⟨(pe_var hN hv hd hcd).imp fun σ H Q ⟨W, env, S, R, q⟩ => ?_, fun env Q Q' f h => ?_⟩
  · have s := R.sl i
    unfold wO at q
    cases h : env.at i with
    | un => rw [h] at q; exact q.elim
    | sh ds => rw [h] at q; exact q.elim
    | ow ds =>
      rw [h] at q s
      obtain ⟨a, vs, ev, O⟩ := s
      exact ⟨_, ev, q _ H (.refl R.j) (.inr ⟨a, vs, ds, rfl, rfl, O.m, O.h, O.r⟩)⟩
  · unfold wO at h ⊢
    cases h' : env.at i with
    | un => rw [h'] at h; exact h.elim
    | sh ds => rw [h'] at h; exact h.elim
    | ow d => rw [h'] at h; exact f _ h
theorem monoC {d : D} : Mono (wC d) := fun _ _ _ f h => f _ h
theorem int_ {i j} : PV X (.Constant (.int i) j pos) (wC (.int i)) := ⟨pe_int.imp fun σ H Q ⟨W, env, S, R, q⟩ => q _ H (.refl R.j) (.int i), monoC⟩
theorem bl_ {i j} : PV X (.Constant (.bool i) j pos) (wC (.bool i)) := ⟨pe_bl.imp fun σ H Q ⟨W, env, S, R, q⟩ => q _ H (.refl R.j) (.bl i), monoC⟩
theorem non_ {j} : PV X (.Constant .none j pos) (wC .none) := ⟨pe_non.imp fun σ H Q ⟨W, env, S, R, q⟩ => q _ H (.refl R.j) .non, monoC⟩
theorem str_ {x j} : PV X (.Constant (.str x) j pos) (wC (.str x)) := ⟨pe_str.imp fun σ H Q ⟨W, env, S, R, q⟩ => q _ H (.refl R.j) (.str x), monoC⟩

/-! ### operations -/
abbrev G2 := D → D → (D → Prop) → Prop
structure Bop (r : R2) (g : G2) : Prop where
  to : ∀ (W : Wd) (S : Addr → Prop) (H : Hp) (x y : V) (dx dy : D) (Q : VK) (G : D → Prop), Cn W S H → Top W H S x dx → Top W H S y dy → g dx dy G → (∀ d v H', G d → KpJ W H H' → Rp W.T H' S v d → Q v H') → r x y H Q
  mono : ∀ dx dy G G', (∀ d, G d → G' d) → g dx dy G → g dx dy G'
/-- .. that makes a new list -/
structure BopF (r : R2) (g : G2) : Prop where
  to : ∀ (W : Wd) (S : Addr → Prop) (H : Hp) (x y : V) (dx dy : D) (Q : VK) (G : D → Prop), Cn W S H → Top W H S x dx → Top W H S y dy → g dx dy G →
    (∀ p vs ds H', G (.list ds) → KpJ W H H' → H p = none → H' p = some (.lst vs) → RpAll W.T H' (plus S p) vs ds → Q (.ref p) H') → r x y H Q
  mono : ∀ dx dy G G', (∀ d, G d → G' d) → g dx dy G → g dx dy G'
def wB (g : G2) (wa wb : WE) : WE := fun env Q => wa env fun x => wb env fun y => g x y Q
theorem monoB {g : G2} (hg : ∀ dx dy G G', (∀ d, G d → G' d) → g dx dy G → g dx dy G') (ha : Mono wa) (hb : Mono wb) : Mono (wB g wa wb) := fun env Q Q' f h =>
  ha _ _ _ (fun x h => hb _ _ _ (fun y h => hg _ _ _ _ f h) h) h
theorem bin_ {r : R2} {g : G2} (ho : ∀ {ta tb : TE}, PE X a ta → PE X b tb → PE X e (tOp r ta tb)) (hg : Bop r g) (ha : PP X a wa) (hb : PP X b wb) : PV X e (wB g wa wb) := by
  refine ⟨(ho ha.pe hb.pe).imp fun σ H Q ⟨W, env, S, R, h⟩ => ?_, monoB hg.mono ha.mono hb.mono⟩
  refine ⟨W, env, S, R, ha.mono _ _ _ (fun dx h1 x H1 k1 t1 => ?_) h⟩
  refine ⟨W, env, S, R.kept k1, hb.mono _ _ _ (fun dy h2 y H2 k2 t2 => ?_) h1⟩
  exact hg.to W S H2 x y dx dy Q _ ((R.cn.kept k1).kept k2) (t1.kept k2 R.sm) t2 h2 fun d v H' hG k3 r3 => hG v H' ((k1.trans k2).trans k3) r3
theorem binF_ {r : R2} {g : G2} (ho : ∀ {ta tb : TE}, PE X a ta → PE X b tb → PE X e (tOp r ta tb)) (hg : BopF r g) (ha : PP X a wa) (hb : PP X b wb) : PF X e (wB g wa wb) := by
  refine ⟨(ho ha.pe hb.pe).imp fun σ H Q ⟨W, env, S, R, h⟩ => ?_, monoB hg.mono ha.mono hb.mono⟩
  refine ⟨W, env, S, R, ha.mono _ _ _ (fun dx h1 x H1 k1 t1 => ?_) h⟩
  refine ⟨W, env, S, R.kept k1, hb.mono _ _ _ (fun dy h2 y H2 k2 t2 => ?_) h1⟩
  exact hg.to W S H2 x y dx dy Q _ ((R.cn.kept k1).kept k2) (t1.kept k2 R.sm) t2 h2 fun p vs ds H' hG k3 hn hp r3 => hG p vs ds H' rfl ((k1.trans k2).trans k3) ((k1.trans k2).none_of R.j hn) hp r3
theorem Bop.or {r r' : R2} {g g' : G2} (h : Bop r g) (h' : Bop r' g') : Bop (fun x y H Q => r x y H Q ∨ r' x y H Q) (fun x y Q => g x y Q ∨ g' x y Q) :=
  ⟨fun W S H x y dx dy Q G c tx ty q f => q.elim (fun q => .inl (h.to W S H x y dx dy Q G c tx ty q f)) fun q => .inr (h'.to W S H x y dx dy Q G c tx ty q f),
   fun dx dy G G' f q => q.elim (fun q => .inl (h.mono _ _ _ _ f q)) fun q => .inr (h'.mono _ _ _ _ f q)⟩
/-- another way to say it -/
theorem Bop.as {r : R2} {g g' : G2} (h : Bop r g) (i : ∀ x y Q, g' x y Q → g x y Q) (m : ∀ dx dy G G', (∀ d, G d → G' d) → g' dx dy G → g' dx dy G') : Bop r g' :=
  ⟨fun W S H x y dx dy Q G c tx ty q f => h.to W S H x y dx dy Q G c tx ty (i _ _ _ q) f, m⟩

/-- ints to a flat value -/
def gI (C : Int → Int → Prop) (f : Int → Int → D) : G2 := fun x y Q => match x, y with
  | .int i, .int j => C i j ∧ Q (f i j)
  | _, _ => False
theorem monoI {C : Int → Int → Prop} {f : Int → Int → D} : ∀ dx dy G G', (∀ d, G d → G' d) → gI C f dx dy G → gI C f dx dy G' := fun dx dy G G' m h => by
  cases dx <;> cases dy <;> first | exact h.elim | exact ⟨h.1, m _ h.2⟩
theorem bopI {C : Int → Int → Prop} {f : Int → Int → Int} : Bop (rI C fun i j => .int (f i j)) (gI C fun i j => .int (f i j)) :=
  ⟨fun W S H x y dx dy Q G c tx ty q k => by
    cases dx <;> cases dy <;> first
      | exact q.elim
      | exact ⟨_, _, tx.int, ty.int, q.1, k _ _ H q.2 (.refl c.j) (.int _)⟩, monoI⟩
theorem bopI0 {f : Int → Int → Int} : Bop (rI0 fun i j => .int (f i j)) (gI (fun _ _ => True) fun i j => .int (f i j)) :=
  ⟨fun W S H x y dx dy Q G c tx ty q k => by
    cases dx <;> cases dy <;> first
      | exact q.elim
      | exact ⟨_, _, tx.int, ty.int, k _ _ H q.2 (.refl c.j) (.int _)⟩, monoI⟩
theorem bopB0 {f : Int → Int → Bool} : Bop (rI0 fun i j => .bl (f i j)) (gI (fun _ _ => True) fun i j => .bool (f i j)) :=
  ⟨fun W S H x y dx dy Q G c tx ty q k => by
    cases dx <;> cases dy <;> first
      | exact q.elim
      | exact ⟨_, _, tx.int, ty.int, k _ _ H q.2 (.refl c.j) (.bl _)⟩, monoI⟩

/-- x + y -/
def gAdd : G2 := fun x y Q => match x, y with
  | .int i, .int j => Q (.int (i + j))
  | .list xs, .list ys => xs.length + ys.length ≤ sizeLine ∧ Q (.list (xs ++ ys))
  | .tuple xs, .tuple ys => xs.length + ys.length ≤ sizeLine ∧ Q (.tuple (xs ++ ys))
  | .int i, .bool b => Q (.int (i + b2i b))
  | .str i, .str j => i.length + j.length ≤ sizeLine ∧ Q (.str (i ++ j))
  | _, _ => False
theorem monoAdd : ∀ dx dy G G', (∀ d, G d → G' d) → gAdd dx dy G → gAdd dx dy G' := fun dx dy G G' m h => by
  cases dx <;> cases dy <;> first | exact h.elim | exact m _ h | exact ⟨h.1, m _ h.2⟩
/-- two lists -/
def gCat : G2 := fun x y Q => match x, y with
  | .list xs, .list ys => xs.length + ys.length ≤ sizeLine ∧ Q (.list (xs ++ ys))
  | _, _ => False
theorem monoCat : ∀ dx dy G G', (∀ d, G d → G' d) → gCat dx dy G → gCat dx dy G' := fun dx dy G G' m h => by
  cases dx <;> cases dy <;> first | exact h.elim | exact ⟨h.1, m _ h.2⟩
theorem bopCatF : BopF rCat gCat := ⟨fun W S H x y dx dy Q G c tx ty q k => by
  cases dx <;> cases dy <;> first
    | exact q.elim
    | (obtain ⟨a, vs, rfl, ha, ra⟩ := tx.list
       obtain ⟨b, ws, rfl, hb, rb⟩ := ty.list
       refine ⟨a, b, vs, ws, rfl, rfl, ha, hb, by rw [ra.length, rb.length]; exact q.1, fun p hp => ?_⟩
       exact k p (vs ++ ws) _ _ q.2 (.new c.j hp) hp upd_same ((ra.append rb).plus hp)), monoCat⟩
/-- a new list is a value -/
theorem BopF.bop {r : R2} {g : G2} (h : BopF r g) : Bop r g := ⟨fun W S H x y dx dy Q G c tx ty q k => h.to W S H x y dx dy Q G c tx ty q fun p vs ds H' hG kp hn hp r =>
  k _ _ _ hG kp (.lst hp (c.np hn) (r.less fun _ s => .inl s)), h.mono⟩
def rAdd (X : Cx) : R2 := fun x y H Q => rI0 (fun i j => .int (i + j)) x y H Q ∨ rCat x y H Q ∨ rCatA X.K x y H Q ∨ (∃ i k, x = .int i ∧ y = .bl k ∧ Q (.int (i + b2i k)) H) ∨ (∃ i j, x = .str i ∧ y = .str j ∧ i.length + j.length ≤ sizeLine ∧ Q (.str (i ++ j)) H)
theorem op_Add : OpR X (binaryOp .Add) (rAdd X) := OpR.or op_add (OpR.or op_cat (OpR.or op_catA (OpR.or op_add_ib op_add_str)))
theorem bopAdd : Bop (rAdd X) gAdd := ⟨fun W S H x y dx dy Q G c tx ty q k => by
  cases dx <;> cases dy <;> first
    | exact q.elim
    | exact .inl ⟨_, _, tx.int, ty.int, k _ _ H q (.refl c.j) (.int _)⟩
    | exact .inr (.inr (.inr (.inl ⟨_, _, tx.int, ty.bl, k _ _ H q (.refl c.j) (.int _)⟩)))
    | exact .inr (.inr (.inr (.inr ⟨_, _, tx.str, ty.str, q.1, k _ _ H q.2 (.refl c.j) (.str _)⟩)))
    | exact .inr (.inl (bopCatF.bop.to W S H x y _ _ Q G c tx ty q k))
    | (refine .inr (.inr (.inl ?_))
       obtain ⟨a, vs, rfl, ha, na, ra⟩ := tx.tuple
       obtain ⟨b, ws, rfl, hb, nb, rb⟩ := ty.tuple
       refine ⟨a, b, vs, ws, rfl, rfl, .inl (.inl ha), .inl (.inl hb), by rw [ra.length, rb.length]; exact q.1, fun e => ?_, fun _ e => ?_, fun _ _ p hp => ?_⟩
       · subst e
         cases ra
         exact k _ _ H q.2 (.refl c.j) (.tup hb nb rb)
       · subst e
         cases rb
         exact k _ _ H q.2 (.refl c.j) (.tup ha na (by rw [List.append_nil]; exact ra))
       · exact k _ _ _ q.2 (.new c.j hp) (.tup upd_same (c.np hp) (((ra.append rb).plus hp).less fun _ s => .inl s))), monoAdd⟩
theorem add_ (ha : PP X a wa) (hb : PP X b wb) : PV X (.BinOp a .Add b pos) (wB gAdd wa wb) := bin_ (fun h1 h2 => pe_op op_Add h1 h2) bopAdd ha hb
theorem cat_ (ha : PP X a wa) (hb : PP X b wb) : PF X (.BinOp a .Add b pos) (wB gCat wa wb) := binF_ (fun h1 h2 => pe_op op_cat h1 h2) bopCatF ha hb
abbrev gSub : G2 := gI (fun _ _ => True) fun i j => .int (i - j)
theorem sub_ (ha : PP X a wa) (hb : PP X b wb) : PV X (.BinOp a .Sub b pos) (wB gSub wa wb) := bin_ (fun h1 h2 => pe_op op_sub h1 h2) bopI0 ha hb

/-- x * y -/
def MulOk (i j : Int) : Prop := CMul i j ∨ CMulX i j
theorem MulOk.ok {i j : Int} (h : MulOk i j) : IntMulOk i j := h.elim CMul.ok CMulX.ok
theorem op_mulA : OpR X (binaryOp .Mult) (rI MulOk fun i j => .int (i * j)) := opI fun _ _ _ _ _ _ _ hc q => mul_int q hc.ok
def rMul : R2 := fun x y H Q => rI MulOk (fun i j => .int (i * j)) x y H Q ∨ rRep x y H Q
theorem op_Mul : OpR X (binaryOp .Mult) rMul := OpR.or op_mulA op_rep
def gMul : G2 := fun x y Q => match x, y with
  | .int i, .int j => MulOk i j ∧ Q (.int (i * j))
  | .list xs, .int k => (-(2 ^ 63) ≤ k ∧ k < 2 ^ 63 ∧ xs.length * k.toNat ≤ sizeLine) ∧ Q (.list (List.replicate k.toNat xs).flatten)
  | _, _ => False
theorem monoMul : ∀ dx dy G G', (∀ d, G d → G' d) → gMul dx dy G → gMul dx dy G' := fun dx dy G G' m h => by
  cases dx <;> cases dy <;> first | exact h.elim | exact ⟨h.1, m _ h.2⟩
def gRep : G2 := fun x y Q => match x, y with
  | .list xs, .int k => (-(2 ^ 63) ≤ k ∧ k < 2 ^ 63 ∧ xs.length * k.toNat ≤ sizeLine) ∧ Q (.list (List.replicate k.toNat xs).flatten)
  | _, _ => False
theorem monoRep : ∀ dx dy G G', (∀ d, G d → G' d) → gRep dx dy G → gRep dx dy G' := fun dx dy G G' m h => by
  cases dx <;> cases dy <;> first | exact h.elim | exact ⟨h.1, m _ h.2⟩
theorem bopRepF : BopF rRep gRep := ⟨fun W S H x y dx dy Q G c tx ty q k => by
  cases dx <;> cases dy <;> first
    | exact q.elim
    | (obtain ⟨a, vs, rfl, ha, ra⟩ := tx.list
       obtain ⟨⟨q1, q2, q3⟩, q4⟩ := q
       refine ⟨a, _, vs, rfl, ty.int, ha, q1, q2, by rw [ra.length]; exact q3, fun p hp => ?_⟩
       exact k p _ _ _ q4 (.new c.j hp) hp upd_same ((ra.flatRep _).plus hp)), monoRep⟩
theorem bopMul : Bop rMul gMul := ⟨fun W S H x y dx dy Q G c tx ty q k => by
  cases dx <;> cases dy <;> first
    | exact q.elim
    | exact .inl ⟨_, _, tx.int, ty.int, q.1, k _ _ H q.2 (.refl c.j) (.int _)⟩
    | exact .inr (bopRepF.bop.to W S H x y _ _ Q G c tx ty q k), monoMul⟩
theorem mul_ (ha : PP X a wa) (hb : PP X b wb) : PV X (.BinOp a .Mult b pos) (wB gMul wa wb) := bin_ (fun h1 h2 => pe_op op_Mul h1 h2) bopMul ha hb
theorem rep_ (ha : PP X a wa) (hb : PP X b wb) : PF X (.BinOp a .Mult b pos) (wB gRep wa wb) := binF_ (fun h1 h2 => pe_op op_rep h1 h2) bopRepF ha hb
/-- // and % -/
def DivOk (_ j : Int) : Prop := j ≠ 0 ∧ j.natAbs.log2 < 9000
theorem op_fdivA : OpR X (binaryOp .FloorDiv) (rI DivOk fun i j => .int (i.fdiv j)) := opI fun i j _ _ _ _ _ hc q => floordiv_int hc.1 q (.inl (PyProof.noPylong_of_log2 hc.2))
abbrev gFdiv : G2 := gI DivOk fun i j => .int (i.fdiv j)
abbrev gMod : G2 := gI (fun _ j => j ≠ 0) fun i j => .int (i.fmod j)
abbrev gPow : G2 := gI CPow fun i j => .int (i ^ j.toNat)
theorem fdiv_ (ha : PP X a wa) (hb : PP X b wb) : PV X (.BinOp a .FloorDiv b pos) (wB gFdiv wa wb) := bin_ (fun h1 h2 => pe_op op_fdivA h1 h2) bopI ha hb
theorem mod_ (ha : PP X a wa) (hb : PP X b wb) : PV X (.BinOp a .Mod b pos) (wB gMod wa wb) := bin_ (fun h1 h2 => pe_op op_modN h1 h2) bopI ha hb
theorem pow_ (ha : PP X a wa) (hb : PP X b wb) : PV X (.BinOp a .Pow b pos) (wB gPow wa wb) := bin_ (fun h1 h2 => pe_op op_pow h1 h2) bopI ha hb

/-! ### one place -/
abbrev G1 := D → (D → Prop) → Prop
def wU (g : G1) (wa : WE) : WE := fun env Q => wa env fun x => g x Q
structure Uop (r : V → Hp → VK → Prop) (g : G1) : Prop where
  to : ∀ (W : Wd) (S : Addr → Prop) (H : Hp) (x : V) (dx : D) (Q : VK) (G : D → Prop), Cn W S H → Top W H S x dx → g dx G → (∀ d v H', G d → KpJ W H H' → Rp W.T H' S v d → Q v H') → r x H Q
  mono : ∀ dx G G', (∀ d, G d → G' d) → g dx G → g dx G'
theorem monoU {g : G1} (hg : ∀ dx G G', (∀ d, G d → G' d) → g dx G → g dx G') (ha : Mono wa) : Mono (wU g wa) := fun env Q Q' f h => ha _ _ _ (fun x h => hg _ _ _ f h) h
theorem un_ {r : V → Hp → VK → Prop} {g : G1} (ho : ∀ {ta : TE}, PE X a ta → PE X e (tUn r ta)) (hg : Uop r g) (ha : PP X a wa) : PV X e (wU g wa) := by
  refine ⟨(ho ha.pe).imp fun σ H Q ⟨W, env, S, R, h⟩ => ?_, monoU hg.mono ha.mono⟩
  refine ⟨W, env, S, R, ha.mono _ _ _ (fun dx h1 x H1 k1 t1 => ?_) h⟩
  exact hg.to W S H1 x dx Q _ (R.cn.kept k1) t1 h1 fun d v H' hG k3 r3 => hG v H' (k1.trans k3) r3
def gNeg : G1 := fun x Q => match x with
  | .int i => Q (.int (-i))
  | _ => False
theorem neg_ (ha : PP X a wa) : PV X (.UnaryOp .USub a pos) (wU gNeg wa) := un_ (fun h => pe_un un_neg h) ⟨fun W S H x dx Q G c tx q k => by
    cases dx <;> first | exact q.elim | exact ⟨_, tx.int, k _ _ H q (.refl c.j) (.int _)⟩,
  fun dx G G' m h => by cases dx <;> first | exact h.elim | exact m _ h⟩ ha

/-! ### truth -/
/-- what is true -/
def tru : D → Bool
  | .none => false
  | .bool b => b
  | .int i => i != 0
  | .str x => (x.length : Int) != 0
  | .list xs => !xs.isEmpty
  | .tuple xs => !xs.isEmpty
  | .dict _ => false
def isD : D → Bool
  | .dict _ => false
  | .str x => decide (x.length ≤ sizeLine)
  | _ => true
def gTru (d : D) (Q : Bool → Prop) : Prop := isD d = true ∧ Q (tru d)
theorem top_tru {W : Wd} {S : Addr → Prop} {H : Hp} {x : V} {d : D} (K : PySem.W.Frag) (t : Top W H S x d) (h : isD d = true) : TruV K x H (tru d) := by
  have em : ∀ {vs : List V} {ds : List D}, RpAll W.T H S vs ds → (!ds.isEmpty) = !vs.isEmpty := fun r => by cases r <;> rfl
  cases d with
  | none => cases t.non; exact rfl
  | bool b => cases t.bl; exact rfl
  | int i => cases t.int; exact rfl
  | str z => cases t.str; exact ⟨of_decide_eq_true h, rfl⟩
  | list ds =>
    obtain ⟨a, vs, rfl, ha, r⟩ := t.list
    exact .inl ⟨vs, .inl (.inl ha), em r⟩
  | tuple ds =>
    obtain ⟨a, vs, rfl, ha, _, r⟩ := t.tuple
    exact .inr (.inl ⟨vs, .inl (.inl ha), em r⟩)
  | dict k => cases h

abbrev WT := En → (Bool → Prop) → Prop
def MonoT (w : WT) : Prop := ∀ env Q Q', (∀ b, Q b → Q' b) → w env Q → w env Q'
def tT (w : WT) : TT := fun σ H Q => ∃ W env S, RlS W env S σ H ∧ w env fun b => ∀ H', KpJ W H H' → Q b H'
structure PTv (X : Cx) (e : Expr) (w : WT) : Prop where
  pt : PT X e (tT w)
  mono : MonoT w
/-- a test -/
def wT (w : WE) : WT := fun env Q => w env fun d => gTru d Q
theorem monoT (h : Mono w) : MonoT (wT w) := fun env Q Q' f q => h _ _ _ (fun d g => ⟨g.1, f _ g.2⟩) q
/-- a name, a call, a subscript .. -/
theorem t_ (h : PP X e w) (he : ∀ whole, isTrue e X.env whole = (do let v ← whole; standAt e.pos; holding [v] (truthy v)) := by intro _; rfl) : PTv X e (wT w) := by
  refine ⟨(pt_truth h.pe he).imp fun σ H Q ⟨W, env, S, R, q⟩ => ?_, monoT h.mono⟩
  exact ⟨W, env, S, R, h.mono _ _ _ (fun d g v H' k t => ⟨tru d, top_tru X.K t g.1, g.2 H' k⟩) q⟩
/-- not -/
def wNotT (w : WT) : WT := fun env Q => w env fun b => Q (!b)
theorem tnot_ {w : WT} (h : PTv X e w) : PTv X (.UnaryOp .Not e pos) (wNotT w) := by
  refine ⟨(pt_not h.pt).imp fun σ H Q ⟨W, env, S, R, q⟩ => ⟨W, env, S, R, q⟩, fun env Q Q' f q => h.mono _ _ _ (fun b g => f _ g) q⟩
structure PWv (X : Cx) (e : Expr) (w : WT) : Prop where
  pw : PW X e (tT w)
  mono : MonoT w
theorem _root_.L2.PW.imp {X : Cx} {e : Expr} {t t' : TT} (h : PW X e t) (m : ∀ σ H Q, t' σ H Q → t σ H Q) : PW X e t' := ⟨fun wh pins s σ H Q I q => h.run wh pins s σ H Q I (m σ H Q q)⟩
def wAndT (u v : WT) : WT := fun env Q => u env fun b => if b = true then v env Q else Q false
def wOrT (u v : WT) : WT := fun env Q => u env fun b => if b = true then Q true else v env Q
theorem monoAndT {u v : WT} (hu : MonoT u) (hv : MonoT v) : MonoT (wAndT u v) := fun env Q Q' f q => hu _ _ _ (fun b g => by
  cases b with
  | true => exact hv _ _ _ f g
  | false => exact f _ g) q
theorem monoOrT {u v : WT} (hu : MonoT u) (hv : MonoT v) : MonoT (wOrT u v) := fun env Q Q' f q => hu _ _ _ (fun b g => by
  cases b with
  | true => exact f _ g
  | false => exact hv _ _ _ f g) q
theorem wand1_ {u : WT} (h : PTv X a u) : PWv X (.BoolOp .And [a] pos) u := ⟨pw_and1 h.pt, h.mono⟩
theorem wor1_ {u : WT} (h : PTv X a u) : PWv X (.BoolOp .Or [a] pos) u := ⟨pw_or1 h.pt, h.mono⟩
theorem wand_ {u v : WT} {rest : List Expr} (h : PTv X a u) (h' : PWv X (.BoolOp .And (b :: rest) pos) v) : PWv X (.BoolOp .And (a :: b :: rest) pos) (wAndT u v) := by
  refine ⟨(pw_and h.pt h'.pw).imp fun σ H Q ⟨W, env, S, R, q⟩ => ?_, monoAndT h.mono h'.mono⟩
  refine ⟨W, env, S, R, h.mono _ _ _ (fun d g H1 k => ?_) q⟩
  cases d with
  | true => exact ⟨W, env, S, R.kept k, h'.mono _ _ _ (fun d g H2 k2 => g H2 (k.trans k2)) g⟩
  | false => exact g H1 k
theorem wor_ {u v : WT} {rest : List Expr} (h : PTv X a u) (h' : PWv X (.BoolOp .Or (b :: rest) pos) v) : PWv X (.BoolOp .Or (a :: b :: rest) pos) (wOrT u v) := by
  refine ⟨(pw_or h.pt h'.pw).imp fun σ H Q ⟨W, env, S, R, q⟩ => ?_, monoOrT h.mono h'.mono⟩
  refine ⟨W, env, S, R, h.mono _ _ _ (fun d g H1 k => ?_) q⟩
  cases d with
  | true => exact g H1 k
  | false => exact ⟨W, env, S, R.kept k, h'.mono _ _ _ (fun d g H2 k2 => g H2 (k.trans k2)) g⟩
theorem tw_ {u : WT} (h : PWv X e u) : PTv X e u := ⟨h.pw.pt, h.mono⟩
/-- as values -/
def wAndV (u v : WE) : WE := fun env Q => u env fun x => gTru x fun b => if b = true then v env Q else Q x
def wOrV (u v : WE) : WE := fun env Q => u env fun x => gTru x fun b => if b = true then Q x else v env Q
def wNotV (u : WE) : WE := fun env Q => u env fun x => gTru x fun b => Q (.bool (!b))
theorem one_ {op} (h : PV X a wa) : PV X (.BoolOp op [a] pos) wa := ⟨pe_one h.pe, h.mono⟩
theorem and_ {rest : List Expr} (ha : PV X a wa) (hb : PV X (.BoolOp .And (b :: rest) pos) wb) : PV X (.BoolOp .And (a :: b :: rest) pos) (wAndV wa wb) := by
  refine ⟨(pe_andT ha.pe hb.pe).imp fun σ H Q ⟨W, env, S, R, q⟩ => ?_, fun env Q Q' f q => ha.mono _ _ _ (fun x g => ⟨g.1, ?_⟩) q⟩
  · refine ⟨W, env, S, R, ha.mono _ _ _ (fun d g v H1 k t => ⟨tru d, top_tru X.K (.inl t : Top W H1 S v d) g.1, ?_⟩) q⟩
    have g2 := g.2
    cases e : tru d with
    | true => rw [e] at g2; exact ⟨W, env, S, R.kept k, hb.mono _ _ _ (fun d g v2 H2 k2 r2 => g v2 H2 (k.trans k2) r2) g2⟩
    | false => rw [e] at g2; exact g2 v H1 k t
  · have g2 := g.2
    cases e : tru x with
    | true => rw [e] at g2; exact hb.mono _ _ _ f g2
    | false => rw [e] at g2; exact f _ g2
theorem or_ {rest : List Expr} (ha : PV X a wa) (hb : PV X (.BoolOp .Or (b :: rest) pos) wb) : PV X (.BoolOp .Or (a :: b :: rest) pos) (wOrV wa wb) := by
  refine ⟨(pe_orT ha.pe hb.pe).imp fun σ H Q ⟨W, env, S, R, q⟩ => ?_, fun env Q Q' f q => ha.mono _ _ _ (fun x g => ⟨g.1, ?_⟩) q⟩
  · refine ⟨W, env, S, R, ha.mono _ _ _ (fun d g v H1 k t => ⟨tru d, top_tru X.K (.inl t : Top W H1 S v d) g.1, ?_⟩) q⟩
    have g2 := g.2
    cases e : tru d with
    | false => rw [e] at g2; exact ⟨W, env, S, R.kept k, hb.mono _ _ _ (fun d g v2 H2 k2 r2 => g v2 H2 (k.trans k2) r2) g2⟩
    | true => rw [e] at g2; exact g2 v H1 k t
  · have g2 := g.2
    cases e : tru x with
    | false => rw [e] at g2; exact hb.mono _ _ _ f g2
    | true => rw [e] at g2; exact f _ g2
theorem not_ (ha : PP X a wa) : PV X (.UnaryOp .Not a pos) (wNotV wa) := by
  refine ⟨(pe_notT ha.pe).imp fun σ H Q ⟨W, env, S, R, q⟩ => ?_, fun env Q Q' f q => ha.mono _ _ _ (fun x g => ⟨g.1, f _ g.2⟩) q⟩
  exact ⟨W, env, S, R, ha.mono _ _ _ (fun d g v H1 k t => ⟨tru d, top_tru X.K t g.1, g.2 _ H1 k (.bl _)⟩) q⟩
/-- a if t else b -/
def wIf (t : WT) (u v : WE) : WE := fun env Q => t env fun b => if b = true then u env Q else v env Q
theorem if_ {t : WT} (hc : PTv X c t) (ha : PV X a wa) (hb : PV X b wb) : PV X (.IfExp c a b pos) (wIf t wa wb) := by
  refine ⟨(pe_ifExp hc.pt ha.pe hb.pe).imp fun σ H Q ⟨W, env, S, R, q⟩ => ?_, fun env Q Q' f q => hc.mono _ _ _ (fun x g => ?_) q⟩
  · refine ⟨W, env, S, R, hc.mono _ _ _ (fun d g H1 k => ?_) q⟩
    cases d with
    | true => exact ⟨W, env, S, R.kept k, ha.mono _ _ _ (fun d g v2 H2 k2 r2 => g v2 H2 (k.trans k2) r2) g⟩
    | false => exact ⟨W, env, S, R.kept k, hb.mono _ _ _ (fun d g v2 H2 k2 r2 => g v2 H2 (k.trans k2) r2) g⟩
  · cases x with
    | true => exact ha.mono _ _ _ f g
    | false => exact hb.mono _ _ _ f g

/-! ### comparisons -/
/-- a comparison as a value and as a test -/
theorem cmp_ {op : CmpOp} {r : R2} {g : G2} (ho : OpR X (compareOp op) r) (hg : Bop r g) (ha : PP X a wa) (hb : PP X b wb) (hm : behindInMarks op b = false := by first | exact nomark _ | with_unfolding_all rfl) : PV X (.Compare a [op] [b] pos) (wB g wa wb) :=
  bin_ (fun h1 h2 => pe_cmpR ho h1 h2 hm) hg ha hb
/-- .. that gives a bool -/
def gBool (d : D) (Q : Bool → Prop) : Prop := match d with
  | .bool b => Q b
  | _ => False
def wTB (w : WE) : WT := fun env Q => w env fun d => gBool d Q
theorem tcmp_ {op : CmpOp} {r : R2} {g : G2} (ho : OpR X (compareOp op) r) (hg : Bop r g) (ha : PP X a wa) (hb : PP X b wb) (hm : behindInMarks op b = false := by first | exact nomark _ | with_unfolding_all rfl) : PTv X (.Compare a [op] [b] pos) (wTB (wB g wa wb)) := by
  refine ⟨(pt_cmpR ho ha.pe hb.pe hm).imp fun σ H Q ⟨W, env, S, R, h⟩ => ?_, fun env Q Q' f q => monoB hg.mono ha.mono hb.mono _ _ _ (fun d g => by cases d <;> first | exact g.elim | exact f _ g) q⟩
  refine ⟨W, env, S, R, ha.mono _ _ _ (fun dx h1 x H1 k1 t1 => ?_) h⟩
  refine ⟨W, env, S, R.kept k1, hb.mono _ _ _ (fun dy h2 y H2 k2 t2 => ?_) h1⟩
  refine hg.to W S H2 x y dx dy _ _ ((R.cn.kept k1).kept k2) (t1.kept k2 R.sm) t2 h2 fun d v H' hG k3 r3 => ?_
  cases d with
  | bool z => cases r3; exact ⟨z, rfl, hG H' ((k1.trans k2).trans k3)⟩
  | _ => exact hG.elim
/-- two in a chain -/
def wCh (g g' : G2) (wa wb wc : WE) : WE := fun env Q => wa env fun x => wb env fun y => g x y fun z => match z with
  | .bool k => if k = true then wc env fun w => g' y w Q else Q (.bool false)
  | _ => False
theorem monoCh {g g' : G2} (hg : ∀ dx dy G G', (∀ d, G d → G' d) → g dx dy G → g dx dy G') (hg' : ∀ dx dy G G', (∀ d, G d → G' d) → g' dx dy G → g' dx dy G') (ha : Mono wa) (hb : Mono wb) (hc : Mono wc) : Mono (wCh g g' wa wb wc) := fun env Q Q' f q =>
  ha _ _ _ (fun x h => hb _ _ _ (fun y h => hg _ _ _ _ (fun z h => by
    cases z with
    | bool k => cases k with
      | true => exact hc _ _ _ (fun d h => hg' _ _ _ _ f h) h
      | false => exact f _ h
    | _ => exact h.elim) h) h) q
theorem chain_ {op op' : CmpOp} {r r' : R2} {g g' : G2} (ho : OpR X (compareOp op) r) (ho' : OpR X (compareOp op') r') (hg : Bop r g) (hg' : Bop r' g') (ha : PP X a wa) (hb : PP X b wb) (hc : PP X c wc)
    (pc : ∀ {ta tb tc : TE}, PE X a ta → PE X b tb → PE X c tc → PE X (.Compare a [op, op'] [b, c] pos) (tChain r r' ta tb tc)) : PV X (.Compare a [op, op'] [b, c] pos) (wCh g g' wa wb wc) := by
  refine ⟨(pc ha.pe hb.pe hc.pe).imp fun σ H Q ⟨W, env, S, R, h⟩ => ?_, monoCh hg.mono hg'.mono ha.mono hb.mono hc.mono⟩
  refine ⟨W, env, S, R, ha.mono _ _ _ (fun dx h1 x H1 k1 t1 => ?_) h⟩
  refine ⟨W, env, S, R.kept k1, hb.mono _ _ _ (fun dy h2 y H2 k2 t2 => ?_) h1⟩
  refine hg.to W S H2 x y dx dy _ _ ((R.cn.kept k1).kept k2) (t1.kept k2 R.sm) t2 h2 fun d v H3 hG k3 r3 => ?_
  cases d with
  | bool z =>
    cases r3
    refine ⟨z, rfl, ?_⟩
    cases z with
    | true =>
      refine ⟨W, env, S, (R.kept k1).kept (k2.trans k3), hc.mono _ _ _ (fun dw h4 u H4 k4 t4 => ?_) hG⟩
      exact hg'.to W S H4 y u dy dw Q _ (((R.cn.kept k1).kept k2).kept (k3.trans k4)) (t2.kept (k3.trans k4) R.sm) t4 h4 fun d v H' hG k5 r5 => hG v H' ((((k1.trans k2).trans k3).trans k4).trans k5) r5
    | false => exact hG _ H3 ((k1.trans k2).trans k3) (.bl _)
  | _ => exact hG.elim
end
end Eg

/-! E3: comparisons, subscripts, displays, calls. -/
namespace Eg
open PySem PySem.Spec PyProof.Rows L2

section
variable {X : Cx} {e a b c : Expr} {es : List Expr} {w wa wb wc : WE} {u : WA} {pos : Pos}

abbrev gLt : G2 := gI (fun _ _ => True) fun i j => .bool (decide (i < j))
abbrev gLe : G2 := gI (fun _ _ => True) fun i j => .bool (decide (i ≤ j))
abbrev gGt : G2 := gI (fun _ _ => True) fun i j => .bool (decide (j < i))
abbrev gGe : G2 := gI (fun _ _ => True) fun i j => .bool (decide (j ≤ i))
/-- x == y -/
def gEq : G2 := fun x y Q => (SeqAt.shaped x = true ∧ SeqAt.shaped y = true) ∧ Q (.bool (PyData.eqv x y))
def gNe : G2 := fun x y Q => (SeqAt.shaped x = true ∧ SeqAt.shaped y = true) ∧ Q (.bool (!PyData.eqv x y))
theorem bopEq (K : PySem.W.Frag) : Bop (rEqD K) gEq := ⟨fun W S H x y dx dy Q G c tx ty q k =>
  ⟨dx, dy, tx.dp K (SeqAt.canLay_of_shaped q.1.1), ty.dp K (SeqAt.canLay_of_shaped q.1.2), q.1.1, q.1.2, k _ _ H q.2 (.refl c.j) (.bl _)⟩, fun dx dy G G' f q => ⟨q.1, f _ q.2⟩⟩
theorem bopNe (K : PySem.W.Frag) : Bop (rNeD K) gNe := ⟨fun W S H x y dx dy Q G c tx ty q k =>
  ⟨dx, dy, tx.dp K (SeqAt.canLay_of_shaped q.1.1), ty.dp K (SeqAt.canLay_of_shaped q.1.2), q.1.1, q.1.2, k _ _ H q.2 (.refl c.j) (.bl _)⟩, fun dx dy G G' f q => ⟨q.1, f _ q.2⟩⟩
/-- is, is not: None, True, False -/
def rIsA : R2 := fun x y H Q => (y = .non ∧ Q (.bl (decide (x = .non))) H) ∨ (∃ a b, x = .bl a ∧ y = .bl b ∧ Q (.bl (decide (a = b))) H)
def rNotA : R2 := fun x y H Q => (y = .non ∧ Q (.bl (!decide (x = .non))) H) ∨ (∃ a b, x = .bl a ∧ y = .bl b ∧ Q (.bl (!decide (a = b))) H)
theorem op_Is : OpR X (compareOp .Is) rIsA := OpR.or op_isN op_isBl
theorem op_IsNot : OpR X (compareOp .IsNot) rNotA := OpR.or op_notN op_notBl
def isNon : D → Bool
  | .none => true
  | _ => false
def gIs : G2 := fun x y Q => match x, y with
  | .dict _, .none => False
  | x, .none => Q (.bool (isNon x))
  | .bool a, .bool b => Q (.bool (decide (a = b)))
  | _, _ => False
def gIsNot : G2 := fun x y Q => match x, y with
  | .dict _, .none => False
  | x, .none => Q (.bool (!isNon x))
  | .bool a, .bool b => Q (.bool (!decide (a = b)))
  | _, _ => False
theorem top_non {W : Wd} {S : Addr → Prop} {H : Hp} {x : V} {d : D} (t : Top W H S x d) (h : ∀ k, d ≠ .dict k) : decide (x = .non) = isNon d := by
  cases d with
  | none => cases t.non; rfl
  | bool b => cases t.bl; rfl
  | int i => cases t.int; rfl
  | str z => cases t.str; rfl
  | list ds =>
    obtain ⟨a, vs, rfl, ha, r⟩ := t.list
    rfl
  | tuple ds =>
    obtain ⟨a, vs, rfl, ha, _, r⟩ := t.tuple
    rfl
  | dict k => exact absurd rfl (h k)
theorem bopIs : Bop rIsA gIs := ⟨fun W S H x y dx dy Q G c tx ty q k => by
    cases dy with
    | none =>
      cases dx with
      | dict _ => exact q.elim
      | _ => exact .inl ⟨ty.non, by rw [top_non tx (fun k z => nomatch z)]; exact k _ _ H q (.refl c.j) (.bl _)⟩
    | bool b =>
      cases dx with
      | bool a => exact .inr ⟨a, b, tx.bl, ty.bl, k _ _ H q (.refl c.j) (.bl _)⟩
      | _ => exact q.elim
    | _ => cases dx <;> exact q.elim,
  fun dx dy G G' f q => by cases dx <;> cases dy <;> first | exact q.elim | exact f _ q⟩
theorem bopIsNot : Bop rNotA gIsNot := ⟨fun W S H x y dx dy Q G c tx ty q k => by
    cases dy with
    | none =>
      cases dx with
      | dict _ => exact q.elim
      | _ => exact .inl ⟨ty.non, by rw [top_non tx (fun k z => nomatch z)]; exact k _ _ H q (.refl c.j) (.bl _)⟩
    | bool b =>
      cases dx with
      | bool a => exact .inr ⟨a, b, tx.bl, ty.bl, k _ _ H q (.refl c.j) (.bl _)⟩
      | _ => exact q.elim
    | _ => cases dx <;> exact q.elim,
  fun dx dy G G' f q => by cases dx <;> cases dy <;> first | exact q.elim | exact f _ q⟩
/-- x in a list or a tuple -/
def rInT (K : PySem.W.Frag) (neg : Bool) : R2 := fun x y H Q => ∃ d ds, Dp K H x d ∧ (Dp K H y (.list ds) ∨ Dp K H y (.tuple ds)) ∧ SeqAt.shaped d = true ∧ PyData.canLayAll0 ds = true ∧ Q (.bl (if neg = true then !ds.any fun z => PyData.eqv z d else ds.any fun z => PyData.eqv z d)) H
theorem room_in {X : Cx} {d : D} {n : Nat} (sd : SeqAt.shaped d = true) (hu : X.A.units + 65 < cLine) : X.A.units + 1 + min n d.depth < cLine := by
  have h1 := SeqAt.depth_of_shaped sd
  have h2 : min n d.depth ≤ d.depth := Nat.min_le_right _ _
  omega
theorem op_InT (hu : X.A.units + 65 < cLine) : OpR X (compareOp .In) (rInT X.K false) := by
  intro pins s σ H x y v u Q I rx ry h
  obtain ⟨d, ds, hd, he, sd, se, q⟩ := h
  obtain ⟨as, r1⟩ := Dp.reads I d x v hd rx
  rcases he with he | he
  · obtain ⟨bs, r2⟩ := Dp.reads I (.list ds) y u he ry
    exact SeqAt.in_list_reads r2 r1 se (SeqAt.canLay_of_shaped sd) (room_in sd hu) ⟨.bl _, H, I, rfl, q⟩
  · obtain ⟨bs, r2⟩ := Dp.reads I (.tuple ds) y u he ry
    exact SeqAt.in_tuple_reads r2 r1 se (SeqAt.canLay_of_shaped sd) (room_in sd hu) ⟨.bl _, H, I, rfl, q⟩
theorem op_NotInT (hu : X.A.units + 65 < cLine) : OpR X (compareOp .NotIn) (rInT X.K true) := by
  intro pins s σ H x y v u Q I rx ry h
  obtain ⟨d, ds, hd, he, sd, se, q⟩ := h
  obtain ⟨as, r1⟩ := Dp.reads I d x v hd rx
  rcases he with he | he
  · obtain ⟨bs, r2⟩ := Dp.reads I (.list ds) y u he ry
    exact SeqAt.notIn_list_reads r2 r1 se (SeqAt.canLay_of_shaped sd) (room_in sd hu) ⟨.bl _, H, I, rfl, q⟩
  · obtain ⟨bs, r2⟩ := Dp.reads I (.tuple ds) y u he ry
    exact SeqAt.notIn_tuple_reads r2 r1 se (SeqAt.canLay_of_shaped sd) (room_in sd hu) ⟨.bl _, H, I, rfl, q⟩
def inD (x : D) (ds : List D) : Bool := ds.any fun z => PyData.eqv z x
def gInB (neg : Bool) : G2 := fun x y Q => match y with
  | .list ds => (SeqAt.shaped x = true ∧ PyData.canLayAll0 ds = true) ∧ Q (.bool (if neg = true then !inD x ds else inD x ds))
  | .tuple ds => (SeqAt.shaped x = true ∧ PyData.canLayAll0 ds = true) ∧ Q (.bool (if neg = true then !inD x ds else inD x ds))
  | _ => False
abbrev gIn : G2 := gInB false
abbrev gNotIn : G2 := gInB true
theorem bopIn (K : PySem.W.Frag) (neg : Bool) : Bop (rInT K neg) (gInB neg) := ⟨fun W S H x y dx dy Q G c tx ty q k => by
    cases dy with
    | list ds => exact ⟨dx, ds, tx.dp K (SeqAt.canLay_of_shaped q.1.1), .inl (ty.dp K (by simpa [PyData.canLay0] using q.1.2)), q.1.1, q.1.2, k _ _ H q.2 (.refl c.j) (.bl _)⟩
    | tuple ds => exact ⟨dx, ds, tx.dp K (SeqAt.canLay_of_shaped q.1.1), .inr (ty.dp K (by simpa [PyData.canLay0] using q.1.2)), q.1.1, q.1.2, k _ _ H q.2 (.refl c.j) (.bl _)⟩
    | _ => exact q.elim,
  fun dx dy G G' f q => by cases dy <;> first | exact q.elim | exact ⟨q.1, f _ q.2⟩⟩

/-! ### subscripts -/
def gIx : G2 := fun x y Q => match x, y with
  | .list ds, .int i => match atI ds i with
    | some d => Q d
    | none => False
  | .tuple ds, .int i => match atI ds i with
    | some d => Q d
    | none => False
  | _, _ => False
theorem monoIx : ∀ dx dy G G', (∀ d, G d → G' d) → gIx dx dy G → gIx dx dy G' := fun dx dy G G' f q => by
  cases dx <;> cases dy <;> first
    | exact q.elim
    | (unfold gIx at q ⊢
       simp only at q ⊢
       split at q
       · rename_i h; simp only [h] at *; exact f _ q
       · exact q.elim)
theorem atI_rp {W : Wd} {S : Addr → Prop} {H : Hp} {vs : List V} {ds : List D} {i : Int} {d : D} (r : RpAll W.T H S vs ds) (h : atI ds i = some d) : ∃ v, atI vs i = some v ∧ Rp W.T H S v d := by
  unfold atI at h ⊢
  rw [r.length]
  cases e : ixN ds.length i with
  | none => rw [e] at h; cases h
  | some j =>
    rw [e] at h
    exact r.get h
def rIxA (K : PySem.W.Frag) : R2 := fun x y H Q => rIxL K x y H Q ∨ rIxT K x y H Q
theorem bopIx (K : PySem.W.Frag) : Bop (rIxA K) gIx := ⟨fun W S H x y dx dy Q G c tx ty q k => by
    cases dx <;> cases dy <;> first
      | exact q.elim
      | (unfold gIx at q
         simp only at q
         split at q
         · rename_i h
           first
             | (obtain ⟨a, vs, rfl, ha, r⟩ := tx.list
                obtain ⟨v, hv, rv⟩ := atI_rp r h
                exact .inl ⟨a, vs, _, v, rfl, ty.int, .inl (.inl ha), hv, k _ _ H q (.refl c.j) rv⟩)
             | (obtain ⟨a, vs, rfl, ha, _, r⟩ := tx.tuple
                obtain ⟨v, hv, rv⟩ := atI_rp r h
                exact .inr ⟨a, vs, _, v, rfl, ty.int, .inl (.inl ha), hv, k _ _ H q (.refl c.j) rv⟩)
         · exact q.elim), monoIx⟩
theorem ix_ (ha : PP X a wa) (hb : PP X b wb) (hs : PlainIx b := by exact fun _ _ => rfl) : PV X (.Subscript a b pos) (wB gIx wa wb) := bin_ (fun h1 h2 => pe_ix (ix_list.or ix_tup) h1 h2 hs) (bopIx X.K) ha hb

/-! ### slices -/
def cutD (xs : List D) (lo hi : Option Int) : List D := (xs.drop (HT.sIx xs.length 0 lo)).take (HT.sIx xs.length xs.length hi - HT.sIx xs.length 0 lo)
abbrev WO := En → (Option Int → Prop) → Prop
def tO (w : WO) : TO := fun σ H Q => ∃ W env S, RlS W env S σ H ∧ w env fun o => ∀ H', KpJ W H H' → Q o H'
def MonoO (w : WO) : Prop := ∀ env Q Q', (∀ d, Q d → Q' d) → w env Q → w env Q'
structure POv (X : Cx) (e : Option Expr) (w : WO) : Prop where
  po : PO X e (tO w)
  mono : MonoO w
theorem _root_.L2.PO.imp {X : Cx} {e : Option Expr} {t t' : TO} (h : PO X e t) (m : ∀ σ H Q, t' σ H Q → t σ H Q) : PO X e t' := ⟨fun pins s σ H Q I q => h.run pins s σ H Q I (m σ H Q q)⟩
def wNo : WO := fun _ Q => Q none
def wSo (w : WE) : WO := fun env Q => w env fun d => match d with
  | .int i => Q (some i)
  | _ => False
theorem on_ : POv X none wNo := ⟨po_none.imp fun σ H Q ⟨W, env, S, R, q⟩ => q H (.refl R.j), fun _ _ _ f h => f _ h⟩
theorem os_ (h : PP X e w) : POv X (some e) (wSo w) := by
  refine ⟨(po_some h.pe).imp fun σ H Q ⟨W, env, S, R, q⟩ => ?_, fun env Q Q' f q => h.mono _ _ _ (fun d g => ?_) q⟩
  · refine ⟨W, env, S, R, h.mono _ _ _ (fun d g v H' k t => ?_) q⟩
    cases d with
    | int i => exact ⟨i, t.int, g H' k⟩
    | _ => exact g.elim
  · cases d with
    | int i => exact f _ g
    | _ => exact g.elim
def wSl (w : WE) (lo hi : WO) : WE := fun env Q => w env fun d => lo env fun l => hi env fun h => match d with
  | .list ds => Q (.list (cutD ds l h))
  | .tuple ds => Q (.tuple (cutD ds l h))
  | _ => False
theorem RpAll.cut {T : Nat → V} {H : Hp} {S : Addr → Prop} {vs : List V} {ds : List D} (r : RpAll T H S vs ds) (lo hi : Option Int) : RpAll T H S (cutV vs lo hi) (cutD ds lo hi) := by
  unfold cutV cutD
  rw [r.length]
  exact (r.drop _).take _
theorem cut_whole {xs : List D} {lo hi : Option Int} (h : HT.sIx xs.length 0 lo = 0 ∧ HT.sIx xs.length xs.length hi = xs.length) : cutD xs lo hi = xs := by
  unfold cutD
  rw [h.1, h.2]
  simp
def rSlAll (K : PySem.W.Frag) : V → Option Int → Option Int → Hp → VK → Prop := fun x lo hi H Q => rSlL K x lo hi H Q ∨ rSlA K x lo hi H Q
theorem sl_all : SlR X (rSlAll X.K) := sl_list.or sl_tupA
theorem slice_ {lo hi : Option Expr} {wl wh : WO} {p2 : Pos} (ha : PP X a wa) (hl : POv X lo wl) (hh : POv X hi wh) : PV X (.Subscript a (.Slice lo hi none p2) pos) (wSl wa wl wh) := by
  refine ⟨(pe_slice sl_all ha.pe hl.po hh.po).imp fun σ H Q ⟨W, env, S, R, h⟩ => ?_, fun env Q Q' f q => ha.mono _ _ _ (fun d q => hl.mono _ _ _ (fun l q => hh.mono _ _ _ (fun u q => ?_) q) q) q⟩
  · refine ⟨W, env, S, R, ha.mono _ _ _ (fun dx h1 x H1 k1 t1 => ?_) h⟩
    refine ⟨W, env, S, R.kept k1, hl.mono _ _ _ (fun l h2 H2 k2 => ?_) h1⟩
    refine ⟨W, env, S, (R.kept k1).kept k2, hh.mono _ _ _ (fun u h3 H3 k3 => ?_) h2⟩
    have t3 := t1.kept (k2.trans k3) R.sm
    have c3 := (R.cn.kept k1).kept (k2.trans k3)
    have kk := (k1.trans k2).trans k3
    cases dx with
    | list ds =>
      obtain ⟨a, vs, rfl, ha, r⟩ := t3.list
      refine .inl ⟨a, vs, rfl, .inl (.inl ha), fun p hp => ?_⟩
      exact h3 _ _ (kk.trans (.new c3.j hp)) (.lst upd_same (c3.np hp) (((r.cut l u).plus hp).less fun _ s => .inl s))
    | tuple ds =>
      obtain ⟨a, vs, rfl, ha, na, r⟩ := t3.tuple
      refine .inr ⟨a, vs, rfl, .inl (.inl ha), fun hw => ?_, fun hw p hp => ?_⟩
      · rw [r.length] at hw
        have h4 : ∀ (v : V) (H' : Hp), KpJ W H H' → Rp W.T H' S v (.tuple (cutD ds l u)) → Q v H' := h3
        rw [cut_whole hw] at h4
        exact h4 _ _ kk (.tup ha na r)
      · exact h3 _ _ (kk.trans (.new c3.j hp)) (.tup upd_same (c3.np hp) (((r.cut l u).plus hp).less fun _ s => .inl s))
    | _ => exact h3.elim
  · cases d <;> first | exact q.elim | exact f _ q
/-- a slice of a list: a new list -/
def wSlF (w : WE) (lo hi : WO) : WE := fun env Q => w env fun d => lo env fun l => hi env fun h => match d with
  | .list ds => Q (.list (cutD ds l h))
  | _ => False
theorem sliceF_ {lo hi : Option Expr} {wl wh : WO} {p2 : Pos} (ha : PP X a wa) (hl : POv X lo wl) (hh : POv X hi wh) : PF X (.Subscript a (.Slice lo hi none p2) pos) (wSlF wa wl wh) := by
  refine ⟨(pe_slice sl_list ha.pe hl.po hh.po).imp fun σ H Q ⟨W, env, S, R, h⟩ => ?_, fun env Q Q' f q => ha.mono _ _ _ (fun d q => hl.mono _ _ _ (fun l q => hh.mono _ _ _ (fun u q => ?_) q) q) q⟩
  · refine ⟨W, env, S, R, ha.mono _ _ _ (fun dx h1 x H1 k1 t1 => ?_) h⟩
    refine ⟨W, env, S, R.kept k1, hl.mono _ _ _ (fun l h2 H2 k2 => ?_) h1⟩
    refine ⟨W, env, S, (R.kept k1).kept k2, hh.mono _ _ _ (fun u h3 H3 k3 => ?_) h2⟩
    have t3 := t1.kept (k2.trans k3) R.sm
    have c3 := (R.cn.kept k1).kept (k2.trans k3)
    have kk := (k1.trans k2).trans k3
    cases dx with
    | list ds =>
      obtain ⟨a, vs, rfl, ha, r⟩ := t3.list
      refine ⟨a, vs, rfl, .inl (.inl ha), fun p hp => ?_⟩
      exact h3 p _ _ _ rfl (kk.trans (.new c3.j hp)) (kk.none_of R.j hp) upd_same ((r.cut l u).plus hp)
    | _ => exact h3.elim
  · cases d <;> first | exact q.elim | exact f _ q

/-! ### arguments, displays -/
def wN : WA := fun _ Q => Q []
def wK (w : WE) (u : WA) : WA := fun env Q => w env fun d => u env fun ds => Q (d :: ds)
theorem monoK (h : Mono w) (h' : MonoA u) : MonoA (wK w u) := fun env Q Q' f q => h _ _ _ (fun d q => h' _ _ _ (fun ds q => f _ q) q) q
theorem an_ : PAv X [] wN := ⟨pa_nil.imp fun σ H Q ⟨W, env, S, R, q⟩ => q [] H (.refl R.j) .nil, fun _ _ _ f q => f _ q⟩
theorem ac_ (h : PV X e w) (h' : PAv X es u) (hs : starEach (e :: es) X.env = (false, eval e X.env) :: starEach es X.env := by rfl) : PAv X (e :: es) (wK w u) := by
  refine ⟨(pa_cons h.pe h'.pa hs).imp fun σ H Q ⟨W, env, S, R, q⟩ => ?_, monoK h.mono h'.mono⟩
  refine ⟨W, env, S, R, h.mono _ _ _ (fun d q v H1 k1 r1 => ?_) q⟩
  exact ⟨W, env, S, R.kept k1, h'.mono _ _ _ (fun ds q vs H2 k2 r2 => q (v :: vs) H2 (k1.trans k2) (.cons (r1.kept k2 R.sm) r2)) q⟩
theorem pn_ : PAp X [] wN := an_.pp
theorem pc_ (h : PP X e w) (h' : PAp X es u) (hs : starEach (e :: es) X.env = (false, eval e X.env) :: starEach es X.env := by rfl) : PAp X (e :: es) (wK w u) := by
  refine ⟨(pa_cons h.pe h'.pa hs).imp fun σ H Q ⟨W, env, S, R, q⟩ => ?_, monoK h.mono h'.mono⟩
  refine ⟨W, env, S, R, h.mono _ _ _ (fun d q v H1 k1 r1 => ?_) q⟩
  exact ⟨W, env, S, R.kept k1, h'.mono _ _ _ (fun ds q vs H2 k2 r2 => q (v :: vs) H2 (k1.trans k2) (.cons (r1.kept k2 R.sm) r2)) q⟩
def wTup (u : WA) : WE := fun env Q => u env fun ds => ds.length ≤ sizeLine ∧ Q (.tuple ds)
def wLst (u : WA) : WE := fun env Q => u env fun ds => ds.length ≤ sizeLine ∧ Q (.list ds)
theorem tup_ {k} (h : PAv X es u) : PV X (.Tuple es k pos) (wTup u) := by
  refine ⟨(pe_tup h.pa).imp fun σ H Q ⟨W, env, S, R, q⟩ => ?_, fun env Q Q' f q => h.mono _ _ _ (fun ds q => ⟨q.1, f _ q.2⟩) q⟩
  refine ⟨W, env, S, R, h.mono _ _ _ (fun ds q vs H1 k1 r1 => ⟨by rw [r1.length]; exact q.1, fun p hp => ?_⟩) q⟩
  have c := R.cn.kept k1
  exact q.2 _ _ (k1.trans (.new c.j hp)) (.tup upd_same (c.np hp) ((r1.plus hp).less fun _ s => .inl s))
theorem lst_ (h : PAv X es u) : PF X (.List es pos) (wLst u) := by
  refine ⟨(pe_lst h.pa).imp fun σ H Q ⟨W, env, S, R, q⟩ => ?_, fun env Q Q' f q => h.mono _ _ _ (fun ds q => ⟨q.1, f _ q.2⟩) q⟩
  refine ⟨W, env, S, R, h.mono _ _ _ (fun ds q vs H1 k1 r1 => ⟨by rw [r1.length]; exact q.1, fun p hp => ?_⟩) q⟩
  have c := R.cn.kept k1
  exact q.2 p _ _ _ rfl (k1.trans (.new c.j hp)) (k1.none_of R.j hp) upd_same (r1.plus hp)

/-! ### calls of built-ins, by values -/
abbrev GN := List D → (D → Prop) → Prop
structure Cop (r : List V → Hp → VK → Prop) (g : GN) : Prop where
  to : ∀ (W : Wd) (S : Addr → Prop) (H : Hp) (xs : List V) (ds : List D) (Q : VK) (G : D → Prop), Cn W S H → TopAll W H S xs ds → g ds G → (∀ d v H', G d → KpJ W H H' → Rp W.T H' S v d → Q v H') → r xs H Q
  mono : ∀ ds G G', (∀ d, G d → G' d) → g ds G → g ds G'
structure CopF (r : List V → Hp → VK → Prop) (g : GN) : Prop where
  to : ∀ (W : Wd) (S : Addr → Prop) (H : Hp) (xs : List V) (ds : List D) (Q : VK) (G : D → Prop), Cn W S H → TopAll W H S xs ds → g ds G →
    (∀ p vs es H', G (.list es) → KpJ W H H' → H p = none → H' p = some (.lst vs) → RpAll W.T H' (plus S p) vs es → Q (.ref p) H') → r xs H Q
  mono : ∀ ds G G', (∀ d, G d → G' d) → g ds G → g ds G'
def wCl (g : GN) (u : WA) : WE := fun env Q => u env fun ds => g ds Q
theorem monoCl {g : GN} (hg : ∀ ds G G', (∀ d, G d → G' d) → g ds G → g ds G') (h : MonoA u) : Mono (wCl g u) := fun env Q Q' f q => h _ _ _ (fun ds q => hg _ _ _ f q) q
theorem call_ {r : List V → Hp → VK → Prop} {g : GN} (ho : ∀ {t : TA}, PA X es t → PE X e (tCB r t)) (hg : Cop r g) (ha : PAp X es u) : PV X e (wCl g u) := by
  refine ⟨(ho ha.pa).imp fun σ H Q ⟨W, env, S, R, h⟩ => ?_, monoCl hg.mono ha.mono⟩
  refine ⟨W, env, S, R, ha.mono _ _ _ (fun ds h1 xs H1 k1 t1 => ?_) h⟩
  exact hg.to W S H1 xs ds Q _ (R.cn.kept k1) t1 h1 fun d v H' hG k3 r3 => hG v H' (k1.trans k3) r3
theorem callF_ {r : List V → Hp → VK → Prop} {g : GN} (ho : ∀ {t : TA}, PA X es t → PE X e (tCB r t)) (hg : CopF r g) (ha : PAp X es u) : PF X e (wCl g u) := by
  refine ⟨(ho ha.pa).imp fun σ H Q ⟨W, env, S, R, h⟩ => ?_, monoCl hg.mono ha.mono⟩
  refine ⟨W, env, S, R, ha.mono _ _ _ (fun ds h1 xs H1 k1 t1 => ?_) h⟩
  exact hg.to W S H1 xs ds Q _ (R.cn.kept k1) t1 h1 fun p vs es H' hG k3 hn hp r3 => hG p vs es H' rfl (k1.trans k3) (k1.none_of R.j hn) hp r3
theorem CopF.cop {r : List V → Hp → VK → Prop} {g : GN} (h : CopF r g) : Cop r g := ⟨fun W S H xs ds Q G c t q k => h.to W S H xs ds Q G c t q fun p vs es H' hG kp hn hp r =>
  k _ _ _ hG kp (.lst hp (c.np hn) (r.less fun _ s => .inl s)), h.mono⟩

/-- len -/
def gLen : GN := fun ds Q => match ds with
  | [.list xs] => Q (.int xs.length)
  | [.tuple xs] => Q (.int xs.length)
  | _ => False
theorem copLen (K : PySem.W.Frag) : Cop (fun xs H Q => ∃ p ys, xs = [.ref p] ∧ (SqL K H p ys ∨ SqT K H p ys) ∧ Q (.int ys.length) H) gLen := ⟨fun W S H xs ds Q G c t q k => by
    unfold gLen at q
    split at q
    · cases t with
      | cons t t' =>
        cases t'
        obtain ⟨a, vs, rfl, ha, r⟩ := t.list
        exact ⟨a, vs, rfl, .inl (.inl (.inl ha)), by rw [r.length]; exact k _ _ H q (.refl c.j) (.int _)⟩
    · cases t with
      | cons t t' =>
        cases t'
        obtain ⟨a, vs, rfl, ha, _, r⟩ := t.tuple
        exact ⟨a, vs, rfl, .inr (.inl (.inl ha)), by rw [r.length]; exact k _ _ H q (.refl c.j) (.int _)⟩
    · exact q.elim, fun ds G G' f q => by
    unfold gLen at q ⊢
    split at q
    · exact f _ q
    · exact f _ q
    · exact q.elim⟩
/-- list(x), tuple(x) -/
def gListOf : GN := fun ds Q => match ds with
  | [.list xs] => Q (.list xs)
  | [.tuple xs] => Q (.list xs)
  | _ => False
theorem copListOf (K : PySem.W.Frag) : CopF (fun xs H Q => ∃ p ys, xs = [.ref p] ∧ (SqL K H p ys ∨ SqT K H p ys) ∧ ∀ l, H l = none → Q (.ref l) (upd H l (.lst ys))) gListOf := ⟨fun W S H xs ds Q G c t q k => by
    unfold gListOf at q
    split at q
    · cases t with
      | cons t t' =>
        cases t'
        obtain ⟨a, vs, rfl, ha, r⟩ := t.list
        exact ⟨a, vs, rfl, .inl (.inl (.inl ha)), fun l hl => k l vs _ _ q (.new c.j hl) hl upd_same (r.plus hl)⟩
    · cases t with
      | cons t t' =>
        cases t'
        obtain ⟨a, vs, rfl, ha, _, r⟩ := t.tuple
        exact ⟨a, vs, rfl, .inr (.inl (.inl ha)), fun l hl => k l vs _ _ q (.new c.j hl) hl upd_same (r.plus hl)⟩
    · exact q.elim, fun ds G G' f q => by
    unfold gListOf at q ⊢
    split at q
    · exact f _ q
    · exact f _ q
    · exact q.elim⟩
def gTupOf : GN := fun ds Q => match ds with
  | [.list xs] => Q (.tuple xs)
  | [.tuple xs] => Q (.tuple xs)
  | _ => False
theorem copTupOf (K : PySem.W.Frag) : Cop (fun xs H Q => ∃ p ys, xs = [.ref p] ∧ ((SqL K H p ys ∧ ∀ l, H l = none → Q (.ref l) (upd H l (.tup ys))) ∨ (SqT K H p ys ∧ Q (.ref p) H))) gTupOf := ⟨fun W S H xs ds Q G c t q k => by
    unfold gTupOf at q
    split at q
    · cases t with
      | cons t t' =>
        cases t'
        obtain ⟨a, vs, rfl, ha, r⟩ := t.list
        exact ⟨a, vs, rfl, .inl ⟨.inl (.inl ha), fun l hl => k _ _ _ q (.new c.j hl) (.tup upd_same (c.np hl) ((r.plus hl).less fun _ s => .inl s))⟩⟩
    · cases t with
      | cons t t' =>
        cases t'
        obtain ⟨a, vs, rfl, ha, na, r⟩ := t.tuple
        exact ⟨a, vs, rfl, .inr ⟨.inl (.inl ha), k _ _ H q (.refl c.j) (.tup ha na r)⟩⟩
    · exact q.elim, fun ds G G' f q => by
    unfold gTupOf at q ⊢
    split at q
    · exact f _ q
    · exact f _ q
    · exact q.elim⟩
/-- abs, int, bool -/
def gAbs : GN := fun ds Q => match ds with
  | [.int i] => Q (.int (if i < 0 then -i else i))
  | _ => False
theorem copAbs : Cop (fun xs H Q => ∃ i, xs = [.int i] ∧ Q (.int (if i < 0 then -i else i)) H) gAbs := ⟨fun W S H xs ds Q G c t q k => by
    unfold gAbs at q
    split at q
    · cases t with
      | cons t t' =>
        cases t'
        cases t.int
        exact ⟨_, rfl, k _ _ H q (.refl c.j) (.int _)⟩
    · exact q.elim, fun ds G G' f q => by
    unfold gAbs at q ⊢
    split at q
    · exact f _ q
    · exact q.elim⟩
def gInt : GN := fun ds Q => match ds with
  | [.int i] => Q (.int i)
  | [.bool b] => Q (.int (if b then 1 else 0))
  | _ => False
theorem copInt : Cop (fun xs H Q => (∃ i, xs = [.int i] ∧ Q (.int i) H) ∨ ∃ k, xs = [.bl k] ∧ Q (.int (if k then 1 else 0)) H) gInt := ⟨fun W S H xs ds Q G c t q k => by
    unfold gInt at q
    split at q
    · cases t with
      | cons t t' =>
        cases t'
        cases t.int
        exact .inl ⟨_, rfl, k _ _ H q (.refl c.j) (.int _)⟩
    · cases t with
      | cons t t' =>
        cases t'
        cases t.bl
        exact .inr ⟨_, rfl, k _ _ H q (.refl c.j) (.int _)⟩
    · exact q.elim, fun ds G G' f q => by
    unfold gInt at q ⊢
    split at q
    · exact f _ q
    · exact f _ q
    · exact q.elim⟩
/-- max(i, j), min(i, j) -/
def gMax2 : GN := fun ds Q => match ds with
  | [.int i, .int j] => Q (.int (if j > i then j else i))
  | _ => False
def gMin2 : GN := fun ds Q => match ds with
  | [.int i, .int j] => Q (.int (if j < i then j else i))
  | _ => False
theorem copMax2 : Cop (fun xs H Q => ∃ i j, xs = [.int i, .int j] ∧ Q (.int (if j > i then j else i)) H) gMax2 := ⟨fun W S H xs ds Q G c t q k => by
    unfold gMax2 at q
    split at q
    · cases t with
      | cons t t' =>
        cases t' with
        | cons u u' =>
          cases u'
          cases t.int
          cases u.int
          exact ⟨_, _, rfl, k _ _ H q (.refl c.j) (.int _)⟩
    · exact q.elim, fun ds G G' f q => by
    unfold gMax2 at q ⊢
    split at q
    · exact f _ q
    · exact q.elim⟩
theorem copMin2 : Cop (fun xs H Q => ∃ i j, xs = [.int i, .int j] ∧ Q (.int (if j < i then j else i)) H) gMin2 := ⟨fun W S H xs ds Q G c t q k => by
    unfold gMin2 at q
    split at q
    · cases t with
      | cons t t' =>
        cases t' with
        | cons u u' =>
          cases u'
          cases t.int
          cases u.int
          exact ⟨_, _, rfl, k _ _ H q (.refl c.j) (.int _)⟩
    · exact q.elim, fun ds G G' f q => by
    unfold gMin2 at q ⊢
    split at q
    · exact f _ q
    · exact q.elim⟩
def gGcd : GN := fun ds Q => match ds with
  | [.int i, .int j] => Q (.int ((Nat.gcd i.natAbs j.natAbs : Nat) : Int))
  | _ => False
theorem copGcd : Cop rGcd gGcd := ⟨fun W S H xs ds Q G c t q k => by
    unfold gGcd at q
    split at q
    · cases t with
      | cons t t' =>
        cases t' with
        | cons u u' =>
          cases u'
          cases t.int
          cases u.int
          exact ⟨_, _, rfl, k _ _ H q (.refl c.j) (.int _)⟩
    · exact q.elim, fun ds G G' f q => by
    unfold gGcd at q ⊢
    split at q
    · exact f _ q
    · exact q.elim⟩
/-- the ints, the bools of data -/
def intsOf : List D → Option (List Int)
  | [] => some []
  | .int i :: r => (intsOf r).map (i :: ·)
  | _ :: _ => none
def boolsOf : List D → Option (List Bool)
  | [] => some []
  | .bool i :: r => (boolsOf r).map (i :: ·)
  | _ :: _ => none
theorem intsOf_map : ∀ ns : List Int, intsOf (ns.map .int) = some ns
  | [] => rfl
  | n :: ns => by
    show (intsOf (ns.map .int)).map (n :: ·) = _
    rw [intsOf_map ns]; rfl
theorem boolsOf_map : ∀ ns : List Bool, boolsOf (ns.map .bool) = some ns
  | [] => rfl
  | n :: ns => by
    show (boolsOf (ns.map .bool)).map (n :: ·) = _
    rw [boolsOf_map ns]; rfl
theorem ints_rp {W : Wd} {S : Addr → Prop} {H : Hp} : ∀ {vs : List V} {ds : List D} {ns : List Int}, RpAll W.T H S vs ds → intsOf ds = some ns → vs = ns.map V.int
  | _, _, ns, .nil, h => by cases (show some [] = some ns from h); rfl
  | _, _, ns, .cons (d := d) (ds := ds) a t, h => by
    cases d with
    | int i =>
      cases a
      cases e : intsOf ds with
      | none =>
        have h' : (intsOf ds).map (i :: ·) = some ns := h
        rw [e] at h'; cases h'
      | some ms =>
        have h' : (intsOf ds).map (i :: ·) = some ns := h
        rw [e] at h'
        have h2 : i :: ms = ns := Option.some.inj h'
        rw [← h2, ints_rp t e]; rfl
    | _ => cases h
theorem bools_rp {W : Wd} {S : Addr → Prop} {H : Hp} : ∀ {vs : List V} {ds : List D} {ns : List Bool}, RpAll W.T H S vs ds → boolsOf ds = some ns → vs = ns.map V.bl
  | _, _, ns, .nil, h => by cases (show some [] = some ns from h); rfl
  | _, _, ns, .cons (d := d) (ds := ds) a t, h => by
    cases d with
    | bool i =>
      cases a
      cases e : boolsOf ds with
      | none =>
        have h' : (boolsOf ds).map (i :: ·) = some ns := h
        rw [e] at h'; cases h'
      | some ms =>
        have h' : (boolsOf ds).map (i :: ·) = some ns := h
        rw [e] at h'
        have h2 : i :: ms = ns := Option.some.inj h'
        rw [← h2, bools_rp t e]; rfl
    | _ => cases h
/-- sum, max, min, any, all of a list -/
def gInts (f : List Int → (D → Prop) → Prop) : GN := fun ds Q => match ds with
  | [.list xs] => match intsOf xs with
    | some ns => f ns Q
    | none => False
  | _ => False
theorem monoInts {f : List Int → (D → Prop) → Prop} (hf : ∀ ns G G', (∀ d, G d → G' d) → f ns G → f ns G') : ∀ ds G G', (∀ d, G d → G' d) → gInts f ds G → gInts f ds G' := fun ds G G' m q => by
  unfold gInts at q ⊢
  split at q
  · split at q
    · rename_i h; simp only [h] at *; exact hf _ _ _ m q
    · exact q.elim
  · exact q.elim
theorem ints_list {W : Wd} {S : Addr → Prop} {H : Hp} {xs : List V} {ds : List D} {f : List Int → (D → Prop) → Prop} {G : D → Prop} (t : TopAll W H S xs ds) (q : gInts f ds G) : ∃ (a : Addr) (ns : List Int), xs = [.ref a] ∧ H a = some (.lst (ns.map V.int)) ∧ f ns G := by
  unfold gInts at q
  split at q
  · split at q
    · rename_i h
      cases t with
      | cons t t' =>
        cases t'
        obtain ⟨a, vs, rfl, ha, r⟩ := t.list
        exact ⟨a, _, rfl, by rw [ha, ints_rp r h], q⟩
    · exact q.elim
  · exact q.elim
abbrev gSum : GN := gInts fun ns Q => Q (.int ns.sum)
abbrev gMaxL : GN := gInts fun ns Q => 0 < ns.length ∧ ∀ m, m ∈ ns → (∀ y, y ∈ ns → y ≤ m) → Q (.int m)
abbrev gMinL : GN := gInts fun ns Q => 0 < ns.length ∧ ∀ m, m ∈ ns → (∀ y, y ∈ ns → m ≤ y) → Q (.int m)
theorem copSum (K : PySem.W.Frag) : Cop (rSum K) gSum := ⟨fun W S H xs ds Q G c t q k => by
    obtain ⟨a, ns, rfl, ha, q⟩ := ints_list t q
    exact ⟨a, ns, rfl, .inl (.inl ha), k _ _ H q (.refl c.j) (.int _)⟩, monoInts fun ns G G' f q => f _ q⟩
theorem copMaxL (K : PySem.W.Frag) : Cop (rMax K) gMaxL := ⟨fun W S H xs ds Q G c t q k => by
    obtain ⟨a, ns, rfl, ha, q⟩ := ints_list t q
    exact ⟨a, ns, rfl, .inl (.inl ha), q.1, fun m h1 h2 => k _ _ H (q.2 m h1 h2) (.refl c.j) (.int _)⟩, monoInts fun ns G G' f q => ⟨q.1, fun m h1 h2 => f _ (q.2 m h1 h2)⟩⟩
theorem copMinL (K : PySem.W.Frag) : Cop (rMin K) gMinL := ⟨fun W S H xs ds Q G c t q k => by
    obtain ⟨a, ns, rfl, ha, q⟩ := ints_list t q
    exact ⟨a, ns, rfl, .inl (.inl ha), q.1, fun m h1 h2 => k _ _ H (q.2 m h1 h2) (.refl c.j) (.int _)⟩, monoInts fun ns G G' f q => ⟨q.1, fun m h1 h2 => f _ (q.2 m h1 h2)⟩⟩
def gBools (f : List Bool → Bool) : GN := fun ds Q => match ds with
  | [.list xs] => match boolsOf xs with
    | some ns => Q (.bool (f ns))
    | none => False
  | _ => False
theorem copBools (K : PySem.W.Frag) (f : List Bool → Bool) : Cop (fun vs H Q => ∃ (a : Addr) (bs : List Bool), vs = [V.ref a] ∧ SqL K H a (bs.map V.bl) ∧ Q (.bl (f bs)) H) (gBools f) := ⟨fun W S H xs ds Q G c t q k => by
    unfold gBools at q
    split at q
    · split at q
      · rename_i h
        cases t with
        | cons t t' =>
          cases t'
          obtain ⟨a, vs, rfl, ha, r⟩ := t.list
          exact ⟨a, _, rfl, .inl (.inl (by rw [ha, bools_rp r h])), k _ _ H q (.refl c.j) (.bl _)⟩
      · exact q.elim
    · exact q.elim, fun ds G G' m q => by
    unfold gBools at q ⊢
    split at q
    · split at q
      · rename_i h; simp only [h] at *; exact m _ q
      · exact q.elim
    · exact q.elim⟩
end
end Eg

/-! E4: what is walked, targets, comprehensions. -/
namespace Eg
open PySem PySem.Spec PyProof.Rows L2

/-! ### what is walked -/
abbrev WI := En → (List D → Prop) → Prop
/-- the iterator J gives the data ds, as long as the values hv can be read -/
def Src (W : Wd) (J : It) (ds : List D) (hv : List (V × D)) : Prop := ∀ (H : Hp) (S : Addr → Prop), Cn W S H → (∀ p ∈ hv, Top W H S p.1 p.2) → ∀ i,
  (∀ d, ds[i]? = some d → J.go i H ∧ ∀ x H', J.yld i H x H' → KpJ W H H' ∧ Rp W.T H' S x d) ∧ (ds.length ≤ i → J.stop i H)
def tI (w : WI) : TI := fun σ H R => ∃ W env S, RlS W env S σ H ∧ w env fun ds => ∀ J H' hv, KpJ W H H' → (∀ p ∈ hv, Rp W.T H' S p.1 p.2) → Src W J ds hv → R J H'
def tIP (w : WI) : TI := fun σ H R => ∃ W env S, RlS W env S σ H ∧ w env fun ds => ∀ J H' hv, KpJ W H H' → (∀ p ∈ hv, Top W H' S p.1 p.2) → Src W J ds hv → R J H'
structure PIv (X : Cx) (tg e : Expr) (w : WI) : Prop where
  pi : PI X tg e (tI w)
  mono : MonoA w
structure PIp (X : Cx) (tg e : Expr) (w : WI) : Prop where
  pi : PI X tg e (tIP w)
  mono : MonoA w
theorem _root_.L2.PI.imp {X : Cx} {tg e : Expr} {t t' : TI} (h : PI X tg e t) (m : ∀ σ H Q, t' σ H Q → t σ H Q) : PI X tg e t' := ⟨fun pins s σ H Q I q => h.run pins s σ H Q I (m σ H Q q)⟩
theorem PIv.pp {X : Cx} {tg e : Expr} {w : WI} (h : PIv X tg e w) : PIp X tg e w := ⟨h.pi.imp fun σ H R ⟨W, env, S, r, q⟩ => ⟨W, env, S, r, h.mono _ _ _ (fun ds f J H' hv k t s => f J H' hv k (fun p hp => .inl (t p hp)) s) q⟩, h.mono⟩

section
variable {X : Cx} {tg e a b c : Expr} {es : List Expr} {w wa wb : WE} {u : WA} {pos : Pos}

/-- a list or a tuple -/
def iLT (K : PySem.W.Frag) (tl : TE) : TI := fun σ H R => tl σ H fun x H1 => ∃ a, x = .ref a ∧ ((∃ xs, SqL K H1 a xs ∧ (xs.length ≤ sizeLine → R (Itl K a) H1)) ∨ (∃ xs, SqT K H1 a xs ∧ (xs.length ≤ sizeLine → R (Itt K a) H1)))
theorem pi_lt {l : Expr} {tl : TE} (hl : PE X l tl) : PI X tg l (iLT X.K tl) := by
  refine ⟨fun pins s σ H R I h => ?_⟩
  refine thn (hl.run pins s σ H _ I h) fun v s1 ⟨x, H1, I1, r1, q1⟩ => ?_
  obtain ⟨a, e, q⟩ := q1
  subst e
  cases r1
  rcases q with ⟨xs, hq, q⟩ | ⟨xs, hq, q⟩
  · obtain ⟨its, rv, p, hz⟩ := I1.list hq
    refine wpAny_pyIter_list p.isList ?_
    refine ⟨s1.heap.objs.size, [s1.heap.objs.size], _, _, H1, rfl, I1.kept (t' := s1.toks) fun b o e => Heap.get?_push_of_some _ e, turn_list a _, ⟨_, Heap.get?_push_size _ rfl, rfl, rfl⟩, fun b hb => ?_, q hz⟩
    have e : b = s1.heap.objs.size := by simpa using hb
    subst e
    exact I1.fpOk (Nat.le_refl _) (I1.hok.fresh (Nat.le_refl _))
  · obtain ⟨its, rv, p, hz⟩ := I1.tuple hq
    refine wpAny_pyIter_tuple (show s1.heap.IsTuple a its.toArray from p) ?_
    refine ⟨s1.heap.objs.size, [s1.heap.objs.size], _, _, H1, rfl, I1.kept (t' := s1.toks) fun b o e => Heap.get?_push_of_some _ e, turn_tuple a _, ⟨_, Heap.get?_push_size _ rfl, rfl, rfl⟩, fun b hb => ?_, q hz⟩
    have e : b = s1.heap.objs.size := by simpa using hb
    subst e
    exact I1.fpOk (Nat.le_refl _) (I1.hok.fresh (Nat.le_refl _))

theorem src_list {W : Wd} {K : PySem.W.Frag} {a : Addr} {ds : List D} : Src W (Itl K a) ds [(.ref a, .list ds)] := fun H S c t i => by
  obtain ⟨a', vs, e, h, r⟩ := (t _ (List.mem_singleton.mpr rfl)).list
  have e' : a = a' := V.ref.inj e
  subst e'
  have hS : SqL K H a vs := .inl (.inl h)
  refine ⟨fun d hd => ?_, fun hl => ⟨vs, hS, by rw [r.length]; exact hl⟩⟩
  obtain ⟨v, hv, rv⟩ := r.get hd
  refine ⟨⟨vs, v, hS, hv⟩, fun x H' hy => ?_⟩
  obtain ⟨rfl, hy⟩ := hy
  have ex : v = x := Option.some.inj (hv.symm.trans (hy vs hS))
  subst ex
  exact ⟨.refl c.j, rv⟩
theorem src_tup {W : Wd} {K : PySem.W.Frag} {a : Addr} {ds : List D} : Src W (Itt K a) ds [(.ref a, .tuple ds)] := fun H S c t i => by
  obtain ⟨a', vs, e, h, _, r⟩ := (t _ (List.mem_singleton.mpr rfl)).tuple
  have e' : a = a' := V.ref.inj e
  subst e'
  have hS : SqT K H a vs := .inl (.inl h)
  refine ⟨fun d hd => ?_, fun hl => ⟨vs, hS, by rw [r.length]; exact hl⟩⟩
  obtain ⟨v, hv, rv⟩ := r.get hd
  refine ⟨⟨vs, v, hS, hv⟩, fun x H' hy => ?_⟩
  obtain ⟨rfl, hy⟩ := hy
  have ex : v = x := Option.some.inj (hv.symm.trans (hy vs hS))
  subst ex
  exact ⟨.refl c.j, rv⟩
def wIt (w : WE) : WI := fun env Q => w env fun d => match d with
  | .list ds => ds.length ≤ sizeLine → Q ds
  | .tuple ds => ds.length ≤ sizeLine → Q ds
  | _ => False
theorem monoIt (h : Mono w) : MonoA (wIt w) := fun env Q Q' f q => h _ _ _ (fun d q => by
  cases d <;> first | exact q.elim | exact fun l => f _ (q l)) q
theorem it_ (h : PV X e w) : PIv X tg e (wIt w) := by
  refine ⟨(pi_lt h.pe).imp fun σ H R ⟨W, env, S, r, q⟩ => ?_, monoIt h.mono⟩
  refine ⟨W, env, S, r, h.mono _ _ _ (fun d q v H1 k t => ?_) q⟩
  cases d with
  | list ds =>
    cases t with
    | lst ha na ra =>
      refine ⟨_, rfl, .inl ⟨_, .inl (.inl ha), fun hz => q (by rw [← ra.length]; exact hz) _ H1 _ k (fun p hp => ?_) src_list⟩⟩
      rw [List.mem_singleton.mp hp]
      exact .lst ha na ra
  | tuple ds =>
    cases t with
    | tup ha na ra =>
      refine ⟨_, rfl, .inr ⟨_, .inl (.inl ha), fun hz => q (by rw [← ra.length]; exact hz) _ H1 _ k (fun p hp => ?_) src_tup⟩⟩
      rw [List.mem_singleton.mp hp]
      exact .tup ha na ra
  | _ => exact q.elim
theorem itp_ (h : PP X e w) : PIp X tg e (wIt w) := by
  refine ⟨(pi_lt h.pe).imp fun σ H R ⟨W, env, S, r, q⟩ => ?_, monoIt h.mono⟩
  refine ⟨W, env, S, r, h.mono _ _ _ (fun d q v H1 k t => ?_) q⟩
  cases d with
  | list ds =>
    obtain ⟨a, vs, rfl, ha, ra⟩ := t.list
    refine ⟨_, rfl, .inl ⟨_, .inl (.inl ha), fun hz => q (by rw [← ra.length]; exact hz) _ H1 _ k (fun p hp => ?_) src_list⟩⟩
    rw [List.mem_singleton.mp hp]
    exact t
  | tuple ds =>
    obtain ⟨a, vs, rfl, ha, _, ra⟩ := t.tuple
    refine ⟨_, rfl, .inr ⟨_, .inl (.inl ha), fun hz => q (by rw [← ra.length]; exact hz) _ H1 _ k (fun p hp => ?_) src_tup⟩⟩
    rw [List.mem_singleton.mp hp]
    exact t
  | _ => exact q.elim
/-- range(..) -/
def rangeD (lo : Int) (n : Nat) : List D := (List.range n).map fun k => .int (lo + (k : Nat))
theorem rangeD_length {lo : Int} {n : Nat} : (rangeD lo n).length = n := by unfold rangeD; simp
theorem src_range {W : Wd} {lo : Int} {n : Nat} : Src W (Itr lo n) (rangeD lo n) [] := fun H S c t i => by
  refine ⟨fun d hd => ?_, fun hl => by rw [rangeD_length] at hl; exact hl⟩
  unfold rangeD at hd
  rw [List.getElem?_map] at hd
  by_cases hi : i < n
  · rw [List.getElem?_range hi] at hd
    have e : PyData.int (lo + (i : Nat)) = d := Option.some.inj hd
    subst e
    exact ⟨hi, fun x H' hy => by obtain ⟨rfl, rfl⟩ := hy; exact ⟨.refl c.j, .int _⟩⟩
  · rw [List.getElem?_eq_none (by simp; omega)] at hd; cases hd
theorem src_rangeC {W : Wd} {lo c' : Int} {n : Nat} : Src W (Itc lo c' n) ((List.range n).map fun k => .int (lo + (k : Nat) * c')) [] := fun H S c t i => by
  refine ⟨fun d hd => ?_, fun hl => by simp at hl; exact hl⟩
  rw [List.getElem?_map] at hd
  by_cases hi : i < n
  · rw [List.getElem?_range hi] at hd
    have e : PyData.int (lo + (i : Nat) * c') = d := Option.some.inj hd
    subst e
    exact ⟨hi, fun x H' hy => by obtain ⟨rfl, rfl⟩ := hy; exact ⟨.refl c.j, .int _⟩⟩
  · rw [List.getElem?_eq_none (by simp; omega)] at hd; cases hd

def wRng1 (u : WA) : WI := fun env Q => u env fun ds => match ds with
  | [.int j] => (-(2 ^ 62) ≤ j ∧ j < 2 ^ 62) ∧ Q (rangeD 0 j.toNat)
  | _ => False
def wRng2 (u : WA) : WI := fun env Q => u env fun ds => match ds with
  | [.int i, .int j] => (-(2 ^ 62) ≤ i ∧ i < 2 ^ 62 ∧ -(2 ^ 62) ≤ j ∧ j < 2 ^ 62) ∧ Q (rangeD i (j - i).toNat)
  | _ => False
def wRng3 (u : WA) : WI := fun env Q => u env fun ds => match ds with
  | [.int i, .int j, .int c] => c = -1 ∧ (-(2 ^ 62) ≤ i ∧ i < 2 ^ 62 ∧ -(2 ^ 62) ≤ j ∧ j < 2 ^ 62) ∧ Q ((List.range (i - j).toNat).map fun k => .int (i + (k : Nat) * (-1)))
  | _ => False
theorem range1_ {p : Pos} (hg : Gl X "range") (hm : X.mg "range" = none) (ha : PAp X [a] u) (hs : starEach [a] X.env = [(false, eval a X.env)] := by rfl) : PIv X tg (.Call (.Name "range" p) [a] [] pos) (wRng1 u) := by
  refine ⟨(pi_range1 hg hm ha.pa hs).imp fun σ H R ⟨W, env, S, r, q⟩ => ?_, fun env Q Q' f q => ha.mono _ _ _ (fun ds q => by
    split at q
    · exact ⟨q.1, f _ q.2⟩
    · exact q.elim) q⟩
  refine ⟨W, env, S, r, ha.mono _ _ _ (fun ds q vs H1 k t => ?_) q⟩
  split at q
  · cases t with
    | cons t t' =>
      cases t'
      cases t.int
      exact ⟨_, rfl, q.1.1, q.1.2, q.2 _ H1 [] k (fun _ z => nomatch z) src_range⟩
  · exact q.elim
theorem range2_ {p : Pos} (hg : Gl X "range") (hm : X.mg "range" = none) (ha : PAp X [a, b] u) (hs : starEach [a, b] X.env = [(false, eval a X.env), (false, eval b X.env)] := by rfl) (hs2 : starEach [b] X.env = [(false, eval b X.env)] := by rfl) : PIv X tg (.Call (.Name "range" p) [a, b] [] pos) (wRng2 u) := by
  refine ⟨(pi_range2 hg hm ha.pa hs hs2).imp fun σ H R ⟨W, env, S, r, q⟩ => ?_, fun env Q Q' f q => ha.mono _ _ _ (fun ds q => by
    split at q
    · exact ⟨q.1, f _ q.2⟩
    · exact q.elim) q⟩
  refine ⟨W, env, S, r, ha.mono _ _ _ (fun ds q vs H1 k t => ?_) q⟩
  split at q
  · cases t with
    | cons t t' =>
      cases t' with
      | cons t2 t' =>
        cases t'
        cases t.int
        cases t2.int
        exact ⟨_, _, rfl, q.1, q.2 _ H1 [] k (fun _ z => nomatch z) src_range⟩
  · exact q.elim
theorem range3_ {p : Pos} (hg : Gl X "range") (hm : X.mg "range" = none) (ha : PAp X [a, b, c] u) (hs : starEach [a, b, c] X.env = (false, eval a X.env) :: starEach [b, c] X.env := by rfl) (hpl : (backTo pos (starEach [b, c] X.env)).any (·.1) = false := by rfl) : PIv X tg (.Call (.Name "range" p) [a, b, c] [] pos) (wRng3 u) := by
  refine ⟨(pi_range3 hg hm ha.pa hs hpl).imp fun σ H R ⟨W, env, S, r, q⟩ => ?_, fun env Q Q' f q => ha.mono _ _ _ (fun ds q => by
    split at q
    · exact ⟨q.1, q.2.1, f _ q.2.2⟩
    · exact q.elim) q⟩
  refine ⟨W, env, S, r, ha.mono _ _ _ (fun ds q vs H1 k t => ?_) q⟩
  split at q
  · cases t with
    | cons t t' =>
      cases t' with
      | cons t2 t' =>
        cases t' with
        | cons t3 t' =>
          cases t'
          cases t.int
          cases t2.int
          cases t3.int
          obtain ⟨rfl, ⟨q1, q2, q3, q4⟩, q5⟩ := q
          exact ⟨_, _, _, _, rfl, RgC.neg q1 q2 q3 q4, q5 _ H1 [] k (fun _ z => nomatch z) src_rangeC⟩
  · exact q.elim

/-! ### targets -/
abbrev WG := D → En → (En → Prop) → Prop
def MonoG (w : WG) : Prop := ∀ d env Q Q', (∀ e, Q e → Q' e) → w d env Q → w d env Q'
/-- sl: the slots that it stores -/
def tG (w : WG) (sl : List Nat) : TG := fun v σ H Q => ∃ W env S d, RlS W env S σ H ∧ Rp W.T H S v d ∧ w d env fun env' => ∀ σ', RlS W env' S σ' H → (∀ vs, (∀ i ∈ sl, i ∈ vs) → wipe σ' vs = wipe σ vs) → Q σ' H
structure PGv (X : Cx) (tg : Expr) (w : WG) (sl : List Nat) : Prop where
  pg : PG X tg (tG w sl)
  mono : MonoG w
theorem _root_.L2.PG.imp {X : Cx} {tg : Expr} {t t' : TG} (h : PG X tg t) (m : ∀ v σ H Q, t' v σ H Q → t v σ H Q) : PG X tg t' := ⟨fun pins s σ H v u Q I r q => h.run pins s σ H v u Q I r (m v σ H Q q)⟩
theorem wipe_set {σ : L2.St} {i : Nat} {x : Option V} : ∀ {vs : List Nat}, i ∈ vs → wipe (σ.set i x) vs = wipe σ vs
  | [], h => by cases h
  | v :: vs, h => by
    show (wipe (σ.set i x) vs).set v none = (wipe σ vs).set v none
    by_cases hi : i ∈ vs
    · rw [wipe_set hi]
    · have e : i = v := by
        rcases List.mem_cons.mp h with e | e
        · exact e
        · exact absurd e hi
      subst e
      have q : ∀ ws : List Nat, i ∉ ws → wipe (σ.set i x) ws = (wipe σ ws).set i x := by
        intro ws
        induction ws with
        | nil => intro _; rfl
        | cons w ws ih =>
          intro hw
          have h1 : i ≠ w := fun z => hw (by rw [z]; exact List.mem_cons_self)
          have h2 : i ∉ ws := fun z => hw (List.mem_cons_of_mem _ z)
          show (wipe (σ.set i x) ws).set w none = ((wipe σ ws).set w none).set i x
          rw [ih h2, List.set_comm _ _ h1]
      rw [q vs hi, List.set_set]
theorem wipe_wipe {σ : L2.St} : ∀ {us vs : List Nat}, (∀ i ∈ us, i ∈ vs) → wipe (wipe σ us) vs = wipe σ vs
  | [], _, _ => rfl
  | u :: us, vs, h => by
    show wipe ((wipe σ us).set u none) vs = _
    rw [wipe_set (h u List.mem_cons_self), wipe_wipe fun i hi => h i (List.mem_cons_of_mem _ hi)]
def wGn (i : Nat) : WG := fun d env Q => Q (env.set i (.sh d))
theorem gn_ (i : Nat) {x : Str} (hN : X.N.Nodup) (hi : X.N[i]? = some x := by rfl) (hx : Loc X.env.scope x := by first | exact Or.inl rfl | exact Or.inr rfl) (hf : X.fn x = true ∨ X.env.scope.names.lookup x = some .local := by first | exact .inl rfl | exact .inr rfl | assumption) :
    PGv X (.Name x pos) (wGn i) [i] :=
  ⟨(pg_name hN hi hx hf).imp fun v σ H Q ⟨W, env, S, d, R, r, q⟩ => q _ (R.setSh r) fun vs h => wipe_set (h i List.mem_cons_self), fun d env Q Q' f q => f _ q⟩
/-- several, one after another -/
abbrev WGs := List D → En → (En → Prop) → Prop
def tGs (w : WGs) (sl : List Nat) : TGs := fun vs σ H Q => ∃ W env S ds, RlS W env S σ H ∧ RpAll W.T H S vs ds ∧ w ds env fun env' => ∀ σ', RlS W env' S σ' H → (∀ vs, (∀ i ∈ sl, i ∈ vs) → wipe σ' vs = wipe σ vs) → Q σ' H
structure PGsv (X : Cx) (tg : List Expr) (w : WGs) (sl : List Nat) : Prop where
  pg : PGs X tg (tGs w sl)
  mono : ∀ d env Q Q', (∀ e, Q e → Q' e) → w d env Q → w d env Q'
theorem _root_.L2.PGs.imp {X : Cx} {tg : List Expr} {t t' : TGs} (h : PGs X tg t) (m : ∀ v σ H Q, t' v σ H Q → t v σ H Q) : PGs X tg t' := ⟨fun pins s σ H v u Q I r q => h.run pins s σ H v u Q I r (m v σ H Q q)⟩
def wGnil : WGs := fun ds env Q => ds = [] ∧ Q env
def wGcons (g : WG) (gs : WGs) : WGs := fun ds env Q => match ds with
  | d :: r => g d env fun env' => gs r env' Q
  | [] => False
theorem gnil_ : PGsv X [] wGnil [] := ⟨pgs_nil.imp fun vs σ H Q ⟨W, env, S, ds, R, r, q⟩ => by
  obtain ⟨rfl, q⟩ := q
  cases r
  exact ⟨rfl, q σ R fun _ _ => rfl⟩, fun d env Q Q' f q => ⟨q.1, f _ q.2⟩⟩
theorem gcons_ {g : WG} {gs : WGs} {sl sl' : List Nat} (h : PGv X e g sl) (h' : PGsv X es gs sl') (hs : (assignEach (e :: es) X.env).map (·.2) = assign e X.env :: (assignEach es X.env).map (·.2) := by rfl) : PGsv X (e :: es) (wGcons g gs) (sl ++ sl') := by
  refine ⟨(pgs_cons h.pg h'.pg hs).imp fun vs σ H Q ⟨W, env, S, ds, R, r, q⟩ => ?_, fun d env Q Q' f q => ?_⟩
  · cases r with
    | nil => exact q.elim
    | cons r r' =>
      refine ⟨_, _, rfl, W, env, S, _, R, r, h.mono _ _ _ _ (fun env1 q1 σ1 R1 hw1 => ?_) q⟩
      exact ⟨W, env1, S, _, R1, r', h'.mono _ _ _ _ (fun env2 q2 σ2 R2 hw2 => q2 σ2 R2 fun vs hv => (hw2 vs fun i hi => hv i (List.mem_append_right _ hi)).trans (hw1 vs fun i hi => hv i (List.mem_append_left _ hi))) q1⟩
  · cases d with
    | nil => exact q.elim
    | cons d r => exact h.mono _ _ _ _ (fun e q => h'.mono _ _ _ _ f q) q
/-- (a, b, ..) = a tuple -/
def wGt (n : Nat) (gs : WGs) : WG := fun d env Q => match d with
  | .tuple ds => ds.length = n ∧ gs ds env Q
  | _ => False
theorem gt_ {k : Nat} {gs : WGs} {sl : List Nat} {n : Nat} (hc : X.calm = true) (h : PGsv X es gs sl) (hn : (assignEach es X.env).length = n := by rfl) (hst : (assignEach es X.env).findIdx? (·.1) = none := by rfl) : PGv X (.Tuple es k pos) (wGt n gs) sl := by
  refine ⟨(pg_tup hc h.pg hn hst).imp fun v σ H Q ⟨W, env, S, d, R, r, q⟩ => ?_, fun d env Q Q' f q => ?_⟩
  · cases d with
    | tuple ds =>
      cases r with
      | tup ha na ra => exact ⟨_, _, rfl, .inl (.inl ha), by rw [ra.length]; exact q.1, W, env, S, ds, R, ra, q.2⟩
    | _ => exact q.elim
  · cases d with
    | tuple ds => exact ⟨q.1, h.mono _ _ _ _ f q.2⟩
    | _ => exact q.elim

/-! ### comprehensions -/
def wipeE (env : En) : List Nat → En
  | [] => env
  | v :: vs => (wipeE env vs).set v .un
theorem wipeE_length (env : En) : ∀ vs, (wipeE env vs).length = env.length
  | [] => rfl
  | v :: vs => by
    show ((wipeE env vs).set v .un).length = _
    rw [List.length_set, wipeE_length env vs]
theorem _root_.Eg.RlS.unset {W : Wd} {env : En} {S : Addr → Prop} {σ : L2.St} {H : Hp} (r : RlS W env S σ H) (i : Nat) : RlS W (env.set i .un) S (σ.set i none) H where
  s0 := r.s0
  sm := r.sm
  sn := r.sn
  h0 := r.h0
  j := r.j
  len := by rw [List.length_set, List.length_set]; exact r.len
  sl := fun k => by
    rw [at_set]
    split
    · trivial
    · rename_i q
      by_cases hk : k = i
      · subst hk
        have hs : σ[k]? = none := List.getElem?_eq_none (by rw [← r.len]; exact Nat.le_of_not_lt fun z => q ⟨rfl, z⟩)
        have e : (σ.set k none)[k]? = none := List.getElem?_eq_none (by rw [List.length_set, ← r.len]; exact Nat.le_of_not_lt fun z => q ⟨rfl, z⟩)
        rw [e, ← hs]
        exact r.sl k
      · rw [List.getElem?_set_ne (Ne.symm hk)]
        exact r.sl k
  ne := fun k l a ds es hkl h1 h2 e1 e2 => by
    rw [at_set] at h1 h2
    split at h1
    · cases h1
    · split at h2
      · cases h2
      · have out : ∀ l, ¬ (l = i ∧ i < env.length) → (σ.set i none)[l]? = some (some (V.ref a)) → σ[l]? = some (some (V.ref a)) := fun l q e => by
          by_cases hk : l = i
          · subst hk
            have z : (σ.set l none)[l]? = none := List.getElem?_eq_none (by rw [List.length_set, ← r.len]; exact Nat.le_of_not_lt fun z => q ⟨rfl, z⟩)
            rw [z] at e; cases e
          · rw [List.getElem?_set_ne (Ne.symm hk)] at e
            exact e
        rename_i q1 q2
        exact r.ne k l a ds es hkl h1 h2 (out k q1 e1) (out l q2 e2)
  hd := r.hd
theorem RlS.wiped {W : Wd} {env : En} {S : Addr → Prop} {σ : L2.St} {H : Hp} (r : RlS W env S σ H) : ∀ vs : List Nat, RlS W (wipeE env vs) S (wipe σ vs) H
  | [] => r
  | v :: vs => (r.wiped vs).unset v
/-- all slots as they are, one more place to leave out -/
theorem RlS.plus {W : Wd} {env : En} {S : Addr → Prop} {σ : L2.St} {H H' : Hp} {p : Addr} (r : RlS W env S σ H) (hn : H p = none) (k : KpJ W H H') (hp : H' p ≠ none) : RlS W env (plus S p) σ H' := by
  have r' := r.kept k
  have up : ∀ {v : V} {d : D}, Rp W.T H S v d → Rp W.T H' (Eg.plus S p) v d := fun {v d} q => q.move (d := d) fun a o e n => ⟨k.1 a o e fun m => n (r.sm a m), fun s => s.elim n fun z => ne_of_none e hn z⟩
  have upA : ∀ {v : List V} {d : List D}, RpAll W.T H S v d → RpAll W.T H' (Eg.plus S p) v d := fun {v d} q => q.move (ds := d) fun a o e n => ⟨k.1 a o e fun m => n (r.sm a m), fun s => s.elim n fun z => ne_of_none e hn z⟩
  refine ⟨fun a s => .inl (r.s0 a s), fun a m => .inl (r.sm a m), fun a s => ?_, r'.h0, r'.j, r.len, fun i => ?_, r.ne, fun q hq => up (r.hd q hq)⟩
  · rcases s with s | s
    · exact r'.sn a s
    · subst s; exact hp
  · have q := r.sl i
    revert q
    generalize env.at i = x
    cases x with
    | un => intro _; trivial
    | sh d => rintro ⟨v, e, q⟩; exact ⟨v, e, up q⟩
    | ow es => rintro ⟨a, ws, e, q⟩; exact ⟨a, ws, e, .inl q.s, q.s0, q.m, q.h0, k.1 a _ q.h q.m, upA q.r⟩

/-- tests of a clause -/
structure PTsv (X : Cx) (ifs : List Expr) (w : WT) : Prop where
  pt : PTs X ifs (tT w)
  mono : MonoT w
theorem _root_.L2.PTs.imp {X : Cx} {e : List Expr} {t t' : TT} (h : PTs X e t) (m : ∀ σ H Q, t' σ H Q → t σ H Q) : PTs X e t' := ⟨fun pins s σ H Q I q => h.run pins s σ H Q I (m σ H Q q)⟩
def wYes : WT := fun _ Q => Q true
theorem tn_ : PTsv X [] wYes := ⟨pts_nil.imp fun σ H Q ⟨W, env, S, R, q⟩ => q H (.refl R.j), fun _ _ _ f q => f _ q⟩
theorem t1_ {w : WT} (h : PTv X c w) : PTsv X [c] w := ⟨pts_one h.pt, h.mono⟩

/-- the turns -/
def lcGo (wg : WG) (wt : WT) (we : WE) (env : En) : List D → List D → (List D → Prop) → Prop
  | [], acc, K => K acc
  | d :: r, acc, K => wg d env fun env' => wt env' fun b => if b = true then we env' fun y => acc.length < sizeLine ∧ lcGo wg wt we env r (acc ++ [y]) K else lcGo wg wt we env r acc K
theorem lcGo_mono {wg : WG} {wt : WT} {we : WE} {env : En} (hg : MonoG wg) (ht : MonoT wt) (he : Mono we) : ∀ (ds acc : List D) (K K' : List D → Prop), (∀ a, K a → K' a) → lcGo wg wt we env ds acc K → lcGo wg wt we env ds acc K'
  | [], acc, K, K', f, q => f _ q
  | d :: r, acc, K, K', f, q => hg _ _ _ _ (fun env' q => ht _ _ _ (fun b q => by
    cases b with
    | true => exact he _ _ _ (fun y q => ⟨q.1, lcGo_mono hg ht he r _ K K' f q.2⟩) q
    | false => exact lcGo_mono hg ht he r _ K K' f q) q) q
def wLc (vs : List Nat) (wi : WI) (wg : WG) (wt : WT) (we : WE) : WE := fun env Q => wi env fun ds => lcGo wg wt we (wipeE env vs) ds [] fun acc => Q (.list acc)
theorem monoLc {vs : List Nat} {wi : WI} {wg : WG} {wt : WT} {we : WE} (hi : MonoA wi) (hg : MonoG wg) (ht : MonoT wt) (he : Mono we) : Mono (wLc vs wi wg wt we) := fun env Q Q' f q =>
  hi _ _ _ (fun ds q => lcGo_mono hg ht he ds [] _ _ (fun acc q => f _ q) q) q
/-- the turns in the heap -/
theorem lc_turns {W : Wd} {vs sl : List Nat} {wg : WG} {wt : WT} {we : WE} {env : En} {S : Addr → Prop} {σ : L2.St} {H1 : Hp} {p : Addr} {J : It} {ds : List D} {hv : List (V × D)} {Qd : Hp → Prop} {K : List D → Prop}
    (hg : MonoG wg) (ht : MonoT wt) (he : Mono we) (hsl : ∀ i ∈ sl, i ∈ vs) (R : RlS W env S σ H1) (hp : H1 p = none) (src : Src W J ds hv) (tv : ∀ q ∈ hv, Top W H1 S q.1 q.2)
    (hgo : lcGo wg wt we (wipeE env vs) ds [] K)
    (fin : ∀ acc xs H, K acc → KpJ W H1 H → H p = some (.lst xs) → RpAll W.T H (plus S p) xs acc → Qd H) :
    ∃ Wm : Nat → Nat → Hp → Prop, (∃ m, Wm 0 m (upd H1 p (.lst []))) ∧ ∀ i m H, Wm i m H →
      (J.stop i H ∧ Qd H) ∨ (J.go i H ∧ ∃ Nx : Hp → Prop, (∀ H', Nx H' → ∃ m', m' < m ∧ Wm (i + 1) m' H') ∧ ∀ x H', J.yld i H x H' → tG wg sl x (wipe σ vs) H' fun σ2 H2 => wipe σ2 vs = wipe σ vs ∧ tT wt σ2 H2 fun b H3 =>
        if b = true then tE we σ2 H3 fun y H4 => ∃ acc, H4 p = some (.lst acc) ∧ acc.length < sizeLine ∧ Nx (upd H4 p (.lst (acc ++ [y]))) else Nx H3) := by
  have npM : ¬ W.M p := fun m => W.jm H1 R.j p m hp
  refine ⟨fun i m H => m = ds.length - i ∧ i ≤ ds.length ∧ KpJ W H1 H ∧ ∃ acc xs, H p = some (.lst xs) ∧ RpAll W.T H (plus S p) xs acc ∧ lcGo wg wt we (wipeE env vs) (ds.drop i) acc K, ⟨ds.length, rfl, Nat.zero_le _, .new R.j hp, [], [], upd_same, .nil, hgo⟩, ?_⟩
  rintro i m H ⟨rfl, hi, kp, acc, xs, hx, rx, go⟩
  have R1 : RlS W env (plus S p) σ H := R.plus hp kp (by rw [hx]; simp)
  have tvH : ∀ q ∈ hv, Top W H (plus S p) q.1 q.2 := fun q hq => by
    rcases tv q hq with r | ⟨a, ws, es, e1, e2, nm, h, r⟩
    · exact .inl (r.move (d := q.2) fun a o e n => ⟨kp.1 a o e fun m => n (R.sm a m), fun s => s.elim n fun z => ne_of_none e hp z⟩)
    · exact .inr ⟨a, ws, es, e1, e2, nm, kp.1 a _ h nm, r.move (ds := es) fun a o e n => ⟨kp.1 a o e fun m => n (R.sm a m), fun s => s.elim n fun z => ne_of_none e hp z⟩⟩
  obtain ⟨s1, s2⟩ := src H (plus S p) R1.cn tvH i
  by_cases hlt : i < ds.length
  · obtain ⟨g1, g2⟩ := s1 _ (List.getElem?_eq_getElem hlt)
    rw [List.drop_eq_getElem_cons hlt] at go
    refine .inr ⟨g1, fun H' => KpJ W H1 H' ∧ ∃ acc xs, H' p = some (.lst xs) ∧ RpAll W.T H' (plus S p) xs acc ∧ lcGo wg wt we (wipeE env vs) (ds.drop (i + 1)) acc K, fun H' ⟨k, q⟩ => ⟨ds.length - (i + 1), by omega, rfl, hlt, k, q⟩, fun x H' hy => ?_⟩
    obtain ⟨k2, rx2⟩ := g2 x H' hy
    have R2 := (R1.kept k2).wiped vs
    have px : ∀ {G : Hp}, KpJ W H' G → G p = some (.lst xs) ∧ RpAll W.T G (plus S p) xs acc := fun {G} k3 => ⟨(k2.trans k3).1 p _ hx npM, (rx.kept (k2.trans k3) R1.sm)⟩
    refine ⟨W, wipeE env vs, plus S p, _, R2, rx2, hg _ _ _ _ (fun env' go σ' R3 hw => ⟨(hw vs hsl).trans (wipe_wipe fun _ z => z), W, env', plus S p, R3, ht _ _ _ (fun b go H3 k3 => ?_) go⟩) go⟩
    cases b with
    | false =>
      obtain ⟨e1, e2⟩ := px k3
      exact ⟨(kp.trans k2).trans k3, acc, xs, e1, e2, go⟩
    | true =>
      refine ⟨W, env', plus S p, R3.kept k3, he _ _ _ (fun y go v H4 k4 r4 => ?_) go⟩
      obtain ⟨e1, e2⟩ := px (k3.trans k4)
      have e3 := e2.length
      refine ⟨xs, e1, by rw [e3]; exact go.1, ?_⟩
      have kk := ((kp.trans k2).trans k3).trans k4
      have c4 := ((R1.kept k2).kept (k3.trans k4)).cn
      refine ⟨⟨fun a o e n => ?_, W.jk H4 _ (fun a m => by rw [upd_ne (fun z => npM (by rw [← z]; exact m))]) kk.2⟩, acc ++ [y], xs ++ [v], upd_same, ?_, go.2⟩
      · rw [upd_ne (ne_of_none e hp)]
        exact kk.1 a o e n
      · refine (e2.append (.cons r4 .nil)).move fun a o e n => ⟨?_, n⟩
        rw [upd_ne (fun z => n (.inr z))]
        exact e
  · have e : i = ds.length := by omega
    subst e
    rw [List.drop_length] at go
    exact .inl ⟨s2 (Nat.le_refl _), fin acc xs H go kp hx rx⟩
/-- as a value -/
theorem lc_ {elt iter : Expr} {ifs : List Expr} {scope : Scope} {own : List (Str × Nat)} {sl : List Nat} {wi : WI} {wg : WG} {wt : WT} {we : WE} (hc : X.calm = true) (hN : X.N.Nodup) (hi : PIp X tg iter wi) (ok : BlkOk X.N X.env.scope scope own) (hsl : ∀ i ∈ sl, i ∈ own.map (·.2))
    (hg : ∀ (s : Shared) (H : Hp) (C : Addr) (cl : List (Str × Addr)) (fp : List Addr), PGv (X.blk s H scope (compEnvC scope cl C X.env) fp) tg wg sl) (ht : ∀ (s : Shared) (H : Hp) (C : Addr) (cl : List (Str × Addr)) (fp : List Addr), PTsv (X.blk s H scope (compEnvC scope cl C X.env) fp) ifs wt)
    (he : ∀ (s : Shared) (H : Hp) (C : Addr) (cl : List (Str × Addr)) (fp : List Addr), PV (X.blk s H scope (compEnvC scope cl C X.env) fp) elt we) (hs : ∀ x, foldedSetIterable iter X.env x = pure x := by intro _; rfl)
    (mg : MonoG wg) (mt : MonoT wt) (me : Mono we) :
    PF X (.ListComp elt [⟨tg, iter, ifs, 0⟩] scope pos) (wLc (own.map (·.2)) wi wg wt we) := by
  refine ⟨(pe_lc hc hN hi.pi ok (fun s H C cl fp => (hg s H C cl fp).pg) (fun s H C cl fp => (ht s H C cl fp).pt) (fun s H C cl fp => (he s H C cl fp).pe) hs).imp fun σ H Q ⟨W, env, S, R, q⟩ => ?_, monoLc hi.mono mg mt me⟩
  refine ⟨W, env, S, R, hi.mono _ _ _ (fun ds go J H1 hv k tv src p hp => ?_) q⟩
  exact lc_turns mg mt me hsl (R.kept k) hp src tv go fun acc xs H2 q k2 hx rx => q p xs acc H2 rfl (k.trans k2) (k.none_of R.j hp) hx rx
end
end Eg

/-! E5: statements. -/
namespace Eg
open PySem PySem.Spec PyProof.Rows L2

structure Po where
  nx : En → Prop
  rt : D → Prop
  bk : En → Prop
  ct : En → Prop
structure Po.Le (P P' : Po) : Prop where
  nx : ∀ e, P.nx e → P'.nx e
  rt : ∀ d, P.rt d → P'.rt d
  bk : ∀ e, P.bk e → P'.bk e
  ct : ∀ e, P.ct e → P'.ct e
theorem Po.Le.refl {P : Po} : Po.Le P P := ⟨fun _ h => h, fun _ h => h, fun _ h => h, fun _ h => h⟩
abbrev WS := En → Po → Prop
def MonoS (w : WS) : Prop := ∀ env P P', Po.Le P P' → w env P → w env P'
theorem MonoS.ap {w : WS} {env : En} {P P' : Po} (h : MonoS w) (q : w env P) (l : Po.Le P P') : w env P' := h env P P' l q

/-- a value that leaves the def -/
structure Rt (W : Wd) (H' : Hp) (v : V) (d : D) : Prop where
  h0 : ∀ a o, W.H0 a = some o → ¬ W.M a → H' a = some o
  j : W.J H'
  r : Rp W.T H' (fun a => W.S0 a ∨ W.M a) v d
def poOf (W : Wd) (D : Ends) : Po where
  nx := fun env' => ∀ σ' H' S', RlS W env' S' σ' H' → D.nx σ' H'
  rt := fun d => ∀ v H', Rt W H' v d → D.rt v H'
  bk := fun env' => ∀ σ' H' S', RlS W env' S' σ' H' → D.bk σ' H'
  ct := fun env' => ∀ σ' H' S', RlS W env' S' σ' H' → D.ct σ' H'
def tS (w : WS) : TS := fun D σ H => ∃ W env S, RlS W env S σ H ∧ w env (poOf W D)
structure PSv (X : Cx) (st : Stmt) (w : WS) : Prop where
  ps : PS X st (tS w)
  mono : MonoS w
structure PSsv (X : Cx) (st : List Stmt) (w : WS) : Prop where
  ps : PSs X st (tS w)
  mono : MonoS w

section
variable {X : Cx} {st : Stmt} {rest : List Stmt} {e a b c : Expr} {es : List Expr} {w wa wb wc : WE} {u : WA} {s t : WS} {pos : Pos}

def wNx : WS := fun env P => P.nx env
def wSeq (s t : WS) : WS := fun env P => s env { P with nx := fun env' => t env' P }
theorem monoSeq (hs : MonoS s) (ht : MonoS t) : MonoS (wSeq s t) := fun env P P' l q => hs.ap (show s env _ from q) ⟨fun e q => ht _ _ _ l q, l.rt, l.bk, l.ct⟩
theorem sn_ : PSsv X [] wNx := ⟨pss_nil.imp fun D σ H ⟨W, env, S, R, q⟩ => q σ H S R, fun env P P' l q => l.nx _ q⟩
theorem sc_ (h : PSv X st s) (h' : PSsv X rest t) : PSsv X (st :: rest) (wSeq s t) := by
  refine ⟨(pss_cons h.ps h'.ps).imp fun D σ H ⟨W, env, S, R, q⟩ => ?_, monoSeq h.mono h'.mono⟩
  exact ⟨W, env, S, R, h.mono.ap (show s env _ from q) ⟨fun env' q σ' H' S' R' => ⟨W, env', S', R', q⟩, fun d q => q, fun e q => q, fun e q => q⟩⟩
theorem s1_ (h : PSv X st s) : PSsv X [st] s := ⟨pss_one h.ps, h.mono⟩
def wBk : WS := fun env P => P.bk env
def wCt : WS := fun env P => P.ct env
theorem pass_ : PSv X (.Pass pos) wNx := ⟨ps_pass.imp fun D σ H ⟨W, env, S, R, q⟩ => q σ H S R, fun env P P' l q => l.nx _ q⟩
theorem brk_ : PSv X (.Break pos) wBk := ⟨ps_break.imp fun D σ H ⟨W, env, S, R, q⟩ => q σ H S R, fun env P P' l q => l.bk _ q⟩
theorem cont_ : PSv X (.Continue pos) wCt := ⟨ps_continue.imp fun D σ H ⟨W, env, S, R, q⟩ => q σ H S R, fun env P P' l q => l.ct _ q⟩
theorem doc_ {x j pos'} : PSv X (.Expr (.Constant (.str x) j pos) pos') wNx := ⟨ps_doc.imp fun D σ H ⟨W, env, S, R, q⟩ => q σ H S R, fun env P P' l q => l.nx _ q⟩
theorem RlS.rt {W : Wd} {env : En} {S : Addr → Prop} {σ : L2.St} {H H' : Hp} {v : V} {d : D} (R : RlS W env S σ H) (k : KpJ W H H') (r : Rp W.T H' S v d) : Rt W H' v d :=
  ⟨fun a o h n => k.1 a o (R.h0 a o h n) n, k.2, r.less fun a s => s.elim (R.s0 a) (R.sm a)⟩
def wRet (w : WE) : WS := fun env P => w env P.rt
theorem ret_ (h : PV X e w) : PSv X (.Return (some e) pos) (wRet w) :=
  ⟨(ps_ret h.pe).imp fun D σ H ⟨W, env, S, R, q⟩ => ⟨W, env, S, R, h.mono _ _ _ (fun d q v H' k r => q v H' (R.rt k r)) q⟩, fun env P P' l q => h.mono _ _ _ l.rt q⟩
def wDrop (w : WE) : WS := fun env P => w env fun _ => P.nx env
theorem drop_ (h : PV X e w) (hs : swapsWith e none pos.line X.env = pure false := by rfl) : PSv X (.Expr e pos) (wDrop w) :=
  ⟨(ps_expr h.pe hs).imp fun D σ H ⟨W, env, S, R, q⟩ => ⟨W, env, S, R, h.mono _ _ _ (fun d q v H' k r => q σ H' S (R.kept k)) q⟩, fun env P P' l q => h.mono _ _ _ (fun d q => l.nx _ q) q⟩
/-- a slot's own list becomes a value -/
def wSh (i : Nat) (s : WS) : WS := fun env P => match env.at i with
  | .ow ds => s (env.set i (.sh (.list ds))) P
  | _ => False
theorem monoSh {i : Nat} (h : MonoS s) : MonoS (wSh i s) := fun env P P' l q => by
  unfold wSh at q ⊢
  split at q
  · exact h _ _ _ l q
  · exact q.elim
theorem RlS.shareS {W : Wd} {env : En} {S : Addr → Prop} {σ : L2.St} {H : Hp} {i : Nat} {P : Po} (R : RlS W env S σ H) (q : wSh i s env P) : ∃ env' S', RlS W env' S' σ H ∧ s env' P := by
  unfold wSh at q
  split at q
  · rename_i e
    obtain ⟨S', _, R'⟩ := R.share e
    exact ⟨_, S', R', q⟩
  · exact q.elim
theorem sh_ (i : Nat) (h : PSv X st s) : PSv X st (wSh i s) := ⟨h.ps.imp fun D σ H ⟨W, env, S, R, q⟩ => by
  obtain ⟨env', S', R', q'⟩ := R.shareS q
  exact ⟨W, env', S', R', q'⟩, monoSh h.mono⟩
theorem shs_ (i : Nat) (h : PSsv X rest s) : PSsv X rest (wSh i s) := ⟨h.ps.imp fun D σ H ⟨W, env, S, R, q⟩ => by
  obtain ⟨env', S', R', q'⟩ := R.shareS q
  exact ⟨W, env', S', R', q'⟩, monoSh h.mono⟩

/-! ### name = e -/
def wSet (i : Nat) (w : WE) : WS := fun env P => w env fun d => P.nx (env.set i (.sh d))
def wOwn (i : Nat) (w : WE) : WS := fun env P => w env fun d => match d with
  | .list ds => P.nx (env.set i (.ow ds))
  | _ => False
theorem monoSet {i : Nat} (h : Mono w) : MonoS (wSet i w) := fun env P P' l q => h _ _ _ (fun d q => l.nx _ q) q
theorem monoOwn {i : Nat} (h : Mono w) : MonoS (wOwn i w) := fun env P P' l q => h _ _ _ (fun d q => by
  cases d <;> first | exact q.elim | exact l.nx _ q) q
theorem asg_sh {i : Nat} {D : Ends} {σ : L2.St} {H : Hp} (h : Mono w) (q : tS (wSet i w) D σ H) : tE w σ H fun x H1 => gName i x σ H1 D.nx := by
  obtain ⟨W, env, S, R, q⟩ := q
  exact ⟨W, env, S, R, h _ _ _ (fun d q v H' k r => q _ H' S ((R.kept k).setSh r)) q⟩
theorem asg_ow {i : Nat} {D : Ends} {σ : L2.St} {H : Hp} (h : Mono w) (q : tS (wOwn i w) D σ H) : tF w σ H fun x H1 => gName i x σ H1 D.nx := by
  obtain ⟨W, env, S, R, q⟩ := q
  refine ⟨W, env, S, R, h _ _ _ (fun d q p vs ds H' ed k hn hp r => ?_) q⟩
  subst ed
  exact q _ H' _ (R.setOw hn k hp r)
theorem set_ (i : Nat) {x : Str} {pos' : Pos} (hN : X.N.Nodup) (h : PV X e w) (hi : X.N[i]? = some x := by rfl) (hx : Loc X.env.scope x := by first | exact Or.inl rfl | exact Or.inr rfl) (hs : swapsWith e (some (.Name x pos')) pos.line X.env = pure false := by rfl)
    (hf : X.fn x = true ∨ X.env.scope.names.lookup x = some .local := by first | exact .inl rfl | exact .inr rfl | assumption) : PSv X (.Assign [.Name x pos'] e pos) (wSet i w) :=
  ⟨(ps_set hN hi hx h.pe hs hf).imp fun D σ H q => asg_sh h.mono q, monoSet h.mono⟩
theorem own_ (i : Nat) {x : Str} {pos' : Pos} (hN : X.N.Nodup) (h : PF X e w) (hi : X.N[i]? = some x := by rfl) (hx : Loc X.env.scope x := by first | exact Or.inl rfl | exact Or.inr rfl) (hs : swapsWith e (some (.Name x pos')) pos.line X.env = pure false := by rfl)
    (hf : X.fn x = true ∨ X.env.scope.names.lookup x = some .local := by first | exact .inl rfl | exact .inr rfl | assumption) : PSv X (.Assign [.Name x pos'] e pos) (wOwn i w) :=
  ⟨(ps_set hN hi hx h.pe hs hf).imp fun D σ H q => asg_ow h.mono q, monoOwn h.mono⟩
-- name = [.. for ..] on one line, a local
section
variable {elt iter tg : Expr} {ifs : List Expr} {scope : Scope} {own : List (Str × Nat)} {sl : List Nat} {wi : WI} {wg : WG} {wt : WT} {we : WE} {y : Str} {py spos : Pos} {i : Nat}
theorem lc_read {σ : L2.St} {H : Hp} {Q : VK} (mi : MonoA wi) (mg : MonoG wg) (mt : MonoT wt) (me : Mono we) (hsl : ∀ i ∈ sl, i ∈ own.map (·.2)) (q : tF (wLc (own.map (·.2)) wi wg wt we) σ H Q) : tLc (tIP wi) (tG wg sl) (tT wt) (tE we) (own.map (·.2)) σ H Q := by
  obtain ⟨W, env, S, R, q⟩ := q
  refine ⟨W, env, S, R, mi _ _ _ (fun ds go J H1 hv k tv src p hp => ?_) q⟩
  exact lc_turns mg mt me hsl (R.kept k) hp src tv go fun acc xs H2 q k2 hx rx => q p xs acc H2 rfl (k.trans k2) (k.none_of R.j hp) hx rx
theorem lcAsg {tx : TS} (hc : X.calm = true) (hN : X.N.Nodup) (hi : X.N[i]? = some y := by rfl) (hyl : X.env.scope.names.lookup y = some .local := by rfl)
    (hsw : swapsWith (.ListComp elt [⟨tg, iter, ifs, 0⟩] scope pos) (some (.Name y py)) spos.line X.env = pure true := by exact sw_true rfl rfl rfl (by decide +kernel))
    (hit : PIp X tg iter wi) (ok : BlkOk X.N X.env.scope scope own) (hsl : ∀ i ∈ sl, i ∈ own.map (·.2))
    (hg : ∀ (s : Shared) (H : Hp) (C : Addr) (cl : List (Str × Addr)) (fp : List Addr), PGv (X.blk s H scope (compEnvC scope cl C X.env) fp) tg wg sl) (ht : ∀ (s : Shared) (H : Hp) (C : Addr) (cl : List (Str × Addr)) (fp : List Addr), PTsv (X.blk s H scope (compEnvC scope cl C X.env) fp) ifs wt)
    (he : ∀ (s : Shared) (H : Hp) (C : Addr) (cl : List (Str × Addr)) (fp : List Addr), PV (X.blk s H scope (compEnvC scope cl C X.env) fp) elt we) (hs : ∀ x, foldedSetIterable iter X.env x = pure x := by intro _; rfl) :
    PS X (.Assign [.Name y py] (.ListComp elt [⟨tg, iter, ifs, 0⟩] scope pos) spos) (tAsg (tLc (tIP wi) (tG wg sl) (tT wt) (tE we) (own.map (·.2))) (gName i)) :=
  ps_setLc hc hN hi hyl hsw hit.pi ok (fun s H C cl fp => (hg s H C cl fp).pg) (fun s H C cl fp => (ht s H C cl fp).pt) (fun s H C cl fp => (he s H C cl fp).pe) hs
end

/-! ### if, while, for -/
def wIfS (c : WT) (s t : WS) : WS := fun env P => c env fun b => if b = true then s env P else t env P
theorem ifs_ {wt : WT} {sa sb : List Stmt} (hc : PTv X c wt) (ha : PSsv X sa s) (hb : PSsv X sb t) : PSv X (.If c sa sb pos) (wIfS wt s t) := by
  refine ⟨(ps_if hc.pt ha.ps hb.ps).imp fun D σ H ⟨W, env, S, R, q⟩ => ?_, fun env P P' l q => hc.mono _ _ _ (fun b q => ?_) q⟩
  · refine ⟨W, env, S, R, hc.mono _ _ _ (fun b q H1 k => ?_) q⟩
    cases b with
    | true => exact ⟨W, env, S, R.kept k, q⟩
    | false => exact ⟨W, env, S, R.kept k, q⟩
  · cases b with
    | true => exact ha.mono _ _ _ l q
    | false => exact hb.mono _ _ _ l q
/-- n turns at most -/
def whGo (c : WT) (s : WS) : Nat → En → Po → Prop
  | 0, _, _ => False
  | n + 1, env, P => c env fun b => if b = true then s env ⟨fun e => whGo c s n e P, P.rt, P.nx, fun e => whGo c s n e P⟩ else P.nx env
def wWh (c : WT) (s : WS) : WS := fun env P => ∃ n, whGo c s n env P
theorem whGo_mono {wt : WT} (hc : MonoT wt) (hs : MonoS s) : ∀ n env P P', Po.Le P P' → whGo wt s n env P → whGo wt s n env P'
  | 0, _, _, _, _, q => q.elim
  | n + 1, env, P, P', l, q => hc _ _ _ (fun b q => by
    cases b with
    | true => exact hs.ap (show s env _ from q) ⟨fun e q => whGo_mono hc hs n _ _ _ l q, l.rt, l.nx, fun e q => whGo_mono hc hs n _ _ _ l q⟩
    | false => exact l.nx _ q) q
theorem while_ {wt : WT} {body : List Stmt} (hp : PassesOwn (model X.prog X.w) X.A X.env X.xe) (hc : PTv X c wt) (hb : PSsv X body s) : PSv X (.While c body [] pos) (wWh wt s) := by
  refine ⟨(ps_while hp hc.pt hb.ps).imp fun D σ H ⟨W, env, S, R, n, q⟩ => ?_, fun env P P' l ⟨n, q⟩ => ⟨n, whGo_mono hc.mono hb.mono n _ _ _ l q⟩⟩
  refine ⟨fun m σ H => ∃ env S, RlS W env S σ H ∧ whGo wt s m env (poOf W D), ⟨n, env, S, R, q⟩, fun m σ H ⟨env, S, R, q⟩ => ?_⟩
  cases m with
  | zero => exact q.elim
  | succ m =>
    refine ⟨W, env, S, R, hc.mono _ _ _ (fun b q H1 k => ?_) q⟩
    cases b with
    | true =>
      refine ⟨fun σ' H' => ∃ env' S', RlS W env' S' σ' H' ∧ whGo wt s m env' (poOf W D), fun σ' H' h => ⟨m, Nat.lt_succ_self m, h⟩, ?_⟩
      exact ⟨W, env, S, R.kept k, hb.mono.ap (show s env _ from q) ⟨fun e q σ' H' S' R' => ⟨e, S', R', q⟩, fun d q => q, fun e q => q, fun e q σ' H' S' R' => ⟨e, S', R', q⟩⟩⟩
    | false => exact q σ H1 S (R.kept k)
def forGo (g : WG) (s : WS) : List D → En → Po → Prop
  | [], env, P => P.nx env
  | d :: r, env, P => g d env fun env' => s env' ⟨fun e => forGo g s r e P, P.rt, P.nx, fun e => forGo g s r e P⟩
def wFor (wi : WI) (g : WG) (s : WS) : WS := fun env P => wi env fun ds => forGo g s ds env P
theorem forGo_mono {g : WG} (hg : MonoG g) (hs : MonoS s) : ∀ ds env P P', Po.Le P P' → forGo g s ds env P → forGo g s ds env P'
  | [], env, P, P', l, q => l.nx _ q
  | d :: r, env, P, P', l, q => hg _ _ _ _ (fun e q => hs.ap (P := ⟨fun e => forGo g s r e P, P.rt, P.nx, fun e => forGo g s r e P⟩) q ⟨fun e q => forGo_mono hg hs r _ _ _ l q, l.rt, l.nx, fun e q => forGo_mono hg hs r _ _ _ l q⟩) q
/-- values that a loop holds -/
def Wd.with (W : Wd) (hv : List (V × D)) : Wd := { W with hold := hv ++ W.hold }
theorem RlS.held {W : Wd} {env : En} {S : Addr → Prop} {σ : L2.St} {H : Hp} {hv : List (V × D)} (R : RlS W env S σ H) (h : ∀ p ∈ hv, Rp W.T H S p.1 p.2) : RlS (W.with hv) env S σ H where
  s0 := R.s0
  sm := R.sm
  sn := R.sn
  h0 := R.h0
  j := R.j
  len := R.len
  sl := fun i => by
    have q := R.sl i
    revert q
    generalize env.at i = x
    cases x with
    | un => intro _; trivial
    | sh d => intro q; exact q
    | ow ds => rintro ⟨a, vs, e, q⟩; exact ⟨a, vs, e, q.s, q.s0, q.m, q.h0, q.h, q.r⟩
  ne := R.ne
  hd := fun p hp => (List.mem_append.mp hp).elim (h p) (R.hd p)
theorem RlS.unheld {W : Wd} {env : En} {S : Addr → Prop} {σ : L2.St} {H : Hp} {hv : List (V × D)} (R : RlS (W.with hv) env S σ H) : RlS W env S σ H where
  s0 := R.s0
  sm := R.sm
  sn := R.sn
  h0 := R.h0
  j := R.j
  len := R.len
  sl := fun i => by
    have q := R.sl i
    revert q
    generalize env.at i = x
    cases x with
    | un => intro _; trivial
    | sh d => intro q; exact q
    | ow ds => rintro ⟨a, vs, e, q⟩; exact ⟨a, vs, e, q.s, q.s0, q.m, q.h0, q.h, q.r⟩
  ne := R.ne
  hd := fun p hp => R.hd p (List.mem_append_right _ hp)
theorem for_ {tg iter : Expr} {wi : WI} {g : WG} {sl : List Nat} {body : List Stmt} (hp : PassesOwn (model X.prog X.w) X.A X.env X.xe) (hc : X.calm = true) (hi : PIv X tg iter wi) (hg : PGv X tg g sl) (hb : PSsv X body s)
    (hs : ∀ x, foldedSetIterable iter X.env x = pure x := by intro _; rfl) : PSv X (.For tg iter body [] pos) (wFor wi g s) := by
  refine ⟨(ps_for hp hc hi.pi hg.pg hb.ps hs).imp fun D σ H ⟨W, env, S, R, q⟩ => ?_, fun env P P' l q => hi.mono _ _ _ (fun ds q => forGo_mono hg.mono hb.mono ds _ _ _ l q) q⟩
  refine ⟨W, env, S, R, hi.mono _ _ _ (fun ds q J H1 hv k tv src => ?_) q⟩
  refine ⟨fun i m σ H => m = ds.length - i ∧ i ≤ ds.length ∧ ∃ env S, RlS (W.with hv) env S σ H ∧ forGo g s (ds.drop i) env (poOf W D), ⟨ds.length, rfl, Nat.zero_le _, env, S, (R.kept k).held tv, q⟩, ?_⟩
  rintro i m σ H ⟨rfl, hi, env, S, R, q⟩
  obtain ⟨s1, s2⟩ := src H S ⟨R.sm, R.sn, R.j⟩ (fun p hp => .inl (R.hd p (List.mem_append_left _ hp))) i
  by_cases hlt : i < ds.length
  · obtain ⟨g1, g2⟩ := s1 _ (List.getElem?_eq_getElem hlt)
    rw [List.drop_eq_getElem_cons hlt] at q
    refine .inr ⟨g1, fun σ' H' => ∃ env S, RlS (W.with hv) env S σ' H' ∧ forGo g s (ds.drop (i + 1)) env (poOf W D), fun σ' H' h => ⟨ds.length - (i + 1), by omega, rfl, hlt, h⟩, fun x H' hy => ?_⟩
    obtain ⟨k2, rx⟩ := g2 x H' hy
    refine ⟨W.with hv, env, S, _, R.kept k2, rx, hg.mono _ _ _ _ (fun env' q σ' R3 _ => ?_) q⟩
    exact ⟨W.with hv, env', S, R3, hb.mono.ap (show s env' _ from q) ⟨fun e q σ' H' S' R' => ⟨e, S', R', q⟩, fun d q v H' r => q v H' ⟨r.h0, r.j, r.r⟩, fun e q σ' H' S' R' => q σ' H' S' R'.unheld, fun e q σ' H' S' R' => ⟨e, S', R', q⟩⟩⟩
  · have e : i = ds.length := by omega
    subst e
    rw [List.drop_length] at q
    exact .inl ⟨s2 (Nat.le_refl _), q σ H S R.unheld⟩

/-! ### lists that are written -/
/-- name.append(e) -/
def wApp (i : Nat) (w : WE) : WS := fun env P => match env.at i with
  | .ow ds => w env fun d => ds.length < sizeLine ∧ P.nx (env.set i (.ow (ds ++ [d])))
  | _ => False
theorem RlS.lt {W : Wd} {env : En} {S : Addr → Prop} {σ : L2.St} {H : Hp} {i : Nat} {ds : List D} (R : RlS W env S σ H) (h : env.at i = .ow ds) : i < env.length := by
  unfold En.at at h
  rw [List.getD_eq_getElem?_getD] at h
  cases e : env[i]? with
  | none => rw [e] at h; cases h
  | some x => exact (List.getElem?_eq_some_iff.mp e).1
theorem app_ (i : Nat) {x : Str} {p1 p2 p3 : Pos} (h : PV X e w) (hN : X.N[i]? = some x := by rfl) (hv : Vis X.env.scope x := by first | exact Or.inl rfl | exact Or.inr (Or.inl rfl) | exact Or.inr (Or.inr rfl)) (hd : (x == ("__debug__" : Str)) = false := by decide)
    (hcd : (x == ("__classdict__" : Str)) = false := by decide)
    (hbase : attributeBase (.Name x p1) (Str.ofString "append") X.env (eval (.Name x p1) X.env) = eval (.Name x p1) X.env := by rfl)
    (hfew : ((backTo p3 (starEach [e] X.env)).all (fun x => !x.1) && (backToKw p3 (keywordEach [] X.env)).all (fun x => x.1.isSome) && decide (([e] : List Expr).length + ([] : List Keyword).length + (if ([] : List Keyword).isEmpty then 0 else 1) < 30)) = true := by rfl)
    (hline : (p2.endLine == p3.line) = true := by rfl) (hs : starEach [e] X.env = (false, eval e X.env) :: starEach [] X.env := by rfl) (hplain : (backTo p3 (starEach [] X.env)).any (·.1) = false := by rfl)
    (hsw : swapsWith (.Call (.Attribute (.Name x p1) (Str.ofString "append") p2) [e] [] p3) none pos.line X.env = pure false := by rfl) :
    PSv X (.Expr (.Call (.Attribute (.Name x p1) (Str.ofString "append") p2) [e] [] p3) pos) (wApp i w) := by
  have pn : PA X [] tNil := pa_nil
  refine ⟨(ps_expr (pe_bm PySem.F.plainAttrs_list PySem.F.slot_list_append PySem.F.type_list_append mt_append (pe_var hN hv hd hcd) (pa_cons h.pe pn hs) hbase hfew hline hs hplain) hsw).imp fun D σ H ⟨W, env, S, R, q⟩ => ?_, fun env P P' l q => ?_⟩
  · unfold wApp at q
    split at q
    · rename_i ds0 he
      have sl := R.sl i
      rw [he] at sl
      obtain ⟨a, vs, ea, O⟩ := sl
      refine ⟨.ref a, ea, .inl ⟨rfl, vs, .inl (.inl O.h)⟩, W, env, S, R, h.mono _ _ _ (fun d q v H' k r => ?_) q⟩
      have q' : ds0.length < sizeLine ∧ (poOf W D).nx (env.set i (.ow (ds0 ++ [d]))) := q
      have hv' : H' a = some (.lst vs) := k.1 a _ O.h O.m
      have rv := O.r.kept k R.sm
      refine ⟨a, vs, v, rfl, rfl, hv', by rw [rv.length]; exact q'.1, ?_⟩
      exact q'.2 σ _ S ((R.kept k).write he ea (R.lt he) (rv.append (.cons r .nil)))
    · exact q.elim
  · unfold wApp at q ⊢
    split at q
    · rename_i ds0 he
      exact h.mono _ _ _ (fun d q => ⟨q.1, l.nx _ q.2⟩) q
    · exact q.elim
end
end Eg

/-! E6: defs and their calls. -/
namespace Eg
open PySem PySem.Spec PyProof.Rows L2

/-- what a def that makes φ of data promises -/
def spOf (φ : GN) : Sp := fun vs H Q _ => ∃ (W : Wd) (S : Addr → Prop) (ds : List D), Cn W S H ∧ RpAll W.T H S vs ds ∧ φ ds fun r => ∀ v H', KpJ W H H' → Rp W.T H' S v r → Q v H'
def MonoN (φ : GN) : Prop := ∀ ds Q Q', (∀ d, Q d → Q' d) → φ ds Q → φ ds Q'
def phiOf (n np : Nat) (w : WS) : GN := fun ds Q => ds.length = np ∧ w (ds.map .sh ++ List.replicate (n - np) .un) ⟨fun _ => Q .none, Q, fun _ => False, fun _ => False⟩
theorem monoPhi {n np : Nat} {w : WS} (h : MonoS w) : MonoN (phiOf n np w) := fun ds Q Q' f q => ⟨q.1, h.ap q.2 ⟨fun _ q => f _ q, f, fun _ q => q, fun _ q => q⟩⟩

theorem at_start {vs : List V} {ds : List D} {m i : Nat} : En.at (ds.map .sh ++ List.replicate m .un) i = match ds[i]? with
    | some d => .sh d
    | none => .un := by
  unfold En.at
  rw [List.getD_eq_getElem?_getD]
  by_cases h : i < ds.length
  · rw [List.getElem?_append_left (by simpa using h), List.getElem?_map, List.getElem?_eq_getElem h]
    rfl
  · rw [List.getElem?_append_right (by simpa using Nat.le_of_not_lt h), List.getElem?_replicate, List.getElem?_eq_none (by omega)]
    split <;> rfl
/-- a def's body at its entry -/
theorem rl_start {N : List Str} {W : Wd} {S : Addr → Prop} {H : Hp} {vs : List V} {ds : List D} (c : Cn W S H) (r : RpAll W.T H S vs ds) (hl : vs.length ≤ N.length) :
    RlS { W with H0 := H, S0 := S, hold := [] } (ds.map .sh ++ List.replicate (N.length - ds.length) .un) S (L2.start N vs) H where
  s0 := fun _ h => h
  sm := c.sm
  sn := c.sn
  h0 := fun _ _ h _ => h
  j := c.j
  len := by
    have := r.length
    unfold L2.start
    simp only [List.length_append, List.length_map, List.length_replicate]
    omega
  sl := fun i => by
    rw [at_start (vs := vs)]
    cases e : ds[i]? with
    | none => trivial
    | some d =>
      obtain ⟨v, ev, rv⟩ := r.get e
      refine ⟨v, ?_, rv⟩
      unfold L2.start
      have hi : i < vs.length := (List.getElem?_eq_some_iff.mp ev).1
      rw [List.getElem?_append_left (by simpa using hi), List.getElem?_map, ev]
      rfl
  ne := fun i k a es fs _ h1 _ _ _ => by
    rw [at_start (vs := vs)] at h1
    split at h1 <;> cases h1
  hd := fun p hp => nomatch hp

section
variable {P : Program} {w : World} {K : PySem.W.Frag} {mg : Str → Option Value} {base : Heap}
/-- THE RULE for a def -/
theorem def_ok {x qual : Str} {st : Stmt} {f : Addr} {fd : FuncData} {N ps : List Str} {k : Nat} {w0 : WS} (F : Fun K x qual st f fd) (Sc : FnScope N ps (defScope st)) (hps : ps.length ≤ N.length)
    (body : ∀ (cdv : Value) (A : Around) (outer : List Env) (s : Shared) (H : Hp) (E : XK), Room k (A.deeper (envOfC qual (defScope st) s.heap.objs.size f cdv)) →
      PSsv (cxOf CX0 P w K mg base N qual (defScope st) f cdv A outer s H E).nox (defBody st) w0) : FnOk P w K mg base CX0 (k + 1) f fd ps (spOf (phiOf N.length ps.length w0)) := by
  refine F.ok Sc (fun vs H Q E h => ?_) (fun cdv A outer s H vs Q E hr h => ?_)
  · obtain ⟨W, S, ds, c, r, q⟩ := h
    rw [r.length]; exact q.1
  · have b := body cdv A outer s H E hr
    obtain ⟨W, S, ds, c, r, q⟩ := h
    refine ⟨_, b.ps, ?_⟩
    have hl : vs.length = ps.length := r.length.trans q.1
    have q2 := q.2
    rw [← q.1] at q2
    refine ⟨_, _, S, rl_start (N := N) c r (by omega), b.mono.ap q2 ⟨fun env' q σ' H' S' R' => ?_, fun d q v H' rt => ?_, fun _ q => q.elim, fun _ q => q.elim⟩⟩
    · exact q _ H' ⟨fun a o h n => R'.h0 a o h n, R'.j⟩ .non
    · exact q v H' ⟨fun a o h n => rt.h0 a o h n, rt.j⟩ (rt.r.less fun a s => .inl s)
end

section
variable {X : Cx} {k : Nat} {f : Addr} {fd : FuncData} {ps : List Str} {φ : GN} {x : Str} {p pos : Pos} {e : Expr} {es : List Expr} {u : WA}
/-- f(..) of one's own -/
theorem fcall_ (F : FnOk X.prog X.w X.K X.mg X.base CX0 k f fd ps (spOf φ)) (mφ : MonoN φ) (hr : Room k X.A) (hg : Gl X x) (hm : X.mg x = some (.ref f)) (hk : PySem.W.keepIn X.K (.ref f) = true) (hb : Binds X.K fd ps []) (ha : PAv X (e :: es) u)
    (hdb : (x == ("__debug__" : Str)) = false := by decide) (he : starEach (e :: es) X.env = (false, eval e X.env) :: starEach es X.env := by rfl) (hpl : (backTo pos (starEach es X.env)).any (·.1) = false := by rfl) :
    PV X (.Call (.Name x p) (e :: es) [] pos) (wCl φ u) := by
  refine ⟨(pe_call (E := E0) F hr hg hm hk hb .nil pass0 ha.pa hdb he hpl).imp fun σ H Q ⟨W, env, S, R, h⟩ => ?_, monoCl mφ ha.mono⟩
  refine ⟨W, env, S, R, ha.mono _ _ _ (fun ds h1 vs H1 k1 r1 => ?_) h⟩
  show spOf φ (vs ++ []) H1 Q E0
  rw [List.append_nil]
  exact ⟨W, S, ds, R.cn.kept k1, r1, mφ _ _ _ (fun d q v H' k2 r2 => q v H' (k1.trans k2) r2) h1⟩
end
end Eg

/-! E7: sorted, two clauses, pairs of names, stores by place, isinstance. -/
namespace Eg
open PySem PySem.Spec PyProof.Rows L2

/-! ### sorted -/
def gSorted : GN := fun ds Q => match ds with
  | [.list xs] => (SeqAt.shaped (.list xs) = true ∧ PySem.W.AllAlike xs ∧ PySem.W.Sortable xs) ∧ Q (.list (xs.mergeSort (PySem.W.dataLe false id)))
  | _ => False
def rSortD (K : PySem.W.Frag) : List V → Hp → VK → Prop := fun vs H Q => ∃ (a : Addr) (xs : List V) (ds : List PyData) (Rr : V → PyData → Prop), vs = [.ref a] ∧ SqL K H a xs ∧ DpAll K H xs ds ∧ Paired Rr xs ds ∧ SeqAt.shaped (.list ds) = true ∧ PySem.W.AllAlike ds ∧ PySem.W.Sortable ds ∧
  ∀ ys p, Paired Rr ys (ds.mergeSort (PySem.W.dataLe false id)) → H p = none → Q (.ref p) (upd H p (.lst ys))
theorem each_of {h : Heap} {Rr : V → PyData → Prop} : ∀ {xs : List V} {ds : List PyData} {its : List Value} {as : List Addr}, Vals xs its → Paired Rr xs ds → ReadsAll h its ds as →
    PySem.W.EachIs (fun v d => ∃ x, RelV x v ∧ Rr x d) its ds ∧ PySem.W.EachIs (fun v d => ∃ as, Reads h v d as) its ds
  | _, _, _, _, .nil, .nil, .nil => ⟨.nil, .nil⟩
  | _, _, _, _, .cons r t, .cons p q, .cons a b => by
    obtain ⟨h1, h2⟩ := each_of t q b
    exact ⟨.cons ⟨_, r, p⟩ h1, .cons ⟨_, a⟩ h2⟩
theorem each_back {Rr : V → PyData → Prop} : ∀ {out : List Value} {ds : List PyData}, PySem.W.EachIs (fun v d => ∃ x, RelV x v ∧ Rr x d) out ds → ∃ ys, Vals ys out ∧ Paired Rr ys ds
  | _, _, .nil => ⟨[], .nil, .nil⟩
  | _, _, .cons ⟨x, r, p⟩ t => by
    obtain ⟨ys, h1, h2⟩ := each_back t
    exact ⟨x :: ys, .cons r h1, .cons p h2⟩
theorem depth_mem : ∀ {ds : List PyData} {d : PyData}, d ∈ ds → d.depth ≤ PyData.depthAll ds
  | x :: r, d, h => by
    rw [PyData.depthAll]
    rcases List.mem_cons.mp h with rfl | h
    · exact Nat.le_max_left _ _
    · exact Nat.le_trans (depth_mem h) (Nat.le_max_right _ _)
section
variable {X : Cx} {e a b c : Expr} {es : List Expr} {w wa wb wc : WE} {u : WA} {pos : Pos}
theorem cr_sortD (hu : X.A.units + 67 < cLine) : CallR X (.builtin "sorted") (rSortD X.K) := by
  intro pins s σ H vs us Q I r h
  obtain ⟨a, xs, ds, Rr, rfl, hs, hd, hp, sh, al, so, q⟩ := h
  obtain ⟨its, rv, hl, hz⟩ := I.list hs
  rw [Vals.ref1 r]
  obtain ⟨as, ra⟩ := Dp.readsAll I ds xs its hd rv
  obtain ⟨e1, e2⟩ := each_of rv hp ra
  have hn : ds.length = xs.length := (Paired.length hp).symm
  refine PySem.W.sorted_data (enc := id) (bs := ds) hl.isList e1 e2 (by rw [List.map_id]; exact al) (by rw [List.map_id]; exact so) (by rw [hn]; exact hz) (fun d hm => ?_) fun out ho eo => ?_
  · have h1 := SeqAt.depth_of_shaped sh
    have h2 : (PyData.list ds).depth = PyData.depthAll ds + 1 := by simp [PyData.depth]
    have h3 := depth_mem hm
    show X.A.units + 2 + d.depth < cLine
    omega
  · obtain ⟨ys, h1, h2⟩ := each_back eo
    obtain ⟨ep, he'⟩ := PyProof.Rows.sortedAll_at s.heap its out.toArray
    have hlen : ys.length ≤ sizeLine := by rw [h1.length, ho, hn]; exact hz
    exact ⟨.ref _, upd H (s.heap.objs.size + 1) (.lst ys), I.laid (t' := s.toks) (fun _ _ => PyProof.Rows.sortedAll_old) (Nat.le_succ _) ⟨hlen, out, ep, h1, he'⟩, rfl, q _ _ h2 (I.hok.fresh (Nat.le_succ _))⟩
theorem rp_paired {T : Nat → V} {H : Hp} {S : Addr → Prop} : ∀ {vs : List V} {ds : List D}, RpAll T H S vs ds → Paired (Rp T H S) vs ds
  | _, _, .nil => .nil
  | _, _, .cons a t => .cons a (rp_paired t)
theorem paired_rp {T : Nat → V} {H : Hp} {S : Addr → Prop} : ∀ {vs : List V} {ds : List D}, Paired (Rp T H S) vs ds → RpAll T H S vs ds
  | _, _, .nil => .nil
  | _, _, .cons a t => .cons a (paired_rp t)
theorem copSorted (K : PySem.W.Frag) : CopF (rSortD K) gSorted := ⟨fun W S H xs ds Q G c t q k => by
    unfold gSorted at q
    split at q
    · rename_i es
      cases t with
      | cons t t' =>
        cases t'
        obtain ⟨a, vs, rfl, ha, r⟩ := t.list
        obtain ⟨⟨q1, q2, q3⟩, q4⟩ := q
        refine ⟨a, vs, es, Rp W.T H S, rfl, .inl (.inl ha), r.dpAll K (by simpa [PyData.canLay0] using SeqAt.canLay_of_shaped q1), rp_paired r, q1, q2, q3, fun ys p hy hp => ?_⟩
        exact k p ys _ _ q4 (.new c.j hp) hp upd_same ((paired_rp hy).plus hp)
    · exact q.elim, fun ds G G' f q => by
    unfold gSorted at q ⊢
    split at q
    · exact ⟨q.1, f _ q.2⟩
    · exact q.elim⟩

/-! ### isinstance -/
def tyName : D → String
  | .none => "NoneType"
  | .bool _ => "bool"
  | .int _ => "int"
  | .str _ => "str"
  | .list _ => "list"
  | .tuple _ => "tuple"
  | .dict _ => "dict"
def isT (T : String) : D → Bool
  | .none => false
  | .bool _ => T == "bool" || T == "int"
  | .int _ => T == "int"
  | .str _ => T == "str"
  | .list _ => T == "list"
  | .tuple _ => T == "tuple"
  | .dict _ => false
theorem kit_all {T : String} (hT : T = "list" ∨ T = "tuple" ∨ T = "int" ∨ T = "bool" ∨ T = "str") {d : D} (hd : ∀ k, d ≠ .dict k) : kitB (tyName d) T = some (isT T d) := by
  rcases hT with rfl | rfl | rfl | rfl | rfl <;> cases d <;> first | exact absurd rfl (hd _) | (simp only [tyName, isT]; decide +kernel)
theorem top_ty {W : Wd} {S : Addr → Prop} {H : Hp} {x : V} {d : D} (K : PySem.W.Frag) (t : Top W H S x d) (hd : ∀ k, d ≠ .dict k) : TyX K H x (.type (tyName d)) := by
  cases d with
  | none => cases t.non; exact .base .non
  | bool b => cases t.bl; exact .base (.bl b)
  | int i => cases t.int; exact .base (.int i)
  | str z => cases t.str; exact .base (.str z)
  | list ds =>
    obtain ⟨a, vs, rfl, ha, r⟩ := t.list
    exact .base (.lst ha)
  | tuple ds =>
    obtain ⟨a, vs, rfl, ha, _, r⟩ := t.tuple
    exact .base (.tup ha)
  | dict k => exact absurd rfl (hd k)
def gIsi (T : String) : G1 := fun d Q => match d with
  | .dict _ => False
  | d => Q (.bool (isT T d))
theorem gIsi_nd {T : String} {d : D} {Q : D → Prop} (h : gIsi T d Q) : (∀ k, d ≠ .dict k) ∧ Q (.bool (isT T d)) := by
  cases d <;> first | exact ⟨fun k z => (nomatch z), h⟩ | exact h.elim
theorem monoIsi {T : String} : ∀ dx G G', (∀ d, G d → G' d) → gIsi T dx G → gIsi T dx G' := fun dx G G' f q => by cases dx <;> first | exact q.elim | exact f _ q
theorem isi_ {p p2 : Pos} {x : Str} (T : String) (hT : T = "list" ∨ T = "tuple" ∨ T = "int" ∨ T = "bool" ∨ T = "str" := by simp) (hg : Gl X "isinstance") (hm : X.mg "isinstance" = none) (hg2 : Gl X x) (hm2 : X.mg x = none) (hv : bootBuiltins x = some (.type T))
    (ha : PP X a wa) (hn : x ≠ "__name__" := by decide) (hd : (x == ("__debug__" : Str)) = false := by decide)
    (hb : bootBuiltins "isinstance" = some (.builtin "isinstance") := by decide +kernel)
    (hs : starEach [a, .Name x p2] X.env = (false, eval a X.env) :: starEach [.Name x p2] X.env := by rfl) (hs2 : starEach [.Name x p2] X.env = (false, eval (.Name x p2) X.env) :: starEach [] X.env := by rfl) (hpl : (backTo pos (starEach [.Name x p2] X.env)).any (·.1) = false := by rfl) :
    PV X (.Call (.Name "isinstance" p) [a, .Name x p2] [] pos) (wU (gIsi T) wa) := by
  have pn : PA X [] tNil := pa_nil
  refine ⟨(pe_callB call_isi hg hm hb (pa_cons ha.pe (pa_cons (pe_bltn (v := .ty T) hg2 hm2 hv rfl hn hd) pn hs2) hs) (by decide) (by decide) hs hpl).imp fun σ H Q ⟨W, env, S, R, q⟩ => ?_, monoU monoIsi ha.mono⟩
  refine ⟨W, env, S, R, ha.mono _ _ _ (fun d q v H1 k t => ?_) q⟩
  obtain ⟨nd, q⟩ := gIsi_nd q
  exact ⟨v, .ty T, .type (tyName d), .type T, isT T d, rfl, .ty T, top_ty X.K t nd, kit_ty (kit_all hT nd), q _ H1 k (.bl _)⟩
/-- .. (T, U) -/
def gIsi2 (T U : String) : G1 := fun d Q => match d with
  | .dict _ => False
  | d => Q (.bool (isT T d || isT U d))
theorem gIsi2_nd {T U : String} {d : D} {Q : D → Prop} (h : gIsi2 T U d Q) : (∀ k, d ≠ .dict k) ∧ Q (.bool (isT T d || isT U d)) := by
  cases d <;> first | exact ⟨fun k z => (nomatch z), h⟩ | exact h.elim
theorem monoIsi2 {T U : String} : ∀ dx G G', (∀ d, G d → G' d) → gIsi2 T U dx G → gIsi2 T U dx G' := fun dx G G' f q => by cases dx <;> first | exact q.elim | exact f _ q
theorem isi2_ {p p2 p3 p4 : Pos} {x y : Str} {kk : Nat} (T U : String) (hT : T = "list" ∨ T = "tuple" ∨ T = "int" ∨ T = "bool" ∨ T = "str" := by simp) (hU : U = "list" ∨ U = "tuple" ∨ U = "int" ∨ U = "bool" ∨ U = "str" := by simp)
    (hg : Gl X "isinstance") (hm : X.mg "isinstance" = none) (hg2 : Gl X x) (hm2 : X.mg x = none) (hv : bootBuiltins x = some (.type T)) (hg3 : Gl X y) (hm3 : X.mg y = none) (hv3 : bootBuiltins y = some (.type U))
    (ha : PP X a wa) (hn : x ≠ "__name__" := by decide) (hd : (x == ("__debug__" : Str)) = false := by decide) (hn3 : y ≠ "__name__" := by decide) (hd3 : (y == ("__debug__" : Str)) = false := by decide)
    (hb : bootBuiltins "isinstance" = some (.builtin "isinstance") := by decide +kernel)
    (hs : starEach [a, .Tuple [.Name x p2, .Name y p3] kk p4] X.env = (false, eval a X.env) :: starEach [.Tuple [.Name x p2, .Name y p3] kk p4] X.env := by rfl)
    (hs2 : starEach [.Tuple [.Name x p2, .Name y p3] kk p4] X.env = (false, eval (.Tuple [.Name x p2, .Name y p3] kk p4) X.env) :: starEach [] X.env := by rfl)
    (hs3 : starEach [.Name x p2, .Name y p3] X.env = (false, eval (.Name x p2) X.env) :: starEach [.Name y p3] X.env := by rfl) (hs4 : starEach [.Name y p3] X.env = (false, eval (.Name y p3) X.env) :: starEach [] X.env := by rfl)
    (hpl : (backTo pos (starEach [.Tuple [.Name x p2, .Name y p3] kk p4] X.env)).any (·.1) = false := by rfl) :
    PV X (.Call (.Name "isinstance" p) [a, .Tuple [.Name x p2, .Name y p3] kk p4] [] pos) (wU (gIsi2 T U) wa) := by
  have pn : PA X [] tNil := pa_nil
  refine ⟨(pe_callB call_isiT hg hm hb (pa_cons ha.pe (pa_cons (pe_tup (pa_cons (pe_bltn (v := .ty T) hg2 hm2 hv rfl hn hd) (pa_cons (pe_bltn (v := .ty U) hg3 hm3 hv3 rfl hn3 hd3) pn hs4) hs3)) pn hs2) hs) (by decide) (by decide) hs hpl).imp fun σ H Q ⟨W, env, S, R, q⟩ => ?_, monoU monoIsi2 ha.mono⟩
  refine ⟨W, env, S, R, ha.mono _ _ _ (fun d q v H1 k t => ?_) q⟩
  obtain ⟨nd, q⟩ := gIsi2_nd q
  refine ⟨by show 2 ≤ sizeLine; decide, fun tp ntp => ?_⟩
  have t' := t.kept (KpJ.new k.2 ntp (o := .tup [.ty T, .ty U])) R.sm
  refine ⟨v, tp, [.ty T, .ty U], .type (tyName d), [.type T, .type U], isT T d || isT U d, rfl, upd_same, .cons (.ty T) (.cons (.ty U) .nil), top_ty X.K t' nd, ?_, q _ _ (k.trans (.new k.2 ntp)) (.bl _)⟩
  refine kitAny_cons (kit_ty (kit_all hT nd)) (fun e => ?_) fun e => by rw [e]; rfl
  rw [e, Bool.false_or]
  refine kitAny_cons (kit_ty (kit_all hU nd)) (fun e2 => by rw [e2]; exact kitAny_nil) fun e2 => e2

/-! ### two clauses -/
/-- all but p kept -/
def KpX (W : Wd) (p : Addr) (H H' : Hp) : Prop := (∀ a o, H a = some o → ¬ W.M a → a ≠ p → H' a = some o) ∧ W.J H'
theorem KpX.of {W : Wd} {p : Addr} {H H' : Hp} (k : KpJ W H H') : KpX W p H H' := ⟨fun a o h n _ => k.1 a o h n, k.2⟩
theorem KpX.trans {W : Wd} {p : Addr} {H H1 H2 : Hp} (a : KpX W p H H1) (b : KpX W p H1 H2) : KpX W p H H2 := ⟨fun c o h n e => b.1 c o (a.1 c o h n e) n e, b.2⟩
theorem KpX.upd {W : Wd} {p : Addr} {H : Hp} {o : HO} (j : W.J H) (np : ¬ W.M p) : KpX W p H (L2.upd H p o) := ⟨fun a o h n e => by rw [upd_ne e]; exact h, W.jk H _ (fun a m => by rw [upd_ne (fun z => np (by rw [← z]; exact m))]) j⟩
theorem KpX.toJ {W : Wd} {p : Addr} {H H1 H2 : Hp} (hp : H p = none) (k : KpJ W H H1) (k2 : KpX W p H1 H2) : KpJ W H H2 := ⟨fun a o h n => k2.1 a o (k.1 a o h n) n (ne_of_none h hp), k2.2⟩
theorem Rp.keptX {W : Wd} {S : Addr → Prop} {H H' : Hp} {p : Addr} {v : V} {d : D} (k : KpX W p H H') (sm : ∀ a, W.M a → S a) (sp : S p) (r : Rp W.T H S v d) : Rp W.T H' S v d := r.move (d := d) fun a o h n => ⟨k.1 a o h (fun m => n (sm a m)) (fun z => n (by rw [z]; exact sp)), n⟩
theorem RpAll.keptX {W : Wd} {S : Addr → Prop} {H H' : Hp} {p : Addr} {v : List V} {d : List D} (k : KpX W p H H') (sm : ∀ a, W.M a → S a) (sp : S p) (r : RpAll W.T H S v d) : RpAll W.T H' S v d := r.move (ds := d) fun a o h n => ⟨k.1 a o h (fun m => n (sm a m)) (fun z => n (by rw [z]; exact sp)), n⟩
/-- p set aside: no slot's own -/
def Wd.aside (W : Wd) (p : Addr) : Wd := { W with S0 := plus W.S0 p }
theorem RlS.aside {W : Wd} {env : En} {S : Addr → Prop} {σ : L2.St} {H H' : Hp} {p : Addr} (r : RlS W env S σ H) (hn : H p = none) (k : KpJ W H H') (hp : H' p ≠ none) : RlS (W.aside p) env (Eg.plus S p) σ H' := by
  have r' := r.plus hn k hp
  refine ⟨fun a s => s.elim (fun s => .inl (r.s0 a s)) .inr, r'.sm, r'.sn, r'.h0, r'.j, r'.len, fun i => ?_, r'.ne, r'.hd⟩
  have q := r'.sl i
  have q0 := r.sl i
  revert q q0
  generalize env.at i = x
  cases x with
  | un => intro _ _; trivial
  | sh d => intro q _; exact q
  | ow ds =>
    rintro ⟨a, vs, e, q⟩ ⟨b, us, e', q0⟩
    rw [e] at e'
    cases e'
    exact ⟨a, vs, e, q.s, fun s => s.elim q.s0 fun z => ne_of_none q0.h hn z, q.m, q.h0, q.h, q.r⟩
/-- p is written, or things behind it -/
theorem RlS.keptX {W : Wd} {env : En} {S : Addr → Prop} {σ : L2.St} {H H' : Hp} {p : Addr} (r : RlS (W.aside p) env S σ H) (h0 : W.H0 p = none) (k : KpX W p H H') (hp : H' p ≠ none) : RlS (W.aside p) env S σ H' where
  s0 := r.s0
  sm := r.sm
  sn := fun a h => by
    by_cases e : a = p
    · rw [e]; exact hp
    · by_cases m : W.M a
      · exact W.jm H' k.2 a m
      · cases e2 : H a with
        | none => exact absurd e2 (r.sn a h)
        | some o => rw [k.1 a o e2 m e]; simp
  h0 := fun a o h n => k.1 a o (r.h0 a o h n) n fun z => by
    have h' : W.H0 a = some o := h
    rw [z, h0] at h'; cases h'
  j := k.2
  len := r.len
  sl := fun i => by
    have sp : S p := r.s0 p (.inr rfl)
    have q := r.sl i
    cases e : env.at i with
    | un => trivial
    | sh d => rw [e] at q; obtain ⟨v, ev, q⟩ := q; exact ⟨v, ev, Rp.keptX (W := W) k r.sm sp q⟩
    | ow ds =>
      rw [e] at q
      obtain ⟨a, vs, ev, q⟩ := q
      exact ⟨a, vs, ev, q.s, q.s0, q.m, q.h0, k.1 a _ q.h q.m (fun z => q.s0 (.inr z)), RpAll.keptX (W := W) k r.sm sp q.r⟩
  ne := r.ne
  hd := fun q hq => Rp.keptX (W := W) k r.sm (r.s0 p (.inr rfl)) (r.hd q hq)
/-- the turns of the inner clause, the list at p so far acc0 -/
theorem lc_in {W : Wd} {vs sl : List Nat} {wg : WG} {wt : WT} {we : WE} {env : En} {S : Addr → Prop} {σ : L2.St} {H1 : Hp} {p : Addr} {J : It} {ds acc0 : List D} {xs0 : List V} {hv : List (V × D)} {Qd : Hp → Prop} {K : List D → Prop}
    (hg : MonoG wg) (ht : MonoT wt) (he : Mono we) (hsl : ∀ i ∈ sl, i ∈ vs) (R : RlS (W.aside p) env S σ H1) (h0 : W.H0 p = none) (np : ¬ W.M p) (hx0 : H1 p = some (.lst xs0)) (rx0 : RpAll W.T H1 S xs0 acc0) (src : Src (W.aside p) J ds hv) (tv : ∀ q ∈ hv, Rp W.T H1 S q.1 q.2)
    (hgo : lcGo wg wt we (wipeE env vs) ds acc0 K)
    (fin : ∀ acc xs H, K acc → KpX W p H1 H → H p = some (.lst xs) → RpAll W.T H S xs acc → Qd H) :
    ∃ Wm : Nat → Nat → Hp → Prop, (∃ m, Wm 0 m H1) ∧ ∀ i m H, Wm i m H →
      (J.stop i H ∧ Qd H) ∨ (J.go i H ∧ ∃ Nx : Hp → Prop, (∀ H', Nx H' → ∃ m', m' < m ∧ Wm (i + 1) m' H') ∧ ∀ x H', J.yld i H x H' → tG wg sl x (wipe σ vs) H' fun σ2 H2 => wipe σ2 vs = wipe σ vs ∧ tT wt σ2 H2 fun b H3 =>
        if b = true then tE we σ2 H3 fun y H4 => ∃ acc, H4 p = some (.lst acc) ∧ acc.length < sizeLine ∧ Nx (upd H4 p (.lst (acc ++ [y]))) else Nx H3) := by
  have sp : S p := R.s0 p (.inr rfl)
  refine ⟨fun i m H => m = ds.length - i ∧ i ≤ ds.length ∧ KpX W p H1 H ∧ ∃ acc xs, H p = some (.lst xs) ∧ RpAll W.T H S xs acc ∧ lcGo wg wt we (wipeE env vs) (ds.drop i) acc K, ⟨ds.length, rfl, Nat.zero_le _, .of (.refl R.j), acc0, xs0, hx0, rx0, hgo⟩, ?_⟩
  rintro i m H ⟨rfl, hi, kp, acc, xs, hx, rx, go⟩
  have R1 : RlS (W.aside p) env S σ H := R.keptX h0 kp (by rw [hx]; simp)
  obtain ⟨s1, s2⟩ := src H S R1.cn (fun q hq => .inl ((tv q hq).keptX kp R.sm sp)) i
  by_cases hlt : i < ds.length
  · obtain ⟨g1, g2⟩ := s1 _ (List.getElem?_eq_getElem hlt)
    rw [List.drop_eq_getElem_cons hlt] at go
    refine .inr ⟨g1, fun H' => KpX W p H1 H' ∧ ∃ acc xs, H' p = some (.lst xs) ∧ RpAll W.T H' S xs acc ∧ lcGo wg wt we (wipeE env vs) (ds.drop (i + 1)) acc K, fun H' ⟨k, q⟩ => ⟨ds.length - (i + 1), by omega, rfl, hlt, k, q⟩, fun x H' hy => ?_⟩
    obtain ⟨k2, rx2⟩ := g2 x H' hy
    have R2 := (R1.kept k2).wiped vs
    have px : ∀ {G : Hp}, KpJ W H' G → G p = some (.lst xs) ∧ RpAll W.T G S xs acc := fun {G} k3 => ⟨(KpJ.trans (W := W) k2 k3).1 p _ hx np, (RpAll.kept (W := W) (KpJ.trans (W := W) k2 k3) R1.sm rx)⟩
    refine ⟨W.aside p, wipeE env vs, S, _, R2, rx2, hg _ _ _ _ (fun env' go σ' R3 hw => ⟨(hw vs hsl).trans (wipe_wipe fun _ z => z), W.aside p, env', S, R3, ht _ _ _ (fun b go H3 k3 => ?_) go⟩) go⟩
    cases b with
    | false =>
      obtain ⟨e1, e2⟩ := px k3
      exact ⟨kp.trans (.of (KpJ.trans (W := W) k2 k3)), acc, xs, e1, e2, go⟩
    | true =>
      refine ⟨W.aside p, env', S, R3.kept k3, he _ _ _ (fun y go v H4 k4 r4 => ?_) go⟩
      obtain ⟨e1, e2⟩ := px (KpJ.trans (W := W) k3 k4)
      have e3 := e2.length
      refine ⟨xs, e1, by rw [e3]; exact go.1, ?_⟩
      have kk : KpX W p H1 H4 := kp.trans (.of (KpJ.trans (W := W) (KpJ.trans (W := W) k2 k3) k4))
      refine ⟨kk.trans (.upd kk.2 np), acc ++ [y], xs ++ [v], upd_same, ?_, go.2⟩
      refine (e2.append (.cons r4 .nil)).move fun a o e n => ⟨?_, n⟩
      rw [upd_ne (fun z => n (by rw [z]; exact sp))]
      exact e
  · have e : i = ds.length := by omega
    subst e
    rw [List.drop_length] at go
    exact .inl ⟨s2 (Nat.le_refl _), fin acc xs H go kp hx rx⟩
/-- both clauses -/
def lc2Go (wg : WG) (wt : WT) (vs1 : List Nat) (wi1 : WI) (wg1 : WG) (wt1 : WT) (we : WE) (env : En) : List D → List D → (List D → Prop) → Prop
  | [], acc, K => K acc
  | d :: r, acc, K => wg d env fun env' => wt env' fun b => if b = true then wi1 env' fun ds1 => lcGo wg1 wt1 we (wipeE env' vs1) ds1 acc fun acc' => lc2Go wg wt vs1 wi1 wg1 wt1 we env r acc' K
      else lc2Go wg wt vs1 wi1 wg1 wt1 we env r acc K
theorem lc2Go_mono {wg : WG} {wt : WT} {vs1 : List Nat} {wi1 : WI} {wg1 : WG} {wt1 : WT} {we : WE} {env : En} (hg : MonoG wg) (ht : MonoT wt) (hi1 : MonoA wi1) (hg1 : MonoG wg1) (ht1 : MonoT wt1) (he : Mono we) : ∀ (ds acc : List D) (K K' : List D → Prop), (∀ a, K a → K' a) → lc2Go wg wt vs1 wi1 wg1 wt1 we env ds acc K → lc2Go wg wt vs1 wi1 wg1 wt1 we env ds acc K'
  | [], acc, K, K', f, q => f _ q
  | d :: r, acc, K, K', f, q => hg _ _ _ _ (fun env' q => ht _ _ _ (fun b q => by
    cases b with
    | true => exact hi1 _ _ _ (fun ds1 q => lcGo_mono hg1 ht1 he _ _ _ _ (fun a q => lc2Go_mono hg ht hi1 hg1 ht1 he r _ K K' f q) q) q
    | false => exact lc2Go_mono hg ht hi1 hg1 ht1 he r _ K K' f q) q) q
def wLc2 (vs vs1 : List Nat) (wi : WI) (wg : WG) (wt : WT) (wi1 : WI) (wg1 : WG) (wt1 : WT) (we : WE) : WE := fun env Q => wi env fun ds => lc2Go wg wt vs1 wi1 wg1 wt1 we (wipeE env vs) ds [] fun acc => Q (.list acc)
theorem monoLc2 {vs vs1 : List Nat} {wi wi1 : WI} {wg wg1 : WG} {wt wt1 : WT} {we : WE} (hi : MonoA wi) (hg : MonoG wg) (ht : MonoT wt) (hi1 : MonoA wi1) (hg1 : MonoG wg1) (ht1 : MonoT wt1) (he : Mono we) : Mono (wLc2 vs vs1 wi wg wt wi1 wg1 wt1 we) := fun env Q Q' f q =>
  hi _ _ _ (fun ds q => lc2Go_mono hg ht hi1 hg1 ht1 he ds [] _ _ (fun acc q => f _ q) q) q
theorem lc2_read {vs vs1 sl sl1 : List Nat} {wi wi1 : WI} {wg wg1 : WG} {wt wt1 : WT} {we : WE} {σ : L2.St} {H : Hp} {Q : VK} (mi : MonoA wi) (mg : MonoG wg) (mt : MonoT wt) (mi1 : MonoA wi1) (mg1 : MonoG wg1) (mt1 : MonoT wt1) (me : Mono we) (hsl : ∀ i ∈ sl, i ∈ vs) (hsl1 : ∀ i ∈ sl1, i ∈ vs1)
    (q : tF (wLc2 vs vs1 wi wg wt wi1 wg1 wt1 we) σ H Q) : tLc2 (tI wi) (tG wg sl) (tT wt) (tI wi1) (tG wg1 sl1) (tT wt1) (tE we) vs vs1 σ H Q := by
  obtain ⟨W, env, S, R, q⟩ := q
  refine ⟨W, env, S, R, mi _ _ _ (fun ds go J H1 hv k tv src p hp => ?_) q⟩
  have Rk := R.kept k
  have npM : ¬ W.M p := fun m => W.jm H1 k.2 p m hp
  have h0p : W.H0 p = none := by
    cases e : W.H0 p with
    | none => rfl
    | some o => have := Rk.h0 p o e npM; rw [hp] at this; cases this
  obtain ⟨K, go, fin⟩ : ∃ K : List D → Prop, lc2Go wg wt vs1 wi1 wg1 wt1 we (wipeE env vs) ds [] K ∧ (∀ acc xs H2, K acc → KpJ W H1 H2 → H2 p = some (.lst xs) → RpAll W.T H2 (plus S p) xs acc → Q (.ref p) H2) := ⟨_, go, fun acc xs H2 q k2 hx rx => q p xs acc H2 rfl (k.trans k2) (k.none_of R.j hp) hx rx⟩
  · refine ⟨fun i m H => m = ds.length - i ∧ i ≤ ds.length ∧ KpJ W H1 H ∧ ∃ acc xs, H p = some (.lst xs) ∧ RpAll W.T H (plus S p) xs acc ∧ lc2Go wg wt vs1 wi1 wg1 wt1 we (wipeE env vs) (ds.drop i) acc K, ⟨ds.length, rfl, Nat.zero_le _, .new k.2 hp, [], [], upd_same, .nil, go⟩, ?_⟩
    rintro i m H ⟨rfl, hi, kp, acc, xs, hx, rx, go⟩
    have R1 : RlS (W.aside p) env (plus S p) σ H := Rk.aside hp kp (by rw [hx]; simp)
    have tvH : ∀ q ∈ hv, Top W H (plus S p) q.1 q.2 := fun q hq => .inl ((tv q hq).move (d := q.2) fun a o e n => ⟨kp.1 a o e fun m => n (R.sm a m), fun s => s.elim n fun z => ne_of_none e hp z⟩)
    obtain ⟨s1, s2⟩ := src H (plus S p) ⟨R1.sm, R1.sn, R1.j⟩ tvH i
    by_cases hlt : i < ds.length
    · obtain ⟨g1, g2⟩ := s1 _ (List.getElem?_eq_getElem hlt)
      rw [List.drop_eq_getElem_cons hlt] at go
      refine .inr ⟨g1, fun H' => KpJ W H1 H' ∧ ∃ acc xs, H' p = some (.lst xs) ∧ RpAll W.T H' (plus S p) xs acc ∧ lc2Go wg wt vs1 wi1 wg1 wt1 we (wipeE env vs) (ds.drop (i + 1)) acc K, fun H' ⟨k, q⟩ => ⟨ds.length - (i + 1), by omega, rfl, hlt, k, q⟩, fun x H' hy => ?_⟩
      obtain ⟨k2, rx2⟩ := g2 x H' hy
      have R2 := (R1.kept k2).wiped vs
      have px : ∀ {G : Hp}, KpJ W H' G → G p = some (.lst xs) ∧ RpAll W.T G (plus S p) xs acc := fun {G} k3 => ⟨(k2.trans k3).1 p _ hx npM, (RpAll.kept (W := W) (k2.trans k3) R1.sm rx)⟩
      refine ⟨W.aside p, wipeE env vs, plus S p, _, R2, rx2, mg _ _ _ _ (fun env' go σ' R3 hw => ⟨(hw vs hsl).trans (wipe_wipe fun _ z => z), W.aside p, env', plus S p, R3, mt _ _ _ (fun b go H3 k3 => ?_) go⟩) go⟩
      cases b with
      | false =>
        obtain ⟨e1, e2⟩ := px k3
        exact ⟨(kp.trans k2).trans k3, acc, xs, e1, e2, go⟩
      | true =>
        refine ⟨W.aside p, env', plus S p, R3.kept k3, mi1 _ _ _ (fun ds1 go J1 H4 hv1 k4 tv1 src1 => ?_) go⟩
        obtain ⟨e1, e2⟩ := px (KpJ.trans (W := W) k3 k4)
        have kk : KpJ W H1 H4 := KpJ.trans (W := W) (KpJ.trans (W := W) (kp.trans k2) k3) k4
        refine lc_in mg1 mt1 me hsl1 ((R3.kept k3).kept k4) h0p npM e1 e2 src1 tv1 go fun acc' xs' H5 q5 k5 hx5 rx5 => ?_
        exact ⟨KpX.toJ hp kk k5, acc', xs', hx5, rx5, q5⟩
    · have e : i = ds.length := by omega
      subst e
      rw [List.drop_length] at go
      exact .inl ⟨s2 (Nat.le_refl _), fin acc xs H go kp hx rx⟩
section
variable {elt tg iter tg1 iter1 : Expr} {ifs ifs1 : List Expr} {scope : Scope} {own : List (Str × Nat)} {vs1 sl sl1 : List Nat} {wi wi1 : WI} {wg wg1 : WG} {wt wt1 : WT} {we : WE} {y : Str} {py spos : Pos} {i : Nat}
theorem lc2_ (vs1 : List Nat) (hc : X.calm = true) (hN : X.N.Nodup) (hi : PIv X tg iter wi) (ok : BlkOk X.N X.env.scope scope own) (hv : ∀ i ∈ vs1, i ∈ own.map (·.2)) (hsl : ∀ i ∈ sl, i ∈ own.map (·.2)) (hsl1 : ∀ i ∈ sl1, i ∈ vs1)
    (hg : ∀ (s : Shared) (H : Hp) (C : Addr) (cl : List (Str × Addr)) (fp : List Addr), PGv (X.blk s H scope (compEnvC scope cl C X.env) fp) tg wg sl) (ht : ∀ (s : Shared) (H : Hp) (C : Addr) (cl : List (Str × Addr)) (fp : List Addr), PTsv (X.blk s H scope (compEnvC scope cl C X.env) fp) ifs wt)
    (hi1 : ∀ (s : Shared) (H : Hp) (C : Addr) (cl : List (Str × Addr)) (fp : List Addr), PIv (X.blk s H scope (compEnvC scope cl C X.env) fp) tg1 iter1 wi1)
    (hg1 : ∀ (s : Shared) (H : Hp) (C : Addr) (cl : List (Str × Addr)) (fp : List Addr), PGv (X.blk s H scope (compEnvC scope cl C X.env) fp) tg1 wg1 sl1) (ht1 : ∀ (s : Shared) (H : Hp) (C : Addr) (cl : List (Str × Addr)) (fp : List Addr), PTsv (X.blk s H scope (compEnvC scope cl C X.env) fp) ifs1 wt1)
    (he : ∀ (s : Shared) (H : Hp) (C : Addr) (cl : List (Str × Addr)) (fp : List Addr), PV (X.blk s H scope (compEnvC scope cl C X.env) fp) elt we)
    (mg : MonoG wg) (mt : MonoT wt) (mi1 : MonoA wi1) (mg1 : MonoG wg1) (mt1 : MonoT wt1) (me : Mono we)
    (hs : ∀ x, foldedSetIterable iter X.env x = pure x := by intro _; rfl) (hs1 : ∀ env x, foldedSetIterable iter1 env x = pure x := by intro _ _; rfl) :
    PF X (.ListComp elt [⟨tg, iter, ifs, 0⟩, ⟨tg1, iter1, ifs1, 0⟩] scope pos) (wLc2 (own.map (·.2)) vs1 wi wg wt wi1 wg1 wt1 we) :=
  ⟨(pe_lc2 hc hN hi.pi ok hv (fun s H C cl fp => (hg s H C cl fp).pg) (fun s H C cl fp => (ht s H C cl fp).pt) (fun s H C cl fp => (hi1 s H C cl fp).pi) (fun s H C cl fp => (hg1 s H C cl fp).pg) (fun s H C cl fp => (ht1 s H C cl fp).pt) (fun s H C cl fp => (he s H C cl fp).pe) hs hs1).imp
    fun σ H Q q => lc2_read hi.mono mg mt mi1 mg1 mt1 me hsl hsl1 q, monoLc2 hi.mono mg mt mi1 mg1 mt1 me⟩
/-- name = [..] on one line, a local: whatever is done with the list -/
structure LA (X : Cx) (e : Expr) (y : Str) (py spos : Pos) (i : Nat) (w : WE) : Prop where
  ps : PS X (.Assign [.Name y py] e spos) (fun D σ H => tF w σ H fun x H1 => gName i x σ H1 D.nx)
  mono : Mono w
theorem la1 (hc : X.calm = true) (hN : X.N.Nodup) (hi : X.N[i]? = some y) (hyl : X.env.scope.names.lookup y = some .local)
    (hsw : swapsWith (.ListComp elt [⟨tg, iter, ifs, 0⟩] scope pos) (some (.Name y py)) spos.line X.env = pure true)
    (hit : PIp X tg iter wi) (ok : BlkOk X.N X.env.scope scope own) (hsl : ∀ i ∈ sl, i ∈ own.map (·.2))
    (hg : ∀ (s : Shared) (H : Hp) (C : Addr) (cl : List (Str × Addr)) (fp : List Addr), PGv (X.blk s H scope (compEnvC scope cl C X.env) fp) tg wg sl) (ht : ∀ (s : Shared) (H : Hp) (C : Addr) (cl : List (Str × Addr)) (fp : List Addr), PTsv (X.blk s H scope (compEnvC scope cl C X.env) fp) ifs wt)
    (he : ∀ (s : Shared) (H : Hp) (C : Addr) (cl : List (Str × Addr)) (fp : List Addr), PV (X.blk s H scope (compEnvC scope cl C X.env) fp) elt we)
    (mg : MonoG wg) (mt : MonoT wt) (me : Mono we) (hs : ∀ x, foldedSetIterable iter X.env x = pure x := by intro _; rfl) :
    LA X (.ListComp elt [⟨tg, iter, ifs, 0⟩] scope pos) y py spos i (wLc (own.map (·.2)) wi wg wt we) :=
  ⟨(lcAsg (tx := fun _ _ _ => True) hc hN hi hyl hsw hit ok hsl hg ht he hs).imp fun D σ H q => lc_read hit.mono mg mt me hsl q, monoLc hit.mono mg mt me⟩
theorem la2 (vs1 : List Nat) (hc : X.calm = true) (hN : X.N.Nodup) (hi' : X.N[i]? = some y) (hyl : X.env.scope.names.lookup y = some .local)
    (hsw : swapsWith (.ListComp elt [⟨tg, iter, ifs, 0⟩, ⟨tg1, iter1, ifs1, 0⟩] scope pos) (some (.Name y py)) spos.line X.env = pure true)
    (hi : PIv X tg iter wi) (ok : BlkOk X.N X.env.scope scope own) (hv : ∀ i ∈ vs1, i ∈ own.map (·.2)) (hsl : ∀ i ∈ sl, i ∈ own.map (·.2)) (hsl1 : ∀ i ∈ sl1, i ∈ vs1)
    (hg : ∀ (s : Shared) (H : Hp) (C : Addr) (cl : List (Str × Addr)) (fp : List Addr), PGv (X.blk s H scope (compEnvC scope cl C X.env) fp) tg wg sl) (ht : ∀ (s : Shared) (H : Hp) (C : Addr) (cl : List (Str × Addr)) (fp : List Addr), PTsv (X.blk s H scope (compEnvC scope cl C X.env) fp) ifs wt)
    (hi1 : ∀ (s : Shared) (H : Hp) (C : Addr) (cl : List (Str × Addr)) (fp : List Addr), PIv (X.blk s H scope (compEnvC scope cl C X.env) fp) tg1 iter1 wi1)
    (hg1 : ∀ (s : Shared) (H : Hp) (C : Addr) (cl : List (Str × Addr)) (fp : List Addr), PGv (X.blk s H scope (compEnvC scope cl C X.env) fp) tg1 wg1 sl1) (ht1 : ∀ (s : Shared) (H : Hp) (C : Addr) (cl : List (Str × Addr)) (fp : List Addr), PTsv (X.blk s H scope (compEnvC scope cl C X.env) fp) ifs1 wt1)
    (he : ∀ (s : Shared) (H : Hp) (C : Addr) (cl : List (Str × Addr)) (fp : List Addr), PV (X.blk s H scope (compEnvC scope cl C X.env) fp) elt we)
    (mg : MonoG wg) (mt : MonoT wt) (mi1 : MonoA wi1) (mg1 : MonoG wg1) (mt1 : MonoT wt1) (me : Mono we)
    (hs : ∀ x, foldedSetIterable iter X.env x = pure x := by intro _; rfl) (hs1 : ∀ env x, foldedSetIterable iter1 env x = pure x := by intro _ _; rfl) :
    LA X (.ListComp elt [⟨tg, iter, ifs, 0⟩, ⟨tg1, iter1, ifs1, 0⟩] scope pos) y py spos i (wLc2 (own.map (·.2)) vs1 wi wg wt wi1 wg1 wt1 we) :=
  ⟨(ps_setLc2 hc hN hi' hyl hsw hi.pi ok hv (fun s H C cl fp => (hg s H C cl fp).pg) (fun s H C cl fp => (ht s H C cl fp).pt) (fun s H C cl fp => (hi1 s H C cl fp).pi) (fun s H C cl fp => (hg1 s H C cl fp).pg) (fun s H C cl fp => (ht1 s H C cl fp).pt) (fun s H C cl fp => (he s H C cl fp).pe) hs hs1).imp
    fun D σ H q => lc2_read hi.mono mg mt mi1 mg1 mt1 me hsl hsl1 q, monoLc2 hi.mono mg mt mi1 mg1 mt1 me⟩
theorem laOwn {e : Expr} (h : LA X e y py spos i w) : PSv X (.Assign [.Name y py] e spos) (wOwn i w) := ⟨h.ps.imp fun D σ H q => asg_ow h.mono q, monoOwn h.mono⟩
theorem laSet {e : Expr} (h : LA X e y py spos i w) : PSv X (.Assign [.Name y py] e spos) (wSet i w) := ⟨h.ps.imp fun D σ H ⟨W, env, S, R, q⟩ => ⟨W, env, S, R, h.mono _ _ _ (fun d q p vs ds H' ed k hn hp r => by
  subst ed
  exact q _ H' S ((R.kept k).setSh (.lst hp (R.cn.np hn) (r.less fun _ s => .inl s)))) q⟩, monoSet h.mono⟩
end
end
end Eg

/-! E8: defs by names, comprehensions in a def's body, several names stored at once, stores by place. -/
namespace Eg
open PySem PySem.Spec PyProof.Rows L2

/-- what a def makes, closed upwards -/
def phiC (n np : Nat) (w : WS) : GN := fun ds Q => ∃ Q' : D → Prop, (∀ d, Q' d → Q d) ∧ phiOf n np w ds Q'
theorem monoC' {n np : Nat} {w : WS} : MonoN (phiC n np w) := fun ds Q Q' f ⟨R, g, q⟩ => ⟨R, fun d h => f d (g d h), q⟩
theorem phiC_i {n np : Nat} {w : WS} {ds : List D} {Q : D → Prop} (h : phiOf n np w ds Q) : phiC n np w ds Q := ⟨Q, fun _ h => h, h⟩
theorem phi_i {n np : Nat} {w : WS} {ds : List D} {Q : D → Prop} (hl : ds.length = np) (h : w (ds.map .sh ++ List.replicate (n - np) .un) ⟨fun _ => Q .none, Q, fun _ => False, fun _ => False⟩) : phiC n np w ds Q := phiC_i ⟨hl, h⟩

/-- one's own def by its name -/
structure Fd (P : Program) (w : World) (K : PySem.W.Frag) (mg : Str → Option Value) (base : Heap) (x : Str) (ps : List Str) (k : Nat) (φ : GN) : Prop where
  ex : ∃ f fd, FnOk P w K mg base CX0 k f fd ps (spOf φ) ∧ mg x = some (.ref f) ∧ PySem.W.keepIn K (.ref f) = true ∧ Binds K fd ps []
  mono : MonoN φ
section
variable {P : Program} {w : World} {K : PySem.W.Frag} {mg : Str → Option Value} {base : Heap}
theorem Fd.up {x : Str} {ps : List Str} {j k : Nat} {φ : GN} (h : Fd P w K mg base x ps j φ) (hk : j ≤ k) : Fd P w K mg base x ps k φ := by
  obtain ⟨⟨f, fd, F, a, b, c⟩, m⟩ := h
  exact ⟨⟨f, fd, F.mono hk, a, b, c⟩, m⟩
theorem spOf_len {n np : Nat} {w0 : WS} {vs : List V} {H : Hp} {Q : VK} {E : XK} (h : spOf (phiC n np w0) vs H Q E) : vs.length = np := by
  obtain ⟨W, S, ds, c, r, R, g, q⟩ := h
  rw [r.length]; exact q.1
/-- THE RULE for a def -/
theorem def_okD {x qual : Str} {params : Arguments} {bodyS : List Stmt} {scope : Scope} {f : Addr} {fd : FuncData} {N ps : List Str} {k : Nat} {w0 : WS} (F : FunD K x qual params bodyS scope [] [] f fd) (Sc : FnScope N ps scope) (hps : ps.length ≤ N.length)
    (body : ∀ (cdv : Value) (A : Around) (outer : List Env) (s : Shared) (H : Hp) (E : XK), Room k (A.deeper (envOfC qual scope s.heap.objs.size f cdv)) →
      PSsv (cxOf CX0 P w K mg base N qual scope f cdv A outer s H E).nox bodyS w0) : FnOk P w K mg base CX0 (k + 1) f fd ps (spOf (phiC N.length ps.length w0)) := by
  refine F.ok Sc (fun vs H Q E h => spOf_len h) (fun cdv A outer s H vs Q E hr h => ?_)
  have b := body cdv A outer s H E hr
  obtain ⟨W, S, ds, c, r, R, g, q⟩ := h
  refine ⟨_, PSs.nox b.ps, ?_⟩
  have hl : vs.length = ps.length := r.length.trans q.1
  have q2 := q.2
  rw [← q.1] at q2
  refine ⟨_, _, S, rl_start (N := N) c r (by omega), b.mono.ap q2 ⟨fun env' q σ' H' S' R' => ?_, fun d q v H' rt => ?_, fun _ q => q.elim, fun _ q => q.elim⟩⟩
  · exact g _ q _ H' ⟨fun a o h n => R'.h0 a o h n, R'.j⟩ .non
  · exact g _ q v H' ⟨fun a o h n => rt.h0 a o h n, rt.j⟩ (rt.r.less fun a s => .inl s)
/-- .. and its name -/
theorem def_fd {x qual : Str} {params : Arguments} {bodyS : List Stmt} {scope : Scope} {f : Addr} {fd : FuncData} {N ps : List Str} {k n np : Nat} {w0 : WS} (F : FunD K x qual params bodyS scope [] [] f fd) (hx : mg x = some (.ref f)) (Sc : FnScope N ps scope) (hps : ps.length ≤ N.length) (hn : N.length = n) (hp : ps.length = np)
    (hb : ∀ (kV doc pm : Value) (an : Option Addr) (cdv ct : Value) (us : List Value), us.length = ps.length → bindArgs (PySem.W.fnOf x qual params bodyS scope .none kV doc pm an cdv ct) ⟨us, []⟩ = pure (ps.zip us))
    (body : ∀ (cdv : Value) (A : Around) (outer : List Env) (s : Shared) (H : Hp) (E : XK), Room k (A.deeper (envOfC qual scope s.heap.objs.size f cdv)) →
      PSsv (cxOf CX0 P w K mg base N qual scope f cdv A outer s H E).nox bodyS w0) : Fd P w K mg base x ps (k + 1) (phiC n np w0) := by
  subst hn
  subst hp
  exact ⟨⟨f, fd, def_okD F Sc hps body, hx, F.kp, F.bindsN hb⟩, monoC'⟩
end

section
variable {X : Cx} {e a b c : Expr} {es : List Expr} {w wa wb wc : WE} {u : WA} {pos : Pos}
/-- f(..) of one's own -/
theorem fc_ {k : Nat} {ps : List Str} {φ : GN} {x : Str} {p : Pos} (F : Fd X.prog X.w X.K X.mg X.base x ps k φ) (hr : Room k X.A) (hg : Gl X x) (ha : PAv X (e :: es) u)
    (hdb : (x == ("__debug__" : Str)) = false := by decide) (he : starEach (e :: es) X.env = (false, eval e X.env) :: starEach es X.env := by rfl) (hpl : (backTo pos (starEach es X.env)).any (·.1) = false := by rfl) :
    PV X (.Call (.Name x p) (e :: es) [] pos) (wCl φ u) := by
  obtain ⟨⟨f, fd, F, hx, kp, hb⟩, mφ⟩ := F
  exact fcall_ F mφ hr hg hx kp hb ha hdb he hpl
theorem ur {k j : Nat} {A : Around} (h : Room k A) (hj : j ≤ 200 := by decide) : A.units + j < cLine := by have := h.un; omega

section
variable {elt tg iter tg1 iter1 : Expr} {ifs ifs1 : List Expr} {scope : Scope} {own : List (Str × Nat)} {vs1 sl sl1 : List Nat} {wi wi1 : WI} {wg wg1 : WG} {wt wt1 : WT} {we : WE} {y : Str} {py spos : Pos} {i : Nat}
abbrev Blk (X : Cx) (scope : Scope) (p : Cx → Prop) : Prop := ∀ (s : Shared) (H : Hp) (C : Addr) (cl : List (Str × Addr)) (fp : List Addr), p (X.blk s H scope (compEnvC scope cl C X.env) fp)
theorem lcv (own : List (Str × Nat)) (hc : X.calm = true) (hN : X.N.Nodup) (hi : PIp X tg iter wi)
    (hg : Blk X scope fun Y => PGv Y tg wg sl) (ht : Blk X scope fun Y => PTsv Y ifs wt) (he : Blk X scope fun Y => PV Y elt we)
    (hb : blkC X.N X.env.scope scope own = true := by kernel_rfl) (hsl : ∀ i ∈ sl, i ∈ own.map (·.2) := by decide) (hs : ∀ x, foldedSetIterable iter X.env x = pure x := by intro _; rfl) :
    PF X (.ListComp elt [⟨tg, iter, ifs, 0⟩] scope pos) (wLc (own.map (·.2)) wi wg wt we) :=
  lc_ hc hN hi (blkOk_by hb) hsl hg ht he hs (hg X.s_0 X.H_0 0 [] []).mono (ht X.s_0 X.H_0 0 [] []).mono (he X.s_0 X.H_0 0 [] []).mono
theorem lcv2 (own : List (Str × Nat)) (vs1 : List Nat) (hc : X.calm = true) (hN : X.N.Nodup) (hi : PIv X tg iter wi)
    (hg : Blk X scope fun Y => PGv Y tg wg sl) (ht : Blk X scope fun Y => PTsv Y ifs wt) (hi1 : Blk X scope fun Y => PIv Y tg1 iter1 wi1) (hg1 : Blk X scope fun Y => PGv Y tg1 wg1 sl1) (ht1 : Blk X scope fun Y => PTsv Y ifs1 wt1) (he : Blk X scope fun Y => PV Y elt we)
    (hb : blkC X.N X.env.scope scope own = true := by kernel_rfl) (hv : ∀ i ∈ vs1, i ∈ own.map (·.2) := by decide) (hsl : ∀ i ∈ sl, i ∈ own.map (·.2) := by decide) (hsl1 : ∀ i ∈ sl1, i ∈ vs1 := by decide) (hs : ∀ x, foldedSetIterable iter X.env x = pure x := by intro _; rfl) (hs1 : ∀ env x, foldedSetIterable iter1 env x = pure x := by intro _ _; rfl) :
    PF X (.ListComp elt [⟨tg, iter, ifs, 0⟩, ⟨tg1, iter1, ifs1, 0⟩] scope pos) (wLc2 (own.map (·.2)) vs1 wi wg wt wi1 wg1 wt1 we) :=
  lc2_ vs1 hc hN hi (blkOk_by hb) hv hsl hsl1 hg ht hi1 hg1 ht1 he (hg X.s_0 X.H_0 0 [] []).mono (ht X.s_0 X.H_0 0 [] []).mono (hi1 X.s_0 X.H_0 0 [] []).mono (hg1 X.s_0 X.H_0 0 [] []).mono (ht1 X.s_0 X.H_0 0 [] []).mono (he X.s_0 X.H_0 0 [] []).mono hs hs1
theorem lav (i : Nat) (own : List (Str × Nat)) (hc : X.calm = true) (hN : X.N.Nodup) (hit : PIp X tg iter wi)
    (hg : Blk X scope fun Y => PGv Y tg wg sl) (ht : Blk X scope fun Y => PTsv Y ifs wt) (he : Blk X scope fun Y => PV Y elt we)
    (hi : X.N[i]? = some y := by rfl) (hyl : X.env.scope.names.lookup y = some .local := by rfl)
    (hsw : swapsWith (.ListComp elt [⟨tg, iter, ifs, 0⟩] scope pos) (some (.Name y py)) spos.line X.env = pure true := by exact sw_true rfl rfl rfl (by decide +kernel))
    (hb : blkC X.N X.env.scope scope own = true := by kernel_rfl) (hsl : ∀ i ∈ sl, i ∈ own.map (·.2) := by decide) (hs : ∀ x, foldedSetIterable iter X.env x = pure x := by intro _; rfl) :
    LA X (.ListComp elt [⟨tg, iter, ifs, 0⟩] scope pos) y py spos i (wLc (own.map (·.2)) wi wg wt we) :=
  la1 hc hN hi hyl hsw hit (blkOk_by hb) hsl hg ht he (hg X.s_0 X.H_0 0 [] []).mono (ht X.s_0 X.H_0 0 [] []).mono (he X.s_0 X.H_0 0 [] []).mono hs
theorem lav2 (i : Nat) (own : List (Str × Nat)) (vs1 : List Nat) (hc : X.calm = true) (hN : X.N.Nodup) (hit : PIv X tg iter wi)
    (hg : Blk X scope fun Y => PGv Y tg wg sl) (ht : Blk X scope fun Y => PTsv Y ifs wt) (hi1 : Blk X scope fun Y => PIv Y tg1 iter1 wi1) (hg1 : Blk X scope fun Y => PGv Y tg1 wg1 sl1) (ht1 : Blk X scope fun Y => PTsv Y ifs1 wt1) (he : Blk X scope fun Y => PV Y elt we)
    (hi : X.N[i]? = some y := by rfl) (hyl : X.env.scope.names.lookup y = some .local := by rfl)
    (hsw : swapsWith (.ListComp elt [⟨tg, iter, ifs, 0⟩, ⟨tg1, iter1, ifs1, 0⟩] scope pos) (some (.Name y py)) spos.line X.env = pure true := by exact sw_true rfl rfl rfl (by decide +kernel))
    (hb : blkC X.N X.env.scope scope own = true := by kernel_rfl) (hv : ∀ i ∈ vs1, i ∈ own.map (·.2) := by decide) (hsl : ∀ i ∈ sl, i ∈ own.map (·.2) := by decide) (hsl1 : ∀ i ∈ sl1, i ∈ vs1 := by decide) (hs : ∀ x, foldedSetIterable iter X.env x = pure x := by intro _; rfl) (hs1 : ∀ env x, foldedSetIterable iter1 env x = pure x := by intro _ _; rfl) :
    LA X (.ListComp elt [⟨tg, iter, ifs, 0⟩, ⟨tg1, iter1, ifs1, 0⟩] scope pos) y py spos i (wLc2 (own.map (·.2)) vs1 wi wg wt wi1 wg1 wt1 we) :=
  la2 vs1 hc hN hi hyl hsw hit (blkOk_by hb) hv hsl hsl1 hg ht hi1 hg1 ht1 he (hg X.s_0 X.H_0 0 [] []).mono (ht X.s_0 X.H_0 0 [] []).mono (hi1 X.s_0 X.H_0 0 [] []).mono (hg1 X.s_0 X.H_0 0 [] []).mono (ht1 X.s_0 X.H_0 0 [] []).mono (he X.s_0 X.H_0 0 [] []).mono hs hs1
end
end
end Eg

/-! E9: several names stored at once, unpacking, stores by place, op=. -/
namespace Eg
open PySem PySem.Spec PyProof.Rows L2

/-! ### several at once -/
inductive Mem (W : Wd) (S : Addr → Prop) (H : Hp) : V → Sl → Prop
  | sh {v : V} {d : D} : Rp W.T H S v d → Mem W S H v (.sh d)
  | ow {a : Addr} {vs : List V} {ds : List D} : Own W S H a vs ds → Mem W S H (.ref a) (.ow ds)
def Apt (env : En) (σ : L2.St) (a : Addr) : Prop := ∀ i ds, env.at i = .ow ds → σ[i]? ≠ some (some (.ref a))
inductive Mems (W : Wd) (S : Addr → Prop) (H : Hp) (env : En) (σ : L2.St) : List V → List Sl → Prop
  | nil : Mems W S H env σ [] []
  | cons {v : V} {m : Sl} {vs : List V} {ms : List Sl} : Mem W S H v m → (∀ a ds, m = .ow ds → v = .ref a → Apt env σ a ∧ ∀ (j : Nat) ds', ms[j]? = some (.ow ds') → vs[j]? ≠ some (.ref a)) → Mems W S H env σ vs ms → Mems W S H env σ (v :: vs) (m :: ms)
theorem Mems.length {W : Wd} {S : Addr → Prop} {H : Hp} {env : En} {σ : L2.St} : ∀ {vs : List V} {ms : List Sl}, Mems W S H env σ vs ms → vs.length = ms.length
  | _, _, .nil => rfl
  | _, _, .cons _ _ t => congrArg (· + 1) t.length
section
variable {W : Wd} {env : En} {S S' : Addr → Prop} {σ : L2.St} {H H' : Hp}
theorem Mem.kept {v : V} {m : Sl} (k : KpJ W H H') (sm : ∀ a, W.M a → S a) (h : Mem W S H v m) : Mem W S H' v m := by
  cases h with
  | sh r => exact .sh (r.kept k sm)
  | ow O => exact .ow ⟨O.s, O.s0, O.m, O.h0, k.1 _ _ O.h O.m, O.r.kept k sm⟩
theorem Mems.kept (k : KpJ W H H') (sm : ∀ a, W.M a → S a) : ∀ {vs : List V} {ms : List Sl}, Mems W S H env σ vs ms → Mems W S H' env σ vs ms
  | _, _, .nil => .nil
  | _, _, .cons h a t => .cons (h.kept k sm) a (t.kept k sm)
theorem RlS.setM (R : RlS W env S σ H) {i : Nat} {v : V} {m : Sl} (hm : Mem W S H v m) (ha : ∀ a ds, m = .ow ds → v = .ref a → Apt env σ a) : RlS W (env.set i m) S (σ.set i (some v)) H where
  s0 := R.s0
  sm := R.sm
  sn := R.sn
  h0 := R.h0
  j := R.j
  len := by rw [List.length_set, List.length_set]; exact R.len
  sl := fun k => by
    rw [at_set]
    split
    · rename_i q
      obtain ⟨rfl, hl⟩ := q
      rw [List.getElem?_set_self (by rw [← R.len]; exact hl)]
      cases hm with
      | sh r => exact ⟨v, rfl, r⟩
      | ow O => exact ⟨_, _, rfl, O⟩
    · rename_i q
      by_cases hk : k = i
      · subst hk
        have hs : σ[k]? = none := List.getElem?_eq_none (by rw [← R.len]; exact Nat.le_of_not_lt fun z => q ⟨rfl, z⟩)
        have e : (σ.set k (some v))[k]? = none := List.getElem?_eq_none (by rw [List.length_set, ← R.len]; exact Nat.le_of_not_lt fun z => q ⟨rfl, z⟩)
        rw [e, ← hs]
        exact R.sl k
      · rw [List.getElem?_set_ne (Ne.symm hk)]
        exact R.sl k
  ne := fun k l a ds es hkl h1 h2 e1 e2 => by
    have out : ∀ l, ¬ (l = i ∧ i < env.length) → ∀ b, (σ.set i (some v))[l]? = some (some (.ref b)) → σ[l]? = some (some (.ref b)) := fun l q b e => by
      by_cases hk : l = i
      · subst hk
        have z : (σ.set l (some v))[l]? = none := List.getElem?_eq_none (by rw [List.length_set, ← R.len]; exact Nat.le_of_not_lt fun z => q ⟨rfl, z⟩)
        rw [z] at e; cases e
      · rw [List.getElem?_set_ne (Ne.symm hk)] at e
        exact e
    have ins : ∀ l, (l = i ∧ i < env.length) → ∀ b, (σ.set i (some v))[l]? = some (some (.ref b)) → v = .ref b := fun l q b e => by
      obtain ⟨rfl, hl⟩ := q
      rw [List.getElem?_set_self (by rw [← R.len]; exact hl)] at e
      exact Option.some.inj (Option.some.inj e)
    rw [at_set] at h1 h2
    by_cases q1 : k = i ∧ i < env.length
    · rw [if_pos q1] at h1
      by_cases q2 : l = i ∧ i < env.length
      · exact hkl (q1.1.trans q2.1.symm)
      · rw [if_neg q2] at h2
        exact ha a ds h1 (ins k q1 a e1) l es h2 (out l q2 a e2)
    · rw [if_neg q1] at h1
      by_cases q2 : l = i ∧ i < env.length
      · rw [if_pos q2] at h2
        exact ha a es h2 (ins l q2 a e2) k ds h1 (out k q1 a e1)
      · rw [if_neg q2] at h2
        exact R.ne k l a ds es hkl h1 h2 (out k q1 a e1) (out l q2 a e2)
  hd := R.hd
def setsE : En → List Nat → List Sl → En
  | env, i :: is, m :: ms => setsE (env.set i m) is ms
  | env, _, _ => env
def setsS : L2.St → List Nat → List V → L2.St
  | σ, i :: is, v :: vs => setsS (σ.set i (some v)) is vs
  | σ, _, _ => σ
theorem Apt.set {i : Nat} {v : V} {m : Sl} {a : Addr} (h : Apt env σ a) (hl : env.length = σ.length) (hn : ∀ ds, m = .ow ds → v ≠ .ref a) : Apt (env.set i m) (σ.set i (some v)) a := fun k es h1 e1 => by
  rw [at_set] at h1
  by_cases q1 : k = i ∧ i < env.length
  · rw [if_pos q1] at h1
    obtain ⟨rfl, hl'⟩ := q1
    rw [List.getElem?_set_self (by rw [← hl]; exact hl')] at e1
    exact hn es h1 (Option.some.inj (Option.some.inj e1))
  · rw [if_neg q1] at h1
    by_cases hk : k = i
    · subst hk
      have z : (σ.set k (some v))[k]? = none := List.getElem?_eq_none (by rw [List.length_set, ← hl]; exact Nat.le_of_not_lt fun z => q1 ⟨rfl, z⟩)
      rw [z] at e1; cases e1
    · rw [List.getElem?_set_ne (Ne.symm hk)] at e1
      exact h k es h1 e1
theorem Mems.set {i : Nat} {v : V} {m : Sl} (hl : env.length = σ.length) : ∀ {vs : List V} {ms : List Sl}, (∀ a ds, m = .ow ds → v = .ref a → ∀ (j : Nat) ds', ms[j]? = some (.ow ds') → vs[j]? ≠ some (.ref a)) → Mems W S H env σ vs ms → Mems W S H (env.set i m) (σ.set i (some v)) vs ms
  | _, _, _, .nil => .nil
  | u :: vs, n :: ms, hn, .cons h a t => .cons h (fun b ds e1 e2 => ⟨(a b ds e1 e2).1.set hl fun es z1 z2 => hn b es z1 z2 0 ds (by rw [e1]; rfl) (by rw [e2]; rfl), (a b ds e1 e2).2⟩) (t.set hl fun b ds e1 e2 j ds' e3 e4 => hn b ds e1 e2 (j + 1) ds' (by simpa using e3) (by simpa using e4))
theorem RlS.sets : ∀ {is : List Nat} {vs : List V} {ms : List Sl} {env : En} {σ : L2.St}, RlS W env S σ H → Mems W S H env σ vs ms → RlS W (setsE env is ms) S (setsS σ is vs) H
  | [], _, _, _, _, R, h => by cases h <;> exact R
  | i :: is, _, _, _, _, R, .nil => R
  | i :: is, v :: vs, m :: ms, env, σ, R, .cons h a t => RlS.sets (is := is) (R.setM h fun b ds e1 e2 => (a b ds e1 e2).1) (t.set R.len fun b ds e1 e2 => (a b ds e1 e2).2)
end
abbrev WM := En → (List Sl → Prop) → Prop
def tM (m : WM) : TA := fun σ H Q => ∃ W env S, RlS W env S σ H ∧ m env fun ms => ∀ vs H' S', (∀ a, S a → S' a) → (∀ a, S' a → S a ∨ H a = none) → KpJ W H H' → RlS W env S' σ H' → Mems W S' H' env σ vs ms →
  (∀ (j : Nat) a ds, ms[j]? = some (.ow ds) → vs[j]? = some (.ref a) → H a = none) → Q vs H'
def MonoM (w : WM) : Prop := ∀ env Q Q', (∀ d, Q d → Q' d) → w env Q → w env Q'
structure PMs (X : Cx) (es : List Expr) (m : WM) : Prop where
  pa : PA X es (tM m)
  mono : MonoM m
def wMn : WM := fun _ Q => Q []
def wMs (w : WE) (m : WM) : WM := fun env Q => w env fun d => m env fun ms => Q (.sh d :: ms)
def wMf (w : WE) (m : WM) : WM := fun env Q => w env fun d => match d with
  | .list ds => m env fun ms => Q (.ow ds :: ms)
  | _ => False
section
variable {X : Cx} {e a b c : Expr} {es : List Expr} {w wa wb wc : WE} {u : WA} {m : WM} {pos : Pos}
theorem mn_ : PMs X [] wMn := ⟨pa_nil.imp fun σ H Q ⟨W, env, S, R, q⟩ => q [] H S (fun _ h => h) (fun _ h => .inl h) (.refl R.j) R .nil (fun j a ds h => by simp at h), fun _ _ _ f q => f _ q⟩
theorem ms_ (h : PV X e w) (h' : PMs X es m) (hs : starEach (e :: es) X.env = (false, eval e X.env) :: starEach es X.env := by rfl) : PMs X (e :: es) (wMs w m) := by
  refine ⟨(pa_cons h.pe h'.pa hs).imp fun σ H Q ⟨W, env, S, R, q⟩ => ?_, fun env Q Q' f q => h.mono _ _ _ (fun d q => h'.mono _ _ _ (fun ms q => f _ q) q) q⟩
  refine ⟨W, env, S, R, h.mono _ _ _ (fun d q v H1 k1 r1 => ?_) q⟩
  refine ⟨W, env, S, R.kept k1, h'.mono _ _ _ (fun ms q vs H2 S2 s1 s2 k2 R2 M2 fr => ?_) q⟩
  refine q (v :: vs) H2 S2 s1 (fun a s => (s2 a s).elim .inl fun z => .inr (k1.none_of R.j z)) (k1.trans k2) R2 (.cons (.sh ?_) (fun _ _ z => nomatch z) M2) fun j a ds e1 e2 => ?_
  · exact r1.move (d := d) fun a o e n => ⟨k2.1 a o e fun m => n (R.sm a m), fun s => (s2 a s).elim n fun z => by rw [z] at e; cases e⟩
  · cases j with
    | zero => simp at e1
    | succ j => exact k1.none_of R.j (fr j a ds (by simpa using e1) (by simpa using e2))
theorem mf_ (h : PF X e w) (h' : PMs X es m) (hs : starEach (e :: es) X.env = (false, eval e X.env) :: starEach es X.env := by rfl) : PMs X (e :: es) (wMf w m) := by
  refine ⟨(pa_cons h.pe h'.pa hs).imp fun σ H Q ⟨W, env, S, R, q⟩ => ?_, fun env Q Q' f q => h.mono _ _ _ (fun d q => ?_) q⟩
  · refine ⟨W, env, S, R, h.mono _ _ _ (fun d q p vs0 ds H1 ed k1 hn hp r1 => ?_) q⟩
    subst ed
    have np : ¬ W.M p := fun z => W.jm H R.j p z hn
    have h0 : W.H0 p = none := by
      cases e : W.H0 p with
      | none => rfl
      | some o => have := R.h0 p o e np; rw [hn] at this; cases this
    have nS : ¬ S p := fun s => R.sn p s hn
    have R1 : RlS W env (Eg.plus S p) σ H1 := R.plus hn k1 (by rw [hp]; simp)
    refine ⟨W, env, Eg.plus S p, R1, h'.mono _ _ _ (fun ms q vs H2 S2 s1 s2 k2 R2 M2 fr => ?_) q⟩
    refine q (.ref p :: vs) H2 S2 (fun a s => s1 a (.inl s)) (fun a s => (s2 a s).elim (fun z => z.elim .inl fun z => .inr (by rw [z]; exact hn)) fun z => .inr (k1.none_of R.j z)) (k1.trans k2) R2 (.cons (.ow ⟨s1 p (.inr rfl), fun s => nS (R.s0 p s), np, h0, k2.1 p _ hp np, ?_⟩) (fun a ds' _ ea => ?_) M2) fun j a ds' e1 e2 => ?_
    · exact r1.move (ds := ds) fun a o e n => ⟨k2.1 a o e fun z => n (R1.sm a z), fun s => (s2 a s).elim n fun z => by rw [z] at e; cases e⟩
    · cases ea
      refine ⟨fun i es h1 e1 => ?_, fun j es e1 e2 => ?_⟩
      · have q := R.sl i
        rw [h1] at q
        obtain ⟨b, us, e3, O⟩ := q
        rw [e1] at e3; cases e3
        rw [O.h] at hn; cases hn
      · rw [fr j p es e1 e2] at hp; cases hp
    · cases j with
      | zero =>
        have e : p = a := by simpa using e2
        rw [← e]; exact hn
      | succ j => exact k1.none_of R.j (fr j a ds' (by simpa using e1) (by simpa using e2))
  · cases d with
    | list ds => exact h'.mono _ _ _ (fun ms q => f _ q) q
    | _ => exact q.elim
def wPar (is : List Nat) (m : WM) : WS := fun env P => m env fun ms => ms.length = is.length ∧ P.nx (setsE env is ms)
theorem monoPar {is : List Nat} (h : MonoM m) : MonoS (wPar is m) := fun env P P' l q => h _ _ _ (fun ms q => ⟨q.1, l.nx _ q.2⟩) q
theorem par2_ (i j : Nat) {x y : Str} {px py pt pt2 : Pos} {kt k2 : Nat} (hN : X.N.Nodup) (h : PMs X [a, b] m) (hc : X.calm = true := by rfl) (hi : X.N[i]? = some x := by rfl) (hj : X.N[j]? = some y := by rfl) (hij : i ≠ j := by decide)
    (hx : X.env.scope.names.lookup x = some .local := by rfl) (hy : X.env.scope.names.lookup y = some .local := by rfl)
    (hw : swappedStores [.Tuple [.Name x px, .Name y py] kt pt] (.Tuple [a, b] k2 pt2) X.env = pure (some [x, y]) := by kernel_rfl)
    (hs : swapsWithSole [.Tuple [.Name x px, .Name y py] kt pt] (.Tuple [a, b] k2 pt2) pos.line X.env = pure false := by rfl) : PSv X (.Assign [.Tuple [.Name x px, .Name y py] kt pt] (.Tuple [a, b] k2 pt2) pos) (wPar [i, j] m) := by
  refine ⟨(ps_par hc hN hi hj hij hx hy h.pa hw hs).imp fun D σ H ⟨W, env, S, R, q⟩ => ?_, monoPar h.mono⟩
  refine ⟨W, env, S, R, h.mono _ _ _ (fun ms q vs H' S' s1 s2 k R' M fr => ?_) q⟩
  have hl := M.length
  rw [q.1] at hl
  match vs, hl with
  | [v1, v2], _ => exact ⟨v1, v2, rfl, q.2 _ _ _ (R'.sets (is := [i, j]) M)⟩
theorem par3_ (i j l : Nat) {x y z : Str} {px py pz pt pt2 : Pos} {kt k2 : Nat} (hN : X.N.Nodup) (h : PMs X [a, b, c] m) (hc : X.calm = true := by rfl) (hi : X.N[i]? = some x := by rfl) (hj : X.N[j]? = some y := by rfl) (hk : X.N[l]? = some z := by rfl) (hij : i ≠ j := by decide) (hil : i ≠ l := by decide) (hjl : j ≠ l := by decide)
    (hx : X.env.scope.names.lookup x = some .local := by rfl) (hy : X.env.scope.names.lookup y = some .local := by rfl) (hz : X.env.scope.names.lookup z = some .local := by rfl)
    (hw : swappedStores [.Tuple [.Name x px, .Name y py, .Name z pz] kt pt] (.Tuple [a, b, c] k2 pt2) X.env = pure (some [x, y, z]) := by kernel_rfl)
    (hs : swapsWithSole [.Tuple [.Name x px, .Name y py, .Name z pz] kt pt] (.Tuple [a, b, c] k2 pt2) pos.line X.env = pure false := by rfl) : PSv X (.Assign [.Tuple [.Name x px, .Name y py, .Name z pz] kt pt] (.Tuple [a, b, c] k2 pt2) pos) (wPar [i, j, l] m) := by
  refine ⟨(ps_par3 hc hN hi hj hk hij hil hjl hx hy hz h.pa hw hs).imp fun D σ H ⟨W, env, S, R, q⟩ => ?_, monoPar h.mono⟩
  refine ⟨W, env, S, R, h.mono _ _ _ (fun ms q vs H' S' s1 s2 k R' M fr => ?_) q⟩
  have hl := M.length
  rw [q.1] at hl
  match vs, hl with
  | [v1, v2, v3], _ => exact ⟨v1, v2, v3, rfl, q.2 _ _ _ (R'.sets (is := [i, j, l]) M)⟩
/-- by way of the tuple -/
theorem parT2_ (i j : Nat) {x y : Str} {px py pt pt2 : Pos} {kt k2 : Nat} (hN : X.N.Nodup) (h : PMs X [a, b] m) (hc : X.calm = true := by rfl) (hi : X.N[i]? = some x := by rfl) (hj : X.N[j]? = some y := by rfl)
    (hx : Loc X.env.scope x := by first | exact Or.inl rfl | exact Or.inr rfl) (hy : Loc X.env.scope y := by first | exact Or.inl rfl | exact Or.inr rfl)
    (hfx : X.fn x = true ∨ X.env.scope.names.lookup x = some .local := by first | exact .inl rfl | exact .inr rfl) (hfy : X.fn y = true ∨ X.env.scope.names.lookup y = some .local := by first | exact .inl rfl | exact .inr rfl)
    (hs : swapsWithSole [.Tuple [.Name x px, .Name y py] kt pt] (.Tuple [a, b] k2 pt2) pos.line X.env = pure false := by rfl)
    (hw : swappedStores [.Tuple [.Name x px, .Name y py] kt pt] (.Tuple [a, b] k2 pt2) X.env = pure none := by kernel_rfl) : PSv X (.Assign [.Tuple [.Name x px, .Name y py] kt pt] (.Tuple [a, b] k2 pt2) pos) (wPar [i, j] m) := by
  refine ⟨(ps_asg (pe_tup h.pa) (pg_tup hc (pgs_cons (pg_name hN hi hx hfx) (pgs_cons (pg_name hN hj hy hfy) pgs_nil rfl) rfl) rfl rfl) hs hw rfl).imp fun D σ H ⟨W, env, S, R, q⟩ => ?_, monoPar h.mono⟩
  refine ⟨W, env, S, R, h.mono _ _ _ (fun ms q vs H' S' s1 s2 k R' M fr => ?_) q⟩
  have hl := M.length
  rw [q.1] at hl
  match vs, hl with
  | [v1, v2], _ =>
    refine ⟨by show 2 ≤ sizeLine; decide, fun p hp => ?_⟩
    have k2 := KpJ.new (o := .tup [v1, v2]) R'.j hp
    exact ⟨p, [v1, v2], rfl, .inl (.inl upd_same), rfl, _, _, rfl, _, _, rfl, rfl, q.2 _ _ _ ((R'.kept k2).sets (is := [i, j]) (M.kept k2 R'.sm))⟩
theorem parT3_ (i j l : Nat) {x y z : Str} {px py pz pt pt2 : Pos} {kt k2 : Nat} (hN : X.N.Nodup) (h : PMs X [a, b, c] m) (hc : X.calm = true := by rfl) (hi : X.N[i]? = some x := by rfl) (hj : X.N[j]? = some y := by rfl) (hk : X.N[l]? = some z := by rfl)
    (hx : Loc X.env.scope x := by first | exact Or.inl rfl | exact Or.inr rfl) (hy : Loc X.env.scope y := by first | exact Or.inl rfl | exact Or.inr rfl) (hz : Loc X.env.scope z := by first | exact Or.inl rfl | exact Or.inr rfl)
    (hfx : X.fn x = true ∨ X.env.scope.names.lookup x = some .local := by first | exact .inl rfl | exact .inr rfl) (hfy : X.fn y = true ∨ X.env.scope.names.lookup y = some .local := by first | exact .inl rfl | exact .inr rfl) (hfz : X.fn z = true ∨ X.env.scope.names.lookup z = some .local := by first | exact .inl rfl | exact .inr rfl)
    (hs : swapsWithSole [.Tuple [.Name x px, .Name y py, .Name z pz] kt pt] (.Tuple [a, b, c] k2 pt2) pos.line X.env = pure false := by rfl)
    (hw : swappedStores [.Tuple [.Name x px, .Name y py, .Name z pz] kt pt] (.Tuple [a, b, c] k2 pt2) X.env = pure none := by kernel_rfl) : PSv X (.Assign [.Tuple [.Name x px, .Name y py, .Name z pz] kt pt] (.Tuple [a, b, c] k2 pt2) pos) (wPar [i, j, l] m) := by
  refine ⟨(ps_asg (pe_tup h.pa) (pg_tup hc (pgs_cons (pg_name hN hi hx hfx) (pgs_cons (pg_name hN hj hy hfy) (pgs_cons (pg_name hN hk hz hfz) pgs_nil rfl) rfl) rfl) rfl rfl) hs hw rfl).imp fun D σ H ⟨W, env, S, R, q⟩ => ?_, monoPar h.mono⟩
  refine ⟨W, env, S, R, h.mono _ _ _ (fun ms q vs H' S' s1 s2 k R' M fr => ?_) q⟩
  have hl := M.length
  rw [q.1] at hl
  match vs, hl with
  | [v1, v2, v3], _ =>
    refine ⟨by show 3 ≤ sizeLine; decide, fun p hp => ?_⟩
    have k2 := KpJ.new (o := .tup [v1, v2, v3]) R'.j hp
    exact ⟨p, [v1, v2, v3], rfl, .inl (.inl upd_same), rfl, _, _, rfl, _, _, rfl, _, _, rfl, rfl, q.2 _ _ _ ((R'.kept k2).sets (is := [i, j, l]) (M.kept k2 R'.sm))⟩
/-- target = e -/
def wAsg (w : WE) (g : WG) : WS := fun env P => w env fun d => g d env P.nx
theorem asg_ {tg : Expr} {g : WG} {sl : List Nat} (h : PV X e w) (hg : PGv X tg g sl) (hs : swapsWithSole [tg] e pos.line X.env = pure false := by rfl) (hw : swappedStores [tg] e X.env = pure none := by rfl)
    (h1 : (assignEach [tg] X.env).map (·.2) = [assign tg X.env] := by rfl) : PSv X (.Assign [tg] e pos) (wAsg w g) := by
  refine ⟨(ps_asg h.pe hg.pg hs hw h1).imp fun D σ H ⟨W, env, S, R, q⟩ => ?_, fun env P P' l q => h.mono _ _ _ (fun d q => hg.mono _ _ _ _ l.nx q) q⟩
  exact ⟨W, env, S, R, h.mono _ _ _ (fun d q v H1 k1 r1 => ⟨W, env, S, d, R.kept k1, r1, hg.mono _ _ _ _ (fun env' q σ' R' _ => q σ' _ S R') q⟩) q⟩
/-- name[i] = e -/
def stI (i : Nat) (env : En) (ix x : D) (K : En → Prop) : Prop := match env.at i, ix with
  | .ow ds, .int k => match ixN ds.length k with
    | some j => K (env.set i (.ow (ds.set j x)))
    | none => False
  | _, _ => False
theorem stI_mono {i : Nat} {env : En} {ix x : D} {K K' : En → Prop} (f : ∀ e, K e → K' e) (q : stI i env ix x K) : stI i env ix x K' := by
  unfold stI at q ⊢
  split at q
  · split at q
    · exact f _ q
    · exact q.elim
  · exact q.elim
theorem stI_rl {i : Nat} {W : Wd} {env : En} {S : Addr → Prop} {σ : L2.St} {H : Hp} {ix x : D} {K : En → Prop} {v iv : V} {p : Addr} {Q : Hp → Prop} (R : RlS W env S σ H) (ep : σ[i]? = some (some (.ref p))) (ri : Top W H S iv ix) (rv : Rp W.T H S v x) (q : stI i env ix x K)
    (f : ∀ env' H', K env' → RlS W env' S σ H' → Q H') : rSetL (.ref p) iv v H Q := by
  unfold stI at q
  split at q
  · rename_i ds k he
    split at q
    · rename_i j hj
      have sl := R.sl i
      rw [he] at sl
      obtain ⟨p', vs, ep', O⟩ := sl
      rw [ep] at ep'; cases ep'
      refine ⟨p, vs, k, j, rfl, ri.int, O.h, by rw [O.r.length]; exact hj, f _ _ q ?_⟩
      exact R.write he ep (R.lt he) (O.r.set rv j)
    · exact q.elim
  · exact q.elim
theorem RlS.own_at {i : Nat} {W : Wd} {env : En} {S : Addr → Prop} {σ : L2.St} {H : Hp} (R : RlS W env S σ H) (h : ∃ ds, env.at i = .ow ds) : ∃ p, σ[i]? = some (some (.ref p)) := by
  obtain ⟨ds, he⟩ := h
  have sl := R.sl i
  rw [he] at sl
  obtain ⟨p, vs, ep, O⟩ := sl
  exact ⟨p, ep⟩
def wStI (i : Nat) (wi w : WE) : WS := fun env P => (∃ ds, env.at i = .ow ds) ∧ w env fun x => wi env fun ix => stI i env ix x P.nx
theorem sti_ (i : Nat) {x : Str} {ie : Expr} {wi : WE} {p1 p2 : Pos} (hi : PP X ie wi) (h : PV X e w) (hN : X.N[i]? = some x := by rfl) (hv : Vis X.env.scope x := by first | exact Or.inl rfl | exact Or.inr (Or.inl rfl) | exact Or.inr (Or.inr rfl)) (hd : (x == ("__debug__" : Str)) = false := by decide)
    (hcd : (x == ("__classdict__" : Str)) = false := by decide)
    (ha : ∀ v, assign (.Subscript (.Name x p1) ie p2) X.env v = (do
      let ov ← holding [v] (eval (.Name x p1) X.env)
      let iv ← holding [v, ov] (eval ie X.env)
      standAt p2
      holding [v, ov, iv] (setItem ov iv v)
      release [v, ov, iv] []) := by intro _; rfl)
    (hs : swapsWithSole [.Subscript (.Name x p1) ie p2] e pos.line X.env = pure false := by rfl) (hw : swappedStores [.Subscript (.Name x p1) ie p2] e X.env = pure none := by rfl)
    (h1 : (assignEach [.Subscript (.Name x p1) ie p2] X.env).map (·.2) = [assign (.Subscript (.Name x p1) ie p2) X.env] := by rfl) : PSv X (.Assign [.Subscript (.Name x p1) ie p2] e pos) (wStI i wi w) := by
  refine ⟨(ps_asg h.pe (pg_sub (pe_var hN hv hd hcd) hi.pe set_list ha) hs hw h1).imp fun D σ H ⟨W, env, S, R, q⟩ => ?_, fun env P P' l q => ⟨q.1, h.mono _ _ _ (fun d q => hi.mono _ _ _ (fun ix q => stI_mono l.nx q) q) q.2⟩⟩
  obtain ⟨p, ep⟩ := R.own_at q.1
  refine ⟨W, env, S, R, h.mono _ _ _ (fun d q v H1 k1 r1 => ?_) q.2⟩
  refine ⟨.ref p, ep, W, env, S, R.kept k1, hi.mono _ _ _ (fun ix q iv H2 k2 r2 => ?_) q⟩
  exact stI_rl ((R.kept k1).kept k2) ep r2 (r1.kept k2 R.sm) q fun env' H' q' R' => q' σ H' S R'
end
end Eg

/-! E10: a number drawn. -/
namespace Eg
open PySem PySem.Spec PyProof.Rows L2
/-- a number below a bound, whatever it is -/
def pDraw : GN := fun ds Q => ∃ m : Int, ds = [.dict [(.int 0, .none)], .int m] ∧ 0 < m ∧ m < 2 ^ 63 ∧ ∀ d : Int, 0 ≤ d → d < m → Q (.int d)
theorem monoDraw : MonoN pDraw := fun ds Q Q' f ⟨m, e, h1, h2, q⟩ => ⟨m, e, h1, h2, fun d a b => f _ (q d a b)⟩
def rLenS (K : PySem.W.Frag) : List V → Hp → VK → Prop := fun xs H Q => ∃ p ys, xs = [.ref p] ∧ (SqL K H p ys ∨ SqT K H p ys) ∧ Q (.int ys.length) H
def rInt1 : List V → Hp → VK → Prop := fun xs H Q => (∃ i, xs = [.int i] ∧ Q (.int i) H) ∨ ∃ k, xs = [.bl k] ∧ Q (.int (if k then 1 else 0)) H
def tDraw (K : PySem.W.Frag) : TS :=
  tSeq (tAsg (tOp (rIxL K) (tVar 0) (tC (.int 0))) (gName 2))
  (tSeq (tWhile (tAnd (tB (tGt (tCB (rLenS K) (tCons (tVar 2) tNil)) (tC (.int 0)))) (tTest (tOp rEq (tOp (rIxL K) (tVar 2) (tC (.int 0))) (tC (.int 0))))) (tDrop (tBM K "list" rPopAt (tVar 2) (tCons (tC (.int 0)) tNil))))
  (tSeq (tIfS (tB (tGt (tCB (rLenS K) (tCons (tVar 2) tNil)) (tC (.int 0))))
    (tSeq (tAsg (tOp (rIxL K) (tVar 2) (tC (.int 0))) (gName 3))
      (tSeq (tAsg (tOp (rI DivOk fun i j => .int (i.fdiv j)) (tVar 3) (tVar 1)) (L2.gSub (tVar 2) (tC (.int 0)) rSetL))
        (tRet (tOp (rI (fun _ j => j ≠ 0) fun i j => .int (i.fmod j)) (tCB rInt1 (tCons (tVar 3) tNil)) (tVar 1))))) tNext)
  (tSeq (tAsg (tOp (rI (fun _ j => j ≠ 0) fun i j => .int (i.fmod j)) (tCB rInt1 (tCons (tOp (rI0 fun i j => .int (i + j)) (tOp (rI Eg.MulOk fun i j => .int (i * j)) (tOp (rIxL K) (tVar 0) (tC (.int 1))) (tC (.int 48271))) (tC (.int 12345))) tNil)) (tC (.int 2147483647))) (gName 4))
  (tSeq (tAsg (tVar 4) (L2.gSub (tVar 0) (tC (.int 1)) rSetL))
    (tRet (tOp (rI (fun _ j => j ≠ 0) fun i j => .int (i.fmod j)) (tCB rInt1 (tCons (tOp (rI DivOk fun i j => .int (i.fdiv j)) (tVar 4) (tC (.int 64))) tNil)) (tVar 1)))))))
theorem KpJ.wr {W : Wd} {H : Hp} {x : Addr} {o : HO} (m : W.M x) (j : W.J (upd H x o)) : KpJ W H (upd H x o) := ⟨fun a q e n => by
  rw [upd_ne (fun z => n (by rw [z]; exact m))]; exact e, j⟩
theorem draw_pure {K : PySem.W.Frag} {vs : List V} {H : Hp} {Q : VK} {E : XK} (h : spOf pDraw vs H Q E) : tDraw K { nx := fun _ H' => Q .non H', rt := Q } (L2.start ["state", "many", "cells", "value", "mixed"] vs) H := by
  obtain ⟨W, S, ds, c0, r, m, rfl, hm, hm2, hQ⟩ := h
  cases r with
  | cons r r' =>
    cases r' with
    | cons r2 r3 =>
      cases r3
      cases r2
      cases r with
      | tok _ nt =>
        obtain ⟨a, c, ea, hac, ma, mc, hJ⟩ := W.dr.one nt
        have hm0 : m ≠ 0 := by omega
        have hl : m.natAbs.log2 < 9000 := by
          have h1 : m.natAbs < 2 ^ 63 := by omega
          have h2 := (Nat.log2_lt (n := m.natAbs) (k := 63) (by omega)).mpr h1
          omega
        have fm : ∀ x : Int, 0 ≤ x.fmod m ∧ x.fmod m < m := fun x => ⟨Int.fmod_nonneg_of_pos x hm, Int.fmod_lt_of_pos x hm⟩
        rw [ea]
        obtain ⟨cells, s, h1, h2, s1, s2⟩ := (hJ H).mp c0.j
        refine ⟨.ref a, rfl, a, _, 0, .ref c, rfl, rfl, .inl (.inl h1), rfl, ?_⟩
        have ix0 : ∀ n : Nat, ixN (n + 1) 0 = some 0 := fun n => by
          unfold ixN
          rw [if_pos (by omega), if_pos (by omega)]; rfl
        have at0 : ∀ (x : V) (l : List V), atI (x :: l) 0 = some x := fun x l => by
          unfold atI
          rw [show (x :: l).length = l.length + 1 from rfl, ix0]; rfl
        have ret : ∀ (x : Int) (H' : Hp), KpJ W H H' → Q (.int (x.fmod m)) H' := fun x H' k => hQ _ (fm x).1 (fm x).2 _ H' k (.int _)
        have after : ∀ (H' : Hp) (cells : List Int) (s : Int), KpJ W H H' → H' a = some (.lst [.ref c, .int s]) → H' c = some (.lst (cells.map V.int)) → 0 ≤ s → s < 2147483648 →
            (tSeq (tIfS (tB (tGt (tCB (rLenS K) (tCons (tVar 2) tNil)) (tC (.int 0))))
    (tSeq (tAsg (tOp (rIxL K) (tVar 2) (tC (.int 0))) (gName 3))
      (tSeq (tAsg (tOp (rI DivOk fun i j => .int (i.fdiv j)) (tVar 3) (tVar 1)) (L2.gSub (tVar 2) (tC (.int 0)) rSetL))
        (tRet (tOp (rI (fun _ j => j ≠ 0) fun i j => .int (i.fmod j)) (tCB rInt1 (tCons (tVar 3) tNil)) (tVar 1))))) tNext)
  (tSeq (tAsg (tOp (rI (fun _ j => j ≠ 0) fun i j => .int (i.fmod j)) (tCB rInt1 (tCons (tOp (rI0 fun i j => .int (i + j)) (tOp (rI Eg.MulOk fun i j => .int (i * j)) (tOp (rIxL K) (tVar 0) (tC (.int 1))) (tC (.int 48271))) (tC (.int 12345))) tNil)) (tC (.int 2147483647))) (gName 4))
  (tSeq (tAsg (tVar 4) (L2.gSub (tVar 0) (tC (.int 1)) rSetL))
    (tRet (tOp (rI (fun _ j => j ≠ 0) fun i j => .int (i.fmod j)) (tCB rInt1 (tCons (tOp (rI DivOk fun i j => .int (i.fdiv j)) (tVar 4) (tC (.int 64))) tNil)) (tVar 1)))))) { nx := fun _ H' => Q .non H', rt := Q } [some (.ref a), some (.int m), some (.ref c), none, none] H' := by
          intro H' cells s k h1 h2 s1 s2
          refine ⟨.ref c, rfl, c, _, rfl, .inl (.inl (.inl h2)), _, _, rfl, rfl, _, rfl, ?_⟩
          cases cells with
          | nil =>
            refine ⟨.ref a, rfl, a, _, 1, .int s, rfl, rfl, .inl (.inl h1), rfl, s, 48271, rfl, rfl, .inl (.inr (by decide)), _, _, rfl, rfl, .inl ⟨_, rfl, ?_⟩⟩
            refine ⟨_, _, rfl, rfl, show (2147483647 : Int) ≠ 0 by decide, ?_⟩
            have f1 := Int.fmod_nonneg_of_pos (s * 48271 + 12345) (show (0 : Int) < 2147483647 by decide)
            have f2 := Int.fmod_lt_of_pos (s * 48271 + 12345) (show (0 : Int) < 2147483647 by decide)
            refine ⟨_, rfl, .ref a, rfl, a, [.ref c, .int s], 1, 1, rfl, rfl, h1, rfl, ?_⟩
            have k2 : KpJ W H (upd H' a (.lst [.ref c, .int ((s * 48271 + 12345).fmod 2147483647)])) := k.trans (.wr ma ((hJ _).mpr ⟨[], _, upd_same, by rw [upd_ne (Ne.symm hac)]; exact h2, f1, by omega⟩))
            refine ⟨_, rfl, _, _, rfl, rfl, ⟨by decide, by decide⟩, .inl ⟨_, rfl, _, rfl, _, _, rfl, rfl, hm0, ret _ _ k2⟩⟩
          | cons x cells =>
            have hd : decide ((0 : Int) < (((x :: cells).map V.int).length : Nat)) = true := by simp
            show if decide ((0 : Int) < (((x :: cells).map V.int).length : Nat)) = true then _ else _
            rw [hd]
            refine ⟨.ref c, rfl, c, _, 0, .int x, rfl, rfl, .inl (.inl h2), at0 _ _, .int x, rfl, .int m, rfl, _, _, rfl, rfl, ⟨hm0, hl⟩, .ref c, rfl, c, _, 0, 0, rfl, rfl, h2, by rw [List.map_cons, List.length_cons]; exact ix0 _, ?_⟩
            have k2 : KpJ W H (upd H' c (.lst (((x :: cells).map V.int).set 0 (.int (x.fdiv m))))) := k.trans (.wr mc ((hJ _).mpr ⟨x.fdiv m :: cells, s, by rw [upd_ne hac]; exact h1, upd_same, s1, s2⟩))
            exact ⟨.int x, rfl, .inl ⟨_, rfl, .int m, rfl, _, _, rfl, rfl, hm0, ret _ _ k2⟩⟩
        refine ⟨fun n σ H' => σ = [some (.ref a), some (.int m), some (.ref c), none, none] ∧ KpJ W H H' ∧ ∃ cells s, H' a = some (.lst [.ref c, .int s]) ∧ H' c = some (.lst (cells.map V.int)) ∧ 0 ≤ s ∧ s < 2147483648 ∧ n = cells.length, ⟨cells.length, rfl, .refl c0.j, cells, s, h1, h2, s1, s2, rfl⟩, ?_⟩
        rintro n σ H' ⟨rfl, k, cells, s, h1, h2, s1, s2, rfl⟩
        refine ⟨.ref c, rfl, c, _, rfl, .inl (.inl (.inl h2)), ?_⟩
        refine ⟨_, _, rfl, rfl, _, rfl, ?_⟩
        cases cells with
        | nil => exact after H' [] s k h1 h2 s1 s2
        | cons x cells =>
          have hd : decide ((0 : Int) < (((x :: cells).map V.int).length : Nat)) = true := by simp
          show if decide ((0 : Int) < (((x :: cells).map V.int).length : Nat)) = true then _ else _
          rw [hd]
          refine ⟨.ref c, rfl, c, _, 0, .int x, rfl, rfl, .inl (.inl h2), at0 _ _, rfl, decide (V.int x = V.int 0), rfl, ?_⟩
          by_cases hx : x = 0
          · subst hx
            refine ⟨fun σ H'' => σ = [some (.ref a), some (.int m), some (.ref c), none, none] ∧ KpJ W H H'' ∧ H'' a = some (.lst [.ref c, .int s]) ∧ H'' c = some (.lst (cells.map V.int)), fun σ' H'' ⟨e, k', q1, q2⟩ => ⟨cells.length, Nat.lt_succ_self _, e, k', cells, s, q1, q2, s1, s2, rfl⟩, ?_⟩
            refine ⟨.ref c, rfl, .inl ⟨rfl, _, .inl (.inl h2)⟩, c, _, 0, 0, .int 0, rfl, rfl, h2, by decide, by decide, by rw [List.map_cons, List.length_cons]; exact (ixN_seq (ix0 _)).1, rfl, rfl, ?_, by rw [upd_ne hac]; exact h1, upd_same⟩
            exact k.trans (.wr mc ((hJ _).mpr ⟨cells, s, by rw [upd_ne hac]; exact h1, upd_same, s1, s2⟩))
          · have e : decide (V.int x = V.int 0) = false := decide_eq_false fun z => hx (V.int.inj z)
            rw [e]
            exact after H' (x :: cells) s k h1 h2 s1 s2
end Eg

/-! E11: the state that a law draws from; a law as a whole. -/
namespace Eg
open PySem PySem.Spec PyProof.Rows L2
theorem sq_new {K : PySem.W.Frag} {H : Hp} {a p : Addr} {xs : List V} {o : HO} (h : SqL K H a xs) (hp : H p = none) : SqL K (upd H p o) a xs := by
  rcases h with (h | ⟨q, h⟩) | h
  · exact .inl (.inl (same_new hp a _ h))
  · exact .inl (.inr ⟨q, same_new hp a _ h⟩)
  · exact .inr h
theorem sq_other {K : PySem.W.Frag} {H : Hp} {a p : Addr} {xs ys : List V} {o : HO} (h : SqL K H a xs) (hp : H p = some (.lst ys)) (hn : a ≠ p) : SqL K (upd H p o) a xs := by
  rcases h with (h | ⟨q, h⟩) | h
  · exact .inl (.inl (by rw [upd_ne hn]; exact h))
  · exact .inl (.inr ⟨q, by rw [upd_ne hn]; exact h⟩)
  · exact .inr h
/-- the state made of a script -/
def spState (K : PySem.W.Frag) : Sp := fun vs H Q _ => ∃ (a : Addr) (ns : List Int), vs = [.ref a] ∧ SqL K H a (ns.map V.int) ∧ ns.length ≤ 63 ∧
  ∀ p c H', (∃ (cells : List Int) (m : Int), H' p = some (.lst [.ref c, .int m]) ∧ H' c = some (.lst (cells.map V.int)) ∧ 0 ≤ m ∧ m < 2147483648) → p ≠ c → Q (.ref p) H'
def tState (K : PySem.W.Frag) : TS :=
  tSeq (tAsg (tC (.int 7)) (gName 1))
  (tSeq (tFor (iList K (tVar 0)) (gName 2) (tAsg (tOp (rI (fun _ j => j ≠ 0) fun i j => .int (i.fmod j)) (tCB rInt1 (tCons (tOp (rI0 fun i j => .int (i + j)) (tOp (rI Eg.MulOk fun i j => .int (i * j)) (tVar 1) (tC (.int 31))) (tVar 2)) tNil)) (tC (.int 1000003))) (gName 1)))
  (tRet (tLst (tCons (tLc (iList K (tVar 0)) (gName 2) tYes (tCB (fun xs H Q => ∃ i, xs = [.int i] ∧ Q (.int (if i < 0 then -i else i)) H) (tCons (tVar 2) tNil)) [2]) (tCons (tOp (rI0 fun i j => .int (i + j)) (tVar 1) (tC (.int 1))) tNil)))))
theorem state_pure {K : PySem.W.Frag} {vs : List V} {H : Hp} {Q : VK} {E : XK} (h : spState K vs H Q E) : tState K { nx := fun _ H' => Q .non H', rt := Q } (L2.start ["script", "seed", "cell"] vs) H := by
  obtain ⟨a, ns, rfl, hS, hl, hQ⟩ := h
  refine ⟨_, rfl, a, rfl, ⟨_, hS⟩, ?_⟩
  refine for_list (xs := ns.map V.int) (fun i σ H' => H' = H ∧ ∃ s c, σ = [some (.ref a), some (.int s), c] ∧ 0 ≤ s ∧ s < 1000003) ⟨rfl, 7, none, rfl, by decide, by decide⟩ (fun i σ H' _ q => by rw [q.1]; exact hS) ?_ ?_
  · rintro i x σ H' hx ⟨rfl, s, c, rfl, s1, s2⟩
    rw [List.getElem?_map] at hx
    cases hn : ns[i]? with
    | none => rw [hn] at hx; cases hx
    | some n =>
      rw [hn] at hx
      have e : V.int n = x := Option.some.inj hx
      subst e
      have f1 := Int.fmod_nonneg_of_pos (s * 31 + n) (show (0 : Int) < 1000003 by decide)
      have f2 := Int.fmod_lt_of_pos (s * 31 + n) (show (0 : Int) < 1000003 by decide)
      exact ⟨.int s, rfl, s, 31, rfl, rfl, .inl (.inr (by decide)), .int n, rfl, _, _, rfl, rfl, .inl ⟨_, rfl, _, _, rfl, rfl, show (1000003 : Int) ≠ 0 by decide, rfl, _, _, rfl, f1, f2⟩⟩
  · rintro σ H' ⟨rfl, s, c, rfl, s1, s2⟩
    refine ⟨_, rfl, a, rfl, ⟨_, hS⟩, fun p hp => ?_⟩
    refine lc_list (xs := ns.map V.int) (fun i H1 => SqL K H1 a (ns.map V.int) ∧ (∀ b o, H' b = some o → H1 b = some o) ∧ ∃ cells : List Int, cells.length = i ∧ H1 p = some (.lst (cells.map V.int))) ⟨sq_new hS hp, fun b o e => same_new hp b o e, [], rfl, upd_same⟩ (fun i H1 _ q => q.1) ?_ ?_
    · rintro i x H1 hx ⟨q1, q2, cells, q3, q4⟩
      rw [List.getElem?_map] at hx
      cases hn : ns[i]? with
      | none => rw [hn] at hx; cases hx
      | some n =>
        rw [hn] at hx
        have e : V.int n = x := Option.some.inj hx
        subst e
        have hi : i < ns.length := (List.getElem?_eq_some_iff.mp hn).1
        have hsz : (cells.map V.int).length < sizeLine := by
          rw [List.length_map, q3]
          have : (63 : Nat) < sizeLine := by decide
          omega
        refine ⟨rfl, ?_⟩
        refine ⟨.int n, rfl, n, rfl, cells.map V.int, q4, hsz, ?_, fun b o e => ?_, cells ++ [if n < 0 then -n else n], by simp [q3], ?_⟩
        · by_cases hap : a = p
          · subst hap
            exact .inr (by
              rcases hS with (h | ⟨q, h⟩) | h
              · rw [hp] at h; cases h
              · rw [hp] at h; cases h
              · exact h)
          · exact sq_other q1 q4 hap
        · rw [upd_ne (ne_of_none e hp)]; exact q2 b o e
        · rw [upd_same]; simp
    · rintro H1 ⟨q1, q2, cells, q3, q4⟩
      refine ⟨.int s, rfl, _, _, rfl, rfl, by show 2 ≤ sizeLine; decide, fun q hq => ?_⟩
      have hpq : q ≠ p := fun z => by subst z; rw [q4] at hq; cases hq
      exact hQ q p _ ⟨cells, s + 1, upd_same, by rw [upd_ne (Ne.symm hpq)]; exact q4, by omega, by omega⟩ hpq
/-- a law's promise -/
def spLaw (K : PySem.W.Frag) : Sp := fun vs H Q _ => ∃ (a : Addr) (ns : List Int), vs = [.ref a] ∧ SqL K H a (ns.map V.int) ∧ ns.length ≤ 63 ∧ ∀ H', Q (.bl true) H'
def tok0 : D := .dict [(.int 0, .none)]
def lawEnv (n : Nat) : En := .un :: .sh tok0 :: List.replicate (n - 2) .un
def yes : Po := ⟨fun _ => False, fun d => d = .bool true, fun _ => False, fun _ => False⟩
def drawW (p c : Addr) (hpc : p ≠ c) : Wd where
  T := fun k => if k = 0 then .ref p else .non
  M := fun x => x = p ∨ x = c
  J := St1 p c
  dr := ⟨fun _ => ⟨p, c, rfl, hpc, .inl rfl, .inr rfl, fun _ => .rfl⟩, fun h => absurd rfl h⟩
  jm := fun H ⟨cells, m, h1, h2, _, _⟩ x hx => by
    rcases hx with rfl | rfl
    · rw [h1]; simp
    · rw [h2]; simp
  jk := fun H H' e ⟨cells, m, h1, h2, h3, h4⟩ => ⟨cells, m, (e p (.inl rfl)).symm.trans h1, (e c (.inr rfl)).symm.trans h2, h3, h4⟩
  H0 := fun _ => none
  S0 := fun x => x = p ∨ x = c
  hold := []
theorem law_env {n : Nat} {a : Addr} {p c : Addr} {hpc : p ≠ c} {H : Hp} (j : St1 p c H) (hn : 2 ≤ n) : RlS (drawW p c hpc) (lawEnv n) (fun x => x = p ∨ x = c) (some (V.ref a) :: some (V.ref p) :: List.replicate (n - 2) none) H where
  s0 := fun _ h => h
  sm := fun _ h => h
  sn := (drawW p c hpc).jm H j
  h0 := fun _ _ h _ => nomatch h
  j := j
  len := by simp [lawEnv]
  sl := fun i => by
    unfold lawEnv En.at
    match i with
    | 0 => trivial
    | 1 => exact ⟨.ref p, rfl, Rp.tok (T := (drawW p c hpc).T) 0 (fun z => nomatch z)⟩
    | i + 2 =>
      have e : (Sl.un :: Sl.sh tok0 :: List.replicate (n - 2) Sl.un).getD (i + 2) Sl.un = Sl.un := by
        rw [List.getD_eq_getElem?_getD]
        show ((List.replicate (n - 2) Sl.un)[i]?).getD Sl.un = Sl.un
        rw [List.getElem?_replicate]
        split <;> rfl
      rw [e]; trivial
  ne := fun i k b ds es _ h1 _ _ _ => by
    unfold lawEnv En.at at h1
    match i with
    | 0 => cases h1
    | 1 => cases h1
    | i + 2 =>
      have e : (Sl.un :: Sl.sh tok0 :: List.replicate (n - 2) Sl.un).getD (i + 2) Sl.un = Sl.un := by
        rw [List.getD_eq_getElem?_getD]
        show ((List.replicate (n - 2) Sl.un)[i]?).getD Sl.un = Sl.un
        rw [List.getElem?_replicate]
        split <;> rfl
      rw [e] at h1; cases h1
  hd := fun q hq => nomatch hq
/-- THE RULE for a law that draws from its state -/
theorem law_ok1 {P : Program} {w : World} {K : PySem.W.Frag} {mg : Str → Option Value} {base : Heap} {x qual : Str} {params : Arguments} {st0 : Stmt} {rest : List Stmt} {scope : Scope} {f : Addr} {fd : FuncData} {N : List Str} {k : Nat} {w0 : WS}
    (F : FunD K x qual params (st0 :: rest) scope [] [] f fd) (Sc : FnScope N ["script"] scope) (hn : 2 ≤ N.length)
    (hst : ∀ (cdv : Value) (A : Around) (outer : List Env) (s : Shared) (H : Hp) (E : XK), Room k (A.deeper (envOfC qual scope s.heap.objs.size f cdv)) →
      PS (cxOf CX0 P w K mg base N qual scope f cdv A outer s H E).nox st0 (tAsg (tCall (spState K) [] E0 (tCons (tVar 0) tNil)) (gName 1)))
    (hre : ∀ (cdv : Value) (A : Around) (outer : List Env) (s : Shared) (H : Hp) (E : XK), Room k (A.deeper (envOfC qual scope s.heap.objs.size f cdv)) →
      PSsv (cxOf CX0 P w K mg base N qual scope f cdv A outer s H E).nox rest w0)
    (plain : w0 (lawEnv N.length) yes) : FnOk P w K mg base CX0 (k + 1) f fd ["script"] (spLaw K) := by
  refine F.ok Sc (fun vs H Q E h => ?_) (fun cdv A outer s H vs Q E hr h => ⟨_, PSs.nox (pss_cons (hst cdv A outer s H E hr) (hre cdv A outer s H E hr).ps), ?_⟩)
  · obtain ⟨a, ns, rfl, _⟩ := h
    rfl
  · have m := (hre cdv A outer s H E hr).mono
    obtain ⟨a, ns, rfl, hS, hl, hQ⟩ := h
    have e : L2.start N [V.ref a] = some (V.ref a) :: none :: List.replicate (N.length - 2) none := by
      unfold L2.start
      show some (V.ref a) :: List.replicate (N.length - 1) none = _
      have : N.length - 1 = (N.length - 2) + 1 := by omega
      rw [this, List.replicate_succ]
    rw [e]
    refine ⟨.ref a, rfl, a, ns, rfl, hS, hl, fun p c H' j hpc => ?_⟩
    show tS w0 { nx := fun _ H' => Q .non H', rt := Q } (some (V.ref a) :: some (V.ref p) :: List.replicate (N.length - 2) none) H'
    refine ⟨drawW p c hpc, lawEnv N.length, _, law_env j hn, m.ap plain ⟨fun _ z => z.elim, fun d hd v H'' rt => ?_, fun _ z => z.elim, fun _ z => z.elim⟩⟩
    subst hd
    have r := rt.r
    cases r
    exact hQ H''
end Eg

/-! E12: how the terms read, for plain laws. -/
namespace Eg
open PySem PySem.Spec PyProof.Rows L2
section
variable {env : En} {Q : D → Prop} {QL : List D → Prop} {QB : Bool → Prop} {QO : Option Int → Prop} {QM : List Sl → Prop} {P : Po} {w wa wb wc : WE} {u : WA} {m : WM} {s t : WS} {g : WG} {gs : WGs} {c c' : WT} {i : Nat} {d x y : D} {ds es : List D} {QE : En → Prop}
@[simp] theorem at_0 {a : Sl} {e : En} : En.at (a :: e) 0 = a := id rfl
@[simp] theorem at_S {a : Sl} {e : En} {n : Nat} : En.at (a :: e) (n + 1) = En.at e n := id rfl
@[simp] theorem s_wV : wV i env Q = match env.at i with | .sh d => Q d | _ => False := id rfl
@[simp] theorem s_wO : wO i env Q = match env.at i with | .ow ds => Q (.list ds) | _ => False := id rfl
@[simp] theorem s_wC : wC d env Q = Q d := id rfl
@[simp] theorem s_wB {g : G2} : wB g wa wb env Q = wa env fun x => wb env fun y => g x y Q := id rfl
@[simp] theorem s_wU {g : G1} : wU g wa env Q = wa env fun x => g x Q := id rfl
@[simp] theorem s_wCl {g : GN} : wCl g u env Q = u env fun ds => g ds Q := id rfl
@[simp] theorem s_wN : wN env QL = QL [] := id rfl
@[simp] theorem s_wK : wK w u env QL = w env fun d => u env fun ds => QL (d :: ds) := id rfl
@[simp] theorem s_wTup : wTup u env Q = u env fun ds => ds.length ≤ sizeLine ∧ Q (.tuple ds) := id rfl
@[simp] theorem s_wLst : wLst u env Q = u env fun ds => ds.length ≤ sizeLine ∧ Q (.list ds) := id rfl
@[simp] theorem s_wT : wT w env QB = w env fun d => gTru d QB := id rfl
@[simp] theorem s_gTru : gTru d QB = (isD d = true ∧ QB (tru d)) := id rfl
@[simp] theorem s_wTB : wTB w env QB = w env fun d => gBool d QB := id rfl
@[simp] theorem s_gBool {b : Bool} : gBool (.bool b) QB = QB b := id rfl
@[simp] theorem s_wNotT : wNotT c env QB = c env fun b => QB (!b) := id rfl
@[simp] theorem s_wAndT : wAndT c c' env QB = c env fun b => if b = true then c' env QB else QB false := id rfl
@[simp] theorem s_wOrT : wOrT c c' env QB = c env fun b => if b = true then QB true else c' env QB := id rfl
@[simp] theorem s_wAndV : wAndV wa wb env Q = wa env fun x => gTru x fun b => if b = true then wb env Q else Q x := id rfl
@[simp] theorem s_wOrV : wOrV wa wb env Q = wa env fun x => gTru x fun b => if b = true then Q x else wb env Q := id rfl
@[simp] theorem s_wNotV : wNotV wa env Q = wa env fun x => gTru x fun b => Q (.bool (!b)) := id rfl
@[simp] theorem s_wIf : wIf c wa wb env Q = c env fun b => if b = true then wa env Q else wb env Q := id rfl
@[simp] theorem s_wCh {g g' : G2} : wCh g g' wa wb wc env Q = wa env fun x => wb env fun y => g x y fun z => match z with
  | .bool k => if k = true then wc env fun w => g' y w Q else Q (.bool false)
  | _ => False := id rfl
@[simp] theorem s_wNo : wNo env QO = QO none := id rfl
@[simp] theorem s_wSo : wSo w env QO = w env fun d => match d with | .int i => QO (some i) | _ => False := id rfl
@[simp] theorem s_wSl {lo hi : WO} : wSl w lo hi env Q = w env fun d => lo env fun l => hi env fun h => match d with
  | .list ds => Q (.list (cutD ds l h))
  | .tuple ds => Q (.tuple (cutD ds l h))
  | _ => False := id rfl
@[simp] theorem s_wSlF {lo hi : WO} : wSlF w lo hi env Q = w env fun d => lo env fun l => hi env fun h => match d with
  | .list ds => Q (.list (cutD ds l h))
  | _ => False := id rfl
@[simp] theorem s_wIt : wIt w env QL = w env fun d => match d with
  | .list ds => ds.length ≤ sizeLine → QL ds
  | .tuple ds => ds.length ≤ sizeLine → QL ds
  | _ => False := id rfl
@[simp] theorem s_wRng1 : wRng1 u env QL = u env fun ds => match ds with
  | [.int j] => (-(2 ^ 62) ≤ j ∧ j < 2 ^ 62) ∧ QL (rangeD 0 j.toNat)
  | _ => False := id rfl
@[simp] theorem s_wRng2 : wRng2 u env QL = u env fun ds => match ds with
  | [.int i, .int j] => (-(2 ^ 62) ≤ i ∧ i < 2 ^ 62 ∧ -(2 ^ 62) ≤ j ∧ j < 2 ^ 62) ∧ QL (rangeD i (j - i).toNat)
  | _ => False := id rfl
@[simp] theorem s_wGn : wGn i d env QE = QE (env.set i (.sh d)) := id rfl
@[simp] theorem s_wGnil : wGnil ds env QE = (ds = [] ∧ QE env) := id rfl
@[simp] theorem s_wGcons : wGcons g gs (d :: ds) env QE = g d env fun env' => gs ds env' QE := id rfl
@[simp] theorem s_wGt {n : Nat} : wGt n gs (.tuple ds) env QE = (ds.length = n ∧ gs ds env QE) := id rfl
@[simp] theorem s_wGtL {n : Nat} : wGt n gs (.list ds) env QE = False := id rfl
@[simp] theorem s_wYes : wYes env QB = QB true := id rfl
@[simp] theorem s_wNx : wNx env P = P.nx env := id rfl
@[simp] theorem s_wBk : wBk env P = P.bk env := id rfl
@[simp] theorem s_wCt : wCt env P = P.ct env := id rfl
@[simp] theorem s_wSeq : wSeq s t env P = s env { P with nx := fun env' => t env' P } := id rfl
@[simp] theorem s_wRet : wRet w env P = w env P.rt := id rfl
@[simp] theorem s_wDrop : wDrop w env P = w env fun _ => P.nx env := id rfl
@[simp] theorem s_wSh : wSh i s env P = match env.at i with | .ow ds => s (env.set i (.sh (.list ds))) P | _ => False := id rfl
@[simp] theorem s_wSet : wSet i w env P = w env fun d => P.nx (env.set i (.sh d)) := id rfl
@[simp] theorem s_wOwn : wOwn i w env P = w env fun d => match d with | .list ds => P.nx (env.set i (.ow ds)) | _ => False := id rfl
@[simp] theorem s_wIfS : wIfS c s t env P = c env fun b => if b = true then s env P else t env P := id rfl
@[simp] theorem s_wFor {wi : WI} : wFor wi g s env P = wi env fun ds => forGo g s ds env P := id rfl
@[simp] theorem s_wApp : wApp i w env P = match env.at i with | .ow ds => w env fun d => ds.length < sizeLine ∧ P.nx (env.set i (.ow (ds ++ [d]))) | _ => False := id rfl
@[simp] theorem s_wLc {vs : List Nat} {wi : WI} : wLc vs wi g c w env Q = wi env fun ds => lcGo g c w (wipeE env vs) ds [] fun acc => Q (.list acc) := id rfl
@[simp] theorem s_wLc2 {vs vs1 : List Nat} {wi wi1 : WI} {g1 : WG} {c1 : WT} : wLc2 vs vs1 wi g c wi1 g1 c1 w env Q = wi env fun ds => lc2Go g c vs1 wi1 g1 c1 w (wipeE env vs) ds [] fun acc => Q (.list acc) := id rfl
@[simp] theorem s_wipeN : wipeE env [] = env := id rfl
@[simp] theorem s_wipeC {v : Nat} {vs : List Nat} : wipeE env (v :: vs) = (wipeE env vs).set v .un := id rfl
@[simp] theorem s_wMn : wMn env QM = QM [] := id rfl
@[simp] theorem s_wMs : wMs w m env QM = w env fun d => m env fun ms => QM (.sh d :: ms) := id rfl
@[simp] theorem s_wMf : wMf w m env QM = w env fun d => match d with | .list ds => m env fun ms => QM (.ow ds :: ms) | _ => False := id rfl
@[simp] theorem s_wPar {is : List Nat} : wPar is m env P = m env fun ms => ms.length = is.length ∧ P.nx (setsE env is ms) := id rfl
@[simp] theorem s_setsE {a : Sl} {is : List Nat} {ms : List Sl} : setsE env (i :: is) (a :: ms) = setsE (env.set i a) is ms := id rfl
@[simp] theorem s_setsN {ms : List Sl} : setsE env [] ms = env := by cases ms <;> rfl
@[simp] theorem s_wAsg : wAsg w g env P = w env fun d => g d env P.nx := id rfl
@[simp] theorem s_wStI {wi : WE} : wStI i wi w env P = ((∃ ds, env.at i = .ow ds) ∧ w env fun x => wi env fun ix => stI i env ix x P.nx) := id rfl
@[simp] theorem s_gI {C : Int → Int → Prop} {f : Int → Int → D} {a b : Int} : gI C f (.int a) (.int b) Q = (C a b ∧ Q (f a b)) := id rfl
@[simp] theorem s_gAddI {a b : Int} : gAdd (.int a) (.int b) Q = Q (.int (a + b)) := id rfl
@[simp] theorem s_gAddL {a b : List D} : gAdd (.list a) (.list b) Q = (a.length + b.length ≤ sizeLine ∧ Q (.list (a ++ b))) := id rfl
@[simp] theorem s_gAddT {a b : List D} : gAdd (.tuple a) (.tuple b) Q = (a.length + b.length ≤ sizeLine ∧ Q (.tuple (a ++ b))) := id rfl
@[simp] theorem s_gAddB {a : Int} {b : Bool} : gAdd (.int a) (.bool b) Q = Q (.int (a + b2i b)) := id rfl
@[simp] theorem s_gCat {a b : List D} : gCat (.list a) (.list b) Q = (a.length + b.length ≤ sizeLine ∧ Q (.list (a ++ b))) := id rfl
@[simp] theorem s_gMul {a b : Int} : gMul (.int a) (.int b) Q = (MulOk a b ∧ Q (.int (a * b))) := id rfl
@[simp] theorem s_gNeg {a : Int} : gNeg (.int a) Q = Q (.int (-a)) := id rfl
@[simp] theorem s_gEq : gEq x y Q = ((SeqAt.shaped x = true ∧ SeqAt.shaped y = true) ∧ Q (.bool (PyData.eqv x y))) := id rfl
@[simp] theorem s_gNe : gNe x y Q = ((SeqAt.shaped x = true ∧ SeqAt.shaped y = true) ∧ Q (.bool (!PyData.eqv x y))) := id rfl
@[simp] theorem s_gInL {neg : Bool} : gInB neg x (.list ds) Q = ((SeqAt.shaped x = true ∧ PyData.canLayAll0 ds = true) ∧ Q (.bool (if neg = true then !inD x ds else inD x ds))) := id rfl
@[simp] theorem s_gInT {neg : Bool} : gInB neg x (.tuple ds) Q = ((SeqAt.shaped x = true ∧ PyData.canLayAll0 ds = true) ∧ Q (.bool (if neg = true then !inD x ds else inD x ds))) := id rfl
@[simp] theorem s_gIxL {a : Int} : gIx (.list ds) (.int a) Q = match atI ds a with | some d => Q d | none => False := id rfl
@[simp] theorem s_gIxT {a : Int} : gIx (.tuple ds) (.int a) Q = match atI ds a with | some d => Q d | none => False := id rfl
@[simp] theorem s_gIsB {a b : Bool} : gIs (.bool a) (.bool b) Q = Q (.bool (decide (a = b))) := id rfl
@[simp] theorem s_gIsNotB {a b : Bool} : gIsNot (.bool a) (.bool b) Q = Q (.bool (!decide (a = b))) := id rfl
@[simp] theorem s_gLenL : gLen [.list ds] Q = Q (.int ds.length) := id rfl
@[simp] theorem s_gLenT : gLen [.tuple ds] Q = Q (.int ds.length) := id rfl
@[simp] theorem s_gListL : gListOf [.list ds] Q = Q (.list ds) := id rfl
@[simp] theorem s_gListT : gListOf [.tuple ds] Q = Q (.list ds) := id rfl
@[simp] theorem s_gTupL : gTupOf [.list ds] Q = Q (.tuple ds) := id rfl
@[simp] theorem s_gTupT : gTupOf [.tuple ds] Q = Q (.tuple ds) := id rfl
@[simp] theorem s_gAbs {a : Int} : gAbs [.int a] Q = Q (.int (if a < 0 then -a else a)) := id rfl
@[simp] theorem s_gInt {a : Int} : gInt [.int a] Q = Q (.int a) := id rfl
@[simp] theorem s_gIntB {b : Bool} : gInt [.bool b] Q = Q (.int (if b then 1 else 0)) := id rfl
@[simp] theorem s_gMax2 {a b : Int} : gMax2 [.int a, .int b] Q = Q (.int (if b > a then b else a)) := id rfl
@[simp] theorem s_gMin2 {a b : Int} : gMin2 [.int a, .int b] Q = Q (.int (if b < a then b else a)) := id rfl
@[simp] theorem s_gSorted : gSorted [.list ds] Q = ((SeqAt.shaped (.list ds) = true ∧ PySem.W.AllAlike ds ∧ PySem.W.Sortable ds) ∧ Q (.list (ds.mergeSort (PySem.W.dataLe false id)))) := id rfl
@[simp] theorem s_gIsiL {T : String} : gIsi T (.list ds) Q = Q (.bool (T == "list")) := id rfl
@[simp] theorem s_gIsiT {T : String} : gIsi T (.tuple ds) Q = Q (.bool (T == "tuple")) := id rfl
@[simp] theorem s_gIsiI {T : String} {a : Int} : gIsi T (.int a) Q = Q (.bool (T == "int")) := id rfl
@[simp] theorem s_gIsiB {T : String} {b : Bool} : gIsi T (.bool b) Q = Q (.bool (T == "bool" || T == "int")) := id rfl
@[simp] theorem s_truI {a : Int} : tru (.int a) = (a != 0) := id rfl
@[simp] theorem s_truB {b : Bool} : tru (.bool b) = b := id rfl
@[simp] theorem s_truL : tru (.list ds) = !ds.isEmpty := id rfl
@[simp] theorem s_truT : tru (.tuple ds) = !ds.isEmpty := id rfl
@[simp] theorem s_truN : tru .none = false := id rfl
@[simp] theorem s_isI {a : Int} : isD (.int a) = true := id rfl
@[simp] theorem s_isB {b : Bool} : isD (.bool b) = true := id rfl
@[simp] theorem s_isL : isD (.list ds) = true := id rfl
@[simp] theorem s_isT : isD (.tuple ds) = true := id rfl
@[simp] theorem s_isN : isD .none = true := id rfl
theorem draw_i {m : Int} (h0 : 0 < m) (h1 : m < 2 ^ 63) (h : ∀ d : Int, 0 ≤ d → d < m → Q (.int d)) : pDraw [.dict [(.int 0, .none)], .int m] Q := ⟨m, rfl, h0, h1, h⟩
end

/-! ### loops -/
theorem lcGo_map {wg : WG} {wt : WT} {we : WE} {env : En} (f : D → Option D) : ∀ (ds acc : List D) (K : List D → Prop),
    (∀ d ∈ ds, ∀ (Y : D → Prop) (N : Prop), (match f d with | some y => Y y | none => N) → wg d env fun env' => wt env' fun b => if b = true then we env' Y else N) → acc.length + ds.length ≤ sizeLine →
    K (acc ++ ds.filterMap f) → lcGo wg wt we env ds acc K
  | [], acc, K, _, _, h => by
    rw [List.filterMap_nil, List.append_nil] at h; exact h
  | d :: r, acc, K, hs, hl, h => by
    have hl' : acc.length + (r.length + 1) ≤ sizeLine := by simpa using hl
    refine hs d List.mem_cons_self _ _ ?_
    cases e : f d with
    | some y =>
      refine ⟨by omega, lcGo_map f r (acc ++ [y]) K (fun d hd => hs d (List.mem_cons_of_mem _ hd)) (by rw [List.length_append, List.length_singleton]; omega) ?_⟩
      rw [List.filterMap_cons_some e] at h
      rw [List.append_assoc]; exact h
    | none =>
      refine lcGo_map f r acc K (fun d hd => hs d (List.mem_cons_of_mem _ hd)) (by omega) ?_
      rw [List.filterMap_cons_none e] at h
      exact h
/-- over items that stand for things -/
theorem lcGo_enc {α : Type} (en : α → D) {wg : WG} {wt : WT} {we : WE} {env : En} (p : α → Bool) (f : α → D) {xs : List α} {acc : List D} {K : List D → Prop}
    (hs : ∀ x ∈ xs, ∀ (Y : D → Prop) (N : Prop), (if p x = true then Y (f x) else N) → wg (en x) env fun env' => wt env' fun b => if b = true then we env' Y else N) (hl : acc.length + xs.length ≤ sizeLine)
    (h : K (acc ++ (xs.filter p).map f)) : lcGo wg wt we env (xs.map en) acc K := by
  induction xs generalizing acc with
  | nil => simpa [lcGo] using h
  | cons x r ih =>
    have hl' : acc.length + (r.length + 1) ≤ sizeLine := by simpa using hl
    rw [List.map_cons]
    refine hs x List.mem_cons_self _ _ ?_
    by_cases e : p x = true
    · rw [if_pos e]
      rw [List.filter_cons_of_pos e, List.map_cons] at h
      refine ⟨by omega, ih (acc := acc ++ [f x]) (fun y hy => hs y (List.mem_cons_of_mem _ hy)) (by rw [List.length_append, List.length_singleton]; omega) (by rw [List.append_assoc]; exact h)⟩
    · rw [if_neg e]
      rw [List.filter_cons_of_neg e] at h
      exact ih (fun y hy => hs y (List.mem_cons_of_mem _ hy)) (by omega) h
theorem forGo_nil {g : WG} {s : WS} {env : En} {P : Po} (h : P.nx env) : forGo g s [] env P := h
/-- an invariant along a loop -/
theorem forGo_inv {α : Type} (en : α → D) {g : WG} {s : WS} {P : Po} (I : List α → En → Prop) : ∀ (todo done : List α) (env : En), I done env →
    (∀ (x : α) (d r : List α) (env : En), done ++ todo = d ++ x :: r → I d env → ∀ (N : En → Prop), (∀ e, I (d ++ [x]) e → N e) → g (en x) env fun env' => s env' ⟨N, P.rt, P.nx, N⟩) → (∀ env, I (done ++ todo) env → P.nx env) → forGo g s (todo.map en) env P
  | [], done, env, h, _, fin => fin env (by rw [List.append_nil]; exact h)
  | x :: r, done, env, h, st, fin => by
    refine st x done r env rfl h _ fun e he => ?_
    refine forGo_inv en I r (done ++ [x]) e he (fun y d r' env' eq => st y d r' env' (by rw [← eq]; simp)) (fun env' h' => fin env' ?_)
    rw [List.append_assoc] at h'; exact h'
theorem wWh_i {c : WT} {s : WS} {env : En} {P : Po} (I : Nat → En → Prop) {n : Nat} (h : I n env)
    (st : ∀ (n : Nat) (env : En), I n env → ∀ (N : En → Prop), (∀ m e, m < n → I m e → N e) → c env fun b => if b = true then s env ⟨N, P.rt, P.nx, N⟩ else P.nx env) : wWh c s env P := by
  have key : ∀ k n env, n < k → I n env → whGo c s k env P := by
    intro k
    induction k with
    | zero => intro n env hn; omega
    | succ k ih =>
      intro n env hn hI
      exact st n env hI _ fun m e hm he => ih m e (by omega) he
  exact ⟨n + 1, key (n + 1) n env (Nat.lt_succ_self n) h⟩

/-! ### data -/
theorem eqv_int {a b : Int} : PyData.eqv (.int a) (.int b) = decide (a = b) := by
  show (a == b) = _
  by_cases h : a = b <;> simp [h]
theorem eqvAll_map {α : Type} [DecidableEq α] (f : α → D) (hf : ∀ x y, PyData.eqv (f x) (f y) = decide (x = y)) : ∀ xs ys : List α, PyData.eqvAll (xs.map f) (ys.map f) = decide (xs = ys)
  | [], [] => rfl
  | [], _ :: _ => rfl
  | _ :: _, [] => rfl
  | x :: xs, y :: ys => by
    show (PyData.eqv (f x) (f y) && PyData.eqvAll (xs.map f) (ys.map f)) = _
    rw [hf, eqvAll_map f hf xs ys]
    by_cases h1 : x = y <;> by_cases h2 : xs = ys <;> simp [h1, h2]
def Il (ns : List Int) : D := .list (ns.map .int)
def It' (ns : List Int) : D := .tuple (ns.map .int)
theorem eqv_Il {a b : List Int} : PyData.eqv (Il a) (Il b) = decide (a = b) := eqvAll_map _ (fun _ _ => eqv_int) a b
theorem eqv_It {a b : List Int} : PyData.eqv (It' a) (It' b) = decide (a = b) := eqvAll_map _ (fun _ _ => eqv_int) a b
theorem inD_map {α : Type} [DecidableEq α] (f : α → D) (hf : ∀ x y, PyData.eqv (f x) (f y) = decide (x = y)) (x : α) (xs : List α) : inD (f x) (xs.map f) = decide (x ∈ xs) := by
  unfold inD
  rw [List.any_map, Bool.eq_iff_iff, List.any_eq_true, decide_eq_true_eq]
  constructor
  · rintro ⟨y, hy, e⟩
    have e2 : PyData.eqv (f y) (f x) = true := e
    rw [hf, decide_eq_true_eq] at e2
    rw [← e2]; exact hy
  · intro h
    exact ⟨x, h, by show PyData.eqv (f x) (f x) = true; rw [hf]; simp⟩
theorem inD_int {x : Int} {xs : List Int} : inD (.int x) (xs.map .int) = decide (x ∈ xs) := inD_map .int (fun _ _ => eqv_int) x xs
/-- plain data of a depth -/
def Pl (n : Nat) (d : D) : Prop := d.canLay0 = true ∧ d.depth ≤ n
theorem Pl.shaped {n : Nat} {d : D} (h : Pl n d) (hn : n ≤ 64 := by decide) : SeqAt.shaped d = true := by
  unfold SeqAt.shaped
  rw [h.1, decide_eq_true (Nat.le_trans h.2 hn)]; rfl
theorem Pl.int {n : Nat} {a : Int} : Pl (n + 1) (.int a) := ⟨rfl, by simp [PyData.depth]⟩
theorem canLayAll_map {α : Type} {f : α → D} {xs : List α} (h : ∀ x ∈ xs, (f x).canLay0 = true) : PyData.canLayAll0 (xs.map f) = true := by
  induction xs with
  | nil => rfl
  | cons x r ih =>
    show (PyData.canLay0 (f x) && PyData.canLayAll0 (r.map f)) = true
    rw [h x List.mem_cons_self, ih fun y hy => h y (List.mem_cons_of_mem _ hy)]; rfl
theorem depthAll_le {n : Nat} : ∀ {ds : List D}, (∀ d ∈ ds, d.depth ≤ n) → PyData.depthAll ds ≤ n
  | [], _ => by simp [PyData.depthAll]
  | d :: r, h => by
    rw [PyData.depthAll]
    exact Nat.max_le.mpr ⟨h d List.mem_cons_self, depthAll_le fun x hx => h x (List.mem_cons_of_mem _ hx)⟩
theorem canLayAll_of {ds : List D} (h : ∀ d ∈ ds, d.canLay0 = true) : PyData.canLayAll0 ds = true := by
  have := canLayAll_map (f := id) h
  rwa [List.map_id] at this
theorem Pl.list {n : Nat} {ds : List D} (h : ∀ d ∈ ds, Pl n d) : Pl (n + 1) (.list ds) := by
  refine ⟨?_, ?_⟩
  · show PyData.canLayAll0 ds = true
    exact canLayAll_of fun d hd => (h d hd).1
  · simp only [PyData.depth]
    have := depthAll_le (n := n) fun d hd => (h d hd).2
    omega
theorem Pl.tuple {n : Nat} {ds : List D} (h : ∀ d ∈ ds, Pl n d) : Pl (n + 1) (.tuple ds) := by
  refine ⟨?_, ?_⟩
  · show PyData.canLayAll0 ds = true
    exact canLayAll_of fun d hd => (h d hd).1
  · simp only [PyData.depth]
    have := depthAll_le (n := n) fun d hd => (h d hd).2
    omega
theorem Pl.lay {n : Nat} {ds : List D} (h : ∀ d ∈ ds, Pl n d) : PyData.canLayAll0 ds = true := canLayAll_of fun d hd => (h d hd).1
theorem Pl.map {n : Nat} {α : Type} {f : α → D} {xs : List α} (h : ∀ x, Pl n (f x)) : ∀ d ∈ xs.map f, Pl n d := fun d hd => by
  obtain ⟨x, _, rfl⟩ := List.mem_map.mp hd
  exact h x
theorem pl_Il {n : Nat} {a : List Int} : Pl (n + 2) (Il a) := .list (.map fun _ => .int)
theorem pl_It {n : Nat} {a : List Int} : Pl (n + 2) (It' a) := .tuple (.map fun _ => .int)
theorem sh_int {a : Int} : SeqAt.shaped (.int a) = true := (Pl.int (n := 0)).shaped
theorem lay_ints {a : List Int} : PyData.canLayAll0 (a.map .int) = true := Pl.lay (n := 1) (.map fun _ => .int)
end Eg
namespace Eg
open PySem PySem.Spec PyProof.Rows L2
def rng (lo : Int) (n : Nat) : List Int := (List.range n).map fun k => lo + (k : Nat)
theorem rangeD_map {lo : Int} {n : Nat} : rangeD lo n = (rng lo n).map .int := by
  unfold rangeD rng
  rw [List.map_map]; rfl
theorem rng_length {lo : Int} {n : Nat} : (rng lo n).length = n := by unfold rng; simp
theorem mem_rng {lo : Int} {n : Nat} {x : Int} : x ∈ rng lo n ↔ lo ≤ x ∧ x < lo + n := by
  unfold rng
  rw [List.mem_map]
  constructor
  · rintro ⟨k, hk, rfl⟩
    have := List.mem_range.mp hk
    omega
  · rintro ⟨h1, h2⟩
    exact ⟨(x - lo).toNat, List.mem_range.mpr (by omega), by omega⟩
theorem rng_succ {lo : Int} {n : Nat} : rng lo (n + 1) = rng lo n ++ [lo + n] := by
  unfold rng
  rw [List.range_succ, List.map_append]; rfl
theorem atI_ok {α : Type} {xs : List α} {i : Int} (h0 : 0 ≤ i) (h1 : i < xs.length) {x : α} (hx : xs[i.toNat]? = some x) : atI xs i = some x := by
  unfold atI ixN
  rw [if_pos h0, if_pos h1]; exact hx
def gi (xs : List Int) (i : Int) : Int := xs.getD i.toNat 0
theorem atI_int {xs : List Int} {i : Int} (h0 : 0 ≤ i) (h1 : i < xs.length) : atI (xs.map PyData.int) i = some (.int (gi xs i)) := by
  unfold gi
  refine atI_ok h0 (by simpa using h1) ?_
  rw [List.getElem?_map, List.getD_eq_getElem?_getD]
  have : i.toNat < xs.length := by omega
  rw [List.getElem?_eq_getElem this]; rfl
theorem line_big : (2 : Nat) ^ 20 ≤ sizeLine := by decide
theorem inD_pair {p a b : Int} : inD (.int p) [.int a, .int b] = decide (p = a ∨ p = b) := by
  have := inD_int (x := p) (xs := [a, b])
  simpa using this
theorem lay_pair {a b : Int} : PyData.canLayAll0 [.int a, .int b] = true := lay_ints (a := [a, b])
theorem two_le : 2 ≤ sizeLine := by decide
theorem one_le : 1 ≤ sizeLine := by decide
def unI : D → Option Int
  | .int i => some i
  | _ => none
theorem alike_ints {a : List Int} : PySem.W.AllAlike (a.map .int) := fun d hd d' hd' => by
  obtain ⟨x, _, rfl⟩ := List.mem_map.mp hd
  obtain ⟨y, _, rfl⟩ := List.mem_map.mp hd'
  rfl
theorem sortable_ints {a : List Int} : PySem.W.Sortable (a.map .int) := .inr fun d hd => by
  obtain ⟨x, _, rfl⟩ := List.mem_map.mp hd
  exact ⟨fun z => (nomatch z), fun _ z => (nomatch z)⟩
theorem perm_ints {ds : List D} {a : List Int} (h : ds.Perm (a.map .int)) : ∃ b : List Int, ds = b.map .int ∧ b.Perm a := by
  have : ∀ d ∈ ds, ∃ i, d = PyData.int i := fun d hd => by
    obtain ⟨x, _, e⟩ := List.mem_map.mp (h.mem_iff.mp hd)
    exact ⟨x, e.symm⟩
  obtain ⟨b, rfl⟩ : ∃ b : List Int, ds = b.map .int := by
    clear h
    induction ds with
    | nil => exact ⟨[], rfl⟩
    | cons d r ih =>
      obtain ⟨i, rfl⟩ := this d List.mem_cons_self
      obtain ⟨b, rfl⟩ := ih fun x hx => this x (List.mem_cons_of_mem _ hx)
      exact ⟨i :: b, rfl⟩
  refine ⟨b, rfl, ?_⟩
  have inj : ∀ l : List Int, (l.map PyData.int).filterMap unI = l := fun l => by
    induction l with
    | nil => rfl
    | cons x r ih =>
      show List.filterMap unI (PyData.int x :: r.map PyData.int) = x :: r
      rw [List.filterMap_cons]
      show x :: List.filterMap unI (r.map PyData.int) = x :: r
      rw [ih]
  have := h.filterMap unI
  rwa [inj, inj] at this
theorem cut_last {xs : List D} {d : D} : cutD (xs ++ [d]) none (some (-1)) = xs := by
  unfold cutD
  have h1 : HT.sIx (xs ++ [d]).length 0 none = 0 := rfl
  have h2 : HT.sIx (xs ++ [d]).length (xs ++ [d]).length (some (-1)) = xs.length := by
    have e : HT.sIx (xs ++ [d]).length (xs ++ [d]).length (some (-1)) = ((-1 : Int) + ((xs ++ [d]).length : Int)).toNat := by
      unfold HT.sIx
      exact if_pos (by decide)
    rw [e, List.length_append, List.length_singleton]
    omega
  rw [h1, h2]
  simp
theorem cut_to {xs : List D} {k : Int} (h0 : 0 ≤ k) : cutD xs none (some k) = xs.take k.toNat := by
  obtain ⟨n, rfl⟩ := Int.eq_ofNat_of_zero_le h0
  unfold cutD
  have h1 : HT.sIx xs.length 0 none = 0 := rfl
  rw [h1, HT.sIx_nat]
  simp [List.take_eq_take_iff]
theorem cut_from {xs : List D} {k : Int} (h0 : 0 ≤ k) : cutD xs (some k) none = xs.drop k.toNat := by
  obtain ⟨n, rfl⟩ := Int.eq_ofNat_of_zero_le h0
  unfold cutD
  have h1 : HT.sIx xs.length xs.length none = xs.length := rfl
  rw [h1, HT.sIx_nat]
  by_cases h : n ≤ xs.length
  · rw [Nat.min_eq_left h]
    rw [List.take_of_length_le (by rw [List.length_drop]; omega)]
    rfl
  · rw [Nat.min_eq_right (by omega)]
    rw [List.drop_of_length_le (Nat.le_refl _), List.take_nil, List.drop_of_length_le (by show xs.length ≤ n; omega)]
theorem atI_last {xs : List D} {d : D} : atI (xs ++ [d]) (-1) = some d := by
  unfold atI ixN
  rw [if_neg (by decide), if_pos (by simp; omega)]
  simp
  have : (-1 + ((xs.length : Int) + 1)).toNat = xs.length := by omega
  rw [this, List.getElem?_append_right (Nat.le_refl _)]
  simp
/-- a list of lists, flat -/
theorem lc2Go_flat {α : Type} (en : α → D) {wg wg1 : WG} {wt wt1 : WT} {we : WE} {vs1 : List Nat} {wi1 : WI} {env : En} (inner : α → List D) (B : Nat) : ∀ (xs : List α) (acc : List D) (K : List D → Prop),
    (∀ x ∈ xs, ∀ (acc : List D) (K' : List D → Prop), acc.length + (inner x).length ≤ B → K' (acc ++ inner x) → wg (en x) env fun env' => wt env' fun b => if b = true then wi1 env' fun ds1 => lcGo wg1 wt1 we (wipeE env' vs1) ds1 acc K' else K' acc) →
    acc.length + (xs.flatMap inner).length ≤ B → K (acc ++ xs.flatMap inner) → lc2Go wg wt vs1 wi1 wg1 wt1 we env (xs.map en) acc K
  | [], acc, K, _, _, h => by
    rw [List.flatMap_nil, List.append_nil] at h; exact h
  | x :: r, acc, K, st, hl, h => by
    rw [List.flatMap_cons, List.length_append] at hl
    rw [List.flatMap_cons, ← List.append_assoc] at h
    rw [List.map_cons]
    exact st x List.mem_cons_self acc _ (by omega) (lc2Go_flat en inner B r (acc ++ inner x) K (fun y hy => st y (List.mem_cons_of_mem _ hy)) (by rw [List.length_append]; omega) h)
theorem perm_map {α β : Type} {f : α → β} {as bs : List β} (h : as.Perm bs) : ∀ xs : List α, bs = xs.map f → ∃ ys : List α, as = ys.map f ∧ ys.Perm xs := by
  induction h with
  | nil =>
    intro xs e
    have : xs = [] := List.map_eq_nil_iff.mp e.symm
    subst this
    exact ⟨[], rfl, .nil⟩
  | cons a _ ih =>
    intro xs e
    cases xs with
    | nil => cases e
    | cons x r =>
      rw [List.map_cons] at e
      injection e with e1 e2
      obtain ⟨ys, e3, p⟩ := ih r e2
      exact ⟨x :: ys, by rw [List.map_cons, ← e3, e1], p.cons x⟩
  | swap a b l =>
    intro xs e
    match xs, e with
    | x :: y :: r, e =>
      rw [List.map_cons, List.map_cons] at e
      injection e with e1 e2
      injection e2 with e2 e3
      exact ⟨y :: x :: r, by rw [List.map_cons, List.map_cons, e1, e2, e3], .swap x y r⟩
  | trans _ _ i1 i2 =>
    intro xs e
    obtain ⟨ys, e1, p1⟩ := i2 xs e
    obtain ⟨zs, e2, p2⟩ := i1 ys e1
    exact ⟨zs, e2, p2.trans p1⟩
/-- one statement, what comes behind it kept shut -/
theorem sq_ {s t : WS} {env : En} {P : Po} (h : ∀ T : En → Prop, (∀ e, t e P → T e) → s env { P with nx := T }) : wSeq s t env P := h _ fun _ q => q
/-- which items stay is not known -/
theorem lcGo_any {α : Type} (en : α → D) {wg : WG} {wt : WT} {we : WE} {env : En} (f : α → D) : ∀ (xs : List α) (acc : List D) (K : List D → Prop),
    (∀ x ∈ xs, ∀ (Y : D → Prop) (N : Prop), Y (f x) → N → wg (en x) env fun env' => wt env' fun b => if b = true then we env' Y else N) → acc.length + xs.length ≤ sizeLine →
    (∀ ys : List α, ys.Sublist xs → K (acc ++ ys.map f)) → lcGo wg wt we env (xs.map en) acc K
  | [], acc, K, _, _, h => by
    have := h [] (List.Sublist.refl _)
    simpa [lcGo] using this
  | x :: r, acc, K, hs, hl, h => by
    have hl' : acc.length + (r.length + 1) ≤ sizeLine := by simpa using hl
    rw [List.map_cons]
    refine hs x List.mem_cons_self _ _ ⟨by omega, ?_⟩ ?_
    · refine lcGo_any en f r (acc ++ [f x]) K (fun y hy => hs y (List.mem_cons_of_mem _ hy)) (by rw [List.length_append, List.length_singleton]; omega) fun ys hy => ?_
      have := h (x :: ys) (hy.cons_cons x)
      simpa using this
    · exact lcGo_any en f r acc K (fun y hy => hs y (List.mem_cons_of_mem _ hy)) (by omega) fun ys hy => h ys (hy.cons x)
end Eg

/-! E13: zip, enumerate, a list of a range. -/
namespace Eg
open PySem PySem.Spec PyProof.Rows L2 RZ
def zipD (a b : List D) : List D := List.zipWith (fun x y => .tuple [x, y]) a b
theorem zipD_get {a b : List D} {i : Nat} {d : D} (h : (zipD a b)[i]? = some d) : ∃ x y, a[i]? = some x ∧ b[i]? = some y ∧ d = .tuple [x, y] := by
  unfold zipD at h
  rw [List.getElem?_zipWith] at h
  cases ha : a[i]? with
  | none => rw [ha] at h; simp at h
  | some x =>
    cases hb : b[i]? with
    | none => rw [ha, hb] at h; simp at h
    | some y =>
      rw [ha, hb] at h
      exact ⟨x, y, rfl, rfl, (Option.some.inj h).symm⟩
theorem src_zip {W : Wd} {K : PySem.W.Frag} {a b : Addr} {as bs : List D} : Src W (Itz K a b) (zipD as bs) [(.ref a, .list as), (.ref b, .list bs)] := fun H S c t i => by
  obtain ⟨a', vs, e, h, r⟩ := (t (.ref a, .list as) (by simp)).list
  cases e
  obtain ⟨b', ws, e, h2, r2⟩ := (t (.ref b, .list bs) (by simp)).list
  cases e
  have hS : SqL K H a vs := .inl (.inl h)
  have hS2 : SqL K H b ws := .inl (.inl h2)
  refine ⟨fun d hd => ?_, fun hl => ⟨vs, ws, hS, hS2, ?_⟩⟩
  · obtain ⟨x, y, hx, hy, rfl⟩ := zipD_get hd
    obtain ⟨v, hv, rv⟩ := r.get hx
    obtain ⟨w, hw, rw'⟩ := r2.get hy
    refine ⟨⟨vs, ws, v, w, hS, hS2, hv, hw⟩, fun x' H' hyd => ?_⟩
    obtain ⟨p, x1, y1, rfl, hp, rfl, q1, q2⟩ := hyd
    have ex : v = x1 := Option.some.inj (hv.symm.trans (q1 vs hS))
    have ey : w = y1 := Option.some.inj (hw.symm.trans (q2 ws hS2))
    subst ex
    subst ey
    exact ⟨.new c.j hp, .tup upd_same (c.np hp) (.cons ((rv.plus hp).less fun _ s => .inl s) (.cons ((rw'.plus hp).less fun _ s => .inl s) .nil))⟩
  · have l : (zipD as bs).length = min as.length bs.length := by unfold zipD; simp
    rw [l] at hl
    have l1 := r.length
    have l2 := r2.length
    omega
theorem src_zipT {W : Wd} {K : PySem.W.Frag} {a b : Addr} {as bs : List D} : Src W (ItzT K a b) (zipD as bs) [(.ref a, .tuple as), (.ref b, .tuple bs)] := fun H S c t i => by
  obtain ⟨a', vs, e, h, _, r⟩ := (t (.ref a, .tuple as) (by simp)).tuple
  cases e
  obtain ⟨b', ws, e, h2, _, r2⟩ := (t (.ref b, .tuple bs) (by simp)).tuple
  cases e
  have hS : SqT K H a vs := .inl (.inl h)
  have hS2 : SqT K H b ws := .inl (.inl h2)
  refine ⟨fun d hd => ?_, fun hl => ⟨vs, ws, hS, hS2, ?_⟩⟩
  · obtain ⟨x, y, hx, hy, rfl⟩ := zipD_get hd
    obtain ⟨v, hv, rv⟩ := r.get hx
    obtain ⟨w, hw, rw'⟩ := r2.get hy
    refine ⟨⟨vs, ws, v, w, hS, hS2, hv, hw⟩, fun x' H' hyd => ?_⟩
    obtain ⟨p, x1, y1, rfl, hp, rfl, q1, q2⟩ := hyd
    have ex : v = x1 := Option.some.inj (hv.symm.trans (q1 vs hS))
    have ey : w = y1 := Option.some.inj (hw.symm.trans (q2 ws hS2))
    subst ex
    subst ey
    exact ⟨.new c.j hp, .tup upd_same (c.np hp) (.cons ((rv.plus hp).less fun _ s => .inl s) (.cons ((rw'.plus hp).less fun _ s => .inl s) .nil))⟩
  · have l : (zipD as bs).length = min as.length bs.length := by unfold zipD; simp
    rw [l] at hl
    have l1 := r.length
    have l2 := r2.length
    omega
def wZip (u : WA) : WI := fun env Q => u env fun ds => match ds with
  | [.list a, .list b] => Q (zipD a b)
  | [.tuple a, .tuple b] => Q (zipD a b)
  | _ => False
theorem monoZip {u : WA} (h : MonoA u) : MonoA (wZip u) := fun env Q Q' f q => h _ _ _ (fun ds q => by
  split at q
  · exact f _ q
  · exact f _ q
  · exact q.elim) q
/-- enumerate -/
def enumGo : Nat → List D → List D
  | _, [] => []
  | n, d :: r => .tuple [.int (n : Nat), d] :: enumGo (n + 1) r
theorem enumGo_length : ∀ (n : Nat) (ds : List D), (enumGo n ds).length = ds.length
  | _, [] => rfl
  | n, d :: r => congrArg (· + 1) (enumGo_length (n + 1) r)
theorem enumGo_get : ∀ (n : Nat) (ds : List D) (i : Nat) {d : D}, (enumGo n ds)[i]? = some d → ∃ x, ds[i]? = some x ∧ d = .tuple [.int ((n + i : Nat) : Int), x]
  | _, [], _, _, h => by simp [enumGo] at h
  | n, d :: r, 0, e, h => by
    simp [enumGo] at h
    exact ⟨d, rfl, h.symm⟩
  | n, d :: r, i + 1, e, h => by
    obtain ⟨x, h1, h2⟩ := enumGo_get (n + 1) r i (d := e) (by simpa [enumGo] using h)
    refine ⟨x, by simpa using h1, ?_⟩
    rw [h2]
    have : n + 1 + i = n + (i + 1) := by omega
    rw [this]
theorem src_enum {W : Wd} {K : PySem.W.Frag} {a : Addr} {as : List D} : Src W (Ite K a) (enumGo 0 as) [(.ref a, .list as)] := fun H S c t i => by
  obtain ⟨a', vs, e, h, r⟩ := (t _ (List.mem_singleton.mpr rfl)).list
  cases e
  have hS : SqL K H a vs := .inl (.inl h)
  refine ⟨fun d hd => ?_, fun hl => ⟨vs, hS, ?_⟩⟩
  · obtain ⟨x, hx, rfl⟩ := enumGo_get 0 as i hd
    obtain ⟨v, hv, rv⟩ := r.get hx
    refine ⟨⟨vs, v, hS, hv⟩, fun x' H' hyd => ?_⟩
    obtain ⟨p, x1, rfl, hp, rfl, q1⟩ := hyd
    have ex : v = x1 := Option.some.inj (hv.symm.trans (q1 vs hS))
    subst ex
    rw [Nat.zero_add]
    exact ⟨.new c.j hp, .tup upd_same (c.np hp) (.cons (.int _) (.cons ((rv.plus hp).less fun _ s => .inl s) .nil))⟩
  · rw [enumGo_length] at hl
    rw [r.length]; exact hl
def wEnum (u : WA) : WI := fun env Q => u env fun ds => match ds with
  | [.list a] => Q (enumGo 0 a)
  | _ => False
theorem monoEnum {u : WA} (h : MonoA u) : MonoA (wEnum u) := fun env Q Q' f q => h _ _ _ (fun ds q => by
  split at q
  · exact f _ q
  · exact q.elim) q
section
variable {X : Cx} {e e2 : Expr} {u : WA} {p pos tpos : Pos} {elts : List Expr} {kk : Nat}
theorem zip_ (hg : Gl X "zip") (hm : X.mg "zip" = none) (ha : PAv X [e, e2] u) (hs : starEach [e, e2] X.env = (false, eval e X.env) :: starEach [e2] X.env := by rfl) (hpl : (backTo pos (starEach [e2] X.env)).any (·.1) = false := by rfl) :
    PIv X (.Tuple elts kk tpos) (.Call (.Name "zip" p) [e, e2] [] pos) (wZip u) := by
  refine ⟨(pi_zipA hg hm ha.pa hs hpl).imp fun σ H R ⟨W, env, S, r, q⟩ => ?_, monoZip ha.mono⟩
  refine ⟨W, env, S, r, ha.mono _ _ _ (fun ds q vs H1 k t => ?_) q⟩
  split at q
  · cases t with
    | cons t t' =>
      cases t' with
      | cons t2 t' =>
        cases t'
        cases t with
        | lst h1 n1 r1 =>
          cases t2 with
          | lst h2 n2 r2 =>
            refine ⟨_, _, _, _, rfl, .inl ⟨.inl (.inl h1), .inl (.inl h2), q _ H1 _ k (fun z hz => ?_) src_zip⟩⟩
            simp at hz
            rcases hz with rfl | rfl
            · exact .lst h1 n1 r1
            · exact .lst h2 n2 r2
  · cases t with
    | cons t t' =>
      cases t' with
      | cons t2 t' =>
        cases t'
        cases t with
        | tup h1 n1 r1 =>
          cases t2 with
          | tup h2 n2 r2 =>
            refine ⟨_, _, _, _, rfl, .inr ⟨.inl (.inl h1), .inl (.inl h2), q _ H1 _ k (fun z hz => ?_) src_zipT⟩⟩
            simp at hz
            rcases hz with rfl | rfl
            · exact .tup h1 n1 r1
            · exact .tup h2 n2 r2
  · exact q.elim
theorem zipp_ (hg : Gl X "zip") (hm : X.mg "zip" = none) (ha : PAp X [e, e2] u) (hs : starEach [e, e2] X.env = (false, eval e X.env) :: starEach [e2] X.env := by rfl) (hpl : (backTo pos (starEach [e2] X.env)).any (·.1) = false := by rfl) :
    PIp X (.Tuple elts kk tpos) (.Call (.Name "zip" p) [e, e2] [] pos) (wZip u) := by
  refine ⟨(pi_zipA hg hm ha.pa hs hpl).imp fun σ H R ⟨W, env, S, r, q⟩ => ?_, monoZip ha.mono⟩
  refine ⟨W, env, S, r, ha.mono _ _ _ (fun ds q vs H1 k t => ?_) q⟩
  split at q
  · cases t with
    | cons t t' =>
      cases t' with
      | cons t2 t' =>
        cases t'
        obtain ⟨a, xs, rfl, h1, r1⟩ := t.list
        obtain ⟨b, ys, rfl, h2, r2⟩ := t2.list
        refine ⟨_, _, _, _, rfl, .inl ⟨.inl (.inl h1), .inl (.inl h2), q _ H1 _ k (fun z hz => ?_) src_zip⟩⟩
        simp at hz
        rcases hz with rfl | rfl
        · exact t
        · exact t2
  · cases t with
    | cons t t' =>
      cases t' with
      | cons t2 t' =>
        cases t'
        obtain ⟨a, xs, rfl, h1, _, r1⟩ := t.tuple
        obtain ⟨b, ys, rfl, h2, _, r2⟩ := t2.tuple
        refine ⟨_, _, _, _, rfl, .inr ⟨.inl (.inl h1), .inl (.inl h2), q _ H1 _ k (fun z hz => ?_) src_zipT⟩⟩
        simp at hz
        rcases hz with rfl | rfl
        · exact t
        · exact t2
  · exact q.elim
theorem enum_ (hg : Gl X "enumerate") (hm : X.mg "enumerate" = none) (ha : PAv X [e] u) (hs : starEach [e] X.env = [(false, eval e X.env)] := by rfl) : PIv X (.Tuple elts kk tpos) (.Call (.Name "enumerate" p) [e] [] pos) (wEnum u) := by
  refine ⟨(pi_enum hg hm ha.pa hs).imp fun σ H R ⟨W, env, S, r, q⟩ => ?_, monoEnum ha.mono⟩
  refine ⟨W, env, S, r, ha.mono _ _ _ (fun ds q vs H1 k t => ?_) q⟩
  split at q
  · cases t with
    | cons t t' =>
      cases t'
      cases t with
      | lst h1 n1 r1 =>
        refine ⟨_, _, rfl, .inl (.inl h1), q _ H1 _ k (fun z hz => ?_) src_enum⟩
        simp at hz
        subst hz
        exact .lst h1 n1 r1
  · exact q.elim
theorem enump_ (hg : Gl X "enumerate") (hm : X.mg "enumerate" = none) (ha : PAp X [e] u) (hs : starEach [e] X.env = [(false, eval e X.env)] := by rfl) : PIp X (.Tuple elts kk tpos) (.Call (.Name "enumerate" p) [e] [] pos) (wEnum u) := by
  refine ⟨(pi_enum hg hm ha.pa hs).imp fun σ H R ⟨W, env, S, r, q⟩ => ?_, monoEnum ha.mono⟩
  refine ⟨W, env, S, r, ha.mono _ _ _ (fun ds q vs H1 k t => ?_) q⟩
  split at q
  · cases t with
    | cons t t' =>
      cases t'
      obtain ⟨a, xs, rfl, h1, r1⟩ := t.list
      refine ⟨_, _, rfl, .inl (.inl h1), q _ H1 _ k (fun z hz => ?_) src_enum⟩
      simp at hz
      subst hz
      exact t
  · exact q.elim
end
@[simp] theorem s_wZip {u : WA} {env : En} {QL : List D → Prop} : wZip u env QL = u env fun ds => match ds with
  | [.list a, .list b] => QL (zipD a b)
  | [.tuple a, .tuple b] => QL (zipD a b)
  | _ => False := id rfl
@[simp] theorem s_wEnum {u : WA} {env : En} {QL : List D → Prop} : wEnum u env QL = u env fun ds => match ds with
  | [.list a] => QL (enumGo 0 a)
  | _ => False := id rfl
theorem zipD_map {α β : Type} {f : α → D} {g : β → D} {xs : List α} {ys : List β} : zipD (xs.map f) (ys.map g) = (List.zip xs ys).map fun q => .tuple [f q.1, g q.2] := by
  unfold zipD
  induction xs generalizing ys with
  | nil => simp
  | cons x r ih =>
    cases ys with
    | nil => simp
    | cons y s => simp [ih]
end Eg

/-! E14: lists by their places, lists sorted. -/
namespace Eg
open PySem PySem.Spec PyProof.Rows L2
theorem rng0 {m : Nat} : rng 0 (m + 1) = 0 :: rng 1 m := by
  unfold rng
  rw [List.range_succ_eq_map, List.map_cons, List.map_map]
  congr 1
  refine List.map_congr_left fun k _ => ?_
  simp; omega
theorem rng_get {lo : Int} {n k : Nat} (h : k < n) : (rng lo n)[k]? = some (lo + k) := by
  unfold rng
  rw [List.getElem?_map, List.getElem?_range h]; rfl
theorem rng_at {lo : Int} {n : Nat} {d r : List Int} {x : Int} (e : rng lo n = d ++ x :: r) : x = lo + d.length ∧ d.length < n := by
  have hl := rng_length (lo := lo) (n := n)
  rw [e] at hl
  simp at hl
  have h1 : (rng lo n)[d.length]? = some x := by rw [e]; simp
  rw [rng_get (by omega)] at h1
  exact ⟨(Option.some.inj h1).symm, by omega⟩
theorem gi_map {n : Nat} {g : Int → Int} {k : Int} (h0 : 0 ≤ k) (h1 : k < n) : gi ((rng 0 n).map g) k = g k := by
  unfold gi
  rw [List.getD_eq_getElem?_getD, List.getElem?_map, rng_get (by omega)]
  show g (0 + (k.toNat : Int)) = g k
  congr 1; omega
theorem list_tab {xs : List Int} {n : Nat} (h : xs.length = n) : xs = (rng 0 n).map (gi xs) := by
  refine List.ext_getElem? fun i => ?_
  rw [List.getElem?_map]
  by_cases hi : i < n
  · rw [rng_get hi, List.getElem?_eq_getElem (by omega)]
    show _ = some (gi xs (0 + (i : Int)))
    unfold gi
    rw [List.getD_eq_getElem?_getD]
    have : (0 + (i : Int)).toNat = i := by omega
    rw [this, List.getElem?_eq_getElem (by omega)]; rfl
  · rw [List.getElem?_eq_none (by omega), List.getElem?_eq_none (by rw [rng_length]; omega)]; rfl
theorem tab_at {n : Nat} {g : Int → Int} {k : Int} (h0 : 0 ≤ k) (h1 : k < n) : atI (((rng 0 n).map g).map PyData.int) k = some (.int (g k)) := by
  rw [atI_int h0 (by rw [List.length_map, rng_length]; exact h1), gi_map h0 h1]
theorem tab_set {n : Nat} {g : Int → Int} {k v : Int} (h0 : 0 ≤ k) (h1 : k < n) : (((rng 0 n).map g).map PyData.int).set k.toNat (.int v) = ((rng 0 n).map fun p => if p = k then v else g p).map .int := by
  refine List.ext_getElem? fun i => ?_
  rw [List.getElem?_set]
  simp only [List.getElem?_map, List.length_map, rng_length]
  by_cases hi : i < n
  · rw [rng_get hi]
    by_cases hk : k.toNat = i
    · rw [if_pos hk, if_pos (by omega)]
      have : (0 : Int) + i = k := by omega
      simp only [Option.map_some, this, if_true]
    · rw [if_neg hk]
      have : ¬ (0 : Int) + i = k := by omega
      simp only [Option.map_some, this, if_false]
  · have : (rng 0 n)[i]? = none := List.getElem?_eq_none (by rw [rng_length]; omega)
    rw [this]
    have hk : ¬ k.toNat = i := by omega
    rw [if_neg hk]; rfl
theorem ixN_ok {n : Nat} {k : Int} (h0 : 0 ≤ k) (h1 : k < n) : ixN n k = some k.toNat := by
  unfold ixN
  rw [if_pos h0, if_pos h1]
theorem stI_ok {i : Nat} {env : En} {ds : List D} {k : Int} {x : D} {K : En → Prop} (he : env.at i = .ow ds) (h0 : 0 ≤ k) (h1 : k < ds.length) (h : K (env.set i (.ow (ds.set k.toNat x)))) : stI i env (.int k) x K := by
  unfold stI
  rw [he]
  simp only [ixN_ok h0 h1]
  exact h
theorem rep_tab {n : Nat} {d : D} : List.replicate n d = (rng 0 n).map fun _ => d := by
  have l := rng_length (lo := 0) (n := n)
  rw [List.map_const', l]
@[simp] theorem s_gRep {a : List D} {k : Int} {Q : D → Prop} : gRep (.list a) (.int k) Q = ((-(2 ^ 63) ≤ k ∧ k < 2 ^ 63 ∧ a.length * k.toNat ≤ sizeLine) ∧ Q (.list (List.replicate k.toNat a).flatten)) := id rfl
@[simp] theorem s_gMulL {a : List D} {k : Int} {Q : D → Prop} : gMul (.list a) (.int k) Q = ((-(2 ^ 63) ≤ k ∧ k < 2 ^ 63 ∧ a.length * k.toNat ≤ sizeLine) ∧ Q (.list (List.replicate k.toNat a).flatten)) := id rfl
theorem zip_same {α β γ : Type} (f : α → β) (g : α → γ) (l : List α) : List.zip (l.map f) (l.map g) = l.map fun x => (f x, g x) := by
  induction l with
  | nil => rfl
  | cons x r ih => simp [ih]
/-! ### sorted -/
/-- rows of ints in their order -/
def leR (a b : List Int) : Bool := decide (a ≤ b)
def sortR (xs : List (List Int)) : List (List Int) := xs.mergeSort leR
theorem leR_trans (a b c : List Int) (h1 : leR a b = true) (h2 : leR b c = true) : leR a c = true := by
  unfold leR at *
  rw [decide_eq_true_eq] at *
  exact List.le_trans h1 h2
theorem leR_total (a b : List Int) : (leR a b || leR b a) = true := by
  unfold leR
  rcases List.le_total a b with h | h <;> simp [h]
theorem leR_anti (a b : List Int) (h1 : leR a b = true) (h2 : leR b a = true) : a = b := by
  unfold leR at *
  rw [decide_eq_true_eq] at *
  exact List.le_antisymm h1 h2
theorem sortR_perm {xs ys : List (List Int)} (h : xs.Perm ys) : sortR xs = sortR ys := by
  refine List.Perm.eq_of_pairwise (le := fun a b => leR a b = true) (fun a b _ _ => leR_anti a b) (List.pairwise_mergeSort leR_trans leR_total xs) (List.pairwise_mergeSort leR_trans leR_total ys) ?_
  exact ((List.mergeSort_perm xs leR).trans h).trans (List.mergeSort_perm ys leR).symm
theorem sortR_mem {xs : List (List Int)} {a : List Int} : a ∈ sortR xs ↔ a ∈ xs := (List.mergeSort_perm xs leR).mem_iff
theorem sortR_length {xs : List (List Int)} : (sortR xs).length = xs.length := (List.mergeSort_perm xs leR).length_eq
theorem dataLe_tup {a b : List Int} : PySem.W.dataLe false id (.tuple (a.map .int)) (.tuple (b.map .int)) = leR a b := by
  have h := congrFun (congrFun (PySem.W.dataLe_rows (fun b : List Int => b)) a) b
  exact h
theorem sort_tup (xs : List (List Int)) : (xs.map fun r => PyData.tuple (r.map .int)).mergeSort (PySem.W.dataLe false id) = (sortR xs).map fun r => PyData.tuple (r.map .int) := by
  unfold sortR
  rw [List.map_mergeSort (s := PySem.W.dataLe false id) fun a _ b _ => (dataLe_tup (a := a) (b := b)).symm]
theorem sort_lst (xs : List (List Int)) : (xs.map Il).mergeSort (PySem.W.dataLe false id) = (sortR xs).map Il := by
  unfold sortR
  rw [List.map_mergeSort (s := PySem.W.dataLe false id) fun a _ b _ => ?_]
  exact (congrFun (congrFun (PySem.W.dataLe_rows (fun b : List Int => b)) a) b).symm
def sortI (xs : List Int) : List Int := xs.mergeSort fun a b => decide (a ≤ b)
theorem sort_int (xs : List Int) : (xs.map PyData.int).mergeSort (PySem.W.dataLe false id) = (sortI xs).map .int := by
  unfold sortI
  rw [List.map_mergeSort (s := PySem.W.dataLe false id) fun a _ b _ => ?_]
  exact (congrFun (congrFun (PySem.W.dataLe_int (fun b : Int => b)) a) b).symm
theorem alike_tup {xs : List (List Int)} : PySem.W.AllAlike (xs.map fun r => PyData.tuple (r.map .int)) := fun d hd d' hd' => by
  obtain ⟨x, _, rfl⟩ := List.mem_map.mp hd
  obtain ⟨y, _, rfl⟩ := List.mem_map.mp hd'
  exact PySem.W.alike_ints x y
/-- a row of ints by places, kept shut -/
def tabD (n : Nat) (g : Int → Int) : List D := ((rng 0 n).map g).map PyData.int
@[simp] theorem tabD_length {n : Nat} {g : Int → Int} : (tabD n g).length = n := by unfold tabD; rw [List.length_map, List.length_map, rng_length]
theorem tabD_at {n : Nat} {g : Int → Int} {k : Int} (h0 : 0 ≤ k) (h1 : k < n) : atI (tabD n g) k = some (.int (g k)) := tab_at h0 h1
theorem tabD_set {n : Nat} {g : Int → Int} {k v : Int} (h0 : 0 ≤ k) (h1 : k < n) : (tabD n g).set k.toNat (.int v) = tabD n fun p => if p = k then v else g p := tab_set h0 h1
theorem tabD_congr {n : Nat} {g g' : Int → Int} (h : ∀ p : Int, 0 ≤ p → p < n → g p = g' p) : tabD n g = tabD n g' := by
  unfold tabD
  congr 1
  refine List.map_congr_left fun p hp => ?_
  have := mem_rng.mp hp
  exact h p this.1 (by omega)
theorem rep_tabD {n : Nat} {a : Int} : List.replicate n (PyData.int a) = tabD n fun _ => a := by
  unfold tabD
  rw [List.map_map]
  exact rep_tab
/-- values drawn, one an item -/
theorem lcGo_each {α : Type} (en : α → D) {wg : WG} {wt : WT} {we : WE} {env : En} (R : Int → Prop) : ∀ (xs : List α) (acc : List D) (K : List D → Prop),
    (∀ x ∈ xs, ∀ (Y : D → Prop) (N : Prop), (∀ v, R v → Y (.int v)) → wg (en x) env fun env' => wt env' fun b => if b = true then we env' Y else N) → acc.length + xs.length ≤ sizeLine →
    (∀ vs : List Int, vs.length = xs.length → (∀ v ∈ vs, R v) → K (acc ++ vs.map .int)) → lcGo wg wt we env (xs.map en) acc K
  | [], acc, K, _, _, h => by
    have := h [] rfl (by simp)
    simpa [lcGo] using this
  | x :: r, acc, K, hs, hl, h => by
    have hl' : acc.length + (r.length + 1) ≤ sizeLine := by simpa using hl
    rw [List.map_cons]
    refine hs x List.mem_cons_self _ _ fun v hv => ⟨by omega, ?_⟩
    refine lcGo_each en R r (acc ++ [.int v]) K (fun y hy => hs y (List.mem_cons_of_mem _ hy)) (by rw [List.length_append, List.length_singleton]; omega) fun vs hl2 hv2 => ?_
    have := h (v :: vs) (by simp [hl2]) (by
      intro u hu
      rcases List.mem_cons.mp hu with rfl | hu
      · exact hv
      · exact hv2 u hu)
    simpa using this
theorem inD_mem {α : Type} {f : α → D} (hf : ∀ x y, PyData.eqv (f x) (f y) = true ↔ x = y) {x : α} {xs : List α} : inD (f x) (xs.map f) = true ↔ x ∈ xs := by
  unfold inD
  rw [List.any_map, List.any_eq_true]
  constructor
  · rintro ⟨y, hy, e⟩
    have := (hf y x).mp e
    rw [← this]; exact hy
  · intro h
    exact ⟨x, h, (hf x x).mpr rfl⟩
end Eg

namespace Wk09
open PySem PySem.Spec PyProof.Rows L2 Eg
def top (i : Nat) : Stmt := PySem.Challenge.pw_grainsfall_k09_low_heaps.main.body.getD i (.Pass ⟨0, 0, 0, 0⟩)
abbrev FnP (K : PySem.W.Frag) (x : Str) (st : Stmt) (f : Addr) (fd : FuncData) : Prop := FunD K x x (defArgs st) (defBody st) (defScope st) [] [] f fd
def bn : List Str := ["bool", "int", "isinstance", "len", "list", "max", "min", "range", "sorted", "tuple", "zip"]
abbrev N_f__law_draw : List Str := ["state", "many", "cells", "value", "mixed"]
theorem sc_f__law_draw : FnScope N_f__law_draw ["state", "many"] (defScope (top 17)) := ⟨rfl, rfl, rfl, by decide +kernel, rfl, by decide +kernel, by decide +kernel⟩
theorem ok_f__law_draw {P : Program} {w : World} {K : PySem.W.Frag} {mg : Str → Option Value} {base : Heap} {f : Addr} {fd : FuncData} (F : FnP K "_law_draw" (top 17) f fd) (gx : mg "_law_draw" = some (.ref f)) (gl : mg "len" = none) (gi : mg "int" = none) :
    Fd P w K mg base "_law_draw" ["state", "many"] 1 pDraw := by
  refine ⟨⟨f, fd, ?_, gx, F.kp, F.bindsN fun _ _ _ _ _ _ us hl => match us, hl with | [_, _], _ => rfl⟩, monoDraw⟩
  refine F.ok sc_f__law_draw (fun vs H Q E h => ?_) (fun cdv A outer s H vs Q E hr h => ?_)
  · obtain ⟨W, S, ds, c, r, m, rfl, _⟩ := h
    exact r.length
  · refine ⟨tDraw K, PSs.nox (pss_cons (ps_set (i := 2) sc_f__law_draw.nd rfl (by exact Or.inl rfl) (pe_ix ix_list (pv 0) pe_int (fun _ _ => rfl)))
      (pss_cons (ps_while PassesOwn.never (pw_and (pt_cmp (pc_gt (pe_callB call_len_seq (by rfl) gl (by decide +kernel) (pa_cons (pv 2) pa_nil)) pe_int)) (pw_and1 (pt_cmpR op_eq (pe_ix ix_list (pv 2) pe_int (fun _ _ => rfl)) pe_int (nomark _)))).pt
        (pss_one (ps_expr (pe_bm PySem.F.plainAttrs_list PySem.F.slot_list_pop PySem.F.type_list_pop mt_popAt (pv 2) (pa_cons pe_int pa_nil)))))
      (pss_cons (ps_if (pt_cmp (pc_gt (pe_callB call_len_seq (by rfl) gl (by decide +kernel) (pa_cons (pv 2) pa_nil)) pe_int))
        (pss_cons (ps_set (i := 3) sc_f__law_draw.nd rfl (by exact Or.inl rfl) (pe_ix ix_list (pv 2) pe_int (fun _ _ => rfl)))
          (pss_cons (ps_asg (pe_op op_fdivA (pv 3) (pv 1)) (pg_sub (pv 2) pe_int set_list))
            (pss_one (ps_ret (pe_op op_modN (pe_callTy call_int1 (by rfl) gi (by decide +kernel) (pa_cons (pv 3) pa_nil)) (pv 1)))))) pss_nil)
      (pss_cons (ps_set (i := 4) sc_f__law_draw.nd rfl (by exact Or.inl rfl) (pe_op op_modN (pe_callTy call_int1 (by rfl) gi (by decide +kernel) (pa_cons (pe_op op_add (pe_op op_mulA (pe_ix ix_list (pv 0) pe_int (fun _ _ => rfl)) pe_int) pe_int) pa_nil)) pe_int))
      (pss_cons (ps_asg (pv 4) (pg_sub (pv 0) pe_int set_list))
      (pss_one (ps_ret (pe_op op_modN (pe_callTy call_int1 (by rfl) gi (by decide +kernel) (pa_cons (pe_op op_fdivA (pv 4) pe_int) pa_nil)) (pv 1))))))))), draw_pure h⟩
abbrev N_f__law_state : List Str := ["script", "seed", "cell"]
theorem sc_f__law_state : FnScope N_f__law_state ["script"] (defScope (top 16)) := ⟨rfl, rfl, rfl, by decide +kernel, rfl, by decide +kernel, by decide +kernel⟩
theorem ok_f__law_state {P : Program} {w : World} {K : PySem.W.Frag} {mg : Str → Option Value} {base : Heap} {f : Addr} {fd : FuncData} (F : FnP K "_law_state" (top 16) f fd) (gi : mg "int" = none) (ga : mg "abs" = none) :
    FnOk P w K mg base CX0 1 f fd ["script"] (spState K) := by
  refine F.ok sc_f__law_state (fun vs H Q E h => ?_) (fun cdv A outer s H vs Q E hr h => ⟨tState K, PSs.nox ?_, state_pure h⟩)
  · obtain ⟨a, ns, rfl, _⟩ := h
    rfl
  · exact pss_cons (ps_set (i := 1) sc_f__law_state.nd rfl (by exact Or.inl rfl) pe_int)
      (pss_cons (ps_for PassesOwn.never rfl (pi_list (pv 0)) (pg_name (i := 2) sc_f__law_state.nd rfl (by exact Or.inl rfl))
        (pss_one (ps_set (i := 1) sc_f__law_state.nd rfl (by exact Or.inl rfl) (pe_op op_modN (pe_callTy call_int1 (by rfl) gi (by decide +kernel) (pa_cons (pe_op op_add (pe_op op_mulA (pv 1) pe_int) (pv 2)) pa_nil)) pe_int))))
      (pss_one (ps_ret (pe_lst (pa_cons (pe_lc (own := [("cell", 2)]) rfl sc_f__law_state.nd (pi_list (pv 0)) (blkOk_by (by kernel_rfl)) (fun _ _ _ _ _ => pg_name (i := 2) sc_f__law_state.nd rfl (by exact Or.inl rfl)) (fun _ _ _ _ _ => pts_nil) (fun _ _ _ _ _ => pe_callB call_abs (by rfl) ga (by decide +kernel) (pa_cons (pv 2) pa_nil)))
        (pa_cons (pe_op op_add (pv 1) pe_int) pa_nil))))))
/-! _law_web -/
abbrev N_f__law_web : List Str := ["state", "n", "extra", "lines", "place", "k", "a", "b"]
theorem sc_f__law_web : FnScope N_f__law_web ["state", "n", "extra"] (defScope (top 20)) := ⟨rfl, rfl, rfl, by decide +kernel, rfl, by decide +kernel, by decide +kernel⟩
def w_f__law_web : WS := wSeq (wOwn 3 (wLst (wN))) (wSeq (wFor (wRng2 (wK (wC (.int 1)) (wK (wV 1) (wN)))) (wGn 4) (wApp 3 (wTup (wK (wCl pDraw (wK (wV 0) (wK (wV 4) (wN)))) (wK (wV 4) (wN)))))) (wSeq (wFor (wRng1 (wK (wIf (wTB (wB gGt (wV 1) (wC (.int 1)))) (wV 2) (wC (.int 0))) (wN))) (wGn 5) (wSeq (wSet 6 (wCl pDraw (wK (wV 0) (wK (wV 1) (wN))))) (wSeq (wSet 7 (wB gMod (wCl gInt (wK (wB gAdd (wB gAdd (wV 6) (wC (.int 1))) (wCl pDraw (wK (wV 0) (wK (wB gSub (wV 1) (wC (.int 1))) (wN))))) (wN))) (wV 1))) (wApp 3 (wTup (wK (wCl gMin2 (wK (wV 6) (wK (wV 7) (wN)))) (wK (wCl gMax2 (wK (wV 6) (wK (wV 7) (wN)))) (wN)))))))) (wRet (wCl gTupOf (wK (wCl gSorted (wK (wO 3) (wN))) (wN))))))
def p_f__law_web : GN := phiC 8 3 w_f__law_web
theorem ok_f__law_web {P : Program} {w : World} {K : PySem.W.Frag} {mg : Str → Option Value} {base : Heap} {f : Addr} {fd : FuncData} (F : FnP K "_law_web" (top 20) f fd) (gx : mg "_law_web" = some (.ref f)) (G : ∀ x ∈ bn, mg x = none) (D_f__law_draw : Fd P w K mg base "_law_draw" ["state", "many"] 1 pDraw) : Fd P w K mg base "_law_web" ["state", "n", "extra"] 2 p_f__law_web :=
  def_fd (N := N_f__law_web) (k := 1) F gx sc_f__law_web (by decide) rfl rfl (fun _ _ _ _ _ _ us hl => match us, hl with | [_, _, _], _ => rfl) fun cdv A outer s H E hr =>
    sc_ (own_ 3 sc_f__law_web.nd (lst_ (an_))) (sc_ (for_ PassesOwn.never (by rfl) (range2_ (by rfl) (G "range" (by decide)) (pc_ ((int_).pp) (pc_ ((v_ 1).pp) (pn_)))) (gn_ 4 sc_f__law_web.nd) (s1_ (app_ 3 (tup_ (ac_ (fc_ D_f__law_draw (hr.mono (by decide)) (by rfl) (ac_ (v_ 0) (ac_ (v_ 4) (an_)))) (ac_ (v_ 4) (an_))))))) (sc_ (for_ PassesOwn.never (by rfl) (range1_ (by rfl) (G "range" (by decide)) (pc_ ((if_ (tcmp_ op_gt bopB0 ((v_ 1).pp) ((int_).pp)) (v_ 2) (int_)).pp) (pn_))) (gn_ 5 sc_f__law_web.nd) (sc_ (set_ 6 sc_f__law_web.nd (fc_ D_f__law_draw (hr.mono (by decide)) (by rfl) (ac_ (v_ 0) (ac_ (v_ 1) (an_))))) (sc_ (set_ 7 sc_f__law_web.nd (mod_ ((call_ (fun h => pe_callTy call_int1 (by rfl) (G "int" (by decide)) (by decide +kernel) h) copInt (pc_ ((add_ ((add_ ((v_ 6).pp) ((int_).pp)).pp) ((fc_ D_f__law_draw (hr.mono (by decide)) (by rfl) (ac_ (v_ 0) (ac_ (sub_ ((v_ 1).pp) ((int_).pp)) (an_)))).pp)).pp) (pn_))).pp) ((v_ 1).pp))) (s1_ (app_ 3 (tup_ (ac_ (call_ (fun h => pe_callB (call_min2 (by rfl)) (by rfl) (G "min" (by decide)) (by decide +kernel) h) copMin2 (pc_ ((v_ 6).pp) (pc_ ((v_ 7).pp) (pn_)))) (ac_ (call_ (fun h => pe_callB (call_max2 (by rfl)) (by rfl) (G "max" (by decide)) (by decide +kernel) h) copMax2 (pc_ ((v_ 6).pp) (pc_ ((v_ 7).pp) (pn_)))) (an_))))))))) (s1_ (ret_ (call_ (fun h => pe_callTy call_tuple_of (by rfl) (G "tuple" (by decide)) (by decide +kernel) h) (copTupOf _) (pc_ ((call_ (fun h => pe_callB (cr_sortD (ur hr)) (by rfl) (G "sorted" (by decide)) (by decide +kernel) h) (copSorted _).cop (pc_ (o_ 3) (pn_))).pp) (pn_)))))))
/-! _law_neighbours -/
abbrev N_f__law_neighbours : List Str := ["lines", "place", "a", "b"]
theorem sc_f__law_neighbours : FnScope N_f__law_neighbours ["lines", "place"] (defScope (top 18)) := ⟨rfl, rfl, rfl, by decide +kernel, rfl, by decide +kernel, by decide +kernel⟩
def w_f__law_neighbours : WS := wRet (wLc [2, 3] (wIt (wV 0)) (wGt 2 (wGcons (wGn 2) (wGcons (wGn 3) (wGnil)))) (wTB (wB gIn (wV 1) (wTup (wK (wV 2) (wK (wV 3) (wN)))))) (wB gSub (wB gAdd (wV 2) (wV 3)) (wV 1)))
def p_f__law_neighbours : GN := phiC 4 2 w_f__law_neighbours
theorem ok_f__law_neighbours {P : Program} {w : World} {K : PySem.W.Frag} {mg : Str → Option Value} {base : Heap} {f : Addr} {fd : FuncData} (F : FnP K "_law_neighbours" (top 18) f fd) (gx : mg "_law_neighbours" = some (.ref f)) (G : ∀ x ∈ bn, mg x = none)  : Fd P w K mg base "_law_neighbours" ["lines", "place"] 1 p_f__law_neighbours :=
  def_fd (N := N_f__law_neighbours) (k := 0) F gx sc_f__law_neighbours (by decide) rfl rfl (fun _ _ _ _ _ _ us hl => match us, hl with | [_, _], _ => rfl) fun cdv A outer s H E hr =>
    s1_ (ret_ ((lcv [("a", 2), ("b", 3)] (by rfl) sc_f__law_neighbours.nd (itp_ ((v_ 0).pp)) (fun _ _ _ _ _ => gt_ (by rfl) (gcons_ (gn_ 2 sc_f__law_neighbours.nd) (gcons_ (gn_ 3 sc_f__law_neighbours.nd) (gnil_)))) (fun _ _ _ _ _ => t1_ (tcmp_ (op_InT (ur hr)) (bopIn _ false) ((v_ 1).pp) ((tup_ (ac_ (v_ 2) (ac_ (v_ 3) (an_)))).pp))) (fun _ _ _ _ _ => sub_ ((add_ ((v_ 2).pp) ((v_ 3).pp)).pp) ((v_ 1).pp))).pv))
/-! _law_still_heaps -/
abbrev N_f__law_still_heaps : List Str := ["n", "lines", "found", "place", "longer", "heap", "many"]
theorem sc_f__law_still_heaps : FnScope N_f__law_still_heaps ["n", "lines"] (defScope (top 26)) := ⟨rfl, rfl, rfl, by decide +kernel, rfl, by decide +kernel, by decide +kernel⟩
def w_f__law_still_heaps : WS := wSeq (wSet 2 (wLst (wK (wTup (wK (wC (.int 0)) (wN))) (wN)))) (wSeq (wFor (wRng2 (wK (wC (.int 1)) (wK (wV 0) (wN)))) (wGn 3) (wSeq (wSet 4 (wLst (wN))) (wSeq (wFor (wIt (wV 2)) (wGn 5) (wSet 4 (wB gAdd (wV 4) (wLc [6] (wRng1 (wK (wCl gLen (wK (wCl p_f__law_neighbours (wK (wV 1) (wK (wV 3) (wN)))) (wN))) (wN))) (wGn 6) (wYes) (wB gAdd (wV 5) (wTup (wK (wV 6) (wN)))))))) (wSet 2 (wV 4))))) (wRet (wV 2)))
def p_f__law_still_heaps : GN := phiC 7 2 w_f__law_still_heaps
theorem ok_f__law_still_heaps {P : Program} {w : World} {K : PySem.W.Frag} {mg : Str → Option Value} {base : Heap} {f : Addr} {fd : FuncData} (F : FnP K "_law_still_heaps" (top 26) f fd) (gx : mg "_law_still_heaps" = some (.ref f)) (G : ∀ x ∈ bn, mg x = none) (D_f__law_neighbours : Fd P w K mg base "_law_neighbours" ["lines", "place"] 1 p_f__law_neighbours) : Fd P w K mg base "_law_still_heaps" ["n", "lines"] 2 p_f__law_still_heaps :=
  def_fd (N := N_f__law_still_heaps) (k := 1) F gx sc_f__law_still_heaps (by decide) rfl rfl (fun _ _ _ _ _ _ us hl => match us, hl with | [_, _], _ => rfl) fun cdv A outer s H E hr =>
    sc_ (set_ 2 sc_f__law_still_heaps.nd ((lst_ (ac_ (tup_ (ac_ (int_) (an_))) (an_))).pv)) (sc_ (for_ PassesOwn.never (by rfl) (range2_ (by rfl) (G "range" (by decide)) (pc_ ((int_).pp) (pc_ ((v_ 0).pp) (pn_)))) (gn_ 3 sc_f__law_still_heaps.nd) (sc_ (set_ 4 sc_f__law_still_heaps.nd ((lst_ (an_)).pv)) (sc_ (for_ PassesOwn.never (by rfl) (it_ (v_ 2)) (gn_ 5 sc_f__law_still_heaps.nd) (s1_ (set_ 4 sc_f__law_still_heaps.nd (add_ ((v_ 4).pp) (((lcv [("many", 6)] (by rfl) sc_f__law_still_heaps.nd ((range1_ (by rfl) (G "range" (by decide)) (pc_ ((call_ (fun h => pe_callB call_len_seq (by rfl) (G "len" (by decide)) (by decide +kernel) h) (copLen _) (pc_ ((fc_ D_f__law_neighbours (hr.mono (by decide)) (by rfl) (ac_ (v_ 1) (ac_ (v_ 3) (an_)))).pp) (pn_))).pp) (pn_))).pp) (fun _ _ _ _ _ => gn_ 6 sc_f__law_still_heaps.nd) (fun _ _ _ _ _ => tn_) (fun _ _ _ _ _ => add_ ((v_ 5).pp) ((tup_ (ac_ (v_ 6) (an_))).pp))).pv).pp))))) (s1_ (set_ 2 sc_f__law_still_heaps.nd (v_ 4)))))) (s1_ (ret_ (v_ 2))))
/-! degrees -/
abbrev N_f_degrees : List Str := ["n", "lines", "told", "a", "b"]
theorem sc_f_degrees : FnScope N_f_degrees ["n", "lines"] (defScope (top 2)) := ⟨rfl, rfl, rfl, by decide +kernel, rfl, by decide +kernel, by decide +kernel⟩
def w_f_degrees : WS := wSeq (wOwn 2 (wB gRep (wLst (wK (wC (.int 0)) (wN))) (wV 0))) (wSeq (wFor (wIt (wV 1)) (wGt 2 (wGcons (wGn 3) (wGcons (wGn 4) (wGnil)))) (wSeq (wStI 2 (wV 3) (wB gAdd (wB gIx (wO 2) (wV 3)) (wC (.int 1)))) (wStI 2 (wV 4) (wB gAdd (wB gIx (wO 2) (wV 4)) (wC (.int 1)))))) (wSh 2 (wRet (wV 2))))
def p_f_degrees : GN := phiC 5 2 w_f_degrees
theorem ok_f_degrees {P : Program} {w : World} {K : PySem.W.Frag} {mg : Str → Option Value} {base : Heap} {f : Addr} {fd : FuncData} (F : FnP K "degrees" (top 2) f fd) (gx : mg "degrees" = some (.ref f)) (G : ∀ x ∈ bn, mg x = none)  : Fd P w K mg base "degrees" ["n", "lines"] 1 p_f_degrees :=
  def_fd (N := N_f_degrees) (k := 0) F gx sc_f_degrees (by decide) rfl rfl (fun _ _ _ _ _ _ us hl => match us, hl with | [_, _], _ => rfl) fun cdv A outer s H E hr =>
    sc_ (own_ 2 sc_f_degrees.nd (rep_ (((lst_ (ac_ (int_) (an_))).pv).pp) ((v_ 0).pp))) (sc_ (for_ PassesOwn.never (by rfl) (it_ (v_ 1)) (gt_ (by rfl) (gcons_ (gn_ 3 sc_f_degrees.nd) (gcons_ (gn_ 4 sc_f_degrees.nd) (gnil_)))) (sc_ (sti_ 2 ((v_ 3).pp) (add_ ((ix_ (o_ 2) ((v_ 3).pp)).pp) ((int_).pp))) (s1_ (sti_ 2 ((v_ 4).pp) (add_ ((ix_ (o_ 2) ((v_ 4).pp)).pp) ((int_).pp)))))) (s1_ (sh_ 2 (ret_ (v_ 2)))))
/-! fullest -/
abbrev N_f_fullest : List Str := ["n", "lines", "size"]
theorem sc_f_fullest : FnScope N_f_fullest ["n", "lines"] (defScope (top 6)) := ⟨rfl, rfl, rfl, by decide +kernel, rfl, by decide +kernel, by decide +kernel⟩
def w_f_fullest : WS := wRet (wB gAdd (wTup (wK (wC (.int 0)) (wN))) (wCl gTupOf (wK (wLc [2] (wIt (wSl (wCl p_f_degrees (wK (wV 0) (wK (wV 1) (wN)))) (wSo (wC (.int 1))) (wNo))) (wGn 2) (wYes) (wB gSub (wV 2) (wC (.int 1)))) (wN))))
def p_f_fullest : GN := phiC 3 2 w_f_fullest
theorem ok_f_fullest {P : Program} {w : World} {K : PySem.W.Frag} {mg : Str → Option Value} {base : Heap} {f : Addr} {fd : FuncData} (F : FnP K "fullest" (top 6) f fd) (gx : mg "fullest" = some (.ref f)) (G : ∀ x ∈ bn, mg x = none) (D_f_degrees : Fd P w K mg base "degrees" ["n", "lines"] 1 p_f_degrees) : Fd P w K mg base "fullest" ["n", "lines"] 2 p_f_fullest :=
  def_fd (N := N_f_fullest) (k := 1) F gx sc_f_fullest (by decide) rfl rfl (fun _ _ _ _ _ _ us hl => match us, hl with | [_, _], _ => rfl) fun cdv A outer s H E hr =>
    s1_ (ret_ (add_ ((tup_ (ac_ (int_) (an_))).pp) ((call_ (fun h => pe_callTy call_tuple_of (by rfl) (G "tuple" (by decide)) (by decide +kernel) h) (copTupOf _) (pc_ (((lcv [("size", 2)] (by rfl) sc_f_fullest.nd (itp_ ((slice_ ((fc_ D_f_degrees (hr.mono (by decide)) (by rfl) (ac_ (v_ 0) (ac_ (v_ 1) (an_)))).pp) (os_ ((int_).pp)) (on_)).pp)) (fun _ _ _ _ _ => gn_ 2 sc_f_fullest.nd) (fun _ _ _ _ _ => tn_) (fun _ _ _ _ _ => sub_ ((v_ 2).pp) ((int_).pp))).pv).pp) (pn_))).pp)))
/-! turned_about -/
abbrev N_f_turned_about : List Str := ["n", "lines", "heap", "a", "b"]
theorem sc_f_turned_about : FnScope N_f_turned_about ["n", "lines", "heap"] (defScope (top 12)) := ⟨rfl, rfl, rfl, by decide +kernel, rfl, by decide +kernel, by decide +kernel⟩
def w_f_turned_about : WS := wRet (wCl gTupOf (wK (wLc [3, 4] (wZip (wK (wCl p_f_fullest (wK (wV 0) (wK (wV 1) (wN)))) (wK (wB gAdd (wTup (wK (wC (.int 0)) (wN))) (wCl gTupOf (wK (wSl (wV 2) (wSo (wC (.int 1))) (wNo)) (wN)))) (wN)))) (wGt 2 (wGcons (wGn 3) (wGcons (wGn 4) (wGnil)))) (wYes) (wB gSub (wV 3) (wV 4))) (wN)))
def p_f_turned_about : GN := phiC 5 3 w_f_turned_about
theorem ok_f_turned_about {P : Program} {w : World} {K : PySem.W.Frag} {mg : Str → Option Value} {base : Heap} {f : Addr} {fd : FuncData} (F : FnP K "turned_about" (top 12) f fd) (gx : mg "turned_about" = some (.ref f)) (G : ∀ x ∈ bn, mg x = none) (D_f_fullest : Fd P w K mg base "fullest" ["n", "lines"] 2 p_f_fullest) : Fd P w K mg base "turned_about" ["n", "lines", "heap"] 3 p_f_turned_about :=
  def_fd (N := N_f_turned_about) (k := 2) F gx sc_f_turned_about (by decide) rfl rfl (fun _ _ _ _ _ _ us hl => match us, hl with | [_, _, _], _ => rfl) fun cdv A outer s H E hr =>
    s1_ (ret_ (call_ (fun h => pe_callTy call_tuple_of (by rfl) (G "tuple" (by decide)) (by decide +kernel) h) (copTupOf _) (pc_ (((lcv [("a", 3), ("b", 4)] (by rfl) sc_f_turned_about.nd (zipp_ (by rfl) (G "zip" (by decide)) (pc_ ((fc_ D_f_fullest (hr.mono (by decide)) (by rfl) (ac_ (v_ 0) (ac_ (v_ 1) (an_)))).pp) (pc_ ((add_ ((tup_ (ac_ (int_) (an_))).pp) ((call_ (fun h => pe_callTy call_tuple_of (by rfl) (G "tuple" (by decide)) (by decide +kernel) h) (copTupOf _) (pc_ ((slice_ ((v_ 2).pp) (os_ ((int_).pp)) (on_)).pp) (pn_))).pp)).pp) (pn_)))) (fun _ _ _ _ _ => gt_ (by rfl) (gcons_ (gn_ 3 sc_f_turned_about.nd) (gcons_ (gn_ 4 sc_f_turned_about.nd) (gnil_)))) (fun _ _ _ _ _ => tn_) (fun _ _ _ _ _ => sub_ ((v_ 3).pp) ((v_ 4).pp))).pv).pp) (pn_))))
/-! still_heaps -/
abbrev N_f_still_heaps : List Str := ["n", "lines", "told", "size", "longer", "heap", "many"]
theorem sc_f_still_heaps : FnScope N_f_still_heaps ["n", "lines"] (defScope (top 10)) := ⟨rfl, rfl, rfl, by decide +kernel, rfl, by decide +kernel, by decide +kernel⟩
def w_f_still_heaps : WS := wSeq (wSet 2 (wLst (wK (wTup (wK (wC (.int 0)) (wN))) (wN)))) (wSeq (wFor (wIt (wSl (wCl p_f_degrees (wK (wV 0) (wK (wV 1) (wN)))) (wSo (wC (.int 1))) (wNo))) (wGn 3) (wSeq (wSet 4 (wLst (wN))) (wSeq (wFor (wIt (wV 2)) (wGn 5) (wSet 4 (wB gAdd (wV 4) (wLc [6] (wRng1 (wK (wV 3) (wN))) (wGn 6) (wYes) (wB gAdd (wV 5) (wTup (wK (wV 6) (wN)))))))) (wSet 2 (wV 4))))) (wRet (wV 2)))
def p_f_still_heaps : GN := phiC 7 2 w_f_still_heaps
theorem ok_f_still_heaps {P : Program} {w : World} {K : PySem.W.Frag} {mg : Str → Option Value} {base : Heap} {f : Addr} {fd : FuncData} (F : FnP K "still_heaps" (top 10) f fd) (gx : mg "still_heaps" = some (.ref f)) (G : ∀ x ∈ bn, mg x = none) (D_f_degrees : Fd P w K mg base "degrees" ["n", "lines"] 1 p_f_degrees) : Fd P w K mg base "still_heaps" ["n", "lines"] 2 p_f_still_heaps :=
  def_fd (N := N_f_still_heaps) (k := 1) F gx sc_f_still_heaps (by decide) rfl rfl (fun _ _ _ _ _ _ us hl => match us, hl with | [_, _], _ => rfl) fun cdv A outer s H E hr =>
    sc_ (set_ 2 sc_f_still_heaps.nd ((lst_ (ac_ (tup_ (ac_ (int_) (an_))) (an_))).pv)) (sc_ (for_ PassesOwn.never (by rfl) (it_ (slice_ ((fc_ D_f_degrees (hr.mono (by decide)) (by rfl) (ac_ (v_ 0) (ac_ (v_ 1) (an_)))).pp) (os_ ((int_).pp)) (on_))) (gn_ 3 sc_f_still_heaps.nd) (sc_ (set_ 4 sc_f_still_heaps.nd ((lst_ (an_)).pv)) (sc_ (for_ PassesOwn.never (by rfl) (it_ (v_ 2)) (gn_ 5 sc_f_still_heaps.nd) (s1_ (set_ 4 sc_f_still_heaps.nd (add_ ((v_ 4).pp) (((lcv [("many", 6)] (by rfl) sc_f_still_heaps.nd ((range1_ (by rfl) (G "range" (by decide)) (pc_ ((v_ 3).pp) (pn_))).pp) (fun _ _ _ _ _ => gn_ 6 sc_f_still_heaps.nd) (fun _ _ _ _ _ => tn_) (fun _ _ _ _ _ => add_ ((v_ 5).pp) ((tup_ (ac_ (v_ 6) (an_))).pp))).pv).pp))))) (s1_ (set_ 2 sc_f_still_heaps.nd (v_ 4)))))) (s1_ (ret_ (v_ 2))))
/-! neighbours -/
abbrev N_f_neighbours : List Str := ["n", "lines", "place", "a", "b"]
theorem sc_f_neighbours : FnScope N_f_neighbours ["n", "lines", "place"] (defScope (top 1)) := ⟨rfl, rfl, rfl, by decide +kernel, rfl, by decide +kernel, by decide +kernel⟩
def w_f_neighbours : WS := wRet (wCl gSorted (wK (wLc [3, 4] (wIt (wV 1)) (wGt 2 (wGcons (wGn 3) (wGcons (wGn 4) (wGnil)))) (wTB (wB gIn (wV 2) (wTup (wK (wV 3) (wK (wV 4) (wN)))))) (wB gSub (wB gAdd (wV 3) (wV 4)) (wV 2))) (wN)))
def p_f_neighbours : GN := phiC 5 3 w_f_neighbours
theorem ok_f_neighbours {P : Program} {w : World} {K : PySem.W.Frag} {mg : Str → Option Value} {base : Heap} {f : Addr} {fd : FuncData} (F : FnP K "neighbours" (top 1) f fd) (gx : mg "neighbours" = some (.ref f)) (G : ∀ x ∈ bn, mg x = none)  : Fd P w K mg base "neighbours" ["n", "lines", "place"] 1 p_f_neighbours :=
  def_fd (N := N_f_neighbours) (k := 0) F gx sc_f_neighbours (by decide) rfl rfl (fun _ _ _ _ _ _ us hl => match us, hl with | [_, _, _], _ => rfl) fun cdv A outer s H E hr =>
    s1_ (ret_ (call_ (fun h => pe_callB (cr_sortD (ur hr)) (by rfl) (G "sorted" (by decide)) (by decide +kernel) h) (copSorted _).cop (pc_ (((lcv [("a", 3), ("b", 4)] (by rfl) sc_f_neighbours.nd (itp_ ((v_ 1).pp)) (fun _ _ _ _ _ => gt_ (by rfl) (gcons_ (gn_ 3 sc_f_neighbours.nd) (gcons_ (gn_ 4 sc_f_neighbours.nd) (gnil_)))) (fun _ _ _ _ _ => t1_ (tcmp_ (op_InT (ur hr)) (bopIn _ false) ((v_ 2).pp) ((tup_ (ac_ (v_ 3) (ac_ (v_ 4) (an_)))).pp))) (fun _ _ _ _ _ => sub_ ((add_ ((v_ 3).pp) ((v_ 4).pp)).pp) ((v_ 2).pp))).pv).pp) (pn_))))
/-! rounds -/
abbrev N_f_rounds : List Str := ["n", "lines", "heap", "burnt", "told", "found", "place", "open_lines", "other"]
theorem sc_f_rounds : FnScope N_f_rounds ["n", "lines", "heap"] (defScope (top 8)) := ⟨rfl, rfl, rfl, by decide +kernel, rfl, by decide +kernel, by decide +kernel⟩
def w_f_rounds : WS := wSeq (wSet 3 (wLst (wK (wC (.int 0)) (wN)))) (wSeq (wOwn 4 (wLst (wK (wLst (wK (wC (.int 0)) (wN))) (wN)))) (wSeq (wWh (wT (wB gIx (wO 4) (wU gNeg (wC (.int 1))))) (wSeq (wOwn 5 (wLst (wN))) (wSeq (wFor (wRng1 (wK (wV 0) (wN))) (wGn 6) (wIfS (wTB (wB gNotIn (wV 6) (wV 3))) (wSeq (wSet 7 (wCl gLen (wK (wLc [8] (wIt (wCl p_f_neighbours (wK (wV 0) (wK (wV 1) (wK (wV 6) (wN)))))) (wGn 8) (wTB (wB gNotIn (wV 8) (wV 3))) (wV 8)) (wN)))) (wIfS (wTB (wB gGe (wB gIx (wV 2) (wV 6)) (wV 7))) (wApp 5 (wV 6)) (wNx))) (wNx))) (wSeq (wSet 3 (wB gAdd (wV 3) (wO 5))) (wSh 5 (wApp 4 (wV 5))))))) (wRet (wSl (wO 4) (wNo) (wSo (wU gNeg (wC (.int 1))))))))
def p_f_rounds : GN := phiC 9 3 w_f_rounds
theorem ok_f_rounds {P : Program} {w : World} {K : PySem.W.Frag} {mg : Str → Option Value} {base : Heap} {f : Addr} {fd : FuncData} (F : FnP K "rounds" (top 8) f fd) (gx : mg "rounds" = some (.ref f)) (G : ∀ x ∈ bn, mg x = none) (D_f_neighbours : Fd P w K mg base "neighbours" ["n", "lines", "place"] 1 p_f_neighbours) : Fd P w K mg base "rounds" ["n", "lines", "heap"] 2 p_f_rounds :=
  def_fd (N := N_f_rounds) (k := 1) F gx sc_f_rounds (by decide) rfl rfl (fun _ _ _ _ _ _ us hl => match us, hl with | [_, _, _], _ => rfl) fun cdv A outer s H E hr =>
    sc_ (set_ 3 sc_f_rounds.nd ((lst_ (ac_ (int_) (an_))).pv)) (sc_ (own_ 4 sc_f_rounds.nd (lst_ (ac_ ((lst_ (ac_ (int_) (an_))).pv) (an_)))) (sc_ (while_ PassesOwn.never (t_ ((ix_ (o_ 4) ((neg_ ((int_).pp)).pp)).pp)) (sc_ (own_ 5 sc_f_rounds.nd (lst_ (an_))) (sc_ (for_ PassesOwn.never (by rfl) (range1_ (by rfl) (G "range" (by decide)) (pc_ ((v_ 0).pp) (pn_))) (gn_ 6 sc_f_rounds.nd) (s1_ (ifs_ (tcmp_ (op_NotInT (ur hr)) (bopIn _ true) ((v_ 6).pp) ((v_ 3).pp)) (sc_ (set_ 7 sc_f_rounds.nd (call_ (fun h => pe_callB call_len_seq (by rfl) (G "len" (by decide)) (by decide +kernel) h) (copLen _) (pc_ (((lcv [("other", 8)] (by rfl) sc_f_rounds.nd (itp_ ((fc_ D_f_neighbours (hr.mono (by decide)) (by rfl) (ac_ (v_ 0) (ac_ (v_ 1) (ac_ (v_ 6) (an_))))).pp)) (fun _ _ _ _ _ => gn_ 8 sc_f_rounds.nd) (fun _ _ _ _ _ => t1_ (tcmp_ (op_NotInT (ur hr)) (bopIn _ true) ((v_ 8).pp) ((v_ 3).pp))) (fun _ _ _ _ _ => v_ 8)).pv).pp) (pn_)))) (s1_ (ifs_ (tcmp_ op_ge bopB0 ((ix_ ((v_ 2).pp) ((v_ 6).pp)).pp) ((v_ 7).pp)) (s1_ (app_ 5 (v_ 6))) (sn_)))) (sn_)))) (sc_ (set_ 3 sc_f_rounds.nd (add_ ((v_ 3).pp) (o_ 5))) (s1_ (sh_ 5 (app_ 4 (v_ 5)))))))) (s1_ (ret_ (slice_ (o_ 4) (on_) (os_ ((neg_ ((int_).pp)).pp)))))))
/-! stays -/
abbrev N_f_stays : List Str := ["n", "lines", "heap", "burnt", "row", "place"]
theorem sc_f_stays : FnScope N_f_stays ["n", "lines", "heap"] (defScope (top 9)) := ⟨rfl, rfl, rfl, by decide +kernel, rfl, by decide +kernel, by decide +kernel⟩
def w_f_stays : WS := wSeq (wSet 3 (wLc2 [4, 5] [5] (wIt (wCl p_f_rounds (wK (wV 0) (wK (wV 1) (wK (wV 2) (wN)))))) (wGn 4) (wYes) (wIt (wV 4)) (wGn 5) (wYes) (wV 5))) (wRet (wLc [5] (wRng1 (wK (wV 0) (wN))) (wGn 5) (wTB (wB gNotIn (wV 5) (wV 3))) (wV 5)))
def p_f_stays : GN := phiC 6 3 w_f_stays
theorem ok_f_stays {P : Program} {w : World} {K : PySem.W.Frag} {mg : Str → Option Value} {base : Heap} {f : Addr} {fd : FuncData} (F : FnP K "stays" (top 9) f fd) (gx : mg "stays" = some (.ref f)) (G : ∀ x ∈ bn, mg x = none) (D_f_rounds : Fd P w K mg base "rounds" ["n", "lines", "heap"] 2 p_f_rounds) : Fd P w K mg base "stays" ["n", "lines", "heap"] 3 p_f_stays :=
  def_fd (N := N_f_stays) (k := 2) F gx sc_f_stays (by decide) rfl rfl (fun _ _ _ _ _ _ us hl => match us, hl with | [_, _, _], _ => rfl) fun cdv A outer s H E hr =>
    sc_ (set_ 3 sc_f_stays.nd ((lcv2 [("row", 4), ("place", 5)] [5] (by rfl) sc_f_stays.nd (it_ (fc_ D_f_rounds (hr.mono (by decide)) (by rfl) (ac_ (v_ 0) (ac_ (v_ 1) (ac_ (v_ 2) (an_)))))) (fun _ _ _ _ _ => gn_ 4 sc_f_stays.nd) (fun _ _ _ _ _ => tn_) (fun _ _ _ _ _ => it_ (v_ 4)) (fun _ _ _ _ _ => gn_ 5 sc_f_stays.nd) (fun _ _ _ _ _ => tn_) (fun _ _ _ _ _ => v_ 5)).pv)) (s1_ (ret_ ((lcv [("place", 5)] (by rfl) sc_f_stays.nd ((range1_ (by rfl) (G "range" (by decide)) (pc_ ((v_ 0).pp) (pn_))).pp) (fun _ _ _ _ _ => gn_ 5 sc_f_stays.nd) (fun _ _ _ _ _ => t1_ (tcmp_ (op_NotInT (ur hr)) (bopIn _ true) ((v_ 5).pp) ((v_ 3).pp))) (fun _ _ _ _ _ => v_ 5)).pv)))
/-! all_again -/
abbrev N_f_all_again : List Str := ["n", "lines", "heap"]
theorem sc_f_all_again : FnScope N_f_all_again ["n", "lines"] (defScope (top 11)) := ⟨rfl, rfl, rfl, by decide +kernel, rfl, by decide +kernel, by decide +kernel⟩
def w_f_all_again : WS := wRet (wLc [2] (wIt (wCl p_f_still_heaps (wK (wV 0) (wK (wV 1) (wN))))) (wGn 2) (wNotT (wT (wCl p_f_stays (wK (wV 0) (wK (wV 1) (wK (wV 2) (wN))))))) (wV 2))
def p_f_all_again : GN := phiC 3 2 w_f_all_again
theorem ok_f_all_again {P : Program} {w : World} {K : PySem.W.Frag} {mg : Str → Option Value} {base : Heap} {f : Addr} {fd : FuncData} (F : FnP K "all_again" (top 11) f fd) (gx : mg "all_again" = some (.ref f)) (G : ∀ x ∈ bn, mg x = none) (D_f_stays : Fd P w K mg base "stays" ["n", "lines", "heap"] 3 p_f_stays) (D_f_still_heaps : Fd P w K mg base "still_heaps" ["n", "lines"] 2 p_f_still_heaps) : Fd P w K mg base "all_again" ["n", "lines"] 4 p_f_all_again :=
  def_fd (N := N_f_all_again) (k := 3) F gx sc_f_all_again (by decide) rfl rfl (fun _ _ _ _ _ _ us hl => match us, hl with | [_, _], _ => rfl) fun cdv A outer s H E hr =>
    s1_ (ret_ ((lcv [("heap", 2)] (by rfl) sc_f_all_again.nd (itp_ ((fc_ D_f_still_heaps (hr.mono (by decide)) (by rfl) (ac_ (v_ 0) (ac_ (v_ 1) (an_)))).pp)) (fun _ _ _ _ _ => gn_ 2 sc_f_all_again.nd) (fun _ _ _ _ _ => t1_ (tnot_ (t_ ((fc_ D_f_stays (hr.mono (by decide)) (by rfl) (ac_ (v_ 0) (ac_ (v_ 1) (ac_ (v_ 2) (an_))))).pp)))) (fun _ _ _ _ _ => v_ 2)).pv))
/-! all_low -/
abbrev N_f_all_low : List Str := ["n", "lines", "heap"]
theorem sc_f_all_low : FnScope N_f_all_low ["n", "lines"] (defScope (top 14)) := ⟨rfl, rfl, rfl, by decide +kernel, rfl, by decide +kernel, by decide +kernel⟩
def w_f_all_low : WS := wRet (wCl gSorted (wK (wLc [2] (wIt (wCl p_f_all_again (wK (wV 0) (wK (wV 1) (wN))))) (wGn 2) (wYes) (wCl p_f_turned_about (wK (wV 0) (wK (wV 1) (wK (wV 2) (wN)))))) (wN)))
def p_f_all_low : GN := phiC 3 2 w_f_all_low
theorem ok_f_all_low {P : Program} {w : World} {K : PySem.W.Frag} {mg : Str → Option Value} {base : Heap} {f : Addr} {fd : FuncData} (F : FnP K "all_low" (top 14) f fd) (gx : mg "all_low" = some (.ref f)) (G : ∀ x ∈ bn, mg x = none) (D_f_all_again : Fd P w K mg base "all_again" ["n", "lines"] 4 p_f_all_again) (D_f_turned_about : Fd P w K mg base "turned_about" ["n", "lines", "heap"] 3 p_f_turned_about) : Fd P w K mg base "all_low" ["n", "lines"] 5 p_f_all_low :=
  def_fd (N := N_f_all_low) (k := 4) F gx sc_f_all_low (by decide) rfl rfl (fun _ _ _ _ _ _ us hl => match us, hl with | [_, _], _ => rfl) fun cdv A outer s H E hr =>
    s1_ (ret_ (call_ (fun h => pe_callB (cr_sortD (ur hr)) (by rfl) (G "sorted" (by decide)) (by decide +kernel) h) (copSorted _).cop (pc_ (((lcv [("heap", 2)] (by rfl) sc_f_all_low.nd (itp_ ((fc_ D_f_all_again (hr.mono (by decide)) (by rfl) (ac_ (v_ 0) (ac_ (v_ 1) (an_)))).pp)) (fun _ _ _ _ _ => gn_ 2 sc_f_all_low.nd) (fun _ _ _ _ _ => tn_) (fun _ _ _ _ _ => fc_ D_f_turned_about (hr.mono (by decide)) (by rfl) (ac_ (v_ 0) (ac_ (v_ 1) (ac_ (v_ 2) (an_)))))).pv).pp) (pn_))))
/-! _law_heap -/
abbrev N_f__law_heap : List Str := ["state", "n", "high", "k"]
theorem sc_f__law_heap : FnScope N_f__law_heap ["state", "n", "high"] (defScope (top 23)) := ⟨rfl, rfl, rfl, by decide +kernel, rfl, by decide +kernel, by decide +kernel⟩
def w_f__law_heap : WS := wRet (wB gAdd (wTup (wK (wC (.int 0)) (wN))) (wCl gTupOf (wK (wLc [3] (wRng1 (wK (wB gSub (wV 1) (wC (.int 1))) (wN))) (wGn 3) (wYes) (wCl pDraw (wK (wV 0) (wK (wV 2) (wN))))) (wN))))
def p_f__law_heap : GN := phiC 4 3 w_f__law_heap
theorem ok_f__law_heap {P : Program} {w : World} {K : PySem.W.Frag} {mg : Str → Option Value} {base : Heap} {f : Addr} {fd : FuncData} (F : FnP K "_law_heap" (top 23) f fd) (gx : mg "_law_heap" = some (.ref f)) (G : ∀ x ∈ bn, mg x = none) (D_f__law_draw : Fd P w K mg base "_law_draw" ["state", "many"] 1 pDraw) : Fd P w K mg base "_law_heap" ["state", "n", "high"] 2 p_f__law_heap :=
  def_fd (N := N_f__law_heap) (k := 1) F gx sc_f__law_heap (by decide) rfl rfl (fun _ _ _ _ _ _ us hl => match us, hl with | [_, _, _], _ => rfl) fun cdv A outer s H E hr =>
    s1_ (ret_ (add_ ((tup_ (ac_ (int_) (an_))).pp) ((call_ (fun h => pe_callTy call_tuple_of (by rfl) (G "tuple" (by decide)) (by decide +kernel) h) (copTupOf _) (pc_ (((lcv [("k", 3)] (by rfl) sc_f__law_heap.nd ((range1_ (by rfl) (G "range" (by decide)) (pc_ ((sub_ ((v_ 1).pp) ((int_).pp)).pp) (pn_))).pp) (fun _ _ _ _ _ => gn_ 3 sc_f__law_heap.nd) (fun _ _ _ _ _ => tn_) (fun _ _ _ _ _ => fc_ D_f__law_draw (hr.mono (by decide)) (by rfl) (ac_ (v_ 0) (ac_ (v_ 2) (an_))))).pv).pp) (pn_))).pp)))
/-! may_topple -/
abbrev N_f_may_topple : List Str := ["n", "lines", "heap", "sizes", "place"]
theorem sc_f_may_topple : FnScope N_f_may_topple ["n", "lines", "heap"] (defScope (top 4)) := ⟨rfl, rfl, rfl, by decide +kernel, rfl, by decide +kernel, by decide +kernel⟩
def w_f_may_topple : WS := wSeq (wSet 3 (wCl p_f_degrees (wK (wV 0) (wK (wV 1) (wN))))) (wRet (wLc [4] (wRng2 (wK (wC (.int 1)) (wK (wV 0) (wN)))) (wGn 4) (wTB (wB gGe (wB gIx (wV 2) (wV 4)) (wB gIx (wV 3) (wV 4)))) (wV 4)))
def p_f_may_topple : GN := phiC 5 3 w_f_may_topple
theorem ok_f_may_topple {P : Program} {w : World} {K : PySem.W.Frag} {mg : Str → Option Value} {base : Heap} {f : Addr} {fd : FuncData} (F : FnP K "may_topple" (top 4) f fd) (gx : mg "may_topple" = some (.ref f)) (G : ∀ x ∈ bn, mg x = none) (D_f_degrees : Fd P w K mg base "degrees" ["n", "lines"] 1 p_f_degrees) : Fd P w K mg base "may_topple" ["n", "lines", "heap"] 2 p_f_may_topple :=
  def_fd (N := N_f_may_topple) (k := 1) F gx sc_f_may_topple (by decide) rfl rfl (fun _ _ _ _ _ _ us hl => match us, hl with | [_, _, _], _ => rfl) fun cdv A outer s H E hr =>
    sc_ (set_ 3 sc_f_may_topple.nd (fc_ D_f_degrees (hr.mono (by decide)) (by rfl) (ac_ (v_ 0) (ac_ (v_ 1) (an_))))) (s1_ (ret_ ((lcv [("place", 4)] (by rfl) sc_f_may_topple.nd ((range2_ (by rfl) (G "range" (by decide)) (pc_ ((int_).pp) (pc_ ((v_ 0).pp) (pn_)))).pp) (fun _ _ _ _ _ => gn_ 4 sc_f_may_topple.nd) (fun _ _ _ _ _ => t1_ (tcmp_ op_ge bopB0 ((ix_ ((v_ 2).pp) ((v_ 4).pp)).pp) ((ix_ ((v_ 3).pp) ((v_ 4).pp)).pp))) (fun _ _ _ _ _ => v_ 4)).pv)))
/-! is_still -/
abbrev N_f_is_still : List Str := ["n", "lines", "heap"]
theorem sc_f_is_still : FnScope N_f_is_still ["n", "lines", "heap"] (defScope (top 5)) := ⟨rfl, rfl, rfl, by decide +kernel, rfl, by decide +kernel, by decide +kernel⟩
def w_f_is_still : WS := wRet (wNotV (wCl p_f_may_topple (wK (wV 0) (wK (wV 1) (wK (wV 2) (wN))))))
def p_f_is_still : GN := phiC 3 3 w_f_is_still
theorem ok_f_is_still {P : Program} {w : World} {K : PySem.W.Frag} {mg : Str → Option Value} {base : Heap} {f : Addr} {fd : FuncData} (F : FnP K "is_still" (top 5) f fd) (gx : mg "is_still" = some (.ref f)) (G : ∀ x ∈ bn, mg x = none) (D_f_may_topple : Fd P w K mg base "may_topple" ["n", "lines", "heap"] 2 p_f_may_topple) : Fd P w K mg base "is_still" ["n", "lines", "heap"] 3 p_f_is_still :=
  def_fd (N := N_f_is_still) (k := 2) F gx sc_f_is_still (by decide) rfl rfl (fun _ _ _ _ _ _ us hl => match us, hl with | [_, _, _], _ => rfl) fun cdv A outer s H E hr =>
    s1_ (ret_ (not_ ((fc_ D_f_may_topple (hr.mono (by decide)) (by rfl) (ac_ (v_ 0) (ac_ (v_ 1) (ac_ (v_ 2) (an_))))).pp)))
/-! is_low -/
abbrev N_f_is_low : List Str := ["n", "lines", "heap"]
theorem sc_f_is_low : FnScope N_f_is_low ["n", "lines", "heap"] (defScope (top 13)) := ⟨rfl, rfl, rfl, by decide +kernel, rfl, by decide +kernel, by decide +kernel⟩
def w_f_is_low : WS := wRet (wAndV (wCl p_f_is_still (wK (wV 0) (wK (wV 1) (wK (wV 2) (wN))))) (wNotV (wCl p_f_stays (wK (wV 0) (wK (wV 1) (wK (wCl p_f_turned_about (wK (wV 0) (wK (wV 1) (wK (wV 2) (wN))))) (wN)))))))
def p_f_is_low : GN := phiC 3 3 w_f_is_low
theorem ok_f_is_low {P : Program} {w : World} {K : PySem.W.Frag} {mg : Str → Option Value} {base : Heap} {f : Addr} {fd : FuncData} (F : FnP K "is_low" (top 13) f fd) (gx : mg "is_low" = some (.ref f)) (G : ∀ x ∈ bn, mg x = none) (D_f_is_still : Fd P w K mg base "is_still" ["n", "lines", "heap"] 3 p_f_is_still) (D_f_stays : Fd P w K mg base "stays" ["n", "lines", "heap"] 3 p_f_stays) (D_f_turned_about : Fd P w K mg base "turned_about" ["n", "lines", "heap"] 3 p_f_turned_about) : Fd P w K mg base "is_low" ["n", "lines", "heap"] 4 p_f_is_low :=
  def_fd (N := N_f_is_low) (k := 3) F gx sc_f_is_low (by decide) rfl rfl (fun _ _ _ _ _ _ us hl => match us, hl with | [_, _, _], _ => rfl) fun cdv A outer s H E hr =>
    s1_ (ret_ (and_ (fc_ D_f_is_still (hr.mono (by decide)) (by rfl) (ac_ (v_ 0) (ac_ (v_ 1) (ac_ (v_ 2) (an_))))) (one_ (not_ ((fc_ D_f_stays (hr.mono (by decide)) (by rfl) (ac_ (v_ 0) (ac_ (v_ 1) (ac_ (fc_ D_f_turned_about (hr.mono (by decide)) (by rfl) (ac_ (v_ 0) (ac_ (v_ 1) (ac_ (v_ 2) (an_))))) (an_))))).pp)))))
/-! _law_low -/
abbrev N_f__law_low : List Str := ["n", "lines", "heap", "found", "k", "some", "x"]
theorem sc_f__law_low : FnScope N_f__law_low ["n", "lines", "heap"] (defScope (top 29)) := ⟨rfl, rfl, rfl, by decide +kernel, rfl, by decide +kernel, by decide +kernel⟩
def w_f__law_low : WS := wSeq (wSet 3 (wLst (wK (wLst (wN)) (wN)))) (wSeq (wFor (wRng2 (wK (wC (.int 1)) (wK (wV 0) (wN)))) (wGn 4) (wSet 3 (wB gAdd (wV 3) (wLc [5] (wIt (wV 3)) (wGn 5) (wYes) (wB gAdd (wV 5) (wLst (wK (wV 4) (wN)))))))) (wSeq (wFor (wIt (wSl (wV 3) (wSo (wC (.int 1))) (wNo))) (wGn 5) (wIfS (wTB (wB gEq (wCl gLen (wK (wLc [4] (wIt (wV 5)) (wGn 4) (wTB (wB gLt (wB gIx (wV 2) (wV 4)) (wCl gLen (wK (wLc [6] (wIt (wCl p_f__law_neighbours (wK (wV 1) (wK (wV 4) (wN))))) (wGn 6) (wTB (wB gNotIn (wV 6) (wV 5))) (wV 6)) (wN))))) (wV 4)) (wN))) (wC (.int 0)))) (wRet (wC (.bool false))) (wNx))) (wRet (wC (.bool true)))))
def p_f__law_low : GN := phiC 7 3 w_f__law_low
theorem ok_f__law_low {P : Program} {w : World} {K : PySem.W.Frag} {mg : Str → Option Value} {base : Heap} {f : Addr} {fd : FuncData} (F : FnP K "_law_low" (top 29) f fd) (gx : mg "_law_low" = some (.ref f)) (G : ∀ x ∈ bn, mg x = none) (D_f__law_neighbours : Fd P w K mg base "_law_neighbours" ["lines", "place"] 1 p_f__law_neighbours) : Fd P w K mg base "_law_low" ["n", "lines", "heap"] 2 p_f__law_low :=
  def_fd (N := N_f__law_low) (k := 1) F gx sc_f__law_low (by decide) rfl rfl (fun _ _ _ _ _ _ us hl => match us, hl with | [_, _, _], _ => rfl) fun cdv A outer s H E hr =>
    sc_ (set_ 3 sc_f__law_low.nd ((lst_ (ac_ ((lst_ (an_)).pv) (an_))).pv)) (sc_ (for_ PassesOwn.never (by rfl) (range2_ (by rfl) (G "range" (by decide)) (pc_ ((int_).pp) (pc_ ((v_ 0).pp) (pn_)))) (gn_ 4 sc_f__law_low.nd) (s1_ (set_ 3 sc_f__law_low.nd (add_ ((v_ 3).pp) (((lcv [("some", 5)] (by rfl) sc_f__law_low.nd (itp_ ((v_ 3).pp)) (fun _ _ _ _ _ => gn_ 5 sc_f__law_low.nd) (fun _ _ _ _ _ => tn_) (fun _ _ _ _ _ => add_ ((v_ 5).pp) (((lst_ (ac_ (v_ 4) (an_))).pv).pp))).pv).pp))))) (sc_ (for_ PassesOwn.never (by rfl) (it_ (slice_ ((v_ 3).pp) (os_ ((int_).pp)) (on_))) (gn_ 5 sc_f__law_low.nd) (s1_ (ifs_ (tcmp_ (op_eqD (ur hr)) (bopEq _) ((call_ (fun h => pe_callB call_len_seq (by rfl) (G "len" (by decide)) (by decide +kernel) h) (copLen _) (pc_ (((lcv [("k", 4)] (by rfl) sc_f__law_low.nd (itp_ ((v_ 5).pp)) (fun _ _ _ _ _ => gn_ 4 sc_f__law_low.nd) (fun _ _ _ _ _ => t1_ (tcmp_ op_lt bopB0 ((ix_ ((v_ 2).pp) ((v_ 4).pp)).pp) ((call_ (fun h => pe_callB call_len_seq (by rfl) (G "len" (by decide)) (by decide +kernel) h) (copLen _) (pc_ (((lcv [("x", 6)] (by rfl) sc_f__law_low.nd (itp_ ((fc_ D_f__law_neighbours (hr.mono (by decide)) (by rfl) (ac_ (v_ 1) (ac_ (v_ 4) (an_)))).pp)) (fun _ _ _ _ _ => gn_ 6 sc_f__law_low.nd) (fun _ _ _ _ _ => t1_ (tcmp_ (op_NotInT (ur hr)) (bopIn _ true) ((v_ 6).pp) ((v_ 5).pp))) (fun _ _ _ _ _ => v_ 6)).pv).pp) (pn_))).pp))) (fun _ _ _ _ _ => v_ 4)).pv).pp) (pn_))).pp) ((int_).pp)) (s1_ (ret_ (bl_))) (sn_)))) (s1_ (ret_ (bl_)))))
/-! law -/
abbrev N_f_law : List Str := ["script", "state", "n", "lines", "heaps", "due", "heap", "told", "full", "place", "about", "k", "turn", "some", "said"]
theorem sc_f_law : FnScope N_f_law ["script"] (defScope (top 30)) := ⟨rfl, rfl, rfl, by decide +kernel, rfl, by decide +kernel, by decide +kernel⟩
def w_f_law : WS := wSeq (wSet 2 (wB gAdd (wC (.int 1)) (wCl pDraw (wK (wV 1) (wK (wC (.int 4)) (wN)))))) (wSeq (wSet 3 (wCl p_f__law_web (wK (wV 1) (wK (wV 2) (wK (wCl pDraw (wK (wV 1) (wK (wC (.int 4)) (wN)))) (wN)))))) (wSeq (wSet 4 (wCl p_f__law_still_heaps (wK (wV 2) (wK (wV 3) (wN))))) (wSeq (wSet 5 (wCl gSorted (wK (wLc [6] (wIt (wV 4)) (wGn 6) (wT (wCl p_f__law_low (wK (wV 2) (wK (wV 3) (wK (wV 6) (wN)))))) (wV 6)) (wN)))) (wSeq (wSet 7 (wCl p_f_all_low (wK (wV 2) (wK (wV 3) (wN))))) (wSeq (wIfS (wOrT (wNotT (wT (wU (gIsi "list") (wV 7)))) (wTB (wB gNe (wV 7) (wV 5)))) (wRet (wC (.bool false))) (wNx)) (wSeq (wSet 8 (wLc [9] (wRng1 (wK (wV 2) (wN))) (wGn 9) (wYes) (wB gSub (wCl gLen (wK (wCl p_f__law_neighbours (wK (wV 3) (wK (wV 9) (wN)))) (wN))) (wC (.int 1))))) (wSeq (wSet 10 (wCl gSorted (wK (wLc [6] (wIt (wCl p_f_all_again (wK (wV 2) (wK (wV 3) (wN))))) (wGn 6) (wYes) (wB gAdd (wTup (wK (wC (.int 0)) (wN))) (wCl gTupOf (wK (wLc [11] (wRng2 (wK (wC (.int 1)) (wK (wV 2) (wN)))) (wGn 11) (wYes) (wB gSub (wB gIx (wV 8) (wV 11)) (wB gIx (wV 6) (wV 11)))) (wN))))) (wN)))) (wSeq (wIfS (wTB (wB gNe (wV 10) (wV 5))) (wRet (wC (.bool false))) (wNx)) (wSeq (wFor (wRng1 (wK (wC (.int 10)) (wN))) (wGn 12) (wSeq (wSet 13 (wCl p_f__law_heap (wK (wV 1) (wK (wV 2) (wK (wC (.int 6)) (wN)))))) (wSeq (wSet 14 (wCl p_f_is_low (wK (wV 2) (wK (wV 3) (wK (wV 13) (wN)))))) (wIfS (wOrT (wNotT (wT (wU (gIsi "bool") (wV 14)))) (wTB (wB gNe (wV 14) (wB gIn (wV 13) (wV 5))))) (wRet (wC (.bool false))) (wNx))))) (wRet (wAndV (wB gEq (wCl p_f_all_low (wK (wC (.int 1)) (wK (wTup (wN)) (wN)))) (wLst (wK (wTup (wK (wC (.int 0)) (wN))) (wN)))) (wB gEq (wCl p_f_all_low (wK (wC (.int 3)) (wK (wTup (wK (wTup (wK (wC (.int 0)) (wK (wC (.int 1)) (wN)))) (wK (wTup (wK (wC (.int 0)) (wK (wC (.int 2)) (wN)))) (wK (wTup (wK (wC (.int 1)) (wK (wC (.int 2)) (wN)))) (wN))))) (wN)))) (wLst (wK (wTup (wK (wC (.int 0)) (wK (wC (.int 0)) (wK (wC (.int 0)) (wN))))) (wK (wTup (wK (wC (.int 0)) (wK (wC (.int 0)) (wK (wC (.int 1)) (wN))))) (wK (wTup (wK (wC (.int 0)) (wK (wC (.int 1)) (wK (wC (.int 0)) (wN))))) (wN)))))))))))))))))
theorem ok_law {P : Program} {w : World} {K : PySem.W.Frag} {mg : Str → Option Value} {base : Heap} {cdv : Value} {A : Around} {outer : List Env} {s : Shared} {H : Hp} {E : XK} {f : Addr} (G : ∀ x ∈ bn, mg x = none) (D_f__law_draw : Fd P w K mg base "_law_draw" ["state", "many"] 1 pDraw) (D_f__law_heap : Fd P w K mg base "_law_heap" ["state", "n", "high"] 2 p_f__law_heap) (D_f__law_low : Fd P w K mg base "_law_low" ["n", "lines", "heap"] 2 p_f__law_low) (D_f__law_neighbours : Fd P w K mg base "_law_neighbours" ["lines", "place"] 1 p_f__law_neighbours) (D_f__law_still_heaps : Fd P w K mg base "_law_still_heaps" ["n", "lines"] 2 p_f__law_still_heaps) (D_f__law_web : Fd P w K mg base "_law_web" ["state", "n", "extra"] 2 p_f__law_web) (D_f_all_again : Fd P w K mg base "all_again" ["n", "lines"] 4 p_f_all_again) (D_f_all_low : Fd P w K mg base "all_low" ["n", "lines"] 5 p_f_all_low) (D_f_is_low : Fd P w K mg base "is_low" ["n", "lines", "heap"] 4 p_f_is_low) (hr : Room 5 (A.deeper (envOfC "law" (defScope (top 30)) s.heap.objs.size f cdv))) :
    PSsv (cxOf CX0 P w K mg base N_f_law "law" (defScope (top 30)) f cdv A outer s H E).nox ((defBody (top 30)).drop 1) w_f_law :=
  sc_ (set_ 2 sc_f_law.nd (add_ ((int_).pp) ((fc_ D_f__law_draw (hr.mono (by decide)) (by rfl) (ac_ (v_ 1) (ac_ (int_) (an_)))).pp))) (sc_ (set_ 3 sc_f_law.nd (fc_ D_f__law_web (hr.mono (by decide)) (by rfl) (ac_ (v_ 1) (ac_ (v_ 2) (ac_ (fc_ D_f__law_draw (hr.mono (by decide)) (by rfl) (ac_ (v_ 1) (ac_ (int_) (an_)))) (an_)))))) (sc_ (set_ 4 sc_f_law.nd (fc_ D_f__law_still_heaps (hr.mono (by decide)) (by rfl) (ac_ (v_ 2) (ac_ (v_ 3) (an_))))) (sc_ (set_ 5 sc_f_law.nd (call_ (fun h => pe_callB (cr_sortD (ur hr)) (by rfl) (G "sorted" (by decide)) (by decide +kernel) h) (copSorted _).cop (pc_ (((lcv [("heap", 6)] (by rfl) sc_f_law.nd (itp_ ((v_ 4).pp)) (fun _ _ _ _ _ => gn_ 6 sc_f_law.nd) (fun _ _ _ _ _ => t1_ (t_ ((fc_ D_f__law_low (hr.mono (by decide)) (by rfl) (ac_ (v_ 2) (ac_ (v_ 3) (ac_ (v_ 6) (an_))))).pp))) (fun _ _ _ _ _ => v_ 6)).pv).pp) (pn_)))) (sc_ (set_ 7 sc_f_law.nd (fc_ D_f_all_low (hr.mono (by decide)) (by rfl) (ac_ (v_ 2) (ac_ (v_ 3) (an_))))) (sc_ (ifs_ (tw_ (wor_ (tnot_ (t_ ((isi_ "list" (by simp) (by rfl) (G "isinstance" (by decide)) (by rfl) (G "list" (by decide)) (by decide +kernel) ((v_ 7).pp)).pp))) (wor1_ (tcmp_ (op_neD (ur hr)) (bopNe _) ((v_ 7).pp) ((v_ 5).pp))))) (s1_ (ret_ (bl_))) (sn_)) (sc_ (set_ 8 sc_f_law.nd ((lcv [("place", 9)] (by rfl) sc_f_law.nd ((range1_ (by rfl) (G "range" (by decide)) (pc_ ((v_ 2).pp) (pn_))).pp) (fun _ _ _ _ _ => gn_ 9 sc_f_law.nd) (fun _ _ _ _ _ => tn_) (fun _ _ _ _ _ => sub_ ((call_ (fun h => pe_callB call_len_seq (by rfl) (G "len" (by decide)) (by decide +kernel) h) (copLen _) (pc_ ((fc_ D_f__law_neighbours (hr.mono (by decide)) (by rfl) (ac_ (v_ 3) (ac_ (v_ 9) (an_)))).pp) (pn_))).pp) ((int_).pp))).pv)) (sc_ (set_ 10 sc_f_law.nd (call_ (fun h => pe_callB (cr_sortD (ur hr)) (by rfl) (G "sorted" (by decide)) (by decide +kernel) h) (copSorted _).cop (pc_ (((lcv [("heap", 6)] (by rfl) sc_f_law.nd (itp_ ((fc_ D_f_all_again (hr.mono (by decide)) (by rfl) (ac_ (v_ 2) (ac_ (v_ 3) (an_)))).pp)) (fun _ _ _ _ _ => gn_ 6 sc_f_law.nd) (fun _ _ _ _ _ => tn_) (fun _ _ _ _ _ => add_ ((tup_ (ac_ (int_) (an_))).pp) ((call_ (fun h => pe_callTy call_tuple_of (by rfl) (G "tuple" (by decide)) (by decide +kernel) h) (copTupOf _) (pc_ (((lcv [("k", 11)] (by rfl) sc_f_law.nd ((range2_ (by rfl) (G "range" (by decide)) (pc_ ((int_).pp) (pc_ ((v_ 2).pp) (pn_)))).pp) (fun _ _ _ _ _ => gn_ 11 sc_f_law.nd) (fun _ _ _ _ _ => tn_) (fun _ _ _ _ _ => sub_ ((ix_ ((v_ 8).pp) ((v_ 11).pp)).pp) ((ix_ ((v_ 6).pp) ((v_ 11).pp)).pp))).pv).pp) (pn_))).pp))).pv).pp) (pn_)))) (sc_ (ifs_ (tcmp_ (op_neD (ur hr)) (bopNe _) ((v_ 10).pp) ((v_ 5).pp)) (s1_ (ret_ (bl_))) (sn_)) (sc_ (for_ PassesOwn.never (by rfl) (range1_ (by rfl) (G "range" (by decide)) (pc_ ((int_).pp) (pn_))) (gn_ 12 sc_f_law.nd) (sc_ (set_ 13 sc_f_law.nd (fc_ D_f__law_heap (hr.mono (by decide)) (by rfl) (ac_ (v_ 1) (ac_ (v_ 2) (ac_ (int_) (an_)))))) (sc_ (set_ 14 sc_f_law.nd (fc_ D_f_is_low (hr.mono (by decide)) (by rfl) (ac_ (v_ 2) (ac_ (v_ 3) (ac_ (v_ 13) (an_)))))) (s1_ (ifs_ (tw_ (wor_ (tnot_ (t_ ((isi_ "bool" (by simp) (by rfl) (G "isinstance" (by decide)) (by rfl) (G "bool" (by decide)) (by decide +kernel) ((v_ 14).pp)).pp))) (wor1_ (tcmp_ (op_neD (ur hr)) (bopNe _) ((v_ 14).pp) ((cmp_ (op_InT (ur hr)) (bopIn _ false) ((v_ 13).pp) ((v_ 5).pp)).pp))))) (s1_ (ret_ (bl_))) (sn_)))))) (s1_ (ret_ (and_ (cmp_ (op_eqD (ur hr)) (bopEq _) ((fc_ D_f_all_low (hr.mono (by decide)) (by rfl) (ac_ (int_) (ac_ (tup_ (an_)) (an_)))).pp) (((lst_ (ac_ (tup_ (ac_ (int_) (an_))) (an_))).pv).pp)) (one_ (cmp_ (op_eqD (ur hr)) (bopEq _) ((fc_ D_f_all_low (hr.mono (by decide)) (by rfl) (ac_ (int_) (ac_ (tup_ (ac_ (tup_ (ac_ (int_) (ac_ (int_) (an_)))) (ac_ (tup_ (ac_ (int_) (ac_ (int_) (an_)))) (ac_ (tup_ (ac_ (int_) (ac_ (int_) (an_)))) (an_))))) (an_)))).pp) (((lst_ (ac_ (tup_ (ac_ (int_) (ac_ (int_) (ac_ (int_) (an_))))) (ac_ (tup_ (ac_ (int_) (ac_ (int_) (ac_ (int_) (an_))))) (ac_ (tup_ (ac_ (int_) (ac_ (int_) (ac_ (int_) (an_))))) (an_))))).pv).pp)))))))))))))))
end Wk09

namespace Wk09
open PySem PySem.Spec PyProof.Rows L2 Eg
theorem full_law {P : Program} {w : World} {K : PySem.W.Frag} {mg : Str → Option Value} {base : Heap} {f fS : Addr} {fd fdS : FuncData} (F : FnP K "law" (top 30) f fd) (FS : FnP K "_law_state" (top 16) fS fdS) (gS : mg "_law_state" = some (.ref fS)) (G : ∀ x ∈ bn, mg x = none) (gi : mg "int" = none) (ga : mg "abs" = none) (D_f__law_draw : Fd P w K mg base "_law_draw" ["state", "many"] 1 pDraw) (D_f__law_heap : Fd P w K mg base "_law_heap" ["state", "n", "high"] 2 p_f__law_heap) (D_f__law_low : Fd P w K mg base "_law_low" ["n", "lines", "heap"] 2 p_f__law_low) (D_f__law_neighbours : Fd P w K mg base "_law_neighbours" ["lines", "place"] 1 p_f__law_neighbours) (D_f__law_still_heaps : Fd P w K mg base "_law_still_heaps" ["n", "lines"] 2 p_f__law_still_heaps) (D_f__law_web : Fd P w K mg base "_law_web" ["state", "n", "extra"] 2 p_f__law_web) (D_f_all_again : Fd P w K mg base "all_again" ["n", "lines"] 4 p_f_all_again) (D_f_all_low : Fd P w K mg base "all_low" ["n", "lines"] 5 p_f_all_low) (D_f_is_low : Fd P w K mg base "is_low" ["n", "lines", "heap"] 4 p_f_is_low) (plain : w_f_law (lawEnv 15) yes) :
    FnOk P w K mg base CX0 6 f fd ["script"] (spLaw K) := by
  have GS : FnOk P w K mg base CX0 1 fS fdS ["script"] (spState K) := ok_f__law_state FS gi ga
  have bS : Binds K fdS ["script"] [] := FS.bindsN fun _ _ _ _ _ _ us hl => match us, hl with | [_], _ => rfl
  refine law_ok1 (N := N_f_law) (k := 5) (st0 := (defBody (top 30)).headD (.Pass ⟨0, 0, 0, 0⟩)) (rest := (defBody (top 30)).drop 1) F sc_f_law (by decide) (fun cdv A outer s H E hr => ?_) (fun cdv A outer s H E hr => ?_) plain
  · exact ps_set (i := 1) sc_f_law.nd rfl (by first | exact Or.inl rfl | exact Or.inr rfl) (pe_call GS (hr.mono (by decide)) rfl gS FS.kp bS .nil pass0 (pa_cons (pv 0) pa_nil))
  · exact ok_law G D_f__law_draw D_f__law_heap D_f__law_low D_f__law_neighbours D_f__law_still_heaps D_f__law_web D_f_all_again D_f_all_low D_f_is_low (hr.mono (by decide))
def dd_f__law_state : He.DefD := ⟨("_law_state", none), "_law_state", "_law_state", defArgs (top 16), defBody (top 16), defScope (top 16), [], []⟩
def dd_f__law_draw : He.DefD := ⟨("_law_draw", none), "_law_draw", "_law_draw", defArgs (top 17), defBody (top 17), defScope (top 17), [], []⟩
def dd_f__law_web : He.DefD := ⟨("_law_web", none), "_law_web", "_law_web", defArgs (top 20), defBody (top 20), defScope (top 20), [], []⟩
def dd_f__law_neighbours : He.DefD := ⟨("_law_neighbours", none), "_law_neighbours", "_law_neighbours", defArgs (top 18), defBody (top 18), defScope (top 18), [], []⟩
def dd_f__law_still_heaps : He.DefD := ⟨("_law_still_heaps", none), "_law_still_heaps", "_law_still_heaps", defArgs (top 26), defBody (top 26), defScope (top 26), [], []⟩
def dd_f_degrees : He.DefD := ⟨("degrees", none), "degrees", "degrees", defArgs (top 2), defBody (top 2), defScope (top 2), [], []⟩
def dd_f_fullest : He.DefD := ⟨("fullest", none), "fullest", "fullest", defArgs (top 6), defBody (top 6), defScope (top 6), [], []⟩
def dd_f_turned_about : He.DefD := ⟨("turned_about", none), "turned_about", "turned_about", defArgs (top 12), defBody (top 12), defScope (top 12), [], []⟩
def dd_f_still_heaps : He.DefD := ⟨("still_heaps", none), "still_heaps", "still_heaps", defArgs (top 10), defBody (top 10), defScope (top 10), [], []⟩
def dd_f_neighbours : He.DefD := ⟨("neighbours", none), "neighbours", "neighbours", defArgs (top 1), defBody (top 1), defScope (top 1), [], []⟩
def dd_f_rounds : He.DefD := ⟨("rounds", none), "rounds", "rounds", defArgs (top 8), defBody (top 8), defScope (top 8), [], []⟩
def dd_f_stays : He.DefD := ⟨("stays", none), "stays", "stays", defArgs (top 9), defBody (top 9), defScope (top 9), [], []⟩
def dd_f_all_again : He.DefD := ⟨("all_again", none), "all_again", "all_again", defArgs (top 11), defBody (top 11), defScope (top 11), [], []⟩
def dd_f_all_low : He.DefD := ⟨("all_low", none), "all_low", "all_low", defArgs (top 14), defBody (top 14), defScope (top 14), [], []⟩
def dd_f__law_heap : He.DefD := ⟨("_law_heap", none), "_law_heap", "_law_heap", defArgs (top 23), defBody (top 23), defScope (top 23), [], []⟩
def dd_f_may_topple : He.DefD := ⟨("may_topple", none), "may_topple", "may_topple", defArgs (top 4), defBody (top 4), defScope (top 4), [], []⟩
def dd_f_is_still : He.DefD := ⟨("is_still", none), "is_still", "is_still", defArgs (top 5), defBody (top 5), defScope (top 5), [], []⟩
def dd_f_is_low : He.DefD := ⟨("is_low", none), "is_low", "is_low", defArgs (top 13), defBody (top 13), defScope (top 13), [], []⟩
def dd_f__law_low : He.DefD := ⟨("_law_low", none), "_law_low", "_law_low", defArgs (top 29), defBody (top 29), defScope (top 29), [], []⟩
def dd_f_law : He.DefD := ⟨("law", none), "law", "law", defArgs (top 30), defBody (top 30), defScope (top 30), [], []⟩
def fn : List He.DefD := [dd_f__law_state, dd_f__law_draw, dd_f__law_web, dd_f__law_neighbours, dd_f__law_still_heaps, dd_f_degrees, dd_f_fullest, dd_f_turned_about, dd_f_still_heaps, dd_f_neighbours, dd_f_rounds, dd_f_stays, dd_f_all_again, dd_f_all_low, dd_f__law_heap, dd_f_may_topple, dd_f_is_still, dd_f_is_low, dd_f__law_low, dd_f_law]
def fa : List He.Fa := [.glo "_law_state", .glo "_law_draw", .glo "_law_web", .glo "_law_neighbours", .glo "_law_still_heaps", .glo "degrees", .glo "fullest", .glo "turned_about", .glo "still_heaps", .glo "neighbours", .glo "rounds", .glo "stays", .glo "all_again", .glo "all_low", .glo "_law_heap", .glo "may_topple", .glo "is_still", .glo "is_low", .glo "_law_low", .glo "law", .free "abs", .free "bool", .free "int", .free "isinstance", .free "len", .free "list", .free "max", .free "min", .free "range", .free "sorted", .free "tuple", .free "zip"]
def loose : List PySem.Str := (["neighbours", "degrees", "may_topple", "is_still", "fullest", "rounds", "stays", "still_heaps", "all_again", "turned_about", "is_low", "all_low", "_law_state", "_law_draw", "_law_neighbours", "_law_reach", "_law_web", "_law_table", "_law_trees", "_law_heap", "_law_toppled", "_law_may", "_law_still_heaps", "_law_rounds", "_law_stilled", "_law_low"] : List PySem.Str)
abbrev Rw : PySem.W.OpenRow := PySem.W.OpenLaw.row PySem.Challenge.rw_grainsfall_k09_low_heaps
abbrev hk : PySem.W.Hook := He.hookD 4 fa fn
def ob (s : PySem.W.SharedT) : He.AlD := He.obsDG 4 fa fn (HandSHeadRun.getT s)
theorem ob_eq (s : PySem.W.SharedT) : ob s = hk.obs s.abs := He.obsDG_eq (HandSHeadRun.getT_eq s)
theorem run (w : World) : HandSHeadRun.RunEq Rw (PySem.W.view Rw.prog [30]) hk ob 6000 loose w := by
  intro os
  kernel_rfl
theorem facts {P : Program} {w : World} {K : PySem.W.Frag} {h : Heap} {mg : Str → Option Value} {f : Addr} (X : K.In h) (G : h.Ns mainGlobals mg) (hfa : mg ("law" : Str) = some (.ref f)) (c : He.SaysD fa fn K) (plain : w_f_law (lawEnv 15) yes) :
    ∃ fd : FuncData, (∀ (s : Shared) (v : Value), BindsTo s fd ⟨[v], []⟩ [("script", v)]) ∧ ∀ base : Heap, K.In base → base.Ns mainGlobals mg → FnOk P w K mg base CX0 6 f fd ["script"] (spLaw K) := by
  obtain ⟨fd_f__law_state, F_f__law_state⟩ := c.def_ 0 (d := dd_f__law_state) rfl
  obtain ⟨fd_f__law_draw, F_f__law_draw⟩ := c.def_ 1 (d := dd_f__law_draw) rfl
  obtain ⟨fd_f__law_web, F_f__law_web⟩ := c.def_ 2 (d := dd_f__law_web) rfl
  obtain ⟨fd_f__law_neighbours, F_f__law_neighbours⟩ := c.def_ 3 (d := dd_f__law_neighbours) rfl
  obtain ⟨fd_f__law_still_heaps, F_f__law_still_heaps⟩ := c.def_ 4 (d := dd_f__law_still_heaps) rfl
  obtain ⟨fd_f_degrees, F_f_degrees⟩ := c.def_ 5 (d := dd_f_degrees) rfl
  obtain ⟨fd_f_fullest, F_f_fullest⟩ := c.def_ 6 (d := dd_f_fullest) rfl
  obtain ⟨fd_f_turned_about, F_f_turned_about⟩ := c.def_ 7 (d := dd_f_turned_about) rfl
  obtain ⟨fd_f_still_heaps, F_f_still_heaps⟩ := c.def_ 8 (d := dd_f_still_heaps) rfl
  obtain ⟨fd_f_neighbours, F_f_neighbours⟩ := c.def_ 9 (d := dd_f_neighbours) rfl
  obtain ⟨fd_f_rounds, F_f_rounds⟩ := c.def_ 10 (d := dd_f_rounds) rfl
  obtain ⟨fd_f_stays, F_f_stays⟩ := c.def_ 11 (d := dd_f_stays) rfl
  obtain ⟨fd_f_all_again, F_f_all_again⟩ := c.def_ 12 (d := dd_f_all_again) rfl
  obtain ⟨fd_f_all_low, F_f_all_low⟩ := c.def_ 13 (d := dd_f_all_low) rfl
  obtain ⟨fd_f__law_heap, F_f__law_heap⟩ := c.def_ 14 (d := dd_f__law_heap) rfl
  obtain ⟨fd_f_may_topple, F_f_may_topple⟩ := c.def_ 15 (d := dd_f_may_topple) rfl
  obtain ⟨fd_f_is_still, F_f_is_still⟩ := c.def_ 16 (d := dd_f_is_still) rfl
  obtain ⟨fd_f_is_low, F_f_is_low⟩ := c.def_ 17 (d := dd_f_is_low) rfl
  obtain ⟨fd_f__law_low, F_f__law_low⟩ := c.def_ 18 (d := dd_f__law_low) rfl
  obtain ⟨fd_f_law, F_f_law⟩ := c.def_ 19 (d := dd_f_law) rfl
  have g_f__law_state := He.glo_ok X G (c.fact 0 (f := .glo "_law_state") rfl)
  have g_f__law_draw := He.glo_ok X G (c.fact 1 (f := .glo "_law_draw") rfl)
  have g_f__law_web := He.glo_ok X G (c.fact 2 (f := .glo "_law_web") rfl)
  have g_f__law_neighbours := He.glo_ok X G (c.fact 3 (f := .glo "_law_neighbours") rfl)
  have g_f__law_still_heaps := He.glo_ok X G (c.fact 4 (f := .glo "_law_still_heaps") rfl)
  have g_f_degrees := He.glo_ok X G (c.fact 5 (f := .glo "degrees") rfl)
  have g_f_fullest := He.glo_ok X G (c.fact 6 (f := .glo "fullest") rfl)
  have g_f_turned_about := He.glo_ok X G (c.fact 7 (f := .glo "turned_about") rfl)
  have g_f_still_heaps := He.glo_ok X G (c.fact 8 (f := .glo "still_heaps") rfl)
  have g_f_neighbours := He.glo_ok X G (c.fact 9 (f := .glo "neighbours") rfl)
  have g_f_rounds := He.glo_ok X G (c.fact 10 (f := .glo "rounds") rfl)
  have g_f_stays := He.glo_ok X G (c.fact 11 (f := .glo "stays") rfl)
  have g_f_all_again := He.glo_ok X G (c.fact 12 (f := .glo "all_again") rfl)
  have g_f_all_low := He.glo_ok X G (c.fact 13 (f := .glo "all_low") rfl)
  have g_f__law_heap := He.glo_ok X G (c.fact 14 (f := .glo "_law_heap") rfl)
  have g_f_may_topple := He.glo_ok X G (c.fact 15 (f := .glo "may_topple") rfl)
  have g_f_is_still := He.glo_ok X G (c.fact 16 (f := .glo "is_still") rfl)
  have g_f_is_low := He.glo_ok X G (c.fact 17 (f := .glo "is_low") rfl)
  have g_f__law_low := He.glo_ok X G (c.fact 18 (f := .glo "_law_low") rfl)
  have b_abs := He.free_ok X G (c.fact 20 (f := .free "abs") rfl)
  have b_bool := He.free_ok X G (c.fact 21 (f := .free "bool") rfl)
  have b_int := He.free_ok X G (c.fact 22 (f := .free "int") rfl)
  have b_isinstance := He.free_ok X G (c.fact 23 (f := .free "isinstance") rfl)
  have b_len := He.free_ok X G (c.fact 24 (f := .free "len") rfl)
  have b_list := He.free_ok X G (c.fact 25 (f := .free "list") rfl)
  have b_max := He.free_ok X G (c.fact 26 (f := .free "max") rfl)
  have b_min := He.free_ok X G (c.fact 27 (f := .free "min") rfl)
  have b_range := He.free_ok X G (c.fact 28 (f := .free "range") rfl)
  have b_sorted := He.free_ok X G (c.fact 29 (f := .free "sorted") rfl)
  have b_tuple := He.free_ok X G (c.fact 30 (f := .free "tuple") rfl)
  have b_zip := He.free_ok X G (c.fact 31 (f := .free "zip") rfl)
  have e := hfa.symm.trans (He.glo_ok X G (c.fact 19 (f := .glo "law") rfl))
  cases e
  have b := FunD.bindsA (ps := ["script"]) F_f_law fun _ _ _ _ _ _ us hl => match us, hl with | [_], _ => rfl
  refine ⟨fd_f_law, fun s v => b s [v] rfl, fun base _ _ => ?_⟩
  have Gb : ∀ x ∈ bn, mg x = none := by
    intro x hx
    simp only [bn, List.mem_cons, List.not_mem_nil, or_false] at hx
    rcases hx with rfl | rfl | rfl | rfl | rfl | rfl | rfl | rfl | rfl | rfl | rfl
    · exact b_bool
    · exact b_int
    · exact b_isinstance
    · exact b_len
    · exact b_list
    · exact b_max
    · exact b_min
    · exact b_range
    · exact b_sorted
    · exact b_tuple
    · exact b_zip
  have D_f__law_draw : Fd P w K mg base "_law_draw" ["state", "many"] 1 pDraw := ok_f__law_draw F_f__law_draw g_f__law_draw b_len b_int
  have D_f__law_web := ok_f__law_web (P := P) (w := w) (base := base) F_f__law_web g_f__law_web Gb D_f__law_draw
  have D_f__law_neighbours := ok_f__law_neighbours (P := P) (w := w) (base := base) F_f__law_neighbours g_f__law_neighbours Gb 
  have D_f__law_still_heaps := ok_f__law_still_heaps (P := P) (w := w) (base := base) F_f__law_still_heaps g_f__law_still_heaps Gb D_f__law_neighbours
  have D_f_degrees := ok_f_degrees (P := P) (w := w) (base := base) F_f_degrees g_f_degrees Gb 
  have D_f_fullest := ok_f_fullest (P := P) (w := w) (base := base) F_f_fullest g_f_fullest Gb D_f_degrees
  have D_f_turned_about := ok_f_turned_about (P := P) (w := w) (base := base) F_f_turned_about g_f_turned_about Gb D_f_fullest
  have D_f_still_heaps := ok_f_still_heaps (P := P) (w := w) (base := base) F_f_still_heaps g_f_still_heaps Gb D_f_degrees
  have D_f_neighbours := ok_f_neighbours (P := P) (w := w) (base := base) F_f_neighbours g_f_neighbours Gb 
  have D_f_rounds := ok_f_rounds (P := P) (w := w) (base := base) F_f_rounds g_f_rounds Gb D_f_neighbours
  have D_f_stays := ok_f_stays (P := P) (w := w) (base := base) F_f_stays g_f_stays Gb D_f_rounds
  have D_f_all_again := ok_f_all_again (P := P) (w := w) (base := base) F_f_all_again g_f_all_again Gb D_f_stays D_f_still_heaps
  have D_f_all_low := ok_f_all_low (P := P) (w := w) (base := base) F_f_all_low g_f_all_low Gb D_f_all_again D_f_turned_about
  have D_f__law_heap := ok_f__law_heap (P := P) (w := w) (base := base) F_f__law_heap g_f__law_heap Gb D_f__law_draw
  have D_f_may_topple := ok_f_may_topple (P := P) (w := w) (base := base) F_f_may_topple g_f_may_topple Gb D_f_degrees
  have D_f_is_still := ok_f_is_still (P := P) (w := w) (base := base) F_f_is_still g_f_is_still Gb D_f_may_topple
  have D_f_is_low := ok_f_is_low (P := P) (w := w) (base := base) F_f_is_low g_f_is_low Gb D_f_is_still D_f_stays D_f_turned_about
  have D_f__law_low := ok_f__law_low (P := P) (w := w) (base := base) F_f__law_low g_f__law_low Gb D_f__law_neighbours
  exact full_law F_f_law F_f__law_state g_f__law_state Gb b_int b_abs D_f__law_draw D_f__law_heap D_f__law_low D_f__law_neighbours D_f__law_still_heaps D_f__law_web D_f_all_again D_f_all_low D_f_is_low plain
end Wk09

namespace Wk09
open PySem PySem.Spec PyProof.Rows L2 Eg
abbrev Pr := Int × Int
def pr (l : Pr) : D := .tuple [.int l.1, .int l.2]
def Ln (ls : List Pr) : D := .tuple (ls.map pr)
def touch (p : Int) (l : Pr) : Bool := decide (p = l.1 ∨ p = l.2)
def nb (ls : List Pr) (p : Int) : List Int := (ls.filter (touch p)).map fun l => l.1 + l.2 - p
theorem nb_len {ls : List Pr} {p : Int} : (nb ls p).length ≤ ls.length := by
  unfold nb
  rw [List.length_map]
  exact List.length_filter_le _ _
theorem nb_law {ls : List Pr} {p : Int} {Q : D → Prop} (hz : ls.length ≤ sizeLine) (h : Q (Il (nb ls p))) : p_f__law_neighbours [Ln ls, .int p] Q := by
  refine phi_i rfl ?_
  unfold w_f__law_neighbours
  simp [Ln]
  refine fun _ => lcGo_enc pr (touch p) (fun l => .int (l.1 + l.2 - p)) (fun l hl Y N q => ?_) (by simpa using hz) ?_
  · simp [pr, two_le, sh_int, lay_pair, inD_pair]
    simpa [touch] using q
  · simpa [nb, Il, Function.comp_def] using h
theorem nb_prog {n : Int} {ls : List Pr} {p : Int} {Q : D → Prop} (hz : ls.length ≤ sizeLine) (h : ∀ b : List Int, b.Perm (nb ls p) → Q (Il b)) : p_f_neighbours [.int n, Ln ls, .int p] Q := by
  refine phi_i rfl ?_
  unfold w_f_neighbours
  simp [Ln]
  refine fun _ => lcGo_enc pr (touch p) (fun l => .int (l.1 + l.2 - p)) (fun l hl Y N q => ?_) (by simpa using hz) ?_
  · simp [pr, two_le, sh_int, lay_pair, inD_pair]
    simpa [touch] using q
  · have e : List.map (fun l => PyData.int (l.fst + l.snd - p)) (ls.filter (touch p)) = (nb ls p).map .int := by simp [nb]
    simp only [List.nil_append]
    rw [e]
    refine ⟨⟨(pl_Il (n := 0)).shaped, alike_ints, sortable_ints⟩, ?_⟩
    obtain ⟨b, e2, pb⟩ := perm_ints (List.mergeSort_perm ((nb ls p).map .int) (PySem.W.dataLe false id))
    rw [e2]
    exact h b pb
def opens (ls : List Pr) (p : Int) (b : List Int) : Nat := ((nb ls p).filter fun x => decide (x ∉ b)).length
def cond (ls : List Pr) (hs : List Int) (b : List Int) (p : Int) : Bool := decide (p ∉ b) && decide ((opens ls p b : Int) ≤ gi hs p)
def found (n : Nat) (ls : List Pr) (hs : List Int) (b : List Int) : List Int := (rng 0 n).filter (cond ls hs b)
def fire (n : Nat) (ls : List Pr) (hs : List Int) : Nat → List Int → List (List Int)
  | 0, _ => []
  | k + 1, b => if found n ls hs b = [] then [] else found n ls hs b :: fire n ls hs k (b ++ found n ls hs b)
def unb (n : Nat) (b : List Int) : List Int := (rng 0 n).filter fun x => decide (x ∉ b)
theorem unb_lt {n : Nat} {ls : List Pr} {hs b : List Int} (h : found n ls hs b ≠ []) : (unb n (b ++ found n ls hs b)).length < (unb n b).length := by
  obtain ⟨x, hx⟩ := List.exists_mem_of_ne_nil _ h
  have hx' := List.mem_filter.mp hx
  have hb : x ∉ b := by
    have := hx'.2
    unfold cond at this
    simp at this
    exact this.1
  have e : unb n (b ++ found n ls hs b) = (unb n b).filter fun y => decide (y ∉ found n ls hs b) := by
    unfold unb
    rw [List.filter_filter]
    congr 1
    funext y
    simp [List.mem_append, not_or, Bool.and_comm]
  rw [e]
  refine List.length_filter_lt_length_iff_exists.mpr ⟨x, List.mem_filter.mpr ⟨hx'.1, by simpa using hb⟩, by simpa using hx⟩
theorem found_nil {n : Nat} {ls : List Pr} {hs b : List Int} (h : unb n b = []) : found n ls hs b = [] := by
  refine List.filter_eq_nil_iff.mpr fun x hx => ?_
  have := List.filter_eq_nil_iff.mp h x hx
  unfold cond
  simp at this ⊢
  intro q; exact absurd this q
theorem fire_nil {n : Nat} {ls : List Pr} {hs b : List Int} {k : Nat} (h : found n ls hs b = []) : fire n ls hs k b = [] := by
  cases k with
  | zero => rfl
  | succ k => unfold fire; rw [if_pos h]
theorem fire_cons {n : Nat} {ls : List Pr} {hs b : List Int} {k : Nat} (h : found n ls hs b ≠ []) (hk : (unb n b).length ≤ k) : fire n ls hs k b = found n ls hs b :: fire n ls hs (k - 1) (b ++ found n ls hs b) := by
  cases k with
  | zero => exact absurd (found_nil (List.length_eq_zero_iff.mp (by omega))) h
  | succ k => show (if _ then _ else _) = _; rw [if_neg h]; rfl
def due (n : Nat) (ls : List Pr) (hs : List Int) : List (List Int) := [0] :: fire n ls hs n [0]
theorem found_len {n : Nat} {ls : List Pr} {hs b : List Int} : (found n ls hs b).length ≤ n := by
  have := List.length_filter_le (cond ls hs b) (rng 0 n)
  rw [rng_length] at this; exact this

def Hp' (hs : List Int) : D := .tuple (hs.map .int)
def Ll (t : List (List Int)) : D := .list (t.map Il)
theorem len_lt {n : Nat} {d : List Int} {x : Int} {r : List Int} {p : Int → Bool} (e : rng 0 n = d ++ x :: r) : (d.filter p).length < n := by
  have h1 := List.length_filter_le p d
  have h2 : (rng 0 n).length = n := rng_length
  rw [e] at h2
  simp at h2
  omega
theorem in_rng {n : Nat} {d : List Int} {x : Int} {r : List Int} (e : rng 0 n = d ++ x :: r) : 0 ≤ x ∧ x < n := by
  have : x ∈ rng 0 n := by rw [e]; simp
  have := mem_rng.mp this
  omega
theorem small_of {n : Nat} (h : n ≤ 101) : n < sizeLine := by
  have : (101 : Nat) < sizeLine := by decide
  omega
theorem small {n : Nat} (h : n ≤ 100) : n < sizeLine := by
  have : (100 : Nat) < sizeLine := by decide
  omega
/-- both ways burn the same -/
theorem opens_perm {ls : List Pr} {p : Int} {b c : List Int} (h : c.Perm (nb ls p)) : (c.filter fun x => decide (x ∉ b)).length = opens ls p b := (h.filter _).length_eq
theorem rounds_prog {n : Nat} {ls : List Pr} {hs : List Int} {Q : D → Prop} (hn : n ≤ 100) (hz : ls.length ≤ 100) (hh : hs.length = n) (h : Q (Ll (due n ls hs))) : p_f_rounds [.int n, Ln ls, Hp' hs] Q := by
  refine phi_i rfl ?_
  have hz' : ls.length ≤ sizeLine := Nat.le_of_lt (small hz)
  unfold w_f_rounds
  simp [one_le]
  refine wWh_i (fun k env => ∃ (pre : List (List Int)) (b : List Int) (s5 s6 s7 s8 : Sl), env = [.sh (.int n), .sh (Ln ls), .sh (Hp' hs), .sh (Il b), .ow (pre.map Il), s5, s6, s7, s8] ∧
    ((∃ k', k = k' + 1 ∧ (∃ p0 l, pre = p0 ++ [l] ∧ l ≠ []) ∧ pre ++ fire n ls hs k' b = due n ls hs ∧ (unb n b).length ≤ k' ∧ b.length + n * k' ≤ 1 + n * n ∧ pre.length + k' ≤ 1 + n) ∨ (k = 0 ∧ pre = due n ls hs ++ [[]])))
    (n := n + 1) ⟨[[0]], [0], .un, .un, .un, .un, rfl, .inl ⟨n, rfl, ⟨[], [0], rfl, by simp⟩, rfl, ?_, Nat.le_refl _, Nat.le_refl _⟩⟩ ?_
  · have := List.length_filter_le (fun x => decide (x ∉ [(0 : Int)])) (rng 0 n)
    rw [rng_length] at this; exact this
  · rintro k env ⟨pre, b, s5, s6, s7, s8, rfl, hk⟩ N hN
    simp
    have lastI : ∀ (p0 : List (List Int)) (l : List Int), atI ((p0 ++ [l]).map Il) (-1) = some (Il l) := fun p0 l => by
      unfold atI ixN
      rw [if_neg (by decide), if_pos (by simp; omega)]
      simp
      have : (-1 + ((p0.length : Int) + 1)).toNat = p0.length := by omega
      rw [this]
      rw [List.getElem?_append_right (by simp)]
      simp
    rcases hk with ⟨k', rfl, ⟨p0, l, rfl, hl⟩, e1, e2, e3, e4⟩ | ⟨rfl, rfl⟩
    · rw [lastI]
      have hl' : l.isEmpty = false := by cases l with
        | nil => exact absurd rfl hl
        | cons a r => rfl
      simp [Il, hl]
      refine ⟨by omega, ?_⟩
      rw [rangeD_map]
      refine forGo_inv .int (fun done env => ∃ acc, acc = (done.filter (cond ls hs b)).map PyData.int ∧ ∃ s6 s7 s8, env = [.sh (.int n), .sh (Ln ls), .sh (Hp' hs), .sh (Il b), .ow (p0.map Il ++ [Il l]), .ow acc, s6, s7, s8]) _ [] _ ⟨_, rfl, _, _, _, rfl⟩ ?_ ?_
      · rintro x d r env eq ⟨acc, ea, s6, s7, s8, rfl⟩ N2 hN2
        rw [List.nil_append] at eq
        have hx := in_rng eq
        have hm : x.toNat < n := by omega
        have hlt : acc.length < sizeLine := by rw [ea, List.length_map]; exact Nat.lt_trans (len_lt eq) (small hn)
        have yes : cond ls hs b x = true → acc ++ [PyData.int x] = ((d ++ [x]).filter (cond ls hs b)).map PyData.int := fun c => by rw [ea]; simp [c]
        have no : cond ls hs b x = false → acc = ((d ++ [x]).filter (cond ls hs b)).map PyData.int := fun c => by rw [ea]; simp [c]
        simp [Il, sh_int, lay_ints, inD_int]
        by_cases hb : x ∈ b
        · rw [if_pos hb]
          exact hN2 _ ⟨_, no (by simp [cond, hb]), _, _, _, rfl⟩
        · rw [if_neg hb]
          refine nb_prog hz' fun c pc => ?_
          simp [Il]
          have lz : c.length ≤ sizeLine := by rw [pc.length_eq]; exact Nat.le_trans nb_len hz'
          refine fun _ => lcGo_enc .int (fun y => decide (y ∉ b)) .int (fun y hy Y N3 q => ?_) (by simpa using lz) ?_
          · simp [sh_int, lay_ints, inD_int]
            simpa using q
          · simp only [List.nil_append, List.length_map, opens_perm pc]
            simp [Hp', atI_int hx.1 (show x < hs.length by omega)]
            by_cases hc : (opens ls x b : Int) ≤ gi hs x
            · rw [if_pos hc]
              exact ⟨hlt, hN2 _ ⟨_, yes (by unfold cond; rw [decide_eq_true hc]; simp [hb]), _, _, _, rfl⟩⟩
            · rw [if_neg hc]
              exact hN2 _ ⟨_, no (by unfold cond; rw [decide_eq_false hc]; simp), _, _, _, rfl⟩
      · rintro env ⟨acc, ea, s6, s7, s8, rfl⟩
        rw [List.nil_append] at ea
        have hf : (rng 0 n).filter (cond ls hs b) = found n ls hs b := rfl
        rw [hf] at ea
        have nn : n * n ≤ 100 * 100 := Nat.mul_le_mul hn hn
        have lb : b.length ≤ 10001 := by omega
        have la : acc.length ≤ 100 := by rw [ea, List.length_map]; exact Nat.le_trans found_len hn
        have big : 20000 < sizeLine := by decide
        have lp : (p0 ++ [l]).length = p0.length + 1 := by simp
        simp [Il]
        refine ⟨by omega, by omega, ?_⟩
        by_cases h0 : found n ls hs b = []
        · refine hN 0 _ (by omega) ⟨p0 ++ [l] ++ [[]], b, .sh (.list acc), s6, s7, s8, ?_, .inr ⟨rfl, ?_⟩⟩
          · rw [ea, h0]; simp [Il]
          · rw [fire_nil h0, List.append_nil] at e1
            rw [e1]
        · have lu := unb_lt h0
          obtain ⟨k, rfl⟩ : ∃ k2, k' = k2 + 1 := ⟨k' - 1, by omega⟩
          rw [fire_cons h0 e2] at e1
          have fl : (found n ls hs b).length ≤ n := found_len
          have mk : n * (k + 1) = n * k + n := Nat.mul_succ n k
          refine hN (k + 1) _ (by omega) ⟨p0 ++ [l] ++ [found n ls hs b], b ++ found n ls hs b, .sh (.list acc), s6, s7, s8, ?_, .inl ⟨k, rfl, ⟨_, _, rfl, h0⟩, by rw [List.append_assoc]; exact e1, by omega, ?_, ?_⟩⟩
          · rw [ea]; simp [Il]
          · rw [List.length_append]; omega
          · rw [List.length_append, List.length_singleton]; omega
    · rw [lastI]
      simp [Il]
      have cut : cutD ((due n ls hs).map Il ++ [PyData.list []]) none (some (-1)) = (due n ls hs).map Il := cut_last
      rw [cut]; exact h

theorem fire_len {n : Nat} {ls : List Pr} {hs : List Int} : ∀ (k : Nat) (b : List Int), (fire n ls hs k b).length ≤ k ∧ (fire n ls hs k b).flatten.length ≤ n * k
  | 0, b => by simp [fire]
  | k + 1, b => by
    unfold fire
    split
    · simp
    · obtain ⟨h1, h2⟩ := fire_len (n := n) (ls := ls) (hs := hs) k (b ++ found n ls hs b)
      have h3 : (found n ls hs b).length ≤ n := found_len
      have h4 : n * (k + 1) = n * k + n := Nat.mul_succ n k
      simp only [List.length_cons, List.flatten_cons, List.length_append]
      omega
def left (n : Nat) (ls : List Pr) (hs : List Int) : List Int := (rng 0 n).filter fun x => decide (x ∉ (due n ls hs).flatten)
theorem due_len {n : Nat} {ls : List Pr} {hs : List Int} (hn : n ≤ 100) : (due n ls hs).length ≤ 101 ∧ (due n ls hs).flatten.length ≤ 10001 := by
  obtain ⟨h1, h2⟩ := fire_len (n := n) (ls := ls) (hs := hs) n [0]
  have nn : n * n ≤ 100 * 100 := Nat.mul_le_mul hn hn
  unfold due
  simp only [List.length_cons, List.flatten_cons, List.length_append, List.length_nil]
  omega
theorem rng_small {n : Nat} (hn : n ≤ 100) {p : Int → Bool} : ((rng 0 n).filter p).length ≤ 100 := by
  have := List.length_filter_le p (rng 0 n)
  rw [rng_length] at this; omega
theorem stays_prog {n : Nat} {ls : List Pr} {hs : List Int} {Q : D → Prop} (hn : n ≤ 100) (hz : ls.length ≤ 100) (hh : hs.length = n) (h : Q (Il (left n ls hs))) : p_f_stays [.int n, Ln ls, Hp' hs] Q := by
  refine phi_i rfl ?_
  unfold w_f_stays
  simp
  refine rounds_prog hn hz hh ?_
  obtain ⟨d1, d2⟩ := due_len (ls := ls) (hs := hs) hn
  have big : 20000 < sizeLine := by decide
  simp [Ll]
  refine fun _ => lc2Go_flat Il (fun r => r.map .int) sizeLine (due n ls hs) [] _ (fun r hr acc K' hl hk => ?_) ?_ ?_
  · simp [Il]
    have hl' : acc.length + r.length ≤ sizeLine := by simpa using hl
    refine fun _ => lcGo_enc .int (fun _ => true) .int (fun y hy Y N q => ?_) hl' (by rw [List.filter_eq_self.mpr (fun _ _ => rfl)]; exact hk)
    simp
    simpa using q
  · simp only [List.length_nil, Nat.zero_add]
    rw [List.flatMap_def, List.length_flatten, List.map_map]
    have e : (List.length ∘ fun r : List Int => r.map PyData.int) = List.length := by funext r; simp
    rw [e, ← List.length_flatten]
    omega
  · have e : (due n ls hs).flatMap (fun r => r.map PyData.int) = (due n ls hs).flatten.map .int := by
      rw [List.flatMap_def, List.map_flatten]
    rw [List.nil_append, e]
    unfold left at h
    generalize (due n ls hs).flatten = bt at h ⊢
    refine ⟨by omega, ?_⟩
    rw [rangeD_map]
    refine lcGo_enc .int (fun x => decide (x ∉ bt)) .int (fun x hx Y N q => ?_) ?_ ?_
    · simp [sh_int, lay_ints, inD_int]
      simpa using q
    · have := rng_length (lo := 0) (n := n)
      simp only [List.length_nil]; omega
    · exact h
def barsB (ls : List Pr) (hs : List Int) (s : List Int) (k : Int) : Bool := decide (gi hs k < (((nb ls k).filter fun x => decide (x ∈ s)).length : Int))
def bar (ls : List Pr) (hs : List Int) (s : List Int) : Bool := !s.isEmpty && decide ((0 : Int) ∉ s) && s.all (barsB ls hs s)
/-- the sets -/
def sets : Nat → List (List Int)
  | 0 => [[]]
  | k + 1 => sets k ++ (sets k).map fun s => s ++ [(k : Int) + 1]
theorem sets_len : ∀ k, (sets k).length = 2 ^ k
  | 0 => rfl
  | k + 1 => by
    unfold sets
    rw [List.length_append, List.length_map, sets_len k]
    omega
theorem sets_mem : ∀ (k : Nat) (s : List Int), s ∈ sets k → (∀ x ∈ s, 1 ≤ x ∧ x ≤ k) ∧ s.length ≤ k
  | 0, s, h => by
    rw [show sets 0 = [[]] from rfl, List.mem_singleton] at h
    subst h; simp
  | k + 1, s, h => by
    rcases List.mem_append.mp h with h | h
    · obtain ⟨h1, h2⟩ := sets_mem k s h
      exact ⟨fun x hx => by have := h1 x hx; omega, by omega⟩
    · obtain ⟨t, ht, rfl⟩ := List.mem_map.mp h
      obtain ⟨h1, h2⟩ := sets_mem k t ht
      refine ⟨fun x hx => ?_, by simp; omega⟩
      rcases List.mem_append.mp hx with hx | hx
      · have := h1 x hx; omega
      · rw [List.mem_singleton.mp hx]; omega
theorem sets_all (p : Int → Bool) : ∀ k : Nat, (rng 1 k).filter p ∈ sets k
  | 0 => by simp [rng, sets]
  | k + 1 => by
    rw [rng_succ, List.filter_append]
    unfold sets
    have ih := sets_all p k
    by_cases h : p (1 + (k : Int)) = true
    · refine List.mem_append_right _ (List.mem_map.mpr ⟨_, ih, ?_⟩)
      have e : List.filter p [1 + (k : Int)] = [1 + (k : Int)] := List.filter_cons_of_pos h
      rw [e, Int.add_comm]
    · refine List.mem_append_left _ ?_
      simpa [h] using ih
/-- the webs -/
structure Web (n : Nat) (ls : List Pr) : Prop where
  len : ls.length ≤ 20
  ends : ∀ l ∈ ls, (0 ≤ l.1 ∧ l.1 < n) ∧ 0 ≤ l.2 ∧ l.2 < n
  tree : ∀ p : Int, 1 ≤ p → p < n → ∃ l ∈ ls, touch p l = true
  lt : ∀ l ∈ ls, l.1 < l.2
theorem alike_pairs {a : List Pr} : PySem.W.AllAlike (a.map pr) := fun d hd d' hd' => by
  obtain ⟨x, _, rfl⟩ := List.mem_map.mp hd
  obtain ⟨y, _, rfl⟩ := List.mem_map.mp hd'
  rfl
theorem sortable_pairs {a : List Pr} : PySem.W.Sortable (a.map pr) := .inl fun d hd => by
  obtain ⟨x, _, rfl⟩ := List.mem_map.mp hd
  exact ⟨_, _, rfl⟩
theorem pl_pr {l : Pr} : Pl 2 (pr l) := .tuple fun d hd => by
  simp at hd
  rcases hd with rfl | rfl <;> exact .int
theorem web_law {n : Nat} {ex : Int} {Q : D → Prop} (hn1 : 1 ≤ n) (hn : n ≤ 10) (he0 : 0 ≤ ex) (he : ex ≤ 10) (h : ∀ ls, Web n ls → Q (Ln ls)) : p_f__law_web [tok0, .int n, .int ex] Q := by
  refine phi_i rfl ?_
  have big : 20000 < sizeLine := by decide
  unfold w_f__law_web
  simp
  refine ⟨by omega, ?_⟩
  rw [rangeD_map]
  refine forGo_inv .int (fun done env => ∃ (ls : List Pr) (acc : List D) (s4 s5 s6 s7 : Sl), acc = ls.map pr ∧ env = [.sh tok0, .sh (.int n), .sh (.int ex), .ow acc, s4, s5, s6, s7] ∧ ls.length = done.length ∧ (∀ l ∈ ls, (0 ≤ l.1 ∧ l.1 < n) ∧ (0 ≤ l.2 ∧ l.2 < n) ∧ l.1 < l.2) ∧ ∀ p ∈ done, ∃ l ∈ ls, touch p l = true) _ [] _
    ⟨[], [], _, _, _, _, rfl, rfl, rfl, by simp, by simp⟩ ?_ ?_
  · rintro x d r env eq ⟨ls, acc, s4, s5, s6, s7, ea, rfl, hl, he1, ht⟩ N2 hN2
    rw [List.nil_append] at eq
    have hx : x ∈ rng 1 (n - 1) := by rw [eq]; simp
    have hx' := mem_rng.mp hx
    have hdl := rng_length (lo := 1) (n := n - 1)
    rw [eq] at hdl
    simp at hdl
    simp
    refine draw_i (by omega) (by omega) fun v v0 v1 => ?_
    refine ⟨two_le, by rw [ea, List.length_map]; omega, hN2 _ ⟨ls ++ [(v, x)], _, _, _, _, _, ?_, rfl, by simp [hl], ?_, ?_⟩⟩
    · rw [ea]; simp [pr]
    · intro l hl
      rcases List.mem_append.mp hl with hl | hl
      · exact he1 l hl
      · rw [List.mem_singleton.mp hl]; simp; omega
    · intro p hp
      rcases List.mem_append.mp hp with hp | hp
      · obtain ⟨l, h1, h2⟩ := ht p hp
        exact ⟨l, List.mem_append_left _ h1, h2⟩
      · rw [List.mem_singleton.mp hp]
        exact ⟨(v, x), by simp, by simp [touch]⟩
  · rintro env ⟨ls, acc, s4, s5, s6, s7, ea, rfl, hl, he1, ht⟩
    rw [List.nil_append] at hl ht
    rw [rng_length] at hl
    simp
    have rest : ∀ (m : Nat), m ≤ 10 → (0 < m → 1 < n) → forGo (wGn 5)
        (wSeq (wSet 6 (wCl pDraw (wK (wV 0) (wK (wV 1) (wN))))) (wSeq (wSet 7 (wB gMod (wCl gInt (wK (wB gAdd (wB gAdd (wV 6) (wC (.int 1))) (wCl pDraw (wK (wV 0) (wK (wB Eg.gSub (wV 1) (wC (.int 1))) (wN))))) (wN))) (wV 1))) (wApp 3 (wTup (wK (wCl gMin2 (wK (wV 6) (wK (wV 7) (wN)))) (wK (wCl gMax2 (wK (wV 6) (wK (wV 7) (wN)))) (wN)))))))
        (rangeD 0 m) [.sh tok0, .sh (.int n), .sh (.int ex), .ow acc, s4, s5, s6, s7] ⟨fun env' => match env'.at 3 with
          | .ow ds => (SeqAt.shaped (.list ds) = true ∧ PySem.W.AllAlike ds ∧ PySem.W.Sortable ds) ∧ Q (.tuple (ds.mergeSort (PySem.W.dataLe false id)))
          | _ => False, Q, fun _ => False, fun _ => False⟩ := by
      intro m hm hm1
      rw [rangeD_map]
      refine forGo_inv .int (fun done env => ∃ (ls : List Pr) (acc : List D) (s4 s5 s6 s7 : Sl), acc = ls.map pr ∧ env = [.sh tok0, .sh (.int n), .sh (.int ex), .ow acc, s4, s5, s6, s7] ∧ ls.length = n - 1 + done.length ∧ (∀ l ∈ ls, (0 ≤ l.1 ∧ l.1 < n) ∧ (0 ≤ l.2 ∧ l.2 < n) ∧ l.1 < l.2) ∧ ∀ p ∈ rng 1 (n - 1), ∃ l ∈ ls, touch p l = true) _ [] _
        ⟨ls, acc, s4, s5, s6, s7, ea, rfl, hl, he1, ht⟩ ?_ ?_
      · rintro x d r env eq ⟨ls, acc, s4, s5, s6, s7, ea, rfl, hl, he1, ht⟩ N2 hN2
        rw [List.nil_append] at eq
        have hdl := rng_length (lo := 0) (n := m)
        rw [eq] at hdl
        simp at hdl
        have n1 : 1 < n := hm1 (by omega)
        simp
        refine draw_i (by omega) (by omega) fun a a0 a1 => ?_
        simp
        refine draw_i (by omega) (by omega) fun c c0 c1 => ?_
        have f1 := Int.fmod_nonneg_of_pos (a + 1 + c) (show (0 : Int) < n by omega)
        have f2 := Int.fmod_lt_of_pos (a + 1 + c) (show (0 : Int) < n by omega)
        have f3 : (a + 1 + c).fmod n ≠ a := by
          rw [Int.fmod_eq_emod_of_nonneg _ (by omega)]
          by_cases hc : a + 1 + c < n
          · rw [Int.emod_eq_of_lt (by omega) hc]; omega
          · have e : (a + 1 + c) % (n : Int) = (a + 1 + c - n) % (n : Int) := by rw [Int.sub_emod_right]
            rw [e, Int.emod_eq_of_lt (by omega) (by omega)]; omega
        simp
        refine ⟨by omega, two_le, by rw [ea, List.length_map]; omega, hN2 _ ⟨ls ++ [(if (a + 1 + c).fmod n < a then (a + 1 + c).fmod n else a, if a < (a + 1 + c).fmod n then (a + 1 + c).fmod n else a)], _, _, _, _, _, ?_, rfl, by simp [hl]; omega, ?_, ?_⟩⟩
        · rw [ea]; simp [pr]
        · intro l hl
          rcases List.mem_append.mp hl with hl | hl
          · exact he1 l hl
          · rw [List.mem_singleton.mp hl]
            dsimp only
            split <;> split <;> omega
        · intro p hp
          obtain ⟨l, h1, h2⟩ := ht p hp
          exact ⟨l, List.mem_append_left _ h1, h2⟩
      · rintro env ⟨ls, acc, s4, s5, s6, s7, ea, rfl, hl, he1, ht⟩
        rw [List.nil_append, rng_length] at hl
        show (SeqAt.shaped (.list acc) = true ∧ PySem.W.AllAlike acc ∧ PySem.W.Sortable acc) ∧ Q (.tuple (acc.mergeSort (PySem.W.dataLe false id)))
        rw [ea]
        refine ⟨⟨(Pl.list (.map fun l => pl_pr)).shaped, alike_pairs, sortable_pairs⟩, ?_⟩
        obtain ⟨ys, e, p⟩ := perm_map (List.mergeSort_perm (ls.map pr) (PySem.W.dataLe false id)) ls rfl
        rw [e]
        refine h ys ⟨by rw [p.length_eq]; omega, fun l hl => ⟨(he1 l (p.mem_iff.mp hl)).1, (he1 l (p.mem_iff.mp hl)).2.1⟩, fun q q1 q2 => ?_, fun l hl => (he1 l (p.mem_iff.mp hl)).2.2⟩
        obtain ⟨l, h1, h2⟩ := ht q (mem_rng.mpr ⟨q1, by omega⟩)
        exact ⟨l, p.mem_iff.mpr h1, h2⟩
    by_cases h1 : 1 < (n : Int)
    · rw [if_pos h1]
      exact ⟨by omega, rest _ (by omega) (fun _ => by omega)⟩
    · rw [if_neg h1]
      exact rest 0 (by omega) (fun z => by omega)
/-- the heaps -/
def hps (ls : List Pr) : Nat → List (List Int)
  | 0 => [[0]]
  | k + 1 => (hps ls k).flatMap fun h => (rng 0 (nb ls ((k : Int) + 1)).length).map fun m => h ++ [m]
theorem hps_len {ls : List Pr} (hl : ls.length ≤ 20) : ∀ k, (hps ls k).length ≤ 20 ^ k
  | 0 => Nat.le_refl _
  | k + 1 => by
    unfold hps
    have ih := hps_len hl k
    have nl := nb_len (ls := ls) (p := (k : Int) + 1)
    rw [List.length_flatMap]
    have : ((hps ls k).map fun h => ((rng 0 (nb ls ((k : Int) + 1)).length).map fun m => h ++ [m]).length).sum = (hps ls k).length * (nb ls ((k : Int) + 1)).length := by
      simp [rng_length, List.map_const']
    rw [this, Nat.pow_succ]
    exact Nat.mul_le_mul ih (Nat.le_trans nl hl)
theorem hps_mem {ls : List Pr} : ∀ k, ∀ h ∈ hps ls k, h.length = k + 1
  | 0, h, hh => by
    rw [show hps ls 0 = [[0]] from rfl, List.mem_singleton] at hh
    subst hh; rfl
  | k + 1, h, hh => by
    obtain ⟨g, hg, hm⟩ := List.mem_flatMap.mp hh
    obtain ⟨m, _, rfl⟩ := List.mem_map.mp hm
    rw [List.length_append, hps_mem k g hg]; rfl
theorem hps_ne {n : Nat} {ls : List Pr} (w : Web n ls) : ∀ k, k < n → hps ls k ≠ []
  | 0, _ => by simp [hps]
  | k + 1, hk => by
    have ih := hps_ne w k (by omega)
    obtain ⟨g, hg⟩ := List.exists_mem_of_ne_nil _ ih
    obtain ⟨l, h1, h2⟩ := w.tree ((k : Int) + 1) (by omega) (by omega)
    have hn : 0 < (nb ls ((k : Int) + 1)).length := by
      unfold nb
      rw [List.length_map]
      exact List.length_pos_of_mem (List.mem_filter.mpr ⟨h1, h2⟩)
    refine List.ne_nil_of_mem (a := g ++ [0]) (List.mem_flatMap.mpr ⟨g, hg, List.mem_map.mpr ⟨0, mem_rng.mpr ⟨by omega, by omega⟩, rfl⟩⟩)
def Lt' (t : List (List Int)) : D := .list (t.map Hp')
theorem heaps_law {n : Nat} {ls : List Pr} {Q : D → Prop} (hn1 : 1 ≤ n) (hn : n ≤ 5) (hl : ls.length ≤ 20) (h : Q (Lt' (hps ls (n - 1)))) : p_f__law_still_heaps [.int n, Ln ls] Q := by
  refine phi_i rfl ?_
  have big : 4000000 < sizeLine := by decide
  have hz' : ls.length ≤ sizeLine := by omega
  unfold w_f__law_still_heaps
  simp [one_le]
  refine ⟨by omega, ?_⟩
  rw [rangeD_map]
  refine forGo_inv .int (fun done env => ∃ acc s3 s4 s5 s6, acc = (hps ls done.length).map Hp' ∧ env = [.sh (.int n), .sh (Ln ls), .sh (.list acc), s3, s4, s5, s6]) _ [] _ ⟨_, _, _, _, _, rfl, rfl⟩ ?_ ?_
  · rintro x d r env eq ⟨acc, s3, s4, s5, s6, ea, rfl⟩ N2 hN2
    rw [List.nil_append] at eq
    have hdl := rng_length (lo := 1) (n := n - 1)
    rw [eq] at hdl
    simp at hdl
    have hx : x = (d.length : Int) + 1 := by
      have e1 : (rng 1 (n - 1))[d.length]? = some x := by rw [eq]; simp
      unfold rng at e1
      rw [List.getElem?_map, List.getElem?_range (by omega)] at e1
      have e3 : 1 + (d.length : Int) = x := Option.some.inj e1
      omega
    have hb : (hps ls d.length).length ≤ 20 ^ 4 := Nat.le_trans (hps_len hl _) (Nat.pow_le_pow_right (by decide) (by omega))
    simp
    refine fun _ => ?_
    rw [ea]
    have dl := nb_len (ls := ls) (p := x)
    refine forGo_inv Hp' (fun done env => ∃ acc4 s5 s6, acc4 = (done.flatMap fun h => (rng 0 (nb ls x).length).map fun m => h ++ [m]).map Hp' ∧ env = [.sh (.int n), .sh (Ln ls), .sh (.list acc), .sh (.int x), .sh (.list acc4), s5, s6]) _ [] _ ⟨[], s5, s6, rfl, by rw [ea]⟩ ?_ ?_
    · rintro g d2 r2 env eq2 ⟨acc4, s5, s6, e4, rfl⟩ N3 hN3
      rw [List.nil_append] at eq2
      simp
      refine nb_law hz' ?_
      simp [Il]
      refine ⟨by omega, ?_⟩
      rw [rangeD_map]
      have gl : g.length ≤ 100 := by
        have := hps_mem d.length g (by rw [eq2]; simp)
        omega
      refine lcGo_enc .int (fun _ => true) (fun m => Hp' (g ++ [m])) (fun m hm Y N q => ?_) (by rw [rng_length]; simp; omega) ?_
      · simp [Hp', one_le]
        refine ⟨by omega, ?_⟩
        simpa [Hp'] using q
      · rw [List.filter_eq_self.mpr (fun _ _ => rfl)]
        have l4 : acc4.length = d2.length * (nb ls x).length := by
          rw [e4, List.length_map, List.length_flatMap]
          simp [rng_length, List.map_const']
        have hb2 : d2.length ≤ 20 ^ 4 := by rw [eq2] at hb; simp at hb ⊢; omega
        have l5 : d2.length * (nb ls x).length ≤ 20 ^ 4 * 20 := Nat.mul_le_mul hb2 (by omega)
        simp [rng_length]
        refine ⟨by omega, hN3 _ ⟨_, _, _, ?_, rfl⟩⟩
        rw [e4]; simp [Function.comp_def]
    · rintro env ⟨acc4, s5, s6, e4, rfl⟩
      rw [List.nil_append] at e4
      simp
      refine hN2 _ ⟨acc4, .sh (.int x), .sh (.list acc4), s5, s6, ?_, rfl⟩
      rw [e4]
      simp [hps, hx]
  · rintro env ⟨acc, s3, s4, s5, s6, ea, rfl⟩
    rw [List.nil_append, rng_length] at ea
    simp
    rw [ea]; exact h

/-! ### what staying and barring have to do with one another -/
theorem fire_end {n : Nat} {ls : List Pr} {hs : List Int} : ∀ (k : Nat) (b : List Int), (unb n b).length ≤ k → found n ls hs (b ++ (fire n ls hs k b).flatten) = []
  | 0, b, h => by
    simp [fire]
    exact found_nil (List.length_eq_zero_iff.mp (by omega))
  | k + 1, b, h => by
    unfold fire
    split
    · rename_i h0
      simpa using h0
    · rename_i h0
      have lu := unb_lt h0
      have := fire_end (n := n) (ls := ls) (hs := hs) k (b ++ found n ls hs b) (by omega)
      simpa [List.append_assoc] using this
theorem due_end {n : Nat} {ls : List Pr} {hs : List Int} : found n ls hs (due n ls hs).flatten = [] := by
  have h : (unb n [0]).length ≤ n := by
    have := List.length_filter_le (fun x => decide (x ∉ [(0 : Int)])) (rng 0 n)
    rw [rng_length] at this; exact this
  have := fire_end (n := n) (ls := ls) (hs := hs) n [0] h
  simpa [due] using this
theorem nb_in {n : Nat} {ls : List Pr} (w : Web n ls) {p x : Int} (h : x ∈ nb ls p) : 0 ≤ x ∧ x < n := by
  obtain ⟨l, hl, rfl⟩ := List.mem_map.mp h
  obtain ⟨h1, h2⟩ := List.mem_filter.mp hl
  obtain ⟨e1, e2⟩ := w.ends l h1
  unfold touch at h2
  rw [decide_eq_true_eq] at h2
  rcases h2 with h2 | h2 <;> constructor <;> omega
theorem mem_left {n : Nat} {ls : List Pr} {hs : List Int} {x : Int} : x ∈ left n ls hs ↔ (0 ≤ x ∧ x < n) ∧ x ∉ (due n ls hs).flatten := by
  unfold left
  rw [List.mem_filter, mem_rng, decide_eq_true_eq]
  constructor
  · rintro ⟨⟨h1, h2⟩, h3⟩; exact ⟨⟨h1, by omega⟩, h3⟩
  · rintro ⟨⟨h1, h2⟩, h3⟩; exact ⟨⟨h1, by omega⟩, h3⟩
theorem left_bars {n : Nat} {ls : List Pr} {hs : List Int} (w : Web n ls) (h : left n ls hs ≠ []) : bar ls hs (left n ls hs) = true := by
  have z : (0 : Int) ∉ left n ls hs := fun q => (mem_left.mp q).2 (by simp [due])
  have a : (left n ls hs).all (barsB ls hs (left n ls hs)) = true := by
    rw [List.all_eq_true]
    intro k hk
    obtain ⟨k1, k2⟩ := mem_left.mp hk
    have hf := List.filter_eq_nil_iff.mp (due_end (n := n) (ls := ls) (hs := hs)) k (mem_rng.mpr ⟨k1.1, by omega⟩)
    unfold cond at hf
    simp [k2] at hf
    unfold barsB
    rw [decide_eq_true_eq]
    have e : (nb ls k).filter (fun x => decide (x ∈ left n ls hs)) = (nb ls k).filter fun x => decide (x ∉ (due n ls hs).flatten) := by
      refine List.filter_congr fun x hx => ?_
      rw [Bool.eq_iff_iff, decide_eq_true_eq, decide_eq_true_eq, mem_left]
      exact ⟨fun q => q.2, fun q => ⟨nb_in w hx, q⟩⟩
    rw [e]
    exact hf
  unfold bar
  rw [a]
  simp [h, z]
theorem bar_fire {n : Nat} {ls : List Pr} {hs s : List Int} (hb : bar ls hs s = true) : ∀ (k : Nat) (b : List Int), (∀ x ∈ s, x ∉ b) → ∀ x ∈ s, x ∉ b ++ (fire n ls hs k b).flatten
  | 0, b, h => by simpa [fire] using h
  | k + 1, b, h => by
    unfold fire
    split
    · simpa using h
    · have ih := bar_fire (n := n) hb k (b ++ found n ls hs b) fun x hx => by
        have hx2 := h x hx
        intro q
        rcases List.mem_append.mp q with q | q
        · exact hx2 q
        · obtain ⟨_, q2⟩ := List.mem_filter.mp q
          unfold cond at q2
          simp only [Bool.and_eq_true, decide_eq_true_eq] at q2
          have hk : barsB ls hs s x = true := by
            unfold bar at hb
            simp only [Bool.and_eq_true, List.all_eq_true] at hb
            exact hb.2 x hx
          unfold barsB at hk
          rw [decide_eq_true_eq] at hk
          have le : ((nb ls x).filter fun y => decide (y ∈ s)).length ≤ opens ls x b := by
            unfold opens
            have e : (nb ls x).filter (fun y => decide (y ∈ s)) = ((nb ls x).filter fun y => decide (y ∉ b)).filter fun y => decide (y ∈ s) := by
              rw [List.filter_filter]
              refine List.filter_congr fun y _ => ?_
              rw [Bool.eq_iff_iff]
              simp
              exact fun q => h y q
            rw [e]
            exact List.length_filter_le _ _
          omega
      simpa [List.append_assoc] using ih
theorem bar_sub {n : Nat} {ls : List Pr} {hs s : List Int} (hb : bar ls hs s = true) (hs1 : ∀ x ∈ s, 0 ≤ x ∧ x < n) : ∀ x ∈ s, x ∈ left n ls hs := fun x hx => by
  have z : ∀ y ∈ s, y ∉ [(0 : Int)] := fun y hy q => by
    have : y = 0 := by simpa using q
    subst this
    unfold bar at hb
    simp only [Bool.and_eq_true, decide_eq_true_eq] at hb
    exact hb.1.2 hy
  have := bar_fire (n := n) hb n [0] z x hx
  exact mem_left.mpr ⟨hs1 x hx, by simpa [due] using this⟩
theorem left_set {n : Nat} {ls : List Pr} {hs : List Int} (hn1 : 1 ≤ n) : left n ls hs ∈ sets (n - 1) := by
  have e : left n ls hs = (rng 1 (n - 1)).filter fun x => decide (x ∉ (due n ls hs).flatten) := by
    have e2 : rng 0 n = 0 :: rng 1 (n - 1) := by
      obtain ⟨m, rfl⟩ : ∃ m, n = m + 1 := ⟨n - 1, by omega⟩
      unfold rng
      rw [List.range_succ_eq_map, List.map_cons, List.map_map]
      congr 1
      refine List.map_congr_left fun k _ => ?_
      simp; omega
    unfold left
    rw [e2, List.filter_cons_of_neg (by simp [due])]
  rw [e]
  exact sets_all _ _
end Wk09


namespace Wk09
open PySem PySem.Spec PyProof.Rows L2 Eg
def dg (ls : List Pr) (p : Int) : Int := ((nb ls p).length : Nat)
theorem dg_snoc {ls : List Pr} {l : Pr} {p : Int} : dg (ls ++ [l]) p = dg ls p + if touch p l = true then 1 else 0 := by
  unfold dg nb
  rw [List.filter_append]
  by_cases h : touch p l = true
  · rw [if_pos h, List.filter_cons_of_pos h]; simp
  · rw [if_neg h, List.filter_cons_of_neg h]; simp
def dgs (n : Nat) (ls : List Pr) : List Int := (rng 0 n).map (dg ls)
theorem degrees_prog {n : Nat} {ls : List Pr} {Q : D → Prop} (w : Web n ls) (hn : n ≤ 100) (h : Q (Il (dgs n ls))) : p_f_degrees [.int n, Ln ls] Q := by
  refine phi_i rfl ?_
  have big : 20000 < sizeLine := by decide
  have l20 := w.len
  unfold w_f_degrees
  refine sq_ fun T hT => ?_
  simp [one_le]
  refine ⟨by omega, ?_⟩
  rw [rep_tabD]
  refine hT _ (sq_ fun T hT => ?_)
  simp [Ln]
  refine fun _ => forGo_inv pr (fun done env => ∃ acc s3 s4, acc = tabD n (dg done) ∧ env = [.sh (.int n), .sh (Ln ls), .ow acc, s3, s4]) _ [] _ ⟨_, _, _, rfl, rfl⟩ ?_ ?_
  · rintro l d r env eq ⟨acc, s3, s4, rfl, rfl⟩ N2 hN2
    rw [List.nil_append] at eq
    have hl : l ∈ ls := by rw [eq]; simp
    obtain ⟨⟨a0, a1⟩, b0, b1⟩ := w.ends l hl
    have lt := w.lt l hl
    simp [pr, tabD_at a0 a1]
    refine stI_ok rfl a0 (by simp; omega) ?_
    rw [tabD_set a0 a1]
    simp [tabD_at b0 b1]
    refine stI_ok rfl b0 (by simp; omega) ?_
    rw [tabD_set b0 b1]
    refine hN2 _ ⟨_, _, _, ?_, rfl⟩
    refine tabD_congr fun p _ _ => ?_
    rw [dg_snoc]
    unfold touch
    have ne : ¬ l.2 = l.1 := by omega
    by_cases h1 : p = l.2
    · subst h1; simp [ne]
    · by_cases h2 : p = l.1
      · subst h2; simp [h1]
      · simp [h1, h2]
  · rintro env ⟨acc, s3, s4, rfl, rfl⟩
    rw [List.nil_append]
    refine hT _ ?_
    simp
    exact h

theorem dgs_drop {n : Nat} {ls : List Pr} (hn : 1 ≤ n) : (dgs n ls).drop 1 = (rng 1 (n - 1)).map (dg ls) := by
  obtain ⟨m, rfl⟩ : ∃ m, n = m + 1 := ⟨n - 1, by omega⟩
  unfold dgs
  rw [rng0]; rfl
def full (n : Nat) (ls : List Pr) : List Int := 0 :: (rng 1 (n - 1)).map fun p => dg ls p - 1
theorem cut1 {xs : List D} : cutD xs (some 1) none = xs.drop 1 := cut_from (by decide)
theorem fullest_prog {n : Nat} {ls : List Pr} {Q : D → Prop} (w : Web n ls) (hn1 : 1 ≤ n) (hn : n ≤ 100) (h : Q (It' (full n ls))) : p_f_fullest [.int n, Ln ls] Q := by
  refine phi_i rfl ?_
  have big : 20000 < sizeLine := by decide
  unfold w_f_fullest
  simp [one_le]
  refine degrees_prog w hn ?_
  simp [Il]
  rw [cut1, ← List.map_drop, dgs_drop hn1, List.map_map]
  refine fun _ => lcGo_enc (PyData.int ∘ dg ls) (fun _ => true) (fun p => .int (dg ls p - 1)) (fun p hp Y N q => ?_) (by rw [rng_length]; simp; omega) ?_
  · simp
    simpa using q
  · rw [List.filter_eq_self.mpr (fun _ _ => rfl)]
    simp [rng_length]
    refine ⟨by omega, ?_⟩
    simpa [It', full, Function.comp_def] using h
def turn (n : Nat) (ls : List Pr) (hs : List Int) : List Int := 0 :: (rng 1 (n - 1)).map fun p => dg ls p - 1 - gi hs p
theorem drop_tab {hs : List Int} {n : Nat} (hn : 1 ≤ n) (h : hs.length = n) : hs.drop 1 = (rng 1 (n - 1)).map (gi hs) := by
  obtain ⟨m, rfl⟩ : ∃ m, n = m + 1 := ⟨n - 1, by omega⟩
  have e : hs.drop 1 = ((rng 0 (m + 1)).map (gi hs)).drop 1 := congrArg (List.drop 1) (list_tab h)
  rw [e, rng0]; rfl
theorem turned_prog {n : Nat} {ls : List Pr} {hs : List Int} {Q : D → Prop} (w : Web n ls) (hn1 : 1 ≤ n) (hn : n ≤ 100) (hh : hs.length = n) (h : Q (It' (turn n ls hs))) : p_f_turned_about [.int n, Ln ls, Hp' hs] Q := by
  refine phi_i rfl ?_
  have big : 20000 < sizeLine := by decide
  unfold w_f_turned_about
  simp
  refine fullest_prog w hn1 hn ?_
  simp [one_le, Hp']
  rw [cut1, ← List.map_drop, drop_tab hn1 hh]
  simp [rng_length]
  refine ⟨by omega, ?_⟩
  have e1 : It' (full n ls) = .tuple ((0 :: (rng 1 (n - 1)).map fun p => dg ls p - 1).map .int) := rfl
  rw [e1]
  have e2 : (PyData.int 0 :: List.map (PyData.int ∘ gi hs) (rng 1 (n - 1))) = ((0 :: (rng 1 (n - 1)).map (gi hs)).map PyData.int) := by simp
  rw [e2]
  simp only []
  rw [zipD_map, List.zip_cons_cons, zip_same]
  refine lcGo_enc (fun q : Int × Int => PyData.tuple [.int q.1, .int q.2]) (fun _ => true) (fun q => .int (q.1 - q.2)) (fun q hq Y N z => ?_) (by simp [rng_length]; omega) ?_
  · simp
    simpa using z
  · rw [List.filter_eq_self.mpr (fun _ _ => rfl)]
    simpa [It', turn, Function.comp_def] using h
theorem still_prog {n : Nat} {ls : List Pr} {Q : D → Prop} (w : Web n ls) (hn1 : 1 ≤ n) (hn : n ≤ 5) (h : Q (Lt' (hps ls (n - 1)))) : p_f_still_heaps [.int n, Ln ls] Q := by
  refine phi_i rfl ?_
  have big : 4000000 < sizeLine := by decide
  have hl := w.len
  unfold w_f_still_heaps
  simp [one_le]
  refine degrees_prog w (by omega) ?_
  simp [Il]
  rw [cut1, ← List.map_drop, dgs_drop hn1, List.map_map]
  refine fun _ => forGo_inv (PyData.int ∘ dg ls) (fun done env => ∃ acc s3 s4 s5 s6, acc = (hps ls done.length).map Hp' ∧ env = [.sh (.int n), .sh (Ln ls), .sh (.list acc), s3, s4, s5, s6]) _ [] _ ⟨_, _, _, _, _, rfl, rfl⟩ ?_ ?_
  · rintro x d r env eq ⟨acc, s3, s4, s5, s6, ea, rfl⟩ N2 hN2
    rw [List.nil_append] at eq
    obtain ⟨hx, hdl⟩ := rng_at eq
    have hb : (hps ls d.length).length ≤ 20 ^ 4 := Nat.le_trans (hps_len hl _) (Nat.pow_le_pow_right (by decide) (by omega))
    simp
    refine fun _ => ?_
    rw [ea]
    have dl := nb_len (ls := ls) (p := x)
    refine forGo_inv Hp' (fun done env => ∃ acc4 s5 s6, acc4 = (done.flatMap fun h => (rng 0 (nb ls x).length).map fun m => h ++ [m]).map Hp' ∧ env = [.sh (.int n), .sh (Ln ls), .sh (.list acc), .sh (.int (dg ls x)), .sh (.list acc4), s5, s6]) _ [] _ ⟨[], s5, s6, rfl, by rw [ea]⟩ ?_ ?_
    · rintro g d2 r2 env eq2 ⟨acc4, s5, s6, e4, rfl⟩ N3 hN3
      rw [List.nil_append] at eq2
      simp [dg]
      refine ⟨by omega, ?_⟩
      rw [rangeD_map]
      have gl : g.length ≤ 100 := by
        have := hps_mem d.length g (by rw [eq2]; simp)
        omega
      refine lcGo_enc .int (fun _ => true) (fun m => Hp' (g ++ [m])) (fun m hm Y N q => ?_) (by rw [rng_length]; simp; omega) ?_
      · simp [Hp', one_le]
        refine ⟨by omega, ?_⟩
        simpa [Hp'] using q
      · rw [List.filter_eq_self.mpr (fun _ _ => rfl)]
        have l4 : acc4.length = d2.length * (nb ls x).length := by
          rw [e4, List.length_map, List.length_flatMap]
          simp [rng_length, List.map_const']
        have hb2 : d2.length ≤ 20 ^ 4 := by rw [eq2] at hb; simp at hb ⊢; omega
        have l5 : d2.length * (nb ls x).length ≤ 20 ^ 4 * 20 := Nat.mul_le_mul hb2 (by omega)
        simp [rng_length]
        refine ⟨by omega, hN3 _ ⟨_, _, _, ?_, rfl⟩⟩
        rw [e4]; simp [Function.comp_def]
    · rintro env ⟨acc4, s5, s6, e4, rfl⟩
      rw [List.nil_append] at e4
      simp
      refine hN2 _ ⟨acc4, .sh (.int (dg ls x)), .sh (.list acc4), s5, s6, ?_, rfl⟩
      rw [e4]
      have hx' : x = (d.length : Int) + 1 := by omega
      simp [hps, hx']
  · rintro env ⟨acc, s3, s4, s5, s6, ea, rfl⟩
    rw [List.nil_append, rng_length] at ea
    simp
    rw [ea]; exact h
def ag (n : Nat) (ls : List Pr) : List (List Int) := (hps ls (n - 1)).filter fun h => (left n ls h).isEmpty
theorem again_prog {n : Nat} {ls : List Pr} {Q : D → Prop} (w : Web n ls) (hn1 : 1 ≤ n) (hn : n ≤ 5) (h : Q (Lt' (ag n ls))) : p_f_all_again [.int n, Ln ls] Q := by
  refine phi_i rfl ?_
  have big : 4000000 < sizeLine := by decide
  have hl := w.len
  have hb : (hps ls (n - 1)).length ≤ 20 ^ 4 := Nat.le_trans (hps_len hl _) (Nat.pow_le_pow_right (by decide) (by omega))
  unfold w_f_all_again
  simp
  refine still_prog w hn1 hn ?_
  simp [Lt']
  refine fun _ => lcGo_enc Hp' (fun h => (left n ls h).isEmpty) Hp' (fun g hg Y N q => ?_) (by simp; omega) ?_
  · simp
    have gl := hps_mem _ g hg
    refine stays_prog (by omega) (by omega) (show g.length = n by omega) ?_
    simp [Il]
    simpa using q
  · exact h
theorem low_prog {n : Nat} {ls : List Pr} {Q : D → Prop} (w : Web n ls) (hn1 : 1 ≤ n) (hn : n ≤ 5) (h : Q (Lt' (sortR ((ag n ls).map (turn n ls))))) : p_f_all_low [.int n, Ln ls] Q := by
  refine phi_i rfl ?_
  have big : 4000000 < sizeLine := by decide
  have hl := w.len
  have hb : (hps ls (n - 1)).length ≤ 20 ^ 4 := Nat.le_trans (hps_len hl _) (Nat.pow_le_pow_right (by decide) (by omega))
  have ha : (ag n ls).length ≤ 20 ^ 4 := Nat.le_trans (List.length_filter_le _ _) hb
  unfold w_f_all_low
  simp
  refine again_prog w hn1 hn ?_
  simp [Lt']
  refine fun _ => lcGo_enc Hp' (fun _ => true) (fun g => It' (turn n ls g)) (fun g hg Y N q => ?_) (by simp; omega) ?_
  · simp
    have gl := hps_mem _ g (List.mem_filter.mp hg).1
    refine turned_prog w hn1 (by omega) (show g.length = n by omega) ?_
    simpa using q
  · rw [List.filter_eq_self.mpr (fun _ _ => rfl)]
    have e : List.map (fun g => It' (turn n ls g)) (ag n ls) = ((ag n ls).map (turn n ls)).map fun r => PyData.tuple (r.map .int) := by
      rw [List.map_map]; rfl
    simp only [List.nil_append]
    rw [e]
    refine ⟨⟨(Pl.list (n := 2) (.map fun r => pl_It)).shaped, alike_tup, .inl fun d hd => ?_⟩, ?_⟩
    · obtain ⟨x, hx, rfl⟩ := List.mem_map.mp hd
      obtain ⟨g, hg, rfl⟩ := List.mem_map.mp hx
      exact ⟨_, _, rfl⟩
    · rw [sort_tup]; exact h

def stillB (n : Nat) (ls : List Pr) (hs : List Int) : Bool := (rng 1 (n - 1)).all fun p => decide (gi hs p < dg ls p)
theorem gi_cons_pos {a : Int} {r : List Int} {p : Int} (h : 1 ≤ p) : gi (a :: r) p = gi r (p - 1) := by
  unfold gi
  obtain ⟨k, hk⟩ : ∃ k : Nat, p = (k : Int) + 1 := ⟨(p - 1).toNat, by omega⟩
  subst hk
  have e1 : ((k : Int) + 1).toNat = k + 1 := by omega
  have e2 : ((k : Int) + 1 - 1).toNat = k := by omega
  rw [e1, e2]; rfl
theorem may_prog {n : Nat} {ls : List Pr} {hs : List Int} {Q : D → Prop} (w : Web n ls) (hn1 : 1 ≤ n) (hn : n ≤ 100) (hh : hs.length = n) (h : Q (Il ((rng 1 (n - 1)).filter fun p => decide (dg ls p ≤ gi hs p)))) : p_f_may_topple [.int n, Ln ls, Hp' hs] Q := by
  refine phi_i rfl ?_
  have big : 20000 < sizeLine := by decide
  unfold w_f_may_topple
  simp
  refine degrees_prog w hn ?_
  refine ⟨by omega, ?_⟩
  rw [rangeD_map]
  refine lcGo_enc .int (fun p => decide (dg ls p ≤ gi hs p)) .int (fun p hp Y N q => ?_) (by simp [rng_length]; omega) ?_
  · have hp' := mem_rng.mp hp
    have a1 : atI ((dgs n ls).map PyData.int) p = some (.int (dg ls p)) := tab_at (by omega) (by omega)
    simp [Hp', Il, atI_int (show 0 ≤ p by omega) (show p < hs.length by omega), a1]
    simpa using q
  · exact h
theorem isstill_prog {n : Nat} {ls : List Pr} {hs : List Int} {Q : D → Prop} (w : Web n ls) (hn1 : 1 ≤ n) (hn : n ≤ 100) (hh : hs.length = n) (h : Q (.bool (stillB n ls hs))) : p_f_is_still [.int n, Ln ls, Hp' hs] Q := by
  refine phi_i rfl ?_
  unfold w_f_is_still
  simp
  refine may_prog w hn1 hn hh ?_
  simp [Il]
  have e : ((rng 1 (n - 1)).filter fun p => decide (dg ls p ≤ gi hs p)).isEmpty = stillB n ls hs := by
    unfold stillB
    rw [Bool.eq_iff_iff, List.isEmpty_iff, List.filter_eq_nil_iff, List.all_eq_true]
    simp
  rw [e]; exact h
theorem islow_prog {n : Nat} {ls : List Pr} {hs : List Int} {Q : D → Prop} (w : Web n ls) (hn1 : 1 ≤ n) (hn : n ≤ 100) (hh : hs.length = n) (h : Q (.bool (stillB n ls hs && (left n ls (turn n ls hs)).isEmpty))) : p_f_is_low [.int n, Ln ls, Hp' hs] Q := by
  refine phi_i rfl ?_
  have hl := w.len
  unfold w_f_is_low
  simp
  refine isstill_prog w hn1 hn hh ?_
  simp
  cases hb : stillB n ls hs with
  | false => simp [hb] at h ⊢; exact h
  | true =>
    simp [hb] at h ⊢
    refine turned_prog w hn1 hn hh ?_
    have tl : (turn n ls hs).length = n := by unfold turn; simp [rng_length]; omega
    refine stays_prog hn (by omega) tl ?_
    simp [Il]
    exact h
def outs (ls : List Pr) (s : List Int) (k : Int) : Int := (((nb ls k).filter fun x => decide (x ∉ s)).length : Nat)
def lowB (n : Nat) (ls : List Pr) (hs : List Int) : Bool := ((sets (n - 1)).drop 1).all fun s => s.any fun k => decide (gi hs k < outs ls s k)
theorem low_law {n : Nat} {ls : List Pr} {hs : List Int} {Q : D → Prop} (w : Web n ls) (hn1 : 1 ≤ n) (hn : n ≤ 10) (hh : hs.length = n) (h : Q (.bool (lowB n ls hs))) : p_f__law_low [.int n, Ln ls, Hp' hs] Q := by
  refine phi_i rfl ?_
  have big : 20000 < sizeLine := by decide
  have hz : ls.length ≤ sizeLine := by have := w.len; omega
  unfold w_f__law_low
  refine sq_ fun T hT => ?_
  simp [one_le]
  refine hT _ (sq_ fun T hT => ?_)
  simp
  refine ⟨by omega, ?_⟩
  rw [rangeD_map]
  refine forGo_inv .int (fun done env => ∃ s4 s5 s6, env = [.sh (.int n), .sh (Ln ls), .sh (Hp' hs), .sh (Ll (sets done.length)), s4, s5, s6]) _ [] _ ⟨_, _, _, rfl⟩ ?_ ?_
  · rintro x d r env eq ⟨s4, s5, s6, rfl⟩ N2 hN2
    rw [List.nil_append] at eq
    obtain ⟨hx, hdl⟩ := rng_at eq
    have h2 : 2 ^ d.length ≤ 2 ^ 9 := Nat.pow_le_pow_right (by decide) (by omega)
    have sl : (sets d.length).length ≤ 512 := by rw [sets_len]; exact h2
    simp [Ll]
    refine fun _ => lcGo_enc Il (fun _ => true) (fun s => Il (s ++ [x])) (fun s hs Y N q => ?_) (by simp; omega) ?_
    · simp [Il, one_le]
      have := (sets_mem _ s hs).2
      refine ⟨by omega, ?_⟩
      simpa [Il] using q
    · rw [List.filter_eq_self.mpr (fun _ _ => rfl)]
      simp
      have hx' : x = (d.length : Int) + 1 := by omega
      refine ⟨by omega, hN2 _ ⟨.sh (.int x), s5, s6, ?_⟩⟩
      simp [Ll, sets, hx', Function.comp_def]
  · rintro env ⟨s4, s5, s6, rfl⟩
    rw [List.nil_append, rng_length]
    refine hT _ (sq_ fun T hT => ?_)
    have smem : ∀ s ∈ sets (n - 1), (∀ x ∈ s, 0 ≤ x ∧ x < n) ∧ s.length ≤ 100 := fun s hs' => by
      obtain ⟨h1, h2⟩ := sets_mem (n - 1) s hs'
      exact ⟨fun x hx => by have := h1 x hx; omega, by omega⟩
    simp [Ll]
    rw [cut1, ← List.map_drop]
    refine fun _ => forGo_inv Il (fun done env => (∀ s ∈ done, (s.any fun k => decide (gi hs k < outs ls s k)) = true) ∧ ∃ s4 s5 s6, env = [.sh (.int n), .sh (Ln ls), .sh (Hp' hs), .sh (Ll (sets (n - 1))), s4, s5, s6]) _ [] _ ⟨by simp, _, _, _, rfl⟩ ?_ ?_
    · rintro s d r env eq ⟨hd, s4, s5, s6, rfl⟩ N2 hN2
      rw [List.nil_append] at eq
      have hs1 : s ∈ (sets (n - 1)).drop 1 := by rw [eq]; simp
      obtain ⟨m1, m2⟩ := smem s (List.mem_of_mem_drop hs1)
      simp [Il]
      refine fun _ => lcGo_enc .int (fun k => decide (gi hs k < outs ls s k)) .int (fun k hk Y N q => ?_) (by simp; omega) ?_
      · obtain ⟨k0, k1⟩ := m1 k hk
        simp [Hp', atI_int k0 (show k < hs.length by omega)]
        refine nb_law hz ?_
        have lz : (nb ls k).length ≤ sizeLine := Nat.le_trans nb_len hz
        simp [Il]
        refine fun _ => lcGo_enc .int (fun y => decide (y ∉ s)) .int (fun y hy Y N3 q3 => ?_) (by simpa using lz) ?_
        · simp [sh_int, lay_ints, inD_int]
          simpa using q3
        · have e5 : ((((nb ls k).filter fun y => decide (y ∉ s)).length : Nat) : Int) = outs ls s k := rfl
          simp only [s_gI, List.nil_append, List.length_map, e5, true_and, s_gBool, decide_eq_true_eq]
          simpa using q
      · simp only [List.nil_append, List.length_map, s_gLenL, s_gEq, sh_int, eqv_int, and_self, true_and, s_gBool]
        by_cases hc : (s.any fun k => decide (gi hs k < outs ls s k)) = true
        · have : ¬ (((s.filter fun k => decide (gi hs k < outs ls s k)).length : Nat) : Int) = 0 := by
            intro z
            have z' := List.length_eq_zero_iff.mp (Int.ofNat.inj z)
            obtain ⟨k, hk, hk2⟩ := List.any_eq_true.mp hc
            have := List.filter_eq_nil_iff.mp z' k hk
            exact this hk2
          rw [if_neg (by simpa using this)]
          exact hN2 _ ⟨fun t ht => by
            rcases List.mem_append.mp ht with ht | ht
            · exact hd t ht
            · rw [List.mem_singleton.mp ht]; exact hc, _, _, _, rfl⟩
        · have : (((s.filter fun k => decide (gi hs k < outs ls s k)).length : Nat) : Int) = 0 := by
            have z : s.filter (fun k => decide (gi hs k < outs ls s k)) = [] := List.filter_eq_nil_iff.mpr fun k hk z => hc (List.any_eq_true.mpr ⟨k, hk, z⟩)
            rw [z]; rfl
          rw [if_pos (by simpa using this)]
          have e : lowB n ls hs = false := by
            rw [Bool.eq_false_iff]
            intro z
            exact hc (List.all_eq_true.mp z s hs1)
          rw [e] at h; exact h
    · rintro env ⟨hd, s4, s5, s6, rfl⟩
      refine hT _ ?_
      have e : lowB n ls hs = true := List.all_eq_true.mpr fun s hs1 => hd s (by simpa using hs1)
      rw [e] at h; exact h
end Wk09

namespace Wk09
open PySem PySem.Spec PyProof.Rows L2 Eg
/-! ### heaps by their places -/
theorem gi_app_lt {g : List Int} {m : Int} {j : Int} (h0 : 0 ≤ j) (h : j < g.length) : gi (g ++ [m]) j = gi g j := by
  unfold gi
  rw [List.getD_eq_getElem?_getD, List.getD_eq_getElem?_getD, List.getElem?_append_left (by omega)]
theorem gi_app_eq {g : List Int} {m : Int} {j : Int} (h : j = g.length) : gi (g ++ [m]) j = m := by
  unfold gi
  rw [List.getD_eq_getElem?_getD, List.getElem?_append_right (by omega)]
  have : j.toNat - g.length = 0 := by omega
  rw [this]; rfl
theorem hps_iff {ls : List Pr} : ∀ (k : Nat) (h : List Int), h ∈ hps ls k ↔ h.length = k + 1 ∧ gi h 0 = 0 ∧ ∀ j : Int, 1 ≤ j → j ≤ k → 0 ≤ gi h j ∧ gi h j < dg ls j
  | 0, h => by
    rw [show hps ls 0 = [[0]] from rfl, List.mem_singleton]
    constructor
    · rintro rfl
      exact ⟨rfl, rfl, fun j h1 h2 => by omega⟩
    · rintro ⟨h1, h2, _⟩
      match h, h1 with
      | [a], _ =>
        have : a = 0 := h2
        rw [this]
  | k + 1, h => by
    constructor
    · intro hh
      obtain ⟨g, hg, hm⟩ := List.mem_flatMap.mp hh
      obtain ⟨m, hm1, rfl⟩ := List.mem_map.mp hm
      obtain ⟨l1, z1, b1⟩ := (hps_iff k g).mp hg
      have hm2 := mem_rng.mp hm1
      refine ⟨by rw [List.length_append, l1]; rfl, by rw [gi_app_lt (by omega) (by omega)]; exact z1, fun j j1 j2 => ?_⟩
      by_cases hj : j ≤ k
      · rw [gi_app_lt (by omega) (by omega)]; exact b1 j j1 hj
      · have ej : j = (k : Int) + 1 := by omega
        rw [gi_app_eq (by omega), ej]
        unfold dg
        omega
    · rintro ⟨l1, z1, b1⟩
      have hne : h ≠ [] := by intro z; rw [z] at l1; cases l1
      obtain ⟨g, m, rfl⟩ : ∃ g m, h = g ++ [m] := ⟨h.dropLast, h.getLast hne, (List.dropLast_concat_getLast hne).symm⟩
      have lg : g.length = k + 1 := by rw [List.length_append] at l1; simpa using l1
      refine List.mem_flatMap.mpr ⟨g, (hps_iff k g).mpr ⟨lg, ?_, fun j j1 j2 => ?_⟩, List.mem_map.mpr ⟨m, ?_, rfl⟩⟩
      · rw [gi_app_lt (by omega) (by omega)] at z1; exact z1
      · have := b1 j j1 (by omega)
        rw [gi_app_lt (by omega) (by omega)] at this; exact this
      · have := b1 ((k : Int) + 1) (by omega) (by omega)
        rw [gi_app_eq (by omega)] at this
        unfold dg at this
        exact mem_rng.mpr ⟨this.1, by omega⟩
theorem rng_nodup {lo : Int} {n : Nat} : (rng lo n).Nodup := by
  unfold rng
  refine List.pairwise_map.mpr ?_
  refine List.Pairwise.imp (fun {a b} (h : a < b) => ?_) (List.pairwise_lt_range)
  omega
theorem hps_nodup {ls : List Pr} : ∀ k, (hps ls k).Nodup
  | 0 => by simp [hps]
  | k + 1 => by
    unfold hps
    refine List.pairwise_flatMap.mpr ⟨fun g _ => List.pairwise_map.mpr (List.Pairwise.imp (fun {a b} (h : a ≠ b) (z : g ++ [a] = g ++ [b]) => h (by simpa using z)) rng_nodup), ?_⟩
    refine List.Pairwise.imp (fun {a b} (h : a ≠ b) x hx y hy z => ?_) (hps_nodup k)
    obtain ⟨m, _, rfl⟩ := List.mem_map.mp hx
    obtain ⟨m', _, rfl⟩ := List.mem_map.mp hy
    exact h (List.append_inj_left' z rfl)
theorem turn_len {n : Nat} {ls : List Pr} {hs : List Int} (hn : 1 ≤ n) : (turn n ls hs).length = n := by
  unfold turn
  rw [List.length_cons, List.length_map, rng_length]; omega
theorem turn_at {n : Nat} {ls : List Pr} {hs : List Int} {p : Int} (h1 : 1 ≤ p) (h2 : p < n) : gi (turn n ls hs) p = dg ls p - 1 - gi hs p := by
  unfold turn
  rw [gi_cons_pos h1]
  unfold gi
  rw [List.getD_eq_getElem?_getD, List.getElem?_map, rng_get (by omega)]
  have : (1 : Int) + ((p - 1).toNat : Nat) = p := by omega
  simp only [Option.map_some, this]
  rfl
theorem turn_zero {n : Nat} {ls : List Pr} {hs : List Int} : gi (turn n ls hs) 0 = 0 := rfl
theorem same_by {a b : List Int} {n : Nat} (ha : a.length = n) (hb : b.length = n) (h : ∀ p : Int, 0 ≤ p → p < n → gi a p = gi b p) : a = b := by
  rw [list_tab ha, list_tab hb]
  refine List.map_congr_left fun p hp => ?_
  have := mem_rng.mp hp
  exact h p this.1 (by omega)
theorem turn_in {n : Nat} {ls : List Pr} {h : List Int} (hn : 1 ≤ n) (hh : h ∈ hps ls (n - 1)) : turn n ls h ∈ hps ls (n - 1) := by
  obtain ⟨l1, z1, b1⟩ := (hps_iff _ _).mp hh
  refine (hps_iff _ _).mpr ⟨by rw [turn_len hn]; omega, turn_zero, fun j j1 j2 => ?_⟩
  rw [turn_at j1 (by omega)]
  have := b1 j j1 j2
  omega
theorem turn_turn {n : Nat} {ls : List Pr} {h : List Int} (hn : 1 ≤ n) (hh : h ∈ hps ls (n - 1)) : turn n ls (turn n ls h) = h := by
  obtain ⟨l1, z1, b1⟩ := (hps_iff _ _).mp hh
  refine same_by (turn_len hn) (show h.length = n by omega) fun p p0 p1 => ?_
  by_cases hp : p = 0
  · subst hp; rw [turn_zero, z1]
  · rw [turn_at (by omega) p1, turn_at (by omega) p1]; omega
theorem sets_head : ∀ k : Nat, ∃ r, sets k = [] :: r ∧ ∀ s ∈ r, s ≠ []
  | 0 => ⟨[], rfl, by simp⟩
  | k + 1 => by
    obtain ⟨r, e, h⟩ := sets_head k
    refine ⟨r ++ (sets k).map fun s => s ++ [(k : Int) + 1], by show sets k ++ (sets k).map _ = _; rw [e]; rfl, fun s hs => ?_⟩
    rcases List.mem_append.mp hs with hs | hs
    · exact h s hs
    · obtain ⟨t, _, rfl⟩ := List.mem_map.mp hs
      simp
theorem in_outs {ls : List Pr} {s : List Int} {k : Int} : (((nb ls k).filter fun x => decide (x ∈ s)).length : Int) + outs ls s k = dg ls k := by
  unfold outs dg
  have h : ∀ l : List Int, (l.filter fun x => decide (x ∈ s)).length + (l.filter fun x => decide (x ∉ s)).length = l.length := fun l => by
    induction l with
    | nil => rfl
    | cons x r ih =>
      by_cases hx : x ∈ s
      · rw [List.filter_cons_of_pos (by simpa using hx), List.filter_cons_of_neg (by simpa using hx)]
        simp only [List.length_cons]; omega
      · rw [List.filter_cons_of_neg (by simpa using hx), List.filter_cons_of_pos (by simpa using hx)]
        simp only [List.length_cons]; omega
  have := h (nb ls k)
  omega
theorem low_iff {n : Nat} {ls : List Pr} {h : List Int} (w : Web n ls) (hn : 1 ≤ n) (hh : h.length = n) : lowB n ls h = (left n ls (turn n ls h)).isEmpty := by
  obtain ⟨r, er, hr⟩ := sets_head (n - 1)
  have smem : ∀ s ∈ sets (n - 1), ∀ x ∈ s, 1 ≤ x ∧ x < n := fun s hs x hx => by
    have := (sets_mem (n - 1) s hs).1 x hx
    omega
  have key : ∀ s ∈ sets (n - 1), s ≠ [] → (bar ls (turn n ls h) s = true ↔ (s.any fun k => decide (gi h k < outs ls s k)) = false) := fun s hs hne => by
    have m := smem s hs
    have z : (0 : Int) ∉ s := fun q => by have := m 0 q; omega
    have e : bar ls (turn n ls h) s = s.all (barsB ls (turn n ls h) s) := by simp [bar, hne, z]
    rw [e, List.all_eq_true, List.any_eq_false]
    refine forall_congr' fun k => forall_congr' fun hk => ?_
    have hk' := m k hk
    have io := in_outs (ls := ls) (s := s) (k := k)
    unfold barsB
    rw [turn_at hk'.1 hk'.2, decide_eq_true_eq, decide_eq_true_eq]
    omega
  rw [Bool.eq_iff_iff, List.isEmpty_iff]
  unfold lowB
  rw [er]
  show (r.all _) = true ↔ _
  rw [List.all_eq_true]
  constructor
  · intro hl
    by_cases hL : left n ls (turn n ls h) = []
    · exact hL
    · exfalso
      have hm := left_set (n := n) (ls := ls) (hs := turn n ls h) hn
      have hb := left_bars w hL
      have hf := (key _ hm hL).mp hb
      rw [er] at hm
      rcases List.mem_cons.mp hm with q | q
      · exact hL q
      · rw [hl _ q] at hf; cases hf
  · intro hL s hs
    have hs' : s ∈ sets (n - 1) := by rw [er]; exact List.mem_cons_of_mem _ hs
    cases hc : (s.any fun k => decide (gi h k < outs ls s k)) with
    | true => rfl
    | false =>
      exfalso
      have hb := (key s hs' (hr s hs)).mpr hc
      have sub := bar_sub (n := n) hb fun x hx => by have := smem s hs' x hx; omega
      cases s with
      | nil => exact hr _ hs rfl
      | cons a t =>
        have := sub a (by simp)
        rw [hL] at this; cases this
/-- all low heaps, both ways -/
theorem low_same {n : Nat} {ls : List Pr} (w : Web n ls) (hn : 1 ≤ n) : ((ag n ls).map (turn n ls)).Perm ((hps ls (n - 1)).filter (lowB n ls)) := by
  have hlen : ∀ h ∈ hps ls (n - 1), h.length = n := fun h hh => by have := hps_mem _ h hh; omega
  refine (List.perm_ext_iff_of_nodup ?_ ?_).mpr fun x => ?_
  · refine List.pairwise_map.mpr ?_
    refine List.Pairwise.imp_of_mem (fun {a b} ha hb (h : a ≠ b) z => h ?_) ((hps_nodup (n - 1)).filter _)
    rw [← turn_turn hn (List.mem_filter.mp ha).1, ← turn_turn hn (List.mem_filter.mp hb).1, z]
  · exact (hps_nodup (n - 1)).filter _
  · rw [List.mem_map, List.mem_filter]
    constructor
    · rintro ⟨h, hh, rfl⟩
      obtain ⟨h1, h2⟩ := List.mem_filter.mp hh
      refine ⟨turn_in hn h1, ?_⟩
      rw [low_iff w hn (turn_len hn), turn_turn hn h1]; exact h2
    · rintro ⟨h1, h2⟩
      rw [low_iff w hn (hlen x h1)] at h2
      exact ⟨turn n ls x, List.mem_filter.mpr ⟨turn_in hn h1, h2⟩, turn_turn hn h1⟩
end Wk09

namespace Wk09
open PySem PySem.Spec PyProof.Rows L2 Eg
theorem heap_law {n : Nat} {Q : D → Prop} (hn1 : 1 ≤ n) (hn : n ≤ 10) (h : ∀ vs : List Int, vs.length = n - 1 → (∀ v ∈ vs, 0 ≤ v ∧ v < 6) → Q (Hp' (0 :: vs))) : p_f__law_heap [tok0, .int n, .int 6] Q := by
  refine phi_i rfl ?_
  have big : 20000 < sizeLine := by decide
  unfold w_f__law_heap
  simp [one_le]
  refine ⟨by omega, ?_⟩
  rw [rangeD_map]
  refine lcGo_each .int (fun v => 0 ≤ v ∧ v < 6) _ _ _ (fun x hx Y N q => ?_) (by simp [rng_length]; omega) fun vs hl hv => ?_
  · simp
    exact draw_i (by decide) (by decide) fun v v0 v1 => q v ⟨v0, v1⟩
  · rw [rng_length] at hl
    simp
    exact ⟨by omega, h vs hl hv⟩
theorem plain_law0 : w_f_law (.un :: .sh tok0 :: List.replicate 13 .un) yes := by
  unfold w_f_law
  refine sq_ fun T hT => ?_
  simp
  refine draw_i (by decide) (by decide) fun d0 d1 d2 => ?_
  obtain ⟨n, hn, hn1, hn5⟩ : ∃ n : Nat, 1 + d0 = (n : Int) ∧ 1 ≤ n ∧ n ≤ 4 := ⟨(1 + d0).toNat, by omega, by omega, by omega⟩
  rw [s_gAddI, hn]
  refine hT _ (sq_ fun T hT => ?_)
  simp
  refine draw_i (by decide) (by decide) fun ex ex0 ex1 => ?_
  refine web_law hn1 (by omega) ex0 (by omega) fun ls w => ?_
  refine hT _ (sq_ fun T hT => ?_)
  simp
  have l20 := w.len
  refine heaps_law hn1 (by omega) w.len ?_
  have hlen : ∀ h ∈ hps ls (n - 1), h.length = n := fun h hh => by rw [hps_mem _ h hh]; omega
  have hsm : (hps ls (n - 1)).length ≤ 20 ^ 3 := Nat.le_trans (hps_len w.len _) (Nat.pow_le_pow_right (by decide) (by omega))
  have big : 20000 < sizeLine := by decide
  refine hT _ (sq_ fun T hT => ?_)
  simp [Lt']
  refine fun _ => lcGo_enc Hp' (lowB n ls) Hp' (fun g hg Y N q => ?_) (by simp; omega) ?_
  · simp
    refine low_law w hn1 (by omega) (hlen g hg) ?_
    cases hb : lowB n ls g <;> simp [hb] at q ⊢ <;> exact q
  obtain ⟨lo, hlo⟩ : ∃ lo, lo = (hps ls (n - 1)).filter (lowB n ls) := ⟨_, rfl⟩
  have lolen : lo.length ≤ 20 ^ 3 := by rw [hlo]; exact Nat.le_trans (List.length_filter_le _ _) hsm
  rw [← hlo, List.nil_append]
  have srt : ∀ xs : List (List Int), (∀ r ∈ xs, r ≠ []) → (SeqAt.shaped (.list (xs.map Hp')) = true ∧ PySem.W.AllAlike (xs.map Hp') ∧ PySem.W.Sortable (xs.map Hp')) ∧ (xs.map Hp').mergeSort (PySem.W.dataLe false id) = (sortR xs).map Hp' := fun xs hx => by
    refine ⟨⟨(Pl.list (n := 2) (.map fun r => pl_It)).shaped, alike_tup, .inl fun d hd => ?_⟩, sort_tup xs⟩
    obtain ⟨r, hr, rfl⟩ := List.mem_map.mp hd
    cases r with
    | nil => exact absurd rfl (hx _ hr)
    | cons a t => exact ⟨_, _, rfl⟩
  obtain ⟨s1, s2⟩ := srt lo fun r hr z => by
    rw [hlo] at hr
    have := hlen r (List.mem_filter.mp hr).1
    rw [z] at this
    simp at this; omega
  refine ⟨s1, ?_⟩
  rw [s2]
  refine hT _ (sq_ fun T hT => ?_)
  simp
  refine low_prog w hn1 (by omega) ?_
  have hsame : sortR ((ag n ls).map (turn n ls)) = sortR lo := by rw [hlo]; exact sortR_perm (low_same w hn1)
  rw [hsame]
  refine hT _ (sq_ fun T hT => ?_)
  have shL : ∀ xs : List (List Int), SeqAt.shaped (.list (xs.map Hp')) = true := fun xs => (Pl.list (n := 2) (.map fun r => pl_It)).shaped
  have eqL : ∀ xs : List (List Int), PyData.eqv (.list (xs.map Hp')) (.list (xs.map Hp')) = true := fun xs => by
    have := eqvAll_map Hp' (fun _ _ => eqv_It) xs xs
    rw [decide_eq_true rfl] at this; exact this
  simp [Lt', shL, eqL]
  refine hT _ (sq_ fun T hT => ?_)
  simp
  refine ⟨by omega, ?_⟩
  rw [rangeD_map]
  refine lcGo_enc .int (fun _ => true) (fun p => .int (dg ls p - 1)) (fun p hp Y N q => ?_) (by simp [rng_length]; omega) ?_
  · simp
    refine nb_law (by omega) ?_
    simp [Il]
    simpa [dg] using q
  rw [List.filter_eq_self.mpr (fun _ _ => rfl), List.nil_append]
  refine hT _ (sq_ fun T hT => ?_)
  simp
  refine again_prog w hn1 (by omega) ?_
  simp [Lt']
  have aglen : (ag n ls).length ≤ 20 ^ 3 := Nat.le_trans (List.length_filter_le _ _) hsm
  refine fun _ => lcGo_enc Hp' (fun _ => true) (fun g => Hp' (turn n ls g)) (fun g hg Y N q => ?_) (by simp; omega) ?_
  · have gl := hlen g (List.mem_filter.mp hg).1
    simp [one_le]
    refine ⟨by omega, ?_⟩
    rw [rangeD_map]
    refine lcGo_enc .int (fun _ => true) (fun p => .int (dg ls p - 1 - gi g p)) (fun p hp Y2 N2 q2 => ?_) (by simp [rng_length]; omega) ?_
    · have hp' := mem_rng.mp hp
      have a1 : atI (List.map (fun p => PyData.int (dg ls p - 1)) (rng 0 n)) p = some (.int (dg ls p - 1)) := by
        have := tab_at (n := n) (g := fun p => dg ls p - 1) (k := p) (by omega) (by omega)
        rw [List.map_map] at this
        exact this
      simp [Hp', atI_int (show 0 ≤ p by omega) (show p < g.length by omega), a1]
      simpa using q2
    · rw [List.filter_eq_self.mpr (fun _ _ => rfl)]
      simp [rng_length]
      refine ⟨by omega, ?_⟩
      simpa [Hp', turn, Function.comp_def] using q
  rw [List.filter_eq_self.mpr (fun _ _ => rfl), List.nil_append]
  have em : List.map (fun g => Hp' (turn n ls g)) (ag n ls) = ((ag n ls).map (turn n ls)).map Hp' := by rw [List.map_map]; rfl
  rw [em]
  obtain ⟨s3, s4⟩ := srt ((ag n ls).map (turn n ls)) fun r hr z => by
    obtain ⟨g, _, rfl⟩ := List.mem_map.mp hr
    simp [turn] at z
  refine ⟨s3, ?_⟩
  rw [s4, hsame]
  refine hT _ (sq_ fun T hT => ?_)
  simp [shL, eqL]
  refine hT _ (sq_ fun T hT => ?_)
  simp
  rw [rangeD_map]
  refine forGo_inv .int (fun _ env => ∃ s6 s7 s8 s9 s10 s11 s12 s13 s14, env = [.un, .sh tok0, .sh (.int n), .sh (Ln ls), .sh (Lt' (hps ls (n - 1))), .sh (Lt' (sortR lo)), s6, s7, s8, s9, s10, s11, s12, s13, s14]) _ [] _ ⟨_, _, _, _, _, _, _, _, _, rfl⟩ ?_ ?_
  · rintro x d r env eq ⟨s6, s7, s8, s9, s10, s11, s12, s13, s14, rfl⟩ N2 hN2
    simp only [s_wGn, List.set_cons_succ, List.set_cons_zero]
    refine sq_ fun T hT => ?_
    simp
    refine heap_law hn1 (by omega) fun vs vl vb => ?_
    refine hT _ (sq_ fun T hT => ?_)
    simp
    have hl : (0 :: vs).length = n := by simp [vl]; omega
    refine islow_prog w hn1 (by omega) hl ?_
    refine hT _ ?_
    have mem : (stillB n ls (0 :: vs) && (left n ls (turn n ls (0 :: vs))).isEmpty) = decide ((0 :: vs) ∈ sortR lo) := by
      rw [Bool.eq_iff_iff, decide_eq_true_eq, sortR_mem, hlo, List.mem_filter, low_iff w hn1 hl, Bool.and_eq_true, hps_iff]
      refine and_congr_left fun _ => ?_
      have nonneg : ∀ j : Int, 1 ≤ j → j ≤ ((n - 1 : Nat) : Int) → 0 ≤ gi (0 :: vs) j := fun j j1 j2 => by
        rw [gi_cons_pos j1]
        unfold gi
        rw [List.getD_eq_getElem?_getD, List.getElem?_eq_getElem (by omega)]
        exact (vb _ (List.getElem_mem _)).1
      constructor
      · intro hs
        refine ⟨by omega, rfl, fun j j1 j2 => ⟨nonneg j j1 j2, ?_⟩⟩
        have := List.all_eq_true.mp hs j (mem_rng.mpr ⟨j1, by omega⟩)
        simpa using this
      · rintro ⟨_, _, hb⟩
        refine List.all_eq_true.mpr fun j hj => ?_
        have hj' := mem_rng.mp hj
        have := (hb j hj'.1 (by omega)).2
        simpa using this
    rw [mem]
    have shB : ∀ b : Bool, SeqAt.shaped (.bool b) = true := fun b => by cases b <;> rfl
    have eqB : ∀ b : Bool, PyData.eqv (.bool b) (.bool b) = true := fun b => by cases b <;> rfl
    have shR : ∀ r : List Int, SeqAt.shaped (Hp' r) = true := fun r => (pl_It (n := 0)).shaped
    have layL : ∀ xs : List (List Int), PyData.canLayAll0 (xs.map Hp') = true := fun xs => Pl.lay (n := 2) (.map fun r => pl_It)
    have inL : ∀ (r : List Int) (xs : List (List Int)), inD (Hp' r) (xs.map Hp') = decide (r ∈ xs) := fun r xs => by
      rw [Bool.eq_iff_iff, decide_eq_true_eq]
      exact inD_mem fun a b => by
        have := eqv_It (a := a) (b := b)
        show PyData.eqv (It' a) (It' b) = true ↔ _
        rw [this, decide_eq_true_eq]
    simp only [s_wIfS, s_wOrT, s_wNotT, s_wT, s_wU, s_wV, at_S, at_0, List.set_cons_succ, List.set_cons_zero, s_gIsiB, s_gTru, s_isB, s_truB, s_wTB, s_wB, Lt', s_gInL, shR, layL, inL, and_self, true_and, s_gNe, shB, eqB, s_gBool]
    simp
    rw [if_pos (eqB _)]
    exact hN2 _ ⟨_, _, _, _, _, _, _, _, _, rfl⟩
  · rintro env ⟨s6, s7, s8, s9, s10, s11, s12, s13, s14, rfl⟩
    refine hT _ ?_
    clear hT
    simp [one_le]
    have w1 : Web 1 [] := ⟨by decide, by simp, fun p h1 h2 => by omega, by simp⟩
    have w3 : Web 3 [(0, 1), (0, 2), (1, 2)] := ⟨by decide, by simp, fun p h1 h2 => by
      have : p = 1 ∨ p = 2 := by omega
      rcases this with rfl | rfl
      · exact ⟨(0, 1), by simp, by decide⟩
      · exact ⟨(0, 2), by simp, by decide⟩, by simp⟩
    have shL : ∀ xs : List (List Int), SeqAt.shaped (.list (xs.map Hp')) = true := fun xs => (Pl.list (n := 2) (.map fun r => pl_It)).shaped
    refine low_prog (n := 1) (ls := []) w1 (by decide) (by decide) ?_
    have f1 : (hps [] 0).filter (lowB 1 []) = [[0]] := by decide +kernel
    have f3 : (hps [(0, 1), (0, 2), (1, 2)] 2).filter (lowB 3 [(0, 1), (0, 2), (1, 2)]) = [[0, 0, 0], [0, 0, 1], [0, 1, 0]] := by decide +kernel
    have g1 : sortR ((ag 1 []).map (turn 1 [])) = [[0]] := by
      rw [sortR_perm (low_same w1 (by decide)), show (1 - 1 : Nat) = 0 from rfl, f1]
      exact List.mergeSort_of_pairwise (by simp)
    have g3 : sortR ((ag 3 [(0, 1), (0, 2), (1, 2)]).map (turn 3 [(0, 1), (0, 2), (1, 2)])) = [[0, 0, 0], [0, 0, 1], [0, 1, 0]] := by
      rw [sortR_perm (low_same w3 (by decide)), show (3 - 1 : Nat) = 2 from rfl, f3]
      exact List.mergeSort_of_pairwise (by decide +kernel)
    rw [g1]
    refine ⟨⟨shL [[0]], shL [[0]]⟩, ?_⟩
    rw [if_pos (show PyData.eqv (Lt' [[0]]) (.list [.tuple [.int 0]]) = true by decide +kernel)]
    refine ⟨by decide, by decide, ?_⟩
    refine low_prog (n := 3) (ls := [(0, 1), (0, 2), (1, 2)]) w3 (by decide) (by decide) ?_
    rw [g3]
    refine ⟨by decide, ⟨shL [[0, 0, 0], [0, 0, 1], [0, 1, 0]], shL [[0, 0, 0], [0, 0, 1], [0, 1, 0]]⟩, ?_⟩
    rw [show PyData.eqv (Lt' [[0, 0, 0], [0, 0, 1], [0, 1, 0]]) (.list [.tuple [.int 0, .int 0, .int 0], .tuple [.int 0, .int 0, .int 1], .tuple [.int 0, .int 1, .int 0]]) = true by decide +kernel]
    exact rfl
theorem plain_law : w_f_law (lawEnv 15) yes := by
  have e : lawEnv 15 = (.un :: .sh tok0 :: List.replicate 13 .un) := rfl
  rw [e]
  exact plain_law0
end Wk09

open PySem PySem.W PySem.Calls PyProof.Rows
theorem PySem.Challenge.cw_grainsfall_k09_low_heaps_holds : PySem.Challenge.rw_grainsfall_k09_low_heaps.Holds := by
  w_on; o_law
  refine HandSHeadRun.head_any (r := OpenLaw.row PySem.Challenge.rw_grainsfall_k09_low_heaps) (q := view (OpenLaw.row PySem.Challenge.rw_grainsfall_k09_low_heaps).prog [30]) (H := Wk09.hk) (ob := Wk09.ob) (M := 6000) (loose := Wk09.loose) (d := HandSHeadRun.topDef (OpenLaw.row PySem.Challenge.rw_grainsfall_k09_low_heaps).prog 30) (kwd := []) Wk09.ob_eq
    (by kernel_rfl) (fun s => by kernel_rfl) Wk09.run (by kernel_rfl) (by kernel_rfl) (by kernel_rfl) (by rfl) (by first | assumption | decide +kernel) (by decide +kernel) ⟨rfl, rfl, rfl, rfl, rfl, by decide +kernel⟩ ?hw ?hc
  case hw => w_witness2
  case hc =>
    refine L2.walk_ofE (l := PySem.Challenge.rw_grainsfall_k09_low_heaps) (n := 63) (k := 6) (x := "script") (CX := L2.CX0) rfl (by decide) (by kernel_rfl) ⟨rfl, by decide, by decide⟩ ?F (fun _ _ _ _ z => z)
    intro w mg fa h Y G hmg0
    obtain ⟨K, KX, c⟩ := Y
    have hmg : mg ("law" : PySem.Str) = some (.ref fa) := by
      have e : (HandSHeadRun.topDef (OpenLaw.row PySem.Challenge.rw_grainsfall_k09_low_heaps).prog 30).name = ("law" : PySem.Str) := by kernel_rfl
      rw [← e]
      exact hmg0
    obtain ⟨fd, hb, hF⟩ := Wk09.facts (P := (PySem.Challenge.rw_grainsfall_k09_low_heaps).prog) (w := w) KX G hmg c Wk09.plain_law
    exact ⟨K, fd, Eg.spLaw K, KX, hb, fun H a ns hl _ hS => ⟨a, ns, rfl, hS, hl, fun _ => rfl⟩, hF⟩

