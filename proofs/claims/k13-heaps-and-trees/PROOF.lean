import PyProof.Rows.All
import Wide.All
import OpenK.AllK
import Wide.FinOn
import HandS.ForMost
import HandS.Flow
import HandS.Deep
import HandS.TupAny
import HandS.WideBits
import HandS.IsInst
import HandS.Gcd
import KE.SortData
import HandS.Zip
import HandS.AnyAll
import HandS.Style
import KE.KTupSum
import KE.GoesEnum
import HandS.Defaults
import HandS.Iter
import HandS.Conv
import HandS.JoinGen
import HandS.HeadHook4
import HandS.SetFor
import HandS.Strs
import PyProof.GenCompD
import PyProof.WalksPairs
import HandS.TupSets
import KE.KStateDown
import HandS.Base
import HandS.Call
import HandS.Ends
import HandS.More
import HandS.Words
import HandS.WordsExc
import HandS.Head0
import HandS.Head1
import HandS.Head2
import HandS.HeadEnd
import HandS.HeadHook1
import HandS.HeadHook2
import HandS.HeadWalk
import PySem.Challenge.RW_grainsfall_k13_whole_heaps_and_trees
set_option Elab.async false
set_option linter.all false
set_option maxRecDepth 100000
set_option maxHeartbeats 0
/-! E1: data, their places in the heap, the relation of slots and data. -/
namespace Eg
open PySem PySem.Spec PyProof.Rows L2

abbrev D := PyData

mutual
/-- the value v stands for the data d in the heap H; no list or tuple of it lies at a place of S -/
inductive Rp (T : Nat → V) (H : Hp) (S : Addr → Prop) : V → D → Prop
  | non : Rp T H S .non .none
  | bl (b : Bool) : Rp T H S (.bl b) (.bool b)
  | int (i : Int) : Rp T H S (.int i) (.int i)
  | str (x : Str) : Rp T H S (.str x) (.str x)
  | lst {a : Addr} {xs : List V} {ds : List D} : H a = some (.lst xs) → ¬ S a → RpAll T H S xs ds → Rp T H S (.ref a) (.list ds)
  | tup {a : Addr} {xs : List V} {ds : List D} : H a = some (.tup xs) → ¬ S a → RpAll T H S xs ds → Rp T H S (.ref a) (.tuple ds)
  | tok (k : Nat) : T k ≠ .non → Rp T H S (T k) (.dict [(.int k, .none)])
inductive RpAll (T : Nat → V) (H : Hp) (S : Addr → Prop) : List V → List D → Prop
  | nil : RpAll T H S [] []
  | cons {v : V} {vs : List V} {d : D} {ds : List D} : Rp T H S v d → RpAll T H S vs ds → RpAll T H S (v :: vs) (d :: ds)
end

section
variable {T : Nat → V} {H H' : Hp} {S S' : Addr → Prop}
theorem RpAll.length : ∀ {vs : List V} {ds : List D}, RpAll T H S vs ds → vs.length = ds.length
  | _, _, .nil => rfl
  | _, _, .cons _ t => congrArg (· + 1) t.length
mutual
theorem Rp.move (k : ∀ a o, H a = some o → ¬ S a → H' a = some o ∧ ¬ S' a) : ∀ {v : V} (d : D), Rp T H S v d → Rp T H' S' v d
  | _, .none, .non => .non
  | _, .bool _, .bl b => .bl b
  | _, .int _, .int i => .int i
  | _, .str _, .str x => .str x
  | _, .list ds, .lst h n r => .lst (k _ _ h n).1 (k _ _ h n).2 (RpAll.move k ds r)
  | _, .tuple ds, .tup h n r => .tup (k _ _ h n).1 (k _ _ h n).2 (RpAll.move k ds r)
  | _, .dict _, .tok j n => .tok j n
theorem RpAll.move (k : ∀ a o, H a = some o → ¬ S a → H' a = some o ∧ ¬ S' a) : ∀ {vs : List V} (ds : List D), RpAll T H S vs ds → RpAll T H' S' vs ds
  | _, [], .nil => .nil
  | _, d :: ds, .cons h t => .cons (Rp.move k d h) (RpAll.move k ds t)
end
theorem RpAll.append : ∀ {vs ws : List V} {ds es : List D}, RpAll T H S vs ds → RpAll T H S ws es → RpAll T H S (vs ++ ws) (ds ++ es)
  | _, _, _, _, .nil, h => h
  | _, _, _, _, .cons a t, h => .cons a (t.append h)
theorem RpAll.get : ∀ {vs : List V} {ds : List D} {i : Nat} {d : D}, RpAll T H S vs ds → ds[i]? = some d → ∃ v, vs[i]? = some v ∧ Rp T H S v d
  | _, _, _, _, .nil, e => by simp at e
  | _, _, 0, d, .cons a t, e => by simp at e; subst e; exact ⟨_, rfl, a⟩
  | _, _, i + 1, d, .cons a t, e => by
    obtain ⟨v, e1, r⟩ := RpAll.get (i := i) t (by simpa using e)
    exact ⟨v, by simpa using e1, r⟩
theorem RpAll.get' : ∀ {vs : List V} {ds : List D} {i : Nat} {v : V}, RpAll T H S vs ds → vs[i]? = some v → ∃ d, ds[i]? = some d ∧ Rp T H S v d
  | _, _, _, _, .nil, e => by simp at e
  | _, _, 0, d, .cons a t, e => by simp at e; subst e; exact ⟨_, rfl, a⟩
  | _, _, i + 1, d, .cons a t, e => by
    obtain ⟨v, e1, r⟩ := RpAll.get' (i := i) t (by simpa using e)
    exact ⟨v, by simpa using e1, r⟩
theorem RpAll.set {x : V} {y : D} (h : Rp T H S x y) : ∀ {vs : List V} {ds : List D} (i : Nat), RpAll T H S vs ds → RpAll T H S (vs.set i x) (ds.set i y)
  | _, _, _, .nil => .nil
  | _, _, 0, .cons _ t => .cons h t
  | _, _, i + 1, .cons a t => .cons a (RpAll.set h i t)
theorem RpAll.take : ∀ {vs : List V} {ds : List D} (n : Nat), RpAll T H S vs ds → RpAll T H S (vs.take n) (ds.take n)
  | _, _, 0, _ => .nil
  | _, _, _ + 1, .nil => .nil
  | _, _, n + 1, .cons a t => .cons a (RpAll.take n t)
theorem RpAll.drop : ∀ {vs : List V} {ds : List D} (n : Nat), RpAll T H S vs ds → RpAll T H S (vs.drop n) (ds.drop n)
  | _, _, 0, r => r
  | _, _, _ + 1, .nil => .nil
  | _, _, n + 1, .cons _ t => RpAll.drop n t
theorem RpAll.eraseIdx : ∀ {vs : List V} {ds : List D} (n : Nat), RpAll T H S vs ds → RpAll T H S (vs.eraseIdx n) (ds.eraseIdx n)
  | _, _, _, .nil => .nil
  | _, _, 0, .cons _ t => t
  | _, _, n + 1, .cons a t => .cons a (RpAll.eraseIdx n t)
theorem RpAll.flatRep {vs : List V} {ds : List D} (h : RpAll T H S vs ds) : ∀ n : Nat, RpAll T H S (List.replicate n vs).flatten (List.replicate n ds).flatten
  | 0 => .nil
  | n + 1 => by
    rw [List.replicate_succ, List.replicate_succ, List.flatten_cons, List.flatten_cons]
    exact h.append (h.flatRep n)
theorem RpAll.rev : ∀ {vs : List V} {ds : List D}, RpAll T H S vs ds → RpAll T H S vs.reverse ds.reverse
  | _, _, .nil => .nil
  | _, _, .cons a t => by
    rw [List.reverse_cons, List.reverse_cons]
    exact t.rev.append (.cons a .nil)

theorem Rp.dp (K : PySem.W.Frag) {d : D} : ∀ {v : V}, Rp T H S v d → d.canLay0 = true → Dp K H v d := by
  have key : ∀ (v : V), Rp T H S v d → d.canLay0 = true → Dp K H v d := by
    refine PyData.rec (motive_1 := fun d => ∀ (v : V), Rp T H S v d → d.canLay0 = true → Dp K H v d) (motive_2 := fun ds => ∀ (vs : List V), RpAll T H S vs ds → PyData.canLayAll0 ds = true → DpAll K H vs ds)
      (motive_3 := fun _ => True) (motive_4 := fun _ => True) ?_ ?_ ?_ ?_ ?_ ?_ ?_ ?_ ?_ ?_ ?_ ?_ d
    · intro v h _; cases h; exact .non
    · intro b v h _; cases h; exact .bl _
    · intro b v h _; cases h; exact .int _
    · intro b v h _; cases h; exact .str _
    · intro ds ih v h c
      cases h with
      | lst h1 h2 h3 => exact .lst (.inl (.inl h1)) (ih _ h3 (by simpa [PyData.canLay0] using c))
    · intro ds ih v h c
      cases h with
      | tup h1 h2 h3 => exact .tup (.inl (.inl h1)) (ih _ h3 (by simpa [PyData.canLay0] using c))
    · intro kvs _ v h c; simp [PyData.canLay0] at c
    · intro vs h _; cases h; exact .nil
    · intro d ds i1 i2 vs h c
      cases h with
      | cons a t =>
        have c' : (d.canLay0 && PyData.canLayAll0 ds) = true := by simpa [PyData.canLayAll0] using c
        rw [Bool.and_eq_true] at c'
        exact .cons (i1 _ a c'.1) (i2 _ t c'.2)
    · trivial
    · intros; trivial
    · intros; trivial
  intro v h c
  exact key v h c
end

/-- a slot's state: nothing known; a value that nobody changes any more; a list that this slot alone holds; a list of lists that this slot alone holds -/
inductive Sl where
  | un
  | sh (d : D)
  | ow (ds : List D)
  | ow2 (dss : List (List D))
  | od (kvs : List (Key × D))
abbrev En := List Sl
def En.at (env : En) (i : Nat) : Sl := env.getD i .un

/-- the drawer's state: cells left, a number; a place and a number, the script -/
def St1 (a c : Addr) (H : Hp) : Prop := ∃ (cells : List Int) (m : Int), H a = some (.lst [.ref c, .int m]) ∧ H c = some (.lst (cells.map V.int)) ∧ 0 ≤ m ∧ m < 2147483648
def St2 (a : Addr) (H : Hp) : Prop := ∃ (k v : Int), H a = some (.lst [.int k, .int v]) ∧ 0 ≤ k ∧ 0 ≤ v
structure DrawOk (T : Nat → V) (M : Addr → Prop) (J : Hp → Prop) : Prop where
  one : T 0 ≠ .non → ∃ a c, T 0 = .ref a ∧ a ≠ c ∧ M a ∧ M c ∧ ∀ H, J H → St1 a c H ∧ ∀ H', (∀ b, b ≠ a → b ≠ c → M b → H' b = H b) → St1 a c H' → J H'
  two : T 1 ≠ .non → ∃ a, T 1 = .ref a ∧ M a ∧ ∀ H, J H → St2 a H ∧ ∀ H', (∀ b, b ≠ a → M b → H' b = H b) → St2 a H' → J H'
/-- the code objects' tables that may grow -/
class Tabs where
  tb : List Addr
variable [Tabs]
/-- what surrounds: the tokens, the state's places and what holds of it, the heap at the entry, places to be left out of the result, values that loops around hold -/
structure Wd where
  T : Nat → V
  M : Addr → Prop
  J : Hp → Prop
  dr : DrawOk T M J
  tm : ∀ P ∈ Tabs.tb, M P
  tj : ∀ P ∈ Tabs.tb, ∀ H, J H → GxR.TabG H P ∧ ∀ ps : Array Value, TriplesOk ps.toList → J (upd H P (.tbl ps))
  jm : ∀ H, J H → ∀ a, M a → H a ≠ none
  jk : ∀ H H', (∀ a, M a → H a = H' a) → J H → J H'
  H0 : Hp
  S0 : Addr → Prop
  hold : List (V × D)

def KpJ (W : Wd) (H H' : Hp) : Prop := (∀ a o, H a = some o → ¬ W.M a → H' a = some o) ∧ W.J H'
theorem KpJ.refl {W : Wd} {H : Hp} (j : W.J H) : KpJ W H H := ⟨fun _ _ h _ => h, j⟩
theorem KpJ.trans {W : Wd} {H H1 H2 : Hp} (a : KpJ W H H1) (b : KpJ W H1 H2) : KpJ W H H2 := ⟨fun c o h n => b.1 c o (a.1 c o h n) n, b.2⟩
theorem KpJ.of_same {W : Wd} {H H' : Hp} (j : W.J H) (s : Same H H') : KpJ W H H' := ⟨fun a o h _ => s a o h, W.jk H H' (fun a m => by
  cases e : H a with
  | none => exact absurd e (W.jm H j a m)
  | some o => exact (s a o e).symm) j⟩
omit [Tabs] in
theorem same_new {H : Hp} {p : Addr} {o : HO} (h : H p = none) : Same H (upd H p o) := fun b x e => by
  rw [upd_ne (ne_of_none e h)]
  exact e
theorem KpJ.new {W : Wd} {H : Hp} {p : Addr} {o : HO} (j : W.J H) (h : H p = none) : KpJ W H (upd H p o) := .of_same j (same_new h)
theorem KpJ.none_of {W : Wd} {H H' : Hp} (k : KpJ W H H') (j : W.J H) {p : Addr} (h : H' p = none) : H p = none := by
  cases e : H p with
  | none => rfl
  | some o =>
    by_cases m : W.M p
    · exact absurd h (W.jm H' k.2 p m)
    · rw [k.1 p o e m] at h; cases h

/-- a list that a slot alone holds -/
structure Own (W : Wd) (S : Addr → Prop) (H : Hp) (a : Addr) (vs : List V) (ds : List D) : Prop where
  s : S a
  s0 : ¬ W.S0 a
  m : ¬ W.M a
  h0 : W.H0 a = none
  h : H a = some (.lst vs)
  r : RpAll W.T H S vs ds

/-- a dict that a slot alone holds -/
structure OwnD (W : Wd) (S : Addr → Prop) (H : Hp) (a : Addr) (vs : List (Key × V)) (ds : List (Key × D)) : Prop where
  s : S a
  s0 : ¬ W.S0 a
  m : ¬ W.M a
  h0 : W.H0 a = none
  h : H a = some (.dK vs)
  k : vs.map (·.1) = ds.map (·.1)
  r : RpAll W.T H S (vs.map (·.2)) (ds.map (·.2))
/-- rows that a slot alone holds -/
inductive Rows (W : Wd) (S : Addr → Prop) (H : Hp) : List Addr → List (List D) → Prop
  | nil : Rows W S H [] []
  | cons {b : Addr} {bs : List Addr} {vs : List V} {ds : List D} {dss : List (List D)} : Own W S H b vs ds → Rows W S H bs dss → Rows W S H (b :: bs) (ds :: dss)
/-- a table that a slot alone holds -/
structure Own2 (W : Wd) (S : Addr → Prop) (H : Hp) (a : Addr) (bs : List Addr) (dss : List (List D)) : Prop where
  s : S a
  s0 : ¬ W.S0 a
  m : ¬ W.M a
  h0 : W.H0 a = none
  h : H a = some (.lst (bs.map V.ref))
  nd : bs.Nodup
  na : a ∉ bs
  rows : Rows W S H bs dss

def SlOk (W : Wd) (S : Addr → Prop) (H : Hp) : Sl → Option (Option V) → Prop
  | .un, _ => True
  | .sh d, x => ∃ v, x = some (some v) ∧ Rp W.T H S v d
  | .ow ds, x => ∃ a vs, x = some (some (.ref a)) ∧ Own W S H a vs ds
  | .ow2 dss, x => ∃ a bs, x = some (some (.ref a)) ∧ Own2 W S H a bs dss
  | .od ds, x => ∃ a vs, x = some (some (.ref a)) ∧ OwnD W S H a vs ds
/-- the places that a slot alone holds -/
def Ads (H : Hp) (x : Option (Option V)) : Sl → Addr → Prop
  | .ow _, a => x = some (some (.ref a))
  | .od _, a => x = some (some (.ref a))
  | .ow2 _, a => ∃ (b : Addr) (bs : List Addr), x = some (some (.ref b)) ∧ H b = some (.lst (bs.map V.ref)) ∧ (a = b ∨ a ∈ bs)
  | _, _ => False

structure RlS (W : Wd) (env : En) (S : Addr → Prop) (σ : L2.St) (H : Hp) : Prop where
  s0 : ∀ a, W.S0 a → S a
  sm : ∀ a, W.M a → S a
  sn : ∀ a, S a → H a ≠ none
  h0 : ∀ a o, W.H0 a = some o → ¬ W.M a → H a = some o
  j : W.J H
  len : env.length = σ.length
  sl : ∀ i, SlOk W S H (env.at i) σ[i]?
  ne : ∀ i k a, i ≠ k → Ads H σ[i]? (env.at i) a → Ads H σ[k]? (env.at k) a → False
  hd : ∀ p ∈ W.hold, Rp W.T H S p.1 p.2

omit [Tabs] in
theorem ref_inj : ∀ {as bs : List Addr}, as.map V.ref = bs.map V.ref → as = bs
  | [], [], _ => rfl
  | [], _ :: _, h => by simp at h
  | _ :: _, [], h => by simp at h
  | a :: as, b :: bs, h => by
    rw [List.map_cons, List.map_cons] at h
    injection h with h1 h2
    rw [V.ref.inj h1, ref_inj h2]
theorem Rows.each {W : Wd} {S : Addr → Prop} {H : Hp} : ∀ {bs : List Addr} {dss : List (List D)}, Rows W S H bs dss → ∀ b ∈ bs, ∃ vs ds, Own W S H b vs ds
  | _, _, .nil, b, h => by cases h
  | _, _, .cons O t, b, h => by
    rcases List.mem_cons.mp h with rfl | h
    · exact ⟨_, _, O⟩
    · exact t.each b h
theorem Rows.move {W W' : Wd} {S S' : Addr → Prop} {H H' : Hp} (f : ∀ b vs ds, Own W S H b vs ds → Own W' S' H' b vs ds) : ∀ {bs : List Addr} {dss : List (List D)}, Rows W S H bs dss → Rows W' S' H' bs dss
  | _, _, .nil => .nil
  | _, _, .cons O t => .cons (f _ _ _ O) (t.move f)
theorem Rows.moveM {W W' : Wd} {S S' : Addr → Prop} {H H' : Hp} : ∀ {bs : List Addr} {dss : List (List D)}, (∀ b ∈ bs, ∀ vs ds, Own W S H b vs ds → Own W' S' H' b vs ds) → Rows W S H bs dss → Rows W' S' H' bs dss
  | _, _, _, .nil => .nil
  | _, _, f, .cons O t => .cons (f _ List.mem_cons_self _ _ O) (Rows.moveM (fun b hb => f b (List.mem_cons_of_mem _ hb)) t)
theorem Rows.length {W : Wd} {S : Addr → Prop} {H : Hp} : ∀ {bs : List Addr} {dss : List (List D)}, Rows W S H bs dss → bs.length = dss.length
  | _, _, .nil => rfl
  | _, _, .cons _ t => congrArg (· + 1) t.length
theorem Rows.get {W : Wd} {S : Addr → Prop} {H : Hp} : ∀ {bs : List Addr} {dss : List (List D)} {i : Nat} {ds : List D}, Rows W S H bs dss → dss[i]? = some ds → ∃ b vs, bs[i]? = some b ∧ Own W S H b vs ds
  | _, _, _, _, .nil, e => by simp at e
  | _, _, 0, _, .cons O t, e => by simp at e; subst e; exact ⟨_, _, rfl, O⟩
  | _, _, i + 1, _, .cons O t, e => by
    obtain ⟨b, vs, e1, O'⟩ := Rows.get (i := i) t (by simpa using e)
    exact ⟨b, vs, by simpa using e1, O'⟩
/-- as lists that are shared -/
theorem Rows.sh {W : Wd} {S S' : Addr → Prop} {H : Hp} (hS : ∀ a, S' a → S a) : ∀ {bs : List Addr} {dss : List (List D)}, (∀ b ∈ bs, ¬ S' b) → Rows W S H bs dss → RpAll W.T H S' (bs.map V.ref) (dss.map .list)
  | _, _, _, .nil => .nil
  | _, _, f, .cons (ds := ds) O t => .cons (.lst O.h (f _ List.mem_cons_self) (O.r.move (ds := ds) fun a o e n => ⟨e, fun s => n (hS a s)⟩)) (Rows.sh hS (fun b hb => f b (List.mem_cons_of_mem _ hb)) t)

section
variable {W : Wd} {env : En} {S S' : Addr → Prop} {σ : L2.St} {H H' : Hp}
theorem Rp.kept {v : V} {d : D} (k : KpJ W H H') (sm : ∀ a, W.M a → S a) (r : Rp W.T H S v d) : Rp W.T H' S v d := r.move (d := d) fun a o h n => ⟨k.1 a o h fun m => n (sm a m), n⟩
theorem RpAll.kept {vs : List V} {ds : List D} (k : KpJ W H H') (sm : ∀ a, W.M a → S a) (r : RpAll W.T H S vs ds) : RpAll W.T H' S vs ds := r.move (ds := ds) fun a o h n => ⟨k.1 a o h fun m => n (sm a m), n⟩
omit [Tabs] in
theorem Rp.less {T : Nat → V} {v : V} {d : D} (r : Rp T H S v d) (h : ∀ a, S' a → S a) : Rp T H S' v d := r.move (d := d) fun a o e n => ⟨e, fun s => n (h a s)⟩
omit [Tabs] in
theorem RpAll.less {T : Nat → V} {vs : List V} {ds : List D} (r : RpAll T H S vs ds) (h : ∀ a, S' a → S a) : RpAll T H S' vs ds := r.move (ds := ds) fun a o e n => ⟨e, fun s => n (h a s)⟩
/-- S and one new place -/
def plus (S : Addr → Prop) (p : Addr) : Addr → Prop := fun a => S a ∨ a = p
omit [Tabs] in
theorem Rp.plus {T : Nat → V} {v : V} {d : D} {p : Addr} {o : HO} (r : Rp T H S v d) (hp : H p = none) : Rp T (upd H p o) (plus S p) v d := r.move (d := d) fun a o' e n =>
  ⟨by rw [upd_ne (ne_of_none e hp)]; exact e, fun s => s.elim n fun q => ne_of_none e hp q⟩
omit [Tabs] in
theorem RpAll.plus {T : Nat → V} {vs : List V} {ds : List D} {p : Addr} {o : HO} (r : RpAll T H S vs ds) (hp : H p = none) : RpAll T (upd H p o) (plus S p) vs ds := r.move (ds := ds) fun a o' e n =>
  ⟨by rw [upd_ne (ne_of_none e hp)]; exact e, fun s => s.elim n fun q => ne_of_none e hp q⟩
theorem Own.kept {a : Addr} {vs : List V} {ds : List D} (k : KpJ W H H') (sm : ∀ a, W.M a → S a) (O : Own W S H a vs ds) : Own W S H' a vs ds := ⟨O.s, O.s0, O.m, O.h0, k.1 _ _ O.h O.m, O.r.kept k sm⟩
theorem Own2.kept {a : Addr} {bs : List Addr} {dss : List (List D)} (k : KpJ W H H') (sm : ∀ a, W.M a → S a) (O : Own2 W S H a bs dss) : Own2 W S H' a bs dss := ⟨O.s, O.s0, O.m, O.h0, k.1 _ _ O.h O.m, O.nd, O.na, O.rows.move fun b vs ds o => o.kept k sm⟩
theorem OwnD.kept {a : Addr} {vs : List (Key × V)} {ds : List (Key × D)} (k : KpJ W H H') (sm : ∀ a, W.M a → S a) (O : OwnD W S H a vs ds) : OwnD W S H' a vs ds := ⟨O.s, O.s0, O.m, O.h0, k.1 _ _ O.h O.m, O.k, O.r.kept k sm⟩
theorem SlOk.kept {x : Sl} {y : Option (Option V)} (k : KpJ W H H') (sm : ∀ a, W.M a → S a) (q : SlOk W S H x y) : SlOk W S H' x y := by
  cases x with
  | un => trivial
  | sh d => obtain ⟨v, e, q⟩ := q; exact ⟨v, e, q.kept k sm⟩
  | ow ds => obtain ⟨a, vs, e, q⟩ := q; exact ⟨a, vs, e, q.kept k sm⟩
  | ow2 ds => obtain ⟨a, vs, e, q⟩ := q; exact ⟨a, vs, e, q.kept k sm⟩
  | od ds => obtain ⟨a, vs, e, q⟩ := q; exact ⟨a, vs, e, q.kept k sm⟩
/-- what a slot holds stays what it was, if its own outer list is the same -/
theorem Ads.back {x : Sl} {y : Option (Option V)} {a : Addr} (ok : SlOk W S H x y) (k : ∀ b vs, y = some (some (.ref b)) → ¬ W.M b → H b = some (.lst vs) → H' b = some (.lst vs)) (h : Ads H' y x a) : Ads H y x a := by
  cases x with
  | un => exact h
  | sh d => exact h
  | ow ds => exact h
  | od ds => exact h
  | ow2 dss =>
    obtain ⟨b, bs, e, hb, ha⟩ := h
    obtain ⟨c, cs, e', O⟩ := ok
    rw [e] at e'; cases e'
    have := k b _ e O.m O.h
    rw [hb] at this
    have e2 : bs.map V.ref = cs.map V.ref := by
      have := Option.some.inj this
      injection this
    have e3 := ref_inj e2
    subst e3
    exact ⟨b, bs, e, O.h, ha⟩
theorem Ads.own {x : Sl} {y : Option (Option V)} {a : Addr} (ok : SlOk W S H x y) (h : Ads H y x a) : S a ∧ ¬ W.S0 a ∧ ¬ W.M a ∧ W.H0 a = none ∧ ((∃ vs, H a = some (.lst vs)) ∨ ∃ kvs, H a = some (.dK kvs)) := by
  cases x with
  | un => exact h.elim
  | sh d => exact h.elim
  | ow ds =>
    obtain ⟨c, vs, e', O⟩ := ok
    have e : y = some (some (.ref a)) := h
    rw [e] at e'; cases e'
    exact ⟨O.s, O.s0, O.m, O.h0, .inl ⟨_, O.h⟩⟩
  | od ds =>
    obtain ⟨c, vs, e', O⟩ := ok
    have e : y = some (some (.ref a)) := h
    rw [e] at e'; cases e'
    exact ⟨O.s, O.s0, O.m, O.h0, .inr ⟨_, O.h⟩⟩
  | ow2 dss =>
    obtain ⟨b, bs, e, hb, ha⟩ := h
    obtain ⟨c, cs, e', O⟩ := ok
    rw [e] at e'; cases e'
    have e2 : bs = cs := by
      rw [O.h] at hb
      have := Option.some.inj hb
      injection this with this
      exact (ref_inj this).symm
    subst e2
    rcases ha with rfl | ha
    · exact ⟨O.s, O.s0, O.m, O.h0, .inl ⟨_, O.h⟩⟩
    · obtain ⟨vs, ds, o⟩ := O.rows.each a ha
      exact ⟨o.s, o.s0, o.m, o.h0, .inl ⟨_, o.h⟩⟩

/-- behind an expression -/
theorem RlS.kept (r : RlS W env S σ H) (k : KpJ W H H') : RlS W env S σ H' where
  s0 := r.s0
  sm := r.sm
  sn := fun a h => by
    by_cases m : W.M a
    · exact W.jm H' k.2 a m
    · cases e : H a with
      | none => exact absurd e (r.sn a h)
      | some o => rw [k.1 a o e m]; simp
  h0 := fun a o h n => k.1 a o (r.h0 a o h n) n
  j := k.2
  len := r.len
  sl := fun i => (r.sl i).kept k r.sm
  ne := fun i l a h x y => r.ne i l a h (x.back (r.sl i) fun b vs _ n e => k.1 b _ e n) (y.back (r.sl l) fun b vs _ n e => k.1 b _ e n)
  hd := fun p hp => (r.hd p hp).kept k r.sm

omit [Tabs] in
theorem at_set {env : En} {i j : Nat} {x : Sl} : En.at (env.set i x) j = if j = i ∧ i < env.length then x else env.at j := by
  unfold En.at
  rw [List.getD_eq_getElem?_getD, List.getD_eq_getElem?_getD, List.getElem?_set]
  by_cases h : i = j
  · subst h
    by_cases hl : i < env.length
    · simp [hl]
    · simp [hl]
  · have h' : ¬ (j = i ∧ i < env.length) := fun q => h q.1.symm
    rw [if_neg h, if_neg h']
/-- the slots as they are behind a store -/
theorem sl_set {i : Nat} {x : Sl} {y : Option V} (hlen : env.length = σ.length) (hn : SlOk W S H x (some y)) (ho : ∀ l, SlOk W S H (env.at l) σ[l]?) (l : Nat) : SlOk W S H (En.at (env.set i x) l) (σ.set i y)[l]? := by
  rw [at_set]
  split
  · rename_i q
    obtain ⟨rfl, hl⟩ := q
    rw [List.getElem?_set_self (by rw [← hlen]; exact hl)]
    exact hn
  · rename_i q
    by_cases hk : l = i
    · subst hk
      have hl : ¬ l < env.length := fun z => q ⟨rfl, z⟩
      have hs : σ[l]? = none := List.getElem?_eq_none (by rw [← hlen]; omega)
      have e : (σ.set l y)[l]? = none := List.getElem?_eq_none (by rw [List.length_set, ← hlen]; omega)
      rw [e, ← hs]
      exact ho l
    · rw [List.getElem?_set_ne (Ne.symm hk)]
      exact ho l
omit [Tabs] in
theorem ads_none {x : Sl} {a : Addr} (h : Ads H none x a) : False := by
  cases x with
  | un => exact h
  | sh d => exact h
  | ow ds =>
    have e : (none : Option (Option V)) = some (some (.ref a)) := h
    cases e
  | od ds =>
    have e : (none : Option (Option V)) = some (some (.ref a)) := h
    cases e
  | ow2 dss => obtain ⟨b, bs, e, _⟩ := h; cases e
omit [Tabs] in
theorem ne_set {i : Nat} {x : Sl} {y : Option V} (hlen : env.length = σ.length) (ne : ∀ i k a, i ≠ k → Ads H σ[i]? (env.at i) a → Ads H σ[k]? (env.at k) a → False)
    (hn : ∀ a, Ads H (some y) x a → ∀ l, l ≠ i → Ads H σ[l]? (env.at l) a → False) (k l : Nat) (a : Addr) (h : k ≠ l) (h1 : Ads H (σ.set i y)[k]? (En.at (env.set i x) k) a) (h2 : Ads H (σ.set i y)[l]? (En.at (env.set i x) l) a) : False := by
  have out : ∀ l, ¬ (l = i ∧ i < env.length) → Ads H (σ.set i y)[l]? (En.at (env.set i x) l) a → Ads H σ[l]? (env.at l) a := fun l q e => by
    rw [at_set, if_neg q] at e
    by_cases hk : l = i
    · subst hk
      have z : (σ.set l y)[l]? = none := List.getElem?_eq_none (by rw [List.length_set, ← hlen]; exact Nat.le_of_not_lt fun z => q ⟨rfl, z⟩)
      rw [z] at e
      exact (ads_none e).elim
    · rw [List.getElem?_set_ne (Ne.symm hk)] at e
      exact e
  have ins : ∀ l, (l = i ∧ i < env.length) → Ads H (σ.set i y)[l]? (En.at (env.set i x) l) a → Ads H (some y) x a := fun l q e => by
    rw [at_set, if_pos q] at e
    obtain ⟨rfl, hl⟩ := q
    rw [List.getElem?_set_self (by rw [← hlen]; exact hl)] at e
    exact e
  by_cases q1 : k = i ∧ i < env.length
  · by_cases q2 : l = i ∧ i < env.length
    · exact h (q1.1.trans q2.1.symm)
    · exact hn a (ins k q1 h1) l (fun z => h (q1.1.trans z.symm)) (out l q2 h2)
  · by_cases q2 : l = i ∧ i < env.length
    · exact hn a (ins l q2 h2) k (fun z => h (z.trans q2.1.symm)) (out k q1 h1)
    · exact ne k l a h (out k q1 h1) (out l q2 h2)

/-- a slot is stored: a value that is to be shared -/
theorem RlS.setSh (r : RlS W env S σ H) {i : Nat} {v : V} {d : D} (h : Rp W.T H S v d) : RlS W (env.set i (.sh d)) S (σ.set i (some v)) H where
  s0 := r.s0
  sm := r.sm
  sn := r.sn
  h0 := r.h0
  j := r.j
  len := by rw [List.length_set, List.length_set]; exact r.len
  sl := fun k => sl_set (W := W) (S := S) (x := .sh d) r.len ⟨v, rfl, h⟩ r.sl k
  ne := ne_set r.len r.ne fun a z => z.elim
  hd := r.hd
/-- all slots as they are, one more place to leave out -/
theorem SlOk.plus {x : Sl} {y : Option (Option V)} {p : Addr} (sm : ∀ a, W.M a → S a) (hn : H p = none) (k : KpJ W H H') (q : SlOk W S H x y) : SlOk W (plus S p) H' x y := by
  have up : ∀ {v : V} {d : D}, Rp W.T H S v d → Rp W.T H' (Eg.plus S p) v d := fun {v d} q => q.move (d := d) fun a o e n => ⟨k.1 a o e fun m => n (sm a m), fun s => s.elim n fun z => ne_of_none e hn z⟩
  have upA : ∀ {v : List V} {d : List D}, RpAll W.T H S v d → RpAll W.T H' (Eg.plus S p) v d := fun {v d} q => q.move (ds := d) fun a o e n => ⟨k.1 a o e fun m => n (sm a m), fun s => s.elim n fun z => ne_of_none e hn z⟩
  have upO : ∀ a vs ds, Own W S H a vs ds → Own W (Eg.plus S p) H' a vs ds := fun a vs ds q => ⟨.inl q.s, q.s0, q.m, q.h0, k.1 a _ q.h q.m, upA q.r⟩
  cases x with
  | un => trivial
  | sh d => obtain ⟨v, e, q⟩ := q; exact ⟨v, e, up q⟩
  | ow es => obtain ⟨a, ws, e, q⟩ := q; exact ⟨a, ws, e, upO _ _ _ q⟩
  | od es => obtain ⟨a, ws, e, q⟩ := q; exact ⟨a, ws, e, .inl q.s, q.s0, q.m, q.h0, k.1 a _ q.h q.m, q.k, upA q.r⟩
  | ow2 es => obtain ⟨a, ws, e, q⟩ := q; exact ⟨a, ws, e, .inl q.s, q.s0, q.m, q.h0, k.1 a _ q.h q.m, q.nd, q.na, q.rows.move upO⟩
theorem RlS.plus {p : Addr} (r : RlS W env S σ H) (hn : H p = none) (k : KpJ W H H') (hp : H' p ≠ none) : RlS W env (plus S p) σ H' := by
  have r' := r.kept k
  refine ⟨fun a s => .inl (r.s0 a s), fun a m => .inl (r.sm a m), fun a s => ?_, r'.h0, r'.j, r.len, fun i => (r.sl i).plus r.sm hn k, r'.ne, fun q hq => (r.hd q hq).move (d := q.2) fun a o e n => ⟨k.1 a o e fun m => n (r.sm a m), fun s => s.elim n fun z => ne_of_none e hn z⟩⟩
  rcases s with s | s
  · exact r'.sn a s
  · subst s; exact hp
/-- a slot is stored: a new list, this slot's own -/
theorem RlS.setOw (r : RlS W env S σ H) {i : Nat} {p : Addr} {vs : List V} {ds : List D} (hn : H p = none) (k : KpJ W H H') (hp : H' p = some (.lst vs)) (h : RpAll W.T H' (Eg.plus S p) vs ds) :
    RlS W (env.set i (.ow ds)) (Eg.plus S p) (σ.set i (some (.ref p))) H' := by
  have r' := r.plus hn k (by rw [hp]; simp)
  have npM : ¬ W.M p := fun m => W.jm H r.j p m hn
  have npS : ¬ S p := fun s => r.sn p s hn
  have h0 : W.H0 p = none := by
    cases e : W.H0 p with
    | none => rfl
    | some o => have := r.h0 p o e npM; rw [hn] at this; cases this
  refine ⟨r'.s0, r'.sm, r'.sn, r'.h0, r'.j, by rw [List.length_set, List.length_set]; exact r.len, sl_set (W := W) (S := Eg.plus S p) (x := .ow ds) r.len ⟨p, vs, rfl, .inr rfl, fun s => npS (r.s0 p s), npM, h0, hp, h⟩ r'.sl, ne_set r.len r'.ne fun a z l hl q => ?_, r'.hd⟩
  have e : p = a := by
    have z' : (some (some (V.ref p)) : Option (Option V)) = some (some (.ref a)) := z
    cases z'; rfl
  subst e
  have q' := q.back (r.sl l) fun b vs _ n e => k.1 b _ e n
  exact npS (q'.own (r.sl l)).1
theorem RlS.setOd (r : RlS W env S σ H) {i : Nat} {p : Addr} {vs : List (Key × V)} {ds : List (Key × D)} (hn : H p = none) (k : KpJ W H H') (hp : H' p = some (.dK vs)) (hk : vs.map (·.1) = ds.map (·.1)) (h : RpAll W.T H' (Eg.plus S p) (vs.map (·.2)) (ds.map (·.2))) :
    RlS W (env.set i (.od ds)) (Eg.plus S p) (σ.set i (some (.ref p))) H' := by
  have r' := r.plus hn k (by rw [hp]; simp)
  have npM : ¬ W.M p := fun m => W.jm H r.j p m hn
  have npS : ¬ S p := fun s => r.sn p s hn
  have h0 : W.H0 p = none := by
    cases e : W.H0 p with
    | none => rfl
    | some o => have := r.h0 p o e npM; rw [hn] at this; cases this
  refine ⟨r'.s0, r'.sm, r'.sn, r'.h0, r'.j, by rw [List.length_set, List.length_set]; exact r.len, sl_set (W := W) (S := Eg.plus S p) (x := .od ds) r.len ⟨p, vs, rfl, .inr rfl, fun s => npS (r.s0 p s), npM, h0, hp, hk, h⟩ r'.sl, ne_set r.len r'.ne fun a z l hl q => ?_, r'.hd⟩
  have e : p = a := by
    have z' : (some (some (V.ref p)) : Option (Option V)) = some (some (.ref a)) := z
    cases z'; rfl
  subst e
  have q' := q.back (r.sl l) fun b vs _ n e => k.1 b _ e n
  exact npS (q'.own (r.sl l)).1
/-- a place that one slot alone holds is written -/
theorem SlOk.away {x : Sl} {y : Option (Option V)} {a : Addr} {o : HO} (sa : S a) (na : ¬ Ads H y x a) (q : SlOk W S H x y) : SlOk W S (upd H a o) x y := by
  have mv : ∀ {v : V} {d : D}, Rp W.T H S v d → Rp W.T (upd H a o) S v d := fun {v d} q => q.move (d := d) fun b o' e n => ⟨by rw [upd_ne (fun z => n (by rw [z]; exact sa))]; exact e, n⟩
  have mvA : ∀ {v : List V} {d : List D}, RpAll W.T H S v d → RpAll W.T (upd H a o) S v d := fun {v d} q => q.move (ds := d) fun b o' e n => ⟨by rw [upd_ne (fun z => n (by rw [z]; exact sa))]; exact e, n⟩
  cases x with
  | un => trivial
  | sh d => obtain ⟨v, e, q⟩ := q; exact ⟨v, e, mv q⟩
  | ow gs =>
    obtain ⟨b, us, e, q⟩ := q
    exact ⟨b, us, e, q.s, q.s0, q.m, q.h0, by rw [upd_ne (fun z => na (by rw [← z]; exact e))]; exact q.h, mvA q.r⟩
  | od gs =>
    obtain ⟨b, us, e, q⟩ := q
    exact ⟨b, us, e, q.s, q.s0, q.m, q.h0, by rw [upd_ne (fun z => na (by rw [← z]; exact e))]; exact q.h, q.k, mvA q.r⟩
  | ow2 gs =>
    obtain ⟨b, us, e, q⟩ := q
    refine ⟨b, us, e, q.s, q.s0, q.m, q.h0, ?_, q.nd, q.na, Rows.moveM (fun c hc vs ds O => ⟨O.s, O.s0, O.m, O.h0, ?_, mvA O.r⟩) q.rows⟩
    · rw [upd_ne (fun z => na ⟨b, us, e, q.h, .inl z.symm⟩)]; exact q.h
    · rw [upd_ne (fun z => na ⟨b, us, e, q.h, .inr (by rw [← z]; exact hc)⟩)]; exact O.h
/-- a slot's own list is written -/
theorem RlS.write (r : RlS W env S σ H) {i : Nat} {a : Addr} {ws : List V} {ds es : List D} (he : env.at i = .ow ds) (hs : σ[i]? = some (some (.ref a))) (hl : i < env.length) (h : RpAll W.T H S ws es) :
    RlS W (env.set i (.ow es)) S σ (upd H a (.lst ws)) := by
  have q := r.sl i
  rw [he] at q
  obtain ⟨b, us, e, O⟩ := q
  rw [hs] at e; cases e
  have ai : Ads H σ[i]? (env.at i) a := by rw [he]; exact hs
  have mv : ∀ {v : V} {d : D}, Rp W.T H S v d → Rp W.T (upd H a (.lst ws)) S v d := fun {v d} q => q.move (d := d) fun b o e n => ⟨by rw [upd_ne (fun z => n (by rw [z]; exact O.s))]; exact e, n⟩
  have mvA : ∀ {v : List V} {d : List D}, RpAll W.T H S v d → RpAll W.T (upd H a (.lst ws)) S v d := fun {v d} q => q.move (ds := d) fun b o e n => ⟨by rw [upd_ne (fun z => n (by rw [z]; exact O.s))]; exact e, n⟩
  have away : ∀ l, l ≠ i → SlOk W S (upd H a (.lst ws)) (env.at l) σ[l]? := fun l hl => (r.sl l).away O.s fun z => r.ne l i a hl z ai
  have bk : ∀ l c, l ≠ i → Ads (upd H a (.lst ws)) σ[l]? (env.at l) c → Ads H σ[l]? (env.at l) c := fun l c hl z => z.back (r.sl l) fun b vs eb n hb => by
    rw [upd_ne]
    · exact hb
    · intro e; subst e
      refine r.ne l i b hl ?_ ai
      have ok := r.sl l
      revert ok z
      generalize env.at l = x
      cases x with
      | un => intro z; exact z.elim
      | sh d => intro z; exact z.elim
      | ow ds => intro _ _; exact eb
      | od ds => intro _ _; exact eb
      | ow2 dss =>
        intro _ ok
        obtain ⟨c, cs, e', O'⟩ := ok
        rw [eb] at e'; cases e'
        exact ⟨b, cs, eb, O'.h, .inl rfl⟩
  refine ⟨r.s0, r.sm, fun b s => ?_, fun b o e n => ?_, ?_, by rw [List.length_set]; exact r.len, fun l => ?_, fun k l c hkl h1 h2 => ?_, fun p hp => mv (r.hd p hp)⟩
  · by_cases hb : b = a
    · subst hb; rw [upd_same]; simp
    · rw [upd_ne hb]; exact r.sn b s
  · rw [upd_ne (fun z => by rw [z, O.h0] at e; cases e)]
    exact r.h0 b o e n
  · exact W.jk H _ (fun b m => by rw [upd_ne (fun z => O.m (by rw [← z]; exact m))]) r.j
  · rw [at_set]
    split
    · rename_i q
      obtain ⟨rfl, _⟩ := q
      exact ⟨a, ws, hs, O.s, O.s0, O.m, O.h0, upd_same, mvA h⟩
    · rename_i q
      exact away l fun z => q ⟨z, hl⟩
  · have cl : ∀ m, Ads (upd H a (.lst ws)) σ[m]? (En.at (env.set i (.ow es)) m) c → Ads H σ[m]? (env.at m) c := fun m z => by
      rw [at_set] at z
      split at z
      · rename_i q
        obtain ⟨rfl, _⟩ := q
        rw [he]; exact z
      · rename_i q
        exact bk m c (fun e => q ⟨e, hl⟩) z
    exact r.ne k l c hkl (cl k h1) (cl l h2)
/-- a slot's own dict is written -/
theorem RlS.writeD (r : RlS W env S σ H) {i : Nat} {a : Addr} {ws : List (Key × V)} {ds es : List (Key × D)} (he : env.at i = .od ds) (hs : σ[i]? = some (some (.ref a))) (hl : i < env.length) (hk : ws.map (·.1) = es.map (·.1)) (h : RpAll W.T H S (ws.map (·.2)) (es.map (·.2))) :
    RlS W (env.set i (.od es)) S σ (upd H a (.dK ws)) := by
  have q := r.sl i
  rw [he] at q
  obtain ⟨b, us, e, O⟩ := q
  rw [hs] at e; cases e
  have ai : Ads H σ[i]? (env.at i) a := by rw [he]; exact hs
  have mv : ∀ {v : V} {d : D}, Rp W.T H S v d → Rp W.T (upd H a (.dK ws)) S v d := fun {v d} q => q.move (d := d) fun b o e n => ⟨by rw [upd_ne (fun z => n (by rw [z]; exact O.s))]; exact e, n⟩
  have mvA : ∀ {v : List V} {d : List D}, RpAll W.T H S v d → RpAll W.T (upd H a (.dK ws)) S v d := fun {v d} q => q.move (ds := d) fun b o e n => ⟨by rw [upd_ne (fun z => n (by rw [z]; exact O.s))]; exact e, n⟩
  have away : ∀ l, l ≠ i → SlOk W S (upd H a (.dK ws)) (env.at l) σ[l]? := fun l hl => (r.sl l).away O.s fun z => r.ne l i a hl z ai
  have bk : ∀ l c, l ≠ i → Ads (upd H a (.dK ws)) σ[l]? (env.at l) c → Ads H σ[l]? (env.at l) c := fun l c hl z => z.back (r.sl l) fun b vs eb n hb => by
    rw [upd_ne]
    · exact hb
    · intro e; subst e
      refine r.ne l i b hl ?_ ai
      have ok := r.sl l
      revert ok z
      generalize env.at l = x
      cases x with
      | un => intro z; exact z.elim
      | sh d => intro z; exact z.elim
      | ow ds => intro _ _; exact eb
      | od ds => intro _ _; exact eb
      | ow2 dss =>
        intro _ ok
        obtain ⟨c, cs, e', O'⟩ := ok
        rw [eb] at e'; cases e'
        exact ⟨b, cs, eb, O'.h, .inl rfl⟩
  refine ⟨r.s0, r.sm, fun b s => ?_, fun b o e n => ?_, ?_, by rw [List.length_set]; exact r.len, fun l => ?_, fun k l c hkl h1 h2 => ?_, fun p hp => mv (r.hd p hp)⟩
  · by_cases hb : b = a
    · subst hb; rw [upd_same]; simp
    · rw [upd_ne hb]; exact r.sn b s
  · rw [upd_ne (fun z => by rw [z, O.h0] at e; cases e)]
    exact r.h0 b o e n
  · exact W.jk H _ (fun b m => by rw [upd_ne (fun z => O.m (by rw [← z]; exact m))]) r.j
  · rw [at_set]
    split
    · rename_i q
      obtain ⟨rfl, _⟩ := q
      exact ⟨a, ws, hs, O.s, O.s0, O.m, O.h0, upd_same, hk, mvA h⟩
    · rename_i q
      exact away l fun z => q ⟨z, hl⟩
  · have cl : ∀ m, Ads (upd H a (.dK ws)) σ[m]? (En.at (env.set i (.od es)) m) c → Ads H σ[m]? (env.at m) c := fun m z => by
      rw [at_set] at z
      split at z
      · rename_i q
        obtain ⟨rfl, _⟩ := q
        rw [he]; exact z
      · rename_i q
        exact bk m c (fun e => q ⟨e, hl⟩) z
    exact r.ne k l c hkl (cl k h1) (cl l h2)
/-- what a slot alone holds is shared -/
theorem SlOk.lessS {x : Sl} {y : Option (Option V)} (hS : ∀ a, S' a → S a) (hA : ∀ a, Ads H y x a → S' a) (q : SlOk W S H x y) : SlOk W S' H x y := by
  cases x with
  | un => trivial
  | sh d => obtain ⟨v, e, q⟩ := q; exact ⟨v, e, q.less hS⟩
  | ow gs =>
    obtain ⟨b, us, e, q⟩ := q
    exact ⟨b, us, e, hA b e, q.s0, q.m, q.h0, q.h, q.r.less hS⟩
  | od gs =>
    obtain ⟨b, us, e, q⟩ := q
    exact ⟨b, us, e, hA b e, q.s0, q.m, q.h0, q.h, q.k, q.r.less hS⟩
  | ow2 gs =>
    obtain ⟨b, us, e, q⟩ := q
    exact ⟨b, us, e, hA b ⟨b, us, e, q.h, .inl rfl⟩, q.s0, q.m, q.h0, q.h, q.nd, q.na, Rows.moveM (fun c hc vs ds O => ⟨hA c ⟨b, us, e, q.h, .inr hc⟩, O.s0, O.m, O.h0, O.h, O.r.less hS⟩) q.rows⟩
theorem RlS.unown (r : RlS W env S σ H) {i : Nat} {d : D} {v : V} (hv : σ[i]? = some (some v)) (hr : Rp W.T H (fun b => S b ∧ ¬ Ads H σ[i]? (env.at i) b) v d) : ∃ S', (∀ a, S' a → S a) ∧ RlS W (env.set i (.sh d)) S' σ H := by
  refine ⟨fun b => S b ∧ ¬ Ads H σ[i]? (env.at i) b, fun _ s => s.1, fun b s => ⟨r.s0 b s, fun z => (z.own (r.sl i)).2.1 s⟩, fun b m => ⟨r.sm b m, fun z => (z.own (r.sl i)).2.2.1 m⟩, fun b s => r.sn b s.1, r.h0, r.j, by rw [List.length_set]; exact r.len, fun l => ?_, fun k l a hkl h1 h2 => ?_, fun p hp => (r.hd p hp).less fun _ s => s.1⟩
  · rw [at_set]
    split
    · rename_i q
      obtain ⟨rfl, _⟩ := q
      exact ⟨v, hv, hr⟩
    · rename_i q
      by_cases hk : l = i
      · subst hk
        have hl : ¬ l < env.length := fun z => q ⟨rfl, z⟩
        have hs : σ[l]? = none := List.getElem?_eq_none (by rw [← r.len]; omega)
        rw [hs] at hv; cases hv
      · exact (r.sl l).lessS (fun _ s => s.1) fun a z => ⟨(z.own (r.sl l)).1, fun z' => r.ne l i a hk z z'⟩
  · rw [at_set] at h1 h2
    split at h1
    · exact h1.elim
    · split at h2
      · exact h2.elim
      · exact r.ne k l a hkl h1 h2
/-- a slot's own list is its own no longer -/
theorem RlS.share (r : RlS W env S σ H) {i : Nat} {ds : List D} (he : env.at i = .ow ds) : ∃ S', (∀ a, S' a → S a) ∧ RlS W (env.set i (.sh (.list ds))) S' σ H := by
  have q := r.sl i
  rw [he] at q
  obtain ⟨a, vs, e, O⟩ := q
  refine r.unown e (.lst O.h (fun s => s.2 (by rw [he]; exact e)) (O.r.less fun _ s => s.1))
theorem RlS.share2 (r : RlS W env S σ H) {i : Nat} {dss : List (List D)} (he : env.at i = .ow2 dss) : ∃ S', (∀ a, S' a → S a) ∧ RlS W (env.set i (.sh (.list (dss.map .list)))) S' σ H := by
  have q := r.sl i
  rw [he] at q
  obtain ⟨a, bs, e, O⟩ := q
  refine r.unown e (.lst O.h (fun s => s.2 (by rw [he]; exact ⟨a, bs, e, O.h, .inl rfl⟩)) (Rows.sh (fun _ s => s.1) (fun b hb s => s.2 (by rw [he]; exact ⟨a, bs, e, O.h, .inr hb⟩)) O.rows))
end
end Eg

/-! E2: expressions by what they make of data. -/
namespace Eg
open PySem PySem.Spec PyProof.Rows L2
variable [Tabs]

abbrev WE := En → (D → Prop) → Prop
abbrev WA := En → (List D → Prop) → Prop
def Mono (w : WE) : Prop := ∀ env Q Q', (∀ d, Q d → Q' d) → w env Q → w env Q'
def MonoA (w : WA) : Prop := ∀ env Q Q', (∀ d, Q d → Q' d) → w env Q → w env Q'

/-- readable in place: shared, or a list whose items are -/
def Top (W : Wd) (H : Hp) (S : Addr → Prop) (v : V) (d : D) : Prop :=
  Rp W.T H S v d ∨ ∃ a vs ds, v = .ref a ∧ d = .list ds ∧ ¬ W.M a ∧ H a = some (.lst vs) ∧ RpAll W.T H S vs ds
inductive TopAll (W : Wd) (H : Hp) (S : Addr → Prop) : List V → List D → Prop
  | nil : TopAll W H S [] []
  | cons {v : V} {vs : List V} {d : D} {ds : List D} : Top W H S v d → TopAll W H S vs ds → TopAll W H S (v :: vs) (d :: ds)

/-- what is always so around an expression -/
structure Cn (W : Wd) (S : Addr → Prop) (H : Hp) : Prop where
  sm : ∀ a, W.M a → S a
  sn : ∀ a, S a → H a ≠ none
  j : W.J H
section
variable {W : Wd} {S : Addr → Prop} {H H' : Hp} {env : En} {σ : L2.St}
theorem RlS.cn (r : RlS W env S σ H) : Cn W S H := ⟨r.sm, r.sn, r.j⟩
theorem Cn.kept (c : Cn W S H) (k : KpJ W H H') : Cn W S H' := ⟨c.sm, fun a h => by
    by_cases m : W.M a
    · exact W.jm H' k.2 a m
    · cases e : H a with
      | none => exact absurd e (c.sn a h)
      | some o => rw [k.1 a o e m]; simp, k.2⟩
theorem Top.kept {v : V} {d : D} (k : KpJ W H H') (sm : ∀ a, W.M a → S a) (r : Top W H S v d) : Top W H' S v d := by
  rcases r with r | ⟨a, vs, ds, e1, e2, nm, h, r⟩
  · exact .inl (r.kept k sm)
  · exact .inr ⟨a, vs, ds, e1, e2, nm, k.1 a _ h nm, r.kept k sm⟩
theorem TopAll.kept (k : KpJ W H H') (sm : ∀ a, W.M a → S a) : ∀ {vs : List V} {ds : List D}, TopAll W H S vs ds → TopAll W H' S vs ds
  | _, _, .nil => .nil
  | _, _, .cons h t => .cons (h.kept k sm) (t.kept k sm)
theorem RpAll.top : ∀ {vs : List V} {ds : List D}, RpAll W.T H S vs ds → TopAll W H S vs ds
  | _, _, .nil => .nil
  | _, _, .cons h t => .cons (.inl h) t.top
theorem Cn.np (c : Cn W S H) {p : Addr} (h : H p = none) : ¬ S p := fun s => c.sn p s h
/-- a list that is read -/
theorem Top.list {v : V} {ds : List D} (r : Top W H S v (.list ds)) : ∃ a vs, v = .ref a ∧ H a = some (.lst vs) ∧ RpAll W.T H S vs ds := by
  rcases r with r | ⟨a, vs, es, e1, e2, nm, h, r⟩
  · cases r with
    | lst h n r => exact ⟨_, _, rfl, h, r⟩
  · cases e2; exact ⟨a, vs, e1, h, r⟩
theorem Top.tuple {v : V} {ds : List D} (r : Top W H S v (.tuple ds)) : ∃ a vs, v = .ref a ∧ H a = some (.tup vs) ∧ ¬ S a ∧ RpAll W.T H S vs ds := by
  rcases r with r | ⟨a, vs, es, e1, e2, nm, h, r⟩
  · cases r with
    | tup h n r => exact ⟨_, _, rfl, h, n, r⟩
  · cases e2
theorem Top.int {v : V} {i : Int} (r : Top W H S v (.int i)) : v = .int i := by
  rcases r with r | ⟨a, vs, es, e1, e2, nm, h, r⟩
  · cases r; rfl
  · cases e2
theorem Top.bl {v : V} {b : Bool} (r : Top W H S v (.bool b)) : v = .bl b := by
  rcases r with r | ⟨a, vs, es, e1, e2, nm, h, r⟩
  · cases r; rfl
  · cases e2
theorem Top.non {v : V} (r : Top W H S v .none) : v = .non := by
  rcases r with r | ⟨a, vs, es, e1, e2, nm, h, r⟩
  · cases r; rfl
  · cases e2
theorem Top.str {v : V} {x : Str} (r : Top W H S v (.str x)) : v = .str x := by
  rcases r with r | ⟨a, vs, es, e1, e2, nm, h, r⟩
  · cases r; rfl
  · cases e2
theorem TopAll.length : ∀ {vs : List V} {ds : List D}, TopAll W H S vs ds → vs.length = ds.length
  | _, _, .nil => rfl
  | _, _, .cons _ t => congrArg (· + 1) t.length
omit [Tabs] in
/-- deep data -/
theorem RpAll.dpAll (K : PySem.W.Frag) {T : Nat → V} : ∀ {vs : List V} {ds : List D}, RpAll T H S vs ds → PyData.canLayAll0 ds = true → DpAll K H vs ds
  | _, _, .nil, _ => .nil
  | _, _, .cons (d := d) (ds := ds) a t, c => by
    have c' : (d.canLay0 && PyData.canLayAll0 ds) = true := by simpa [PyData.canLayAll0] using c
    rw [Bool.and_eq_true] at c'
    exact .cons (a.dp K c'.1) (t.dpAll K c'.2)
theorem Top.dp (K : PySem.W.Frag) {v : V} {d : D} (r : Top W H S v d) (c : d.canLay0 = true) : Dp K H v d := by
  rcases r with r | ⟨a, vs, ds, rfl, rfl, nm, h, r⟩
  · exact r.dp K c
  · exact .lst (.inl (.inl h)) (r.dpAll K (by simpa [PyData.canLay0] using c))
end

def tE (w : WE) : TE := fun σ H Q => ∃ W env S, RlS W env S σ H ∧ w env fun d => ∀ v H', KpJ W H H' → Rp W.T H' S v d → Q v H'
def tP (w : WE) : TE := fun σ H Q => ∃ W env S, RlS W env S σ H ∧ w env fun d => ∀ v H', KpJ W H H' → Top W H' S v d → Q v H'
def tF (w : WE) : TE := fun σ H Q => ∃ W env S, RlS W env S σ H ∧ w env fun d => ∀ p vs ds H', d = .list ds → KpJ W H H' → H p = none → H' p = some (.lst vs) → RpAll W.T H' (plus S p) vs ds → Q (.ref p) H'
def tA (w : WA) : TA := fun σ H Q => ∃ W env S, RlS W env S σ H ∧ w env fun ds => ∀ vs H', KpJ W H H' → RpAll W.T H' S vs ds → Q vs H'
def tAP (w : WA) : TA := fun σ H Q => ∃ W env S, RlS W env S σ H ∧ w env fun ds => ∀ vs H', KpJ W H H' → TopAll W H' S vs ds → Q vs H'

/-- a shared value; a value read in place; a new list -/
structure PV (X : Cx) (e : Expr) (w : WE) : Prop where
  pe : PE X e (tE w)
  mono : Mono w
structure PP (X : Cx) (e : Expr) (w : WE) : Prop where
  pe : PE X e (tP w)
  mono : Mono w
structure PF (X : Cx) (e : Expr) (w : WE) : Prop where
  pe : PE X e (tF w)
  mono : Mono w
structure PAv (X : Cx) (es : List Expr) (w : WA) : Prop where
  pa : PA X es (tA w)
  mono : MonoA w
structure PAp (X : Cx) (es : List Expr) (w : WA) : Prop where
  pa : PA X es (tAP w)
  mono : MonoA w

omit [Tabs] in
theorem _root_.L2.PE.imp {X : Cx} {e : Expr} {t t' : TE} (h : PE X e t) (m : ∀ σ H Q, t' σ H Q → t σ H Q) : PE X e t' := ⟨fun pins s σ H Q I q => h.run pins s σ H Q I (m σ H Q q)⟩
omit [Tabs] in
theorem _root_.L2.PA.imp {X : Cx} {e : List Expr} {t t' : TA} (h : PA X e t) (m : ∀ σ H Q, t' σ H Q → t σ H Q) : PA X e t' := ⟨fun pos pins s σ H Q I q => h.run pos pins s σ H Q I (m σ H Q q)⟩
omit [Tabs] in
theorem _root_.L2.PT.imp {X : Cx} {e : Expr} {t t' : TT} (h : PT X e t) (m : ∀ σ H Q, t' σ H Q → t σ H Q) : PT X e t' := ⟨fun pins s σ H Q I q => h.run pins s σ H Q I (m σ H Q q)⟩
omit [Tabs] in
theorem _root_.L2.PS.imp {X : Cx} {e : Stmt} {t t' : TS} (h : PS X e t) (m : ∀ D σ H, t' D σ H → t D σ H) : PS X e t' := ⟨fun pins s σ H D I q => h.run pins s σ H D I (m D σ H q)⟩
omit [Tabs] in
theorem _root_.L2.PSs.imp {X : Cx} {e : List Stmt} {t t' : TS} (h : PSs X e t) (m : ∀ D σ H, t' D σ H → t D σ H) : PSs X e t' := ⟨fun pins s σ H D I q => h.run pins s σ H D I (m D σ H q)⟩

section
variable {X : Cx} {e a b c : Expr} {es : List Expr} {w wa wb wc : WE} {u : WA} {pos : Pos}
theorem PV.pp (h : PV X e w) : PP X e w := ⟨h.pe.imp fun σ H Q ⟨W, env, S, R, q⟩ => ⟨W, env, S, R, h.mono _ _ _ (fun d f v H' k r => f v H' k (.inl r)) q⟩, h.mono⟩
theorem PF.pv (h : PF X e w) : PV X e w := ⟨h.pe.imp fun σ H Q ⟨W, env, S, R, q⟩ => ⟨W, env, S, R, h.mono _ _ _ (fun d f p vs ds H' ed k hn hp r => by
  subst ed
  exact f _ H' k (.lst hp (R.cn.np hn) (r.less fun _ s => .inl s))) q⟩, h.mono⟩
theorem PF.pp (h : PF X e w) : PP X e w := h.pv.pp
theorem PAv.pp (h : PAv X es u) : PAp X es u := ⟨h.pa.imp fun σ H Q ⟨W, env, S, R, q⟩ => ⟨W, env, S, R, h.mono _ _ _ (fun d f v H' k r => f v H' k r.top) q⟩, h.mono⟩

/-! ### names, constants -/
def wV (i : Nat) : WE := fun env Q => match env.at i with
  | .sh d => Q d
  | _ => False
def wO (i : Nat) : WE := fun env Q => match env.at i with
  | .ow ds => Q (.list ds)
  | _ => False
def wC (d : D) : WE := fun _ Q => Q d
theorem v_ (i : Nat) {x : Str} (hN : X.N[i]? = some x := by rfl) (hv : Vis X.env.scope x := by first | exact Or.inl rfl | exact Or.inr (Or.inl rfl) | exact Or.inr (Or.inr rfl)) (hd : (x == ("__debug__" : Str)) = false := by decide)
    (hcd : (x == ("__classdict__" : Str)) = false := by decide) : PV X (.Name x pos) (wV i) := by
  refine ⟨(pe_var hN hv hd hcd).imp fun σ H Q ⟨W, env, S, R, q⟩ => ?_, fun env Q Q' f h => ?_⟩
  · have s := R.sl i
    unfold wV at q
    cases h : env.at i with
    | un => rw [h] at q; exact q.elim
    | ow ds => rw [h] at q; exact q.elim
    | ow2 ds => rw [h] at q; exact q.elim
    | od ds => rw [h] at q; exact q.elim
    | sh d =>
      rw [h] at q s
      obtain ⟨v, ev, r⟩ := s
      exact ⟨v, ev, q v H (.refl R.j) r⟩
  · unfold wV at h ⊢
    cases h' : env.at i with
    | un => rw [h'] at h; exact h.elim
    | ow ds => rw [h'] at h; exact h.elim
    | ow2 ds => rw [h'] at h; exact h.elim
    | od ds => rw [h'] at h; exact h.elim
    | sh d => rw [h'] at h; exact f _ h
theorem o_ (i : Nat) {x : Str} (hN : X.N[i]? = some x := by rfl) (hv : Vis X.env.scope x := by first | exact Or.inl rfl | exact Or.inr (Or.inl rfl) | exact Or.inr (Or.inr rfl)) (hd : (x == ("__debug__" : Str)) = false := by decide)
    (hcd : (x == ("__classdict__" : Str)) = false := by decide) : PP X (.Name x pos) (wO i) := by
  refine ⟨(pe_var hN hv hd hcd).imp fun σ H Q ⟨W, env, S, R, q⟩ => ?_, fun env Q Q' f h => ?_⟩
  · have s := R.sl i
    unfold wO at q
    cases h : env.at i with
    | un => rw [h] at q; exact q.elim
    | sh ds => rw [h] at q; exact q.elim
    | ow2 ds => rw [h] at q; exact q.elim
    | od ds => rw [h] at q; exact q.elim
    | ow ds =>
      rw [h] at q s
      obtain ⟨a, vs, ev, O⟩ := s
      exact ⟨_, ev, q _ H (.refl R.j) (.inr ⟨a, vs, ds, rfl, rfl, O.m, O.h, O.r⟩)⟩
  · unfold wO at h ⊢
    cases h' : env.at i with
    | un => rw [h'] at h; exact h.elim
    | sh ds => rw [h'] at h; exact h.elim
    | ow2 ds => rw [h'] at h; exact h.elim
    | od ds => rw [h'] at h; exact h.elim
    | ow d => rw [h'] at h; exact f _ h
omit [Tabs] in
theorem monoC {d : D} : Mono (wC d) := fun _ _ _ f h => f _ h
theorem int_ {i j} : PV X (.Constant (.int i) j pos) (wC (.int i)) := ⟨pe_int.imp fun σ H Q ⟨W, env, S, R, q⟩ => q _ H (.refl R.j) (.int i), monoC⟩
theorem bl_ {i j} : PV X (.Constant (.bool i) j pos) (wC (.bool i)) := ⟨pe_bl.imp fun σ H Q ⟨W, env, S, R, q⟩ => q _ H (.refl R.j) (.bl i), monoC⟩
theorem non_ {j} : PV X (.Constant .none j pos) (wC .none) := ⟨pe_non.imp fun σ H Q ⟨W, env, S, R, q⟩ => q _ H (.refl R.j) .non, monoC⟩
theorem str_ {x j} : PV X (.Constant (.str x) j pos) (wC (.str x)) := ⟨pe_str.imp fun σ H Q ⟨W, env, S, R, q⟩ => q _ H (.refl R.j) (.str x), monoC⟩

/-! ### operations -/
abbrev G2 := D → D → (D → Prop) → Prop
structure Bop (r : R2) (g : G2) : Prop where
  to : ∀ (W : Wd) (S : Addr → Prop) (H : Hp) (x y : V) (dx dy : D) (Q : VK) (G : D → Prop), Cn W S H → Top W H S x dx → Top W H S y dy → g dx dy G → (∀ d v H', G d → KpJ W H H' → Rp W.T H' S v d → Q v H') → r x y H Q
  mono : ∀ dx dy G G', (∀ d, G d → G' d) → g dx dy G → g dx dy G'
/-- .. that makes a new list -/
structure BopF (r : R2) (g : G2) : Prop where
  to : ∀ (W : Wd) (S : Addr → Prop) (H : Hp) (x y : V) (dx dy : D) (Q : VK) (G : D → Prop), Cn W S H → Top W H S x dx → Top W H S y dy → g dx dy G →
    (∀ p vs ds H', G (.list ds) → KpJ W H H' → H p = none → H' p = some (.lst vs) → RpAll W.T H' (plus S p) vs ds → Q (.ref p) H') → r x y H Q
  mono : ∀ dx dy G G', (∀ d, G d → G' d) → g dx dy G → g dx dy G'
def wB (g : G2) (wa wb : WE) : WE := fun env Q => wa env fun x => wb env fun y => g x y Q
omit [Tabs] in
theorem monoB {g : G2} (hg : ∀ dx dy G G', (∀ d, G d → G' d) → g dx dy G → g dx dy G') (ha : Mono wa) (hb : Mono wb) : Mono (wB g wa wb) := fun env Q Q' f h =>
  ha _ _ _ (fun x h => hb _ _ _ (fun y h => hg _ _ _ _ f h) h) h
theorem bin_ {r : R2} {g : G2} (ho : ∀ {ta tb : TE}, PE X a ta → PE X b tb → PE X e (tOp r ta tb)) (hg : Bop r g) (ha : PP X a wa) (hb : PP X b wb) : PV X e (wB g wa wb) := by
  refine ⟨(ho ha.pe hb.pe).imp fun σ H Q ⟨W, env, S, R, h⟩ => ?_, monoB hg.mono ha.mono hb.mono⟩
  refine ⟨W, env, S, R, ha.mono _ _ _ (fun dx h1 x H1 k1 t1 => ?_) h⟩
  refine ⟨W, env, S, R.kept k1, hb.mono _ _ _ (fun dy h2 y H2 k2 t2 => ?_) h1⟩
  exact hg.to W S H2 x y dx dy Q _ ((R.cn.kept k1).kept k2) (t1.kept k2 R.sm) t2 h2 fun d v H' hG k3 r3 => hG v H' ((k1.trans k2).trans k3) r3
theorem binF_ {r : R2} {g : G2} (ho : ∀ {ta tb : TE}, PE X a ta → PE X b tb → PE X e (tOp r ta tb)) (hg : BopF r g) (ha : PP X a wa) (hb : PP X b wb) : PF X e (wB g wa wb) := by
  refine ⟨(ho ha.pe hb.pe).imp fun σ H Q ⟨W, env, S, R, h⟩ => ?_, monoB hg.mono ha.mono hb.mono⟩
  refine ⟨W, env, S, R, ha.mono _ _ _ (fun dx h1 x H1 k1 t1 => ?_) h⟩
  refine ⟨W, env, S, R.kept k1, hb.mono _ _ _ (fun dy h2 y H2 k2 t2 => ?_) h1⟩
  exact hg.to W S H2 x y dx dy Q _ ((R.cn.kept k1).kept k2) (t1.kept k2 R.sm) t2 h2 fun p vs ds H' hG k3 hn hp r3 => hG p vs ds H' rfl ((k1.trans k2).trans k3) ((k1.trans k2).none_of R.j hn) hp r3
theorem Bop.or {r r' : R2} {g g' : G2} (h : Bop r g) (h' : Bop r' g') : Bop (fun x y H Q => r x y H Q ∨ r' x y H Q) (fun x y Q => g x y Q ∨ g' x y Q) :=
  ⟨fun W S H x y dx dy Q G c tx ty q f => q.elim (fun q => .inl (h.to W S H x y dx dy Q G c tx ty q f)) fun q => .inr (h'.to W S H x y dx dy Q G c tx ty q f),
   fun dx dy G G' f q => q.elim (fun q => .inl (h.mono _ _ _ _ f q)) fun q => .inr (h'.mono _ _ _ _ f q)⟩
/-- another way to say it -/
theorem Bop.as {r : R2} {g g' : G2} (h : Bop r g) (i : ∀ x y Q, g' x y Q → g x y Q) (m : ∀ dx dy G G', (∀ d, G d → G' d) → g' dx dy G → g' dx dy G') : Bop r g' :=
  ⟨fun W S H x y dx dy Q G c tx ty q f => h.to W S H x y dx dy Q G c tx ty (i _ _ _ q) f, m⟩

/-- ints to a flat value -/
def gI (C : Int → Int → Prop) (f : Int → Int → D) : G2 := fun x y Q => match x, y with
  | .int i, .int j => C i j ∧ Q (f i j)
  | _, _ => False
omit [Tabs] in
theorem monoI {C : Int → Int → Prop} {f : Int → Int → D} : ∀ dx dy G G', (∀ d, G d → G' d) → gI C f dx dy G → gI C f dx dy G' := fun dx dy G G' m h => by
  cases dx <;> cases dy <;> first | exact h.elim | exact ⟨h.1, m _ h.2⟩
theorem bopI {C : Int → Int → Prop} {f : Int → Int → Int} : Bop (rI C fun i j => .int (f i j)) (gI C fun i j => .int (f i j)) :=
  ⟨fun W S H x y dx dy Q G c tx ty q k => by
    cases dx <;> cases dy <;> first
      | exact q.elim
      | exact ⟨_, _, tx.int, ty.int, q.1, k _ _ H q.2 (.refl c.j) (.int _)⟩, monoI⟩
theorem bopI0 {f : Int → Int → Int} : Bop (rI0 fun i j => .int (f i j)) (gI (fun _ _ => True) fun i j => .int (f i j)) :=
  ⟨fun W S H x y dx dy Q G c tx ty q k => by
    cases dx <;> cases dy <;> first
      | exact q.elim
      | exact ⟨_, _, tx.int, ty.int, k _ _ H q.2 (.refl c.j) (.int _)⟩, monoI⟩
theorem bopB0 {f : Int → Int → Bool} : Bop (rI0 fun i j => .bl (f i j)) (gI (fun _ _ => True) fun i j => .bool (f i j)) :=
  ⟨fun W S H x y dx dy Q G c tx ty q k => by
    cases dx <;> cases dy <;> first
      | exact q.elim
      | exact ⟨_, _, tx.int, ty.int, k _ _ H q.2 (.refl c.j) (.bl _)⟩, monoI⟩

/-- x + y -/
def gAdd : G2 := fun x y Q => match x, y with
  | .int i, .int j => Q (.int (i + j))
  | .list xs, .list ys => xs.length + ys.length ≤ sizeLine ∧ Q (.list (xs ++ ys))
  | .tuple xs, .tuple ys => xs.length + ys.length ≤ sizeLine ∧ Q (.tuple (xs ++ ys))
  | .int i, .bool b => Q (.int (i + b2i b))
  | .str i, .str j => i.length + j.length ≤ sizeLine ∧ Q (.str (i ++ j))
  | _, _ => False
omit [Tabs] in
theorem monoAdd : ∀ dx dy G G', (∀ d, G d → G' d) → gAdd dx dy G → gAdd dx dy G' := fun dx dy G G' m h => by
  cases dx <;> cases dy <;> first | exact h.elim | exact m _ h | exact ⟨h.1, m _ h.2⟩
/-- two lists -/
def gCat : G2 := fun x y Q => match x, y with
  | .list xs, .list ys => xs.length + ys.length ≤ sizeLine ∧ Q (.list (xs ++ ys))
  | _, _ => False
omit [Tabs] in
theorem monoCat : ∀ dx dy G G', (∀ d, G d → G' d) → gCat dx dy G → gCat dx dy G' := fun dx dy G G' m h => by
  cases dx <;> cases dy <;> first | exact h.elim | exact ⟨h.1, m _ h.2⟩
theorem bopCatF : BopF rCat gCat := ⟨fun W S H x y dx dy Q G c tx ty q k => by
  cases dx <;> cases dy <;> first
    | exact q.elim
    | (obtain ⟨a, vs, rfl, ha, ra⟩ := tx.list
       obtain ⟨b, ws, rfl, hb, rb⟩ := ty.list
       refine ⟨a, b, vs, ws, rfl, rfl, ha, hb, by rw [ra.length, rb.length]; exact q.1, fun p hp => ?_⟩
       exact k p (vs ++ ws) _ _ q.2 (.new c.j hp) hp upd_same ((ra.append rb).plus hp)), monoCat⟩
/-- a new list is a value -/
theorem BopF.bop {r : R2} {g : G2} (h : BopF r g) : Bop r g := ⟨fun W S H x y dx dy Q G c tx ty q k => h.to W S H x y dx dy Q G c tx ty q fun p vs ds H' hG kp hn hp r =>
  k _ _ _ hG kp (.lst hp (c.np hn) (r.less fun _ s => .inl s)), h.mono⟩
def rAdd (X : Cx) : R2 := fun x y H Q => rI0 (fun i j => .int (i + j)) x y H Q ∨ rCat x y H Q ∨ rCatA X.K x y H Q ∨ (∃ i k, x = .int i ∧ y = .bl k ∧ Q (.int (i + b2i k)) H) ∨ (∃ i j, x = .str i ∧ y = .str j ∧ i.length + j.length ≤ sizeLine ∧ Q (.str (i ++ j)) H)
omit [Tabs] in
theorem op_Add : OpR X (binaryOp .Add) (rAdd X) := OpR.or op_add (OpR.or op_cat (OpR.or op_catA (OpR.or op_add_ib op_add_str)))
theorem bopAdd : Bop (rAdd X) gAdd := ⟨fun W S H x y dx dy Q G c tx ty q k => by
  cases dx <;> cases dy <;> first
    | exact q.elim
    | exact .inl ⟨_, _, tx.int, ty.int, k _ _ H q (.refl c.j) (.int _)⟩
    | exact .inr (.inr (.inr (.inl ⟨_, _, tx.int, ty.bl, k _ _ H q (.refl c.j) (.int _)⟩)))
    | exact .inr (.inr (.inr (.inr ⟨_, _, tx.str, ty.str, q.1, k _ _ H q.2 (.refl c.j) (.str _)⟩)))
    | exact .inr (.inl (bopCatF.bop.to W S H x y _ _ Q G c tx ty q k))
    | (refine .inr (.inr (.inl ?_))
       obtain ⟨a, vs, rfl, ha, na, ra⟩ := tx.tuple
       obtain ⟨b, ws, rfl, hb, nb, rb⟩ := ty.tuple
       refine ⟨a, b, vs, ws, rfl, rfl, .inl (.inl ha), .inl (.inl hb), by rw [ra.length, rb.length]; exact q.1, fun e => ?_, fun _ e => ?_, fun _ _ p hp => ?_⟩
       · subst e
         cases ra
         exact k _ _ H q.2 (.refl c.j) (.tup hb nb rb)
       · subst e
         cases rb
         exact k _ _ H q.2 (.refl c.j) (.tup ha na (by rw [List.append_nil]; exact ra))
       · exact k _ _ _ q.2 (.new c.j hp) (.tup upd_same (c.np hp) (((ra.append rb).plus hp).less fun _ s => .inl s))), monoAdd⟩
theorem add_ (ha : PP X a wa) (hb : PP X b wb) : PV X (.BinOp a .Add b pos) (wB gAdd wa wb) := bin_ (fun h1 h2 => pe_op op_Add h1 h2) bopAdd ha hb
theorem cat_ (ha : PP X a wa) (hb : PP X b wb) : PF X (.BinOp a .Add b pos) (wB gCat wa wb) := binF_ (fun h1 h2 => pe_op op_cat h1 h2) bopCatF ha hb
abbrev gSub : G2 := gI (fun _ _ => True) fun i j => .int (i - j)
theorem sub_ (ha : PP X a wa) (hb : PP X b wb) : PV X (.BinOp a .Sub b pos) (wB gSub wa wb) := bin_ (fun h1 h2 => pe_op op_sub h1 h2) bopI0 ha hb

/-- x * y -/
def MulOk (i j : Int) : Prop := CMul i j ∨ CMulX i j
omit [Tabs] in
theorem MulOk.ok {i j : Int} (h : MulOk i j) : IntMulOk i j := h.elim CMul.ok CMulX.ok
omit [Tabs] in
theorem op_mulA : OpR X (binaryOp .Mult) (rI MulOk fun i j => .int (i * j)) := opI fun _ _ _ _ _ _ _ hc q => mul_int q hc.ok
def rMul : R2 := fun x y H Q => rI MulOk (fun i j => .int (i * j)) x y H Q ∨ rRep x y H Q
omit [Tabs] in
theorem op_Mul : OpR X (binaryOp .Mult) rMul := OpR.or op_mulA op_rep
def gMul : G2 := fun x y Q => match x, y with
  | .int i, .int j => MulOk i j ∧ Q (.int (i * j))
  | .list xs, .int k => (-(2 ^ 63) ≤ k ∧ k < 2 ^ 63 ∧ xs.length * k.toNat ≤ sizeLine) ∧ Q (.list (List.replicate k.toNat xs).flatten)
  | _, _ => False
omit [Tabs] in
theorem monoMul : ∀ dx dy G G', (∀ d, G d → G' d) → gMul dx dy G → gMul dx dy G' := fun dx dy G G' m h => by
  cases dx <;> cases dy <;> first | exact h.elim | exact ⟨h.1, m _ h.2⟩
def gRep : G2 := fun x y Q => match x, y with
  | .list xs, .int k => (-(2 ^ 63) ≤ k ∧ k < 2 ^ 63 ∧ xs.length * k.toNat ≤ sizeLine) ∧ Q (.list (List.replicate k.toNat xs).flatten)
  | _, _ => False
omit [Tabs] in
theorem monoRep : ∀ dx dy G G', (∀ d, G d → G' d) → gRep dx dy G → gRep dx dy G' := fun dx dy G G' m h => by
  cases dx <;> cases dy <;> first | exact h.elim | exact ⟨h.1, m _ h.2⟩
theorem bopRepF : BopF rRep gRep := ⟨fun W S H x y dx dy Q G c tx ty q k => by
  cases dx <;> cases dy <;> first
    | exact q.elim
    | (obtain ⟨a, vs, rfl, ha, ra⟩ := tx.list
       obtain ⟨⟨q1, q2, q3⟩, q4⟩ := q
       refine ⟨a, _, vs, rfl, ty.int, ha, q1, q2, by rw [ra.length]; exact q3, fun p hp => ?_⟩
       exact k p _ _ _ q4 (.new c.j hp) hp upd_same ((ra.flatRep _).plus hp)), monoRep⟩
theorem bopMul : Bop rMul gMul := ⟨fun W S H x y dx dy Q G c tx ty q k => by
  cases dx <;> cases dy <;> first
    | exact q.elim
    | exact .inl ⟨_, _, tx.int, ty.int, q.1, k _ _ H q.2 (.refl c.j) (.int _)⟩
    | exact .inr (bopRepF.bop.to W S H x y _ _ Q G c tx ty q k), monoMul⟩
theorem mul_ (ha : PP X a wa) (hb : PP X b wb) : PV X (.BinOp a .Mult b pos) (wB gMul wa wb) := bin_ (fun h1 h2 => pe_op op_Mul h1 h2) bopMul ha hb
theorem rep_ (ha : PP X a wa) (hb : PP X b wb) : PF X (.BinOp a .Mult b pos) (wB gRep wa wb) := binF_ (fun h1 h2 => pe_op op_rep h1 h2) bopRepF ha hb
/-- // and % -/
def DivOk (_ j : Int) : Prop := j ≠ 0 ∧ j.natAbs.log2 < 9000
omit [Tabs] in
theorem op_fdivA : OpR X (binaryOp .FloorDiv) (rI DivOk fun i j => .int (i.fdiv j)) := opI fun i j _ _ _ _ _ hc q => floordiv_int hc.1 q (.inl (PyProof.noPylong_of_log2 hc.2))
abbrev gFdiv : G2 := gI DivOk fun i j => .int (i.fdiv j)
abbrev gMod : G2 := gI (fun _ j => j ≠ 0) fun i j => .int (i.fmod j)
abbrev gPow : G2 := gI CPow fun i j => .int (i ^ j.toNat)
theorem fdiv_ (ha : PP X a wa) (hb : PP X b wb) : PV X (.BinOp a .FloorDiv b pos) (wB gFdiv wa wb) := bin_ (fun h1 h2 => pe_op op_fdivA h1 h2) bopI ha hb
theorem mod_ (ha : PP X a wa) (hb : PP X b wb) : PV X (.BinOp a .Mod b pos) (wB gMod wa wb) := bin_ (fun h1 h2 => pe_op op_modN h1 h2) bopI ha hb
theorem pow_ (ha : PP X a wa) (hb : PP X b wb) : PV X (.BinOp a .Pow b pos) (wB gPow wa wb) := bin_ (fun h1 h2 => pe_op op_pow h1 h2) bopI ha hb

/-! ### one place -/
abbrev G1 := D → (D → Prop) → Prop
def wU (g : G1) (wa : WE) : WE := fun env Q => wa env fun x => g x Q
structure Uop (r : V → Hp → VK → Prop) (g : G1) : Prop where
  to : ∀ (W : Wd) (S : Addr → Prop) (H : Hp) (x : V) (dx : D) (Q : VK) (G : D → Prop), Cn W S H → Top W H S x dx → g dx G → (∀ d v H', G d → KpJ W H H' → Rp W.T H' S v d → Q v H') → r x H Q
  mono : ∀ dx G G', (∀ d, G d → G' d) → g dx G → g dx G'
omit [Tabs] in
theorem monoU {g : G1} (hg : ∀ dx G G', (∀ d, G d → G' d) → g dx G → g dx G') (ha : Mono wa) : Mono (wU g wa) := fun env Q Q' f h => ha _ _ _ (fun x h => hg _ _ _ f h) h
theorem un_ {r : V → Hp → VK → Prop} {g : G1} (ho : ∀ {ta : TE}, PE X a ta → PE X e (tUn r ta)) (hg : Uop r g) (ha : PP X a wa) : PV X e (wU g wa) := by
  refine ⟨(ho ha.pe).imp fun σ H Q ⟨W, env, S, R, h⟩ => ?_, monoU hg.mono ha.mono⟩
  refine ⟨W, env, S, R, ha.mono _ _ _ (fun dx h1 x H1 k1 t1 => ?_) h⟩
  exact hg.to W S H1 x dx Q _ (R.cn.kept k1) t1 h1 fun d v H' hG k3 r3 => hG v H' (k1.trans k3) r3
def gNeg : G1 := fun x Q => match x with
  | .int i => Q (.int (-i))
  | _ => False
theorem neg_ (ha : PP X a wa) : PV X (.UnaryOp .USub a pos) (wU gNeg wa) := un_ (fun h => pe_un un_neg h) ⟨fun W S H x dx Q G c tx q k => by
    cases dx <;> first | exact q.elim | exact ⟨_, tx.int, k _ _ H q (.refl c.j) (.int _)⟩,
  fun dx G G' m h => by cases dx <;> first | exact h.elim | exact m _ h⟩ ha

/-! ### truth -/
/-- what is true -/
def tru : D → Bool
  | .none => false
  | .bool b => b
  | .int i => i != 0
  | .str x => (x.length : Int) != 0
  | .list xs => !xs.isEmpty
  | .tuple xs => !xs.isEmpty
  | .dict _ => false
def isD : D → Bool
  | .dict _ => false
  | .str x => decide (x.length ≤ sizeLine)
  | _ => true
def gTru (d : D) (Q : Bool → Prop) : Prop := isD d = true ∧ Q (tru d)
theorem top_tru {W : Wd} {S : Addr → Prop} {H : Hp} {x : V} {d : D} (K : PySem.W.Frag) (t : Top W H S x d) (h : isD d = true) : TruV K x H (tru d) := by
  have em : ∀ {vs : List V} {ds : List D}, RpAll W.T H S vs ds → (!ds.isEmpty) = !vs.isEmpty := fun r => by cases r <;> rfl
  cases d with
  | none => cases t.non; exact rfl
  | bool b => cases t.bl; exact rfl
  | int i => cases t.int; exact rfl
  | str z => cases t.str; exact ⟨of_decide_eq_true h, rfl⟩
  | list ds =>
    obtain ⟨a, vs, rfl, ha, r⟩ := t.list
    exact .inl ⟨vs, .inl (.inl ha), em r⟩
  | tuple ds =>
    obtain ⟨a, vs, rfl, ha, _, r⟩ := t.tuple
    exact .inr (.inl ⟨vs, .inl (.inl ha), em r⟩)
  | dict k => cases h

abbrev WT := En → (Bool → Prop) → Prop
def MonoT (w : WT) : Prop := ∀ env Q Q', (∀ b, Q b → Q' b) → w env Q → w env Q'
def tT (w : WT) : TT := fun σ H Q => ∃ W env S, RlS W env S σ H ∧ w env fun b => ∀ H', KpJ W H H' → Q b H'
structure PTv (X : Cx) (e : Expr) (w : WT) : Prop where
  pt : PT X e (tT w)
  mono : MonoT w
/-- a test -/
def wT (w : WE) : WT := fun env Q => w env fun d => gTru d Q
omit [Tabs] in
theorem monoT (h : Mono w) : MonoT (wT w) := fun env Q Q' f q => h _ _ _ (fun d g => ⟨g.1, f _ g.2⟩) q
/-- a name, a call, a subscript .. -/
theorem t_ (h : PP X e w) (he : ∀ whole, isTrue e X.env whole = (do let v ← whole; standAt e.pos; holding [v] (truthy v)) := by intro _; rfl) : PTv X e (wT w) := by
  refine ⟨(pt_truth h.pe he).imp fun σ H Q ⟨W, env, S, R, q⟩ => ?_, monoT h.mono⟩
  exact ⟨W, env, S, R, h.mono _ _ _ (fun d g v H' k t => ⟨tru d, top_tru X.K t g.1, g.2 H' k⟩) q⟩
/-- not -/
def wNotT (w : WT) : WT := fun env Q => w env fun b => Q (!b)
theorem tnot_ {w : WT} (h : PTv X e w) : PTv X (.UnaryOp .Not e pos) (wNotT w) := by
  refine ⟨(pt_not h.pt).imp fun σ H Q ⟨W, env, S, R, q⟩ => ⟨W, env, S, R, q⟩, fun env Q Q' f q => h.mono _ _ _ (fun b g => f _ g) q⟩
structure PWv (X : Cx) (e : Expr) (w : WT) : Prop where
  pw : PW X e (tT w)
  mono : MonoT w
omit [Tabs] in
theorem _root_.L2.PW.imp {X : Cx} {e : Expr} {t t' : TT} (h : PW X e t) (m : ∀ σ H Q, t' σ H Q → t σ H Q) : PW X e t' := ⟨fun wh pins s σ H Q I q => h.run wh pins s σ H Q I (m σ H Q q)⟩
def wAndT (u v : WT) : WT := fun env Q => u env fun b => if b = true then v env Q else Q false
def wOrT (u v : WT) : WT := fun env Q => u env fun b => if b = true then Q true else v env Q
omit [Tabs] in
theorem monoAndT {u v : WT} (hu : MonoT u) (hv : MonoT v) : MonoT (wAndT u v) := fun env Q Q' f q => hu _ _ _ (fun b g => by
  cases b with
  | true => exact hv _ _ _ f g
  | false => exact f _ g) q
omit [Tabs] in
theorem monoOrT {u v : WT} (hu : MonoT u) (hv : MonoT v) : MonoT (wOrT u v) := fun env Q Q' f q => hu _ _ _ (fun b g => by
  cases b with
  | true => exact f _ g
  | false => exact hv _ _ _ f g) q
theorem wand1_ {u : WT} (h : PTv X a u) : PWv X (.BoolOp .And [a] pos) u := ⟨pw_and1 h.pt, h.mono⟩
theorem wor1_ {u : WT} (h : PTv X a u) : PWv X (.BoolOp .Or [a] pos) u := ⟨pw_or1 h.pt, h.mono⟩
theorem wand_ {u v : WT} {rest : List Expr} (h : PTv X a u) (h' : PWv X (.BoolOp .And (b :: rest) pos) v) : PWv X (.BoolOp .And (a :: b :: rest) pos) (wAndT u v) := by
  refine ⟨(pw_and h.pt h'.pw).imp fun σ H Q ⟨W, env, S, R, q⟩ => ?_, monoAndT h.mono h'.mono⟩
  refine ⟨W, env, S, R, h.mono _ _ _ (fun d g H1 k => ?_) q⟩
  cases d with
  | true => exact ⟨W, env, S, R.kept k, h'.mono _ _ _ (fun d g H2 k2 => g H2 (k.trans k2)) g⟩
  | false => exact g H1 k
theorem wor_ {u v : WT} {rest : List Expr} (h : PTv X a u) (h' : PWv X (.BoolOp .Or (b :: rest) pos) v) : PWv X (.BoolOp .Or (a :: b :: rest) pos) (wOrT u v) := by
  refine ⟨(pw_or h.pt h'.pw).imp fun σ H Q ⟨W, env, S, R, q⟩ => ?_, monoOrT h.mono h'.mono⟩
  refine ⟨W, env, S, R, h.mono _ _ _ (fun d g H1 k => ?_) q⟩
  cases d with
  | true => exact g H1 k
  | false => exact ⟨W, env, S, R.kept k, h'.mono _ _ _ (fun d g H2 k2 => g H2 (k.trans k2)) g⟩
theorem tw_ {u : WT} (h : PWv X e u) : PTv X e u := ⟨h.pw.pt, h.mono⟩
/-- as values -/
def wAndV (u v : WE) : WE := fun env Q => u env fun x => gTru x fun b => if b = true then v env Q else Q x
def wOrV (u v : WE) : WE := fun env Q => u env fun x => gTru x fun b => if b = true then Q x else v env Q
def wNotV (u : WE) : WE := fun env Q => u env fun x => gTru x fun b => Q (.bool (!b))
theorem one_ {op} (h : PV X a wa) : PV X (.BoolOp op [a] pos) wa := ⟨pe_one h.pe, h.mono⟩
theorem and_ {rest : List Expr} (ha : PV X a wa) (hb : PV X (.BoolOp .And (b :: rest) pos) wb) : PV X (.BoolOp .And (a :: b :: rest) pos) (wAndV wa wb) := by
  refine ⟨(pe_andT ha.pe hb.pe).imp fun σ H Q ⟨W, env, S, R, q⟩ => ?_, fun env Q Q' f q => ha.mono _ _ _ (fun x g => ⟨g.1, ?_⟩) q⟩
  · refine ⟨W, env, S, R, ha.mono _ _ _ (fun d g v H1 k t => ⟨tru d, top_tru X.K (.inl t : Top W H1 S v d) g.1, ?_⟩) q⟩
    have g2 := g.2
    cases e : tru d with
    | true => rw [e] at g2; exact ⟨W, env, S, R.kept k, hb.mono _ _ _ (fun d g v2 H2 k2 r2 => g v2 H2 (k.trans k2) r2) g2⟩
    | false => rw [e] at g2; exact g2 v H1 k t
  · have g2 := g.2
    cases e : tru x with
    | true => rw [e] at g2; exact hb.mono _ _ _ f g2
    | false => rw [e] at g2; exact f _ g2
theorem or_ {rest : List Expr} (ha : PV X a wa) (hb : PV X (.BoolOp .Or (b :: rest) pos) wb) : PV X (.BoolOp .Or (a :: b :: rest) pos) (wOrV wa wb) := by
  refine ⟨(pe_orT ha.pe hb.pe).imp fun σ H Q ⟨W, env, S, R, q⟩ => ?_, fun env Q Q' f q => ha.mono _ _ _ (fun x g => ⟨g.1, ?_⟩) q⟩
  · refine ⟨W, env, S, R, ha.mono _ _ _ (fun d g v H1 k t => ⟨tru d, top_tru X.K (.inl t : Top W H1 S v d) g.1, ?_⟩) q⟩
    have g2 := g.2
    cases e : tru d with
    | false => rw [e] at g2; exact ⟨W, env, S, R.kept k, hb.mono _ _ _ (fun d g v2 H2 k2 r2 => g v2 H2 (k.trans k2) r2) g2⟩
    | true => rw [e] at g2; exact g2 v H1 k t
  · have g2 := g.2
    cases e : tru x with
    | false => rw [e] at g2; exact hb.mono _ _ _ f g2
    | true => rw [e] at g2; exact f _ g2
theorem not_ (ha : PP X a wa) : PV X (.UnaryOp .Not a pos) (wNotV wa) := by
  refine ⟨(pe_notT ha.pe).imp fun σ H Q ⟨W, env, S, R, q⟩ => ?_, fun env Q Q' f q => ha.mono _ _ _ (fun x g => ⟨g.1, f _ g.2⟩) q⟩
  exact ⟨W, env, S, R, ha.mono _ _ _ (fun d g v H1 k t => ⟨tru d, top_tru X.K t g.1, g.2 _ H1 k (.bl _)⟩) q⟩
/-- a if t else b -/
def wIf (t : WT) (u v : WE) : WE := fun env Q => t env fun b => if b = true then u env Q else v env Q
theorem if_ {t : WT} (hc : PTv X c t) (ha : PV X a wa) (hb : PV X b wb) : PV X (.IfExp c a b pos) (wIf t wa wb) := by
  refine ⟨(pe_ifExp hc.pt ha.pe hb.pe).imp fun σ H Q ⟨W, env, S, R, q⟩ => ?_, fun env Q Q' f q => hc.mono _ _ _ (fun x g => ?_) q⟩
  · refine ⟨W, env, S, R, hc.mono _ _ _ (fun d g H1 k => ?_) q⟩
    cases d with
    | true => exact ⟨W, env, S, R.kept k, ha.mono _ _ _ (fun d g v2 H2 k2 r2 => g v2 H2 (k.trans k2) r2) g⟩
    | false => exact ⟨W, env, S, R.kept k, hb.mono _ _ _ (fun d g v2 H2 k2 r2 => g v2 H2 (k.trans k2) r2) g⟩
  · cases x with
    | true => exact ha.mono _ _ _ f g
    | false => exact hb.mono _ _ _ f g

/-! ### comparisons -/
/-- a comparison as a value and as a test -/
theorem cmp_ {op : CmpOp} {r : R2} {g : G2} (ho : OpR X (compareOp op) r) (hg : Bop r g) (ha : PP X a wa) (hb : PP X b wb) (hm : behindInMarks op b = false := by first | exact nomark _ | with_unfolding_all rfl) : PV X (.Compare a [op] [b] pos) (wB g wa wb) :=
  bin_ (fun h1 h2 => pe_cmpR ho h1 h2 hm) hg ha hb
/-- .. that gives a bool -/
def gBool (d : D) (Q : Bool → Prop) : Prop := match d with
  | .bool b => Q b
  | _ => False
def wTB (w : WE) : WT := fun env Q => w env fun d => gBool d Q
theorem tcmp_ {op : CmpOp} {r : R2} {g : G2} (ho : OpR X (compareOp op) r) (hg : Bop r g) (ha : PP X a wa) (hb : PP X b wb) (hm : behindInMarks op b = false := by first | exact nomark _ | with_unfolding_all rfl) : PTv X (.Compare a [op] [b] pos) (wTB (wB g wa wb)) := by
  refine ⟨(pt_cmpR ho ha.pe hb.pe hm).imp fun σ H Q ⟨W, env, S, R, h⟩ => ?_, fun env Q Q' f q => monoB hg.mono ha.mono hb.mono _ _ _ (fun d g => by cases d <;> first | exact g.elim | exact f _ g) q⟩
  refine ⟨W, env, S, R, ha.mono _ _ _ (fun dx h1 x H1 k1 t1 => ?_) h⟩
  refine ⟨W, env, S, R.kept k1, hb.mono _ _ _ (fun dy h2 y H2 k2 t2 => ?_) h1⟩
  refine hg.to W S H2 x y dx dy _ _ ((R.cn.kept k1).kept k2) (t1.kept k2 R.sm) t2 h2 fun d v H' hG k3 r3 => ?_
  cases d with
  | bool z => cases r3; exact ⟨z, rfl, hG H' ((k1.trans k2).trans k3)⟩
  | _ => exact hG.elim
/-- two in a chain -/
def wCh (g g' : G2) (wa wb wc : WE) : WE := fun env Q => wa env fun x => wb env fun y => g x y fun z => match z with
  | .bool k => if k = true then wc env fun w => g' y w Q else Q (.bool false)
  | _ => False
omit [Tabs] in
theorem monoCh {g g' : G2} (hg : ∀ dx dy G G', (∀ d, G d → G' d) → g dx dy G → g dx dy G') (hg' : ∀ dx dy G G', (∀ d, G d → G' d) → g' dx dy G → g' dx dy G') (ha : Mono wa) (hb : Mono wb) (hc : Mono wc) : Mono (wCh g g' wa wb wc) := fun env Q Q' f q =>
  ha _ _ _ (fun x h => hb _ _ _ (fun y h => hg _ _ _ _ (fun z h => by
    cases z with
    | bool k => cases k with
      | true => exact hc _ _ _ (fun d h => hg' _ _ _ _ f h) h
      | false => exact f _ h
    | _ => exact h.elim) h) h) q
theorem chain_ {op op' : CmpOp} {r r' : R2} {g g' : G2} (ho : OpR X (compareOp op) r) (ho' : OpR X (compareOp op') r') (hg : Bop r g) (hg' : Bop r' g') (ha : PP X a wa) (hb : PP X b wb) (hc : PP X c wc)
    (pc : ∀ {ta tb tc : TE}, PE X a ta → PE X b tb → PE X c tc → PE X (.Compare a [op, op'] [b, c] pos) (tChain r r' ta tb tc)) : PV X (.Compare a [op, op'] [b, c] pos) (wCh g g' wa wb wc) := by
  refine ⟨(pc ha.pe hb.pe hc.pe).imp fun σ H Q ⟨W, env, S, R, h⟩ => ?_, monoCh hg.mono hg'.mono ha.mono hb.mono hc.mono⟩
  refine ⟨W, env, S, R, ha.mono _ _ _ (fun dx h1 x H1 k1 t1 => ?_) h⟩
  refine ⟨W, env, S, R.kept k1, hb.mono _ _ _ (fun dy h2 y H2 k2 t2 => ?_) h1⟩
  refine hg.to W S H2 x y dx dy _ _ ((R.cn.kept k1).kept k2) (t1.kept k2 R.sm) t2 h2 fun d v H3 hG k3 r3 => ?_
  cases d with
  | bool z =>
    cases r3
    refine ⟨z, rfl, ?_⟩
    cases z with
    | true =>
      refine ⟨W, env, S, (R.kept k1).kept (k2.trans k3), hc.mono _ _ _ (fun dw h4 u H4 k4 t4 => ?_) hG⟩
      exact hg'.to W S H4 y u dy dw Q _ (((R.cn.kept k1).kept k2).kept (k3.trans k4)) (t2.kept (k3.trans k4) R.sm) t4 h4 fun d v H' hG k5 r5 => hG v H' ((((k1.trans k2).trans k3).trans k4).trans k5) r5
    | false => exact hG _ H3 ((k1.trans k2).trans k3) (.bl _)
  | _ => exact hG.elim
end
end Eg

/-! E3: comparisons, subscripts, displays, calls. -/
namespace PySem.W
open PySem PySem.Calls PyProof.Rows L2
section
variable {prog : Program} {w : World} {A : Around} {E : Value → Shared → Prop} {s : Shared} {l : Addr} {its : List Value} {ns : List Int} {Q : Value → Shared → Prop}
theorem old_keptT {h' : Heap} (hk : ∀ b o, b ∉ [s.heap.objs.size] → (s.heap.push { cls := .type "tuple_iterator", data := .fields #[.ref l, .int 0 0] }).get? b = some o → h'.get? b = some o) :
    ∀ b o, s.heap.get? b = some o → h'.get? b = some o := fun b o e => by
  refine hk b o (fun hm => ?_) (Heap.get?_push_of_some _ e)
  rcases List.mem_cons.mp hm with e1 | hm
  · exact absurd (e1 ▸ Heap.lt_size e) (Nat.lt_irrefl _)
  · cases hm
theorem max_intTup {xs : Array (Int × Tok)} (hh : A.handled = none) (hl : s.heap.IsTuple l (intItems xs)) (hne : 0 < xs.size)
    (h : ∀ v h' tk, (intItems xs)[argBest (fun i j => decide (numAt xs i > numAt xs j)) (xs.size - 1)]? = some v → (∀ b o, s.heap.get? b = some o → h'.get? b = some o) → Q v { s with heap := h', toks := tk }) :
    wpAny (model prog w) A (call (.builtin "max") [.ref l]) Q E s := by
  obtain ⟨o, ho, hc, n, hd⟩ := id hl
  have hz : l ≠ s.heap.objs.size := Nat.ne_of_lt (Heap.lt_size ho)
  refine call_max_walk (wpAny_pyIter_tuple hl ?_)
  refine ⟨s.heap.objs.size, _, _, _, _, _, _, rfl, Walks.tuple (A := A.in1) hh _ l hz (intItems xs), ⟨⟨_, Heap.get?_push_size _ rfl, rfl, rfl⟩, hl.push _⟩, fun c hc => ?_, by simpa [intItems] using hne, CmpOf.ints_gt (numAt xs) (fun _ _ => intItems_at), fun v h' tk hP hk => ?_⟩
  · show c < (s.heap.push _).objs.size
    rw [Heap.size_push]
    rcases List.mem_cons.mp hc with rfl | hc
    · exact Nat.lt_succ_self _
    · rw [List.mem_singleton.mp hc]; exact Nat.lt_succ_of_lt (Heap.lt_size ho)
  · exact h v h' tk (by simpa [intItems] using hP) (old_keptT hk)
theorem min_intTup {xs : Array (Int × Tok)} (hh : A.handled = none) (hl : s.heap.IsTuple l (intItems xs)) (hne : 0 < xs.size)
    (h : ∀ v h' tk, (intItems xs)[argBest (fun i j => decide (numAt xs i < numAt xs j)) (xs.size - 1)]? = some v → (∀ b o, s.heap.get? b = some o → h'.get? b = some o) → Q v { s with heap := h', toks := tk }) :
    wpAny (model prog w) A (call (.builtin "min") [.ref l]) Q E s := by
  obtain ⟨o, ho, hc, n, hd⟩ := id hl
  have hz : l ≠ s.heap.objs.size := Nat.ne_of_lt (Heap.lt_size ho)
  refine call_min_walk (wpAny_pyIter_tuple hl ?_)
  refine ⟨s.heap.objs.size, _, _, _, _, _, _, rfl, Walks.tuple (A := A.in1) hh _ l hz (intItems xs), ⟨⟨_, Heap.get?_push_size _ rfl, rfl, rfl⟩, hl.push _⟩, fun c hc => ?_, by simpa [intItems] using hne, CmpOf.ints_lt (numAt xs) (fun _ _ => intItems_at), fun v h' tk hP hk => ?_⟩
  · show c < (s.heap.push _).objs.size
    rw [Heap.size_push]
    rcases List.mem_cons.mp hc with rfl | hc
    · exact Nat.lt_succ_self _
    · rw [List.mem_singleton.mp hc]; exact Nat.lt_succ_of_lt (Heap.lt_size ho)
  · exact h v h' tk (by simpa [intItems] using hP) (old_keptT hk)
theorem sum_rawT (hh : A.handled = none) (hl : s.heap.IsTuple l its.toArray) (hi : IntsAre its ns)
    (h : ∀ h' tk t', (∀ b o, s.heap.get? b = some o → h'.get? b = some o) → Q (.int ns.sum t') { s with heap := h', toks := tk }) : wpAny (model prog w) A (call (.builtin "sum") [.ref l]) Q E s := by
  obtain ⟨xs, e⟩ := hi.allInts.items
  have hn : numsOf (intItems xs).toList = ns := by rw [← e]; exact hi.numsOf
  rw [nums_intItems] at hn
  rw [e] at hl
  refine ktm_sumG hh hl fun h' tk t' hk => ?_
  have := h h' tk t' hk
  rw [preSum_eq, List.take_of_length_le (by simp), hn]; exact this
theorem max_rawT (hh : A.handled = none) (hl : s.heap.IsTuple l its.toArray) (hi : IntsAre its ns) (hne : 0 < ns.length)
    (h : ∀ h' tk M t', (∀ b o, s.heap.get? b = some o → h'.get? b = some o) → M ∈ ns → (∀ a, a ∈ ns → a ≤ M) → Q (.int M t') { s with heap := h', toks := tk }) : wpAny (model prog w) A (call (.builtin "max") [.ref l]) Q E s := by
  obtain ⟨xs, e⟩ := hi.allInts.items
  have hn : numsOf (intItems xs).toList = ns := by rw [← e]; exact hi.numsOf
  rw [nums_intItems] at hn
  subst hn
  rw [e] at hl
  have hsz : 0 < xs.size := by simpa using hne
  refine max_intTup hh hl hsz fun v h' tk hv hk => ?_
  obtain ⟨t, rfl⟩ := intItems_at hv
  obtain ⟨h1, h2⟩ := argBest_gt (numAt xs) (xs.size - 1)
  refine h h' tk _ t hk ?_ fun a ha => ?_
  · rw [numAt_eq]; exact PySem.getD_mem (by rw [List.length_map, Array.length_toList]; omega)
  · obtain ⟨j, hj, rfl⟩ := mem_getD ha
    rw [List.length_map, Array.length_toList] at hj
    rw [← numAt_eq]; exact h2 j (by omega)
theorem min_rawT (hh : A.handled = none) (hl : s.heap.IsTuple l its.toArray) (hi : IntsAre its ns) (hne : 0 < ns.length)
    (h : ∀ h' tk M t', (∀ b o, s.heap.get? b = some o → h'.get? b = some o) → M ∈ ns → (∀ a, a ∈ ns → M ≤ a) → Q (.int M t') { s with heap := h', toks := tk }) : wpAny (model prog w) A (call (.builtin "min") [.ref l]) Q E s := by
  obtain ⟨xs, e⟩ := hi.allInts.items
  have hn : numsOf (intItems xs).toList = ns := by rw [← e]; exact hi.numsOf
  rw [nums_intItems] at hn
  subst hn
  rw [e] at hl
  have hsz : 0 < xs.size := by simpa using hne
  refine min_intTup hh hl hsz fun v h' tk hv hk => ?_
  obtain ⟨t, rfl⟩ := intItems_at hv
  obtain ⟨h1, h2⟩ := argBest_lt (numAt xs) (xs.size - 1)
  refine h h' tk _ t hk ?_ fun a ha => ?_
  · rw [numAt_eq]; exact PySem.getD_mem (by rw [List.length_map, Array.length_toList]; omega)
  · obtain ⟨j, hj, rfl⟩ := mem_getD ha
    rw [List.length_map, Array.length_toList] at hj
    rw [← numAt_eq]; exact h2 j (by omega)
end
end PySem.W
namespace Eg
open L2
def rSumD (K : PySem.W.Frag) : List V → Hp → VK → Prop := fun vs H Q => ∃ (a : PySem.Addr) (ns : List Int), vs = [V.ref a] ∧ (SqL K H a (ns.map V.int) ∨ SqT K H a (ns.map V.int)) ∧ Q (.int ns.sum) H
def rMaxD (K : PySem.W.Frag) : List V → Hp → VK → Prop := fun vs H Q => ∃ (a : PySem.Addr) (ns : List Int), vs = [V.ref a] ∧ (SqL K H a (ns.map V.int) ∨ SqT K H a (ns.map V.int)) ∧ 0 < ns.length ∧ ∀ m, m ∈ ns → (∀ y, y ∈ ns → y ≤ m) → Q (.int m) H
def rMinD (K : PySem.W.Frag) : List V → Hp → VK → Prop := fun vs H Q => ∃ (a : PySem.Addr) (ns : List Int), vs = [V.ref a] ∧ (SqL K H a (ns.map V.int) ∨ SqT K H a (ns.map V.int)) ∧ 0 < ns.length ∧ ∀ m, m ∈ ns → (∀ y, y ∈ ns → m ≤ y) → Q (.int m) H
theorem cr_sumD {X : Cx} (hc : X.calm = true) : CallR X (.builtin "sum") (rSumD X.K) := by
  intro pins s σ H vs us Q I r h
  obtain ⟨a, ns, rfl, hs, q⟩ := h
  rw [Vals.ref1 r]
  rcases hs with hs | hs
  · obtain ⟨its, rv, hl, _⟩ := I.list hs
    exact sum_raw (I.ok.hd hc) hl.isList rv.ints fun h' tk t' hk => ⟨.int _, H, I.kept hk, ⟨_, rfl⟩, q⟩
  · obtain ⟨its, rv, hl, _⟩ := I.tuple hs
    exact PySem.W.sum_rawT (I.ok.hd hc) hl rv.ints fun h' tk t' hk => ⟨.int _, H, I.kept hk, ⟨_, rfl⟩, q⟩
theorem cr_maxD {X : Cx} (hc : X.calm = true) : CallR X (.builtin "max") (rMaxD X.K) := by
  intro pins s σ H vs us Q I r h
  obtain ⟨a, ns, rfl, hs, hne, q⟩ := h
  rw [Vals.ref1 r]
  rcases hs with hs | hs
  · obtain ⟨its, rv, hl, _⟩ := I.list hs
    exact max_raw (I.ok.hd hc) hl.isList rv.ints hne fun h' tk m t' hk h1 h2 => ⟨.int _, H, I.kept hk, ⟨_, rfl⟩, q m h1 h2⟩
  · obtain ⟨its, rv, hl, _⟩ := I.tuple hs
    exact PySem.W.max_rawT (I.ok.hd hc) hl rv.ints hne fun h' tk m t' hk h1 h2 => ⟨.int _, H, I.kept hk, ⟨_, rfl⟩, q m h1 h2⟩
theorem cr_minD {X : Cx} (hc : X.calm = true) : CallR X (.builtin "min") (rMinD X.K) := by
  intro pins s σ H vs us Q I r h
  obtain ⟨a, ns, rfl, hs, hne, q⟩ := h
  rw [Vals.ref1 r]
  rcases hs with hs | hs
  · obtain ⟨its, rv, hl, _⟩ := I.list hs
    exact min_raw (I.ok.hd hc) hl.isList rv.ints hne fun h' tk m t' hk h1 h2 => ⟨.int _, H, I.kept hk, ⟨_, rfl⟩, q m h1 h2⟩
  · obtain ⟨its, rv, hl, _⟩ := I.tuple hs
    exact PySem.W.min_rawT (I.ok.hd hc) hl rv.ints hne fun h' tk m t' hk h1 h2 => ⟨.int _, H, I.kept hk, ⟨_, rfl⟩, q m h1 h2⟩
end Eg
namespace Eg
open PySem PySem.Spec PyProof.Rows L2
variable [Tabs]

section
variable {X : Cx} {e a b c : Expr} {es : List Expr} {w wa wb wc : WE} {u : WA} {pos : Pos}

abbrev gLt : G2 := gI (fun _ _ => True) fun i j => .bool (decide (i < j))
abbrev gLe : G2 := gI (fun _ _ => True) fun i j => .bool (decide (i ≤ j))
abbrev gGt : G2 := gI (fun _ _ => True) fun i j => .bool (decide (j < i))
abbrev gGe : G2 := gI (fun _ _ => True) fun i j => .bool (decide (j ≤ i))
/-- x == y -/
def gEq : G2 := fun x y Q => (SeqAt.shaped x = true ∧ SeqAt.shaped y = true) ∧ Q (.bool (PyData.eqv x y))
def gNe : G2 := fun x y Q => (SeqAt.shaped x = true ∧ SeqAt.shaped y = true) ∧ Q (.bool (!PyData.eqv x y))
theorem bopEq (K : PySem.W.Frag) : Bop (rEqD K) gEq := ⟨fun W S H x y dx dy Q G c tx ty q k =>
  ⟨dx, dy, tx.dp K (SeqAt.canLay_of_shaped q.1.1), ty.dp K (SeqAt.canLay_of_shaped q.1.2), q.1.1, q.1.2, k _ _ H q.2 (.refl c.j) (.bl _)⟩, fun dx dy G G' f q => ⟨q.1, f _ q.2⟩⟩
theorem bopNe (K : PySem.W.Frag) : Bop (rNeD K) gNe := ⟨fun W S H x y dx dy Q G c tx ty q k =>
  ⟨dx, dy, tx.dp K (SeqAt.canLay_of_shaped q.1.1), ty.dp K (SeqAt.canLay_of_shaped q.1.2), q.1.1, q.1.2, k _ _ H q.2 (.refl c.j) (.bl _)⟩, fun dx dy G G' f q => ⟨q.1, f _ q.2⟩⟩
/-- is, is not: None, True, False -/
def rIsA : R2 := fun x y H Q => (y = .non ∧ Q (.bl (decide (x = .non))) H) ∨ (∃ a b, x = .bl a ∧ y = .bl b ∧ Q (.bl (decide (a = b))) H)
def rNotA : R2 := fun x y H Q => (y = .non ∧ Q (.bl (!decide (x = .non))) H) ∨ (∃ a b, x = .bl a ∧ y = .bl b ∧ Q (.bl (!decide (a = b))) H)
omit [Tabs] in
theorem op_Is : OpR X (compareOp .Is) rIsA := OpR.or op_isN op_isBl
omit [Tabs] in
theorem op_IsNot : OpR X (compareOp .IsNot) rNotA := OpR.or op_notN op_notBl
def isNon : D → Bool
  | .none => true
  | _ => false
def gIs : G2 := fun x y Q => match x, y with
  | .dict _, .none => False
  | x, .none => Q (.bool (isNon x))
  | .bool a, .bool b => Q (.bool (decide (a = b)))
  | _, _ => False
def gIsNot : G2 := fun x y Q => match x, y with
  | .dict _, .none => False
  | x, .none => Q (.bool (!isNon x))
  | .bool a, .bool b => Q (.bool (!decide (a = b)))
  | _, _ => False
theorem top_non {W : Wd} {S : Addr → Prop} {H : Hp} {x : V} {d : D} (t : Top W H S x d) (h : ∀ k, d ≠ .dict k) : decide (x = .non) = isNon d := by
  cases d with
  | none => cases t.non; rfl
  | bool b => cases t.bl; rfl
  | int i => cases t.int; rfl
  | str z => cases t.str; rfl
  | list ds =>
    obtain ⟨a, vs, rfl, ha, r⟩ := t.list
    rfl
  | tuple ds =>
    obtain ⟨a, vs, rfl, ha, _, r⟩ := t.tuple
    rfl
  | dict k => exact absurd rfl (h k)
theorem bopIs : Bop rIsA gIs := ⟨fun W S H x y dx dy Q G c tx ty q k => by
    cases dy with
    | none =>
      cases dx with
      | dict _ => exact q.elim
      | _ => exact .inl ⟨ty.non, by rw [top_non tx (fun k z => nomatch z)]; exact k _ _ H q (.refl c.j) (.bl _)⟩
    | bool b =>
      cases dx with
      | bool a => exact .inr ⟨a, b, tx.bl, ty.bl, k _ _ H q (.refl c.j) (.bl _)⟩
      | _ => exact q.elim
    | _ => cases dx <;> exact q.elim,
  fun dx dy G G' f q => by cases dx <;> cases dy <;> first | exact q.elim | exact f _ q⟩
theorem bopIsNot : Bop rNotA gIsNot := ⟨fun W S H x y dx dy Q G c tx ty q k => by
    cases dy with
    | none =>
      cases dx with
      | dict _ => exact q.elim
      | _ => exact .inl ⟨ty.non, by rw [top_non tx (fun k z => nomatch z)]; exact k _ _ H q (.refl c.j) (.bl _)⟩
    | bool b =>
      cases dx with
      | bool a => exact .inr ⟨a, b, tx.bl, ty.bl, k _ _ H q (.refl c.j) (.bl _)⟩
      | _ => exact q.elim
    | _ => cases dx <;> exact q.elim,
  fun dx dy G G' f q => by cases dx <;> cases dy <;> first | exact q.elim | exact f _ q⟩
/-- x in a list or a tuple -/
def rInT (K : PySem.W.Frag) (neg : Bool) : R2 := fun x y H Q => ∃ d ds, Dp K H x d ∧ (Dp K H y (.list ds) ∨ Dp K H y (.tuple ds)) ∧ SeqAt.shaped d = true ∧ PyData.canLayAll0 ds = true ∧ Q (.bl (if neg = true then !ds.any fun z => PyData.eqv z d else ds.any fun z => PyData.eqv z d)) H
omit [Tabs] in
theorem room_in {X : Cx} {d : D} {n : Nat} (sd : SeqAt.shaped d = true) (hu : X.A.units + 65 < cLine) : X.A.units + 1 + min n d.depth < cLine := by
  have h1 := SeqAt.depth_of_shaped sd
  have h2 : min n d.depth ≤ d.depth := Nat.min_le_right _ _
  omega
omit [Tabs] in
theorem op_InT (hu : X.A.units + 65 < cLine) : OpR X (compareOp .In) (rInT X.K false) := by
  intro pins s σ H x y v u Q I rx ry h
  obtain ⟨d, ds, hd, he, sd, se, q⟩ := h
  obtain ⟨as, r1⟩ := Dp.reads I d x v hd rx
  rcases he with he | he
  · obtain ⟨bs, r2⟩ := Dp.reads I (.list ds) y u he ry
    exact SeqAt.in_list_reads r2 r1 se (SeqAt.canLay_of_shaped sd) (room_in sd hu) ⟨.bl _, H, I, rfl, q⟩
  · obtain ⟨bs, r2⟩ := Dp.reads I (.tuple ds) y u he ry
    exact SeqAt.in_tuple_reads r2 r1 se (SeqAt.canLay_of_shaped sd) (room_in sd hu) ⟨.bl _, H, I, rfl, q⟩
omit [Tabs] in
theorem op_NotInT (hu : X.A.units + 65 < cLine) : OpR X (compareOp .NotIn) (rInT X.K true) := by
  intro pins s σ H x y v u Q I rx ry h
  obtain ⟨d, ds, hd, he, sd, se, q⟩ := h
  obtain ⟨as, r1⟩ := Dp.reads I d x v hd rx
  rcases he with he | he
  · obtain ⟨bs, r2⟩ := Dp.reads I (.list ds) y u he ry
    exact SeqAt.notIn_list_reads r2 r1 se (SeqAt.canLay_of_shaped sd) (room_in sd hu) ⟨.bl _, H, I, rfl, q⟩
  · obtain ⟨bs, r2⟩ := Dp.reads I (.tuple ds) y u he ry
    exact SeqAt.notIn_tuple_reads r2 r1 se (SeqAt.canLay_of_shaped sd) (room_in sd hu) ⟨.bl _, H, I, rfl, q⟩
def inD (x : D) (ds : List D) : Bool := ds.any fun z => PyData.eqv z x
def gInB (neg : Bool) : G2 := fun x y Q => match y with
  | .list ds => (SeqAt.shaped x = true ∧ PyData.canLayAll0 ds = true) ∧ Q (.bool (if neg = true then !inD x ds else inD x ds))
  | .tuple ds => (SeqAt.shaped x = true ∧ PyData.canLayAll0 ds = true) ∧ Q (.bool (if neg = true then !inD x ds else inD x ds))
  | _ => False
abbrev gIn : G2 := gInB false
abbrev gNotIn : G2 := gInB true
theorem bopIn (K : PySem.W.Frag) (neg : Bool) : Bop (rInT K neg) (gInB neg) := ⟨fun W S H x y dx dy Q G c tx ty q k => by
    cases dy with
    | list ds => exact ⟨dx, ds, tx.dp K (SeqAt.canLay_of_shaped q.1.1), .inl (ty.dp K (by simpa [PyData.canLay0] using q.1.2)), q.1.1, q.1.2, k _ _ H q.2 (.refl c.j) (.bl _)⟩
    | tuple ds => exact ⟨dx, ds, tx.dp K (SeqAt.canLay_of_shaped q.1.1), .inr (ty.dp K (by simpa [PyData.canLay0] using q.1.2)), q.1.1, q.1.2, k _ _ H q.2 (.refl c.j) (.bl _)⟩
    | _ => exact q.elim,
  fun dx dy G G' f q => by cases dy <;> first | exact q.elim | exact ⟨q.1, f _ q.2⟩⟩

/-! ### subscripts -/
def gIx : G2 := fun x y Q => match x, y with
  | .list ds, .int i => match atI ds i with
    | some d => Q d
    | none => False
  | .tuple ds, .int i => match atI ds i with
    | some d => Q d
    | none => False
  | _, _ => False
omit [Tabs] in
theorem monoIx : ∀ dx dy G G', (∀ d, G d → G' d) → gIx dx dy G → gIx dx dy G' := fun dx dy G G' f q => by
  cases dx <;> cases dy <;> first
    | exact q.elim
    | (unfold gIx at q ⊢
       simp only at q ⊢
       split at q
       · rename_i h; simp only [h] at *; exact f _ q
       · exact q.elim)
theorem atI_rp {W : Wd} {S : Addr → Prop} {H : Hp} {vs : List V} {ds : List D} {i : Int} {d : D} (r : RpAll W.T H S vs ds) (h : atI ds i = some d) : ∃ v, atI vs i = some v ∧ Rp W.T H S v d := by
  unfold atI at h ⊢
  rw [r.length]
  cases e : ixN ds.length i with
  | none => rw [e] at h; cases h
  | some j =>
    rw [e] at h
    exact r.get h
def rIxA (K : PySem.W.Frag) : R2 := fun x y H Q => rIxL K x y H Q ∨ rIxT K x y H Q
theorem bopIx (K : PySem.W.Frag) : Bop (rIxA K) gIx := ⟨fun W S H x y dx dy Q G c tx ty q k => by
    cases dx <;> cases dy <;> first
      | exact q.elim
      | (unfold gIx at q
         simp only at q
         split at q
         · rename_i h
           first
             | (obtain ⟨a, vs, rfl, ha, r⟩ := tx.list
                obtain ⟨v, hv, rv⟩ := atI_rp r h
                exact .inl ⟨a, vs, _, v, rfl, ty.int, .inl (.inl ha), hv, k _ _ H q (.refl c.j) rv⟩)
             | (obtain ⟨a, vs, rfl, ha, _, r⟩ := tx.tuple
                obtain ⟨v, hv, rv⟩ := atI_rp r h
                exact .inr ⟨a, vs, _, v, rfl, ty.int, .inl (.inl ha), hv, k _ _ H q (.refl c.j) rv⟩)
         · exact q.elim), monoIx⟩
theorem ix_ (ha : PP X a wa) (hb : PP X b wb) (hs : PlainIx b := by exact fun _ _ => rfl) : PV X (.Subscript a b pos) (wB gIx wa wb) := bin_ (fun h1 h2 => pe_ix (ix_list.or ix_tup) h1 h2 hs) (bopIx X.K) ha hb

/-! ### slices -/
def cutD (xs : List D) (lo hi : Option Int) : List D := (xs.drop (HT.sIx xs.length 0 lo)).take (HT.sIx xs.length xs.length hi - HT.sIx xs.length 0 lo)
abbrev WO := En → (Option Int → Prop) → Prop
def tO (w : WO) : TO := fun σ H Q => ∃ W env S, RlS W env S σ H ∧ w env fun o => ∀ H', KpJ W H H' → Q o H'
def MonoO (w : WO) : Prop := ∀ env Q Q', (∀ d, Q d → Q' d) → w env Q → w env Q'
structure POv (X : Cx) (e : Option Expr) (w : WO) : Prop where
  po : PO X e (tO w)
  mono : MonoO w
omit [Tabs] in
theorem _root_.L2.PO.imp {X : Cx} {e : Option Expr} {t t' : TO} (h : PO X e t) (m : ∀ σ H Q, t' σ H Q → t σ H Q) : PO X e t' := ⟨fun pins s σ H Q I q => h.run pins s σ H Q I (m σ H Q q)⟩
def wNo : WO := fun _ Q => Q none
def wSo (w : WE) : WO := fun env Q => w env fun d => match d with
  | .int i => Q (some i)
  | _ => False
theorem on_ : POv X none wNo := ⟨po_none.imp fun σ H Q ⟨W, env, S, R, q⟩ => q H (.refl R.j), fun _ _ _ f h => f _ h⟩
theorem os_ (h : PP X e w) : POv X (some e) (wSo w) := by
  refine ⟨(po_some h.pe).imp fun σ H Q ⟨W, env, S, R, q⟩ => ?_, fun env Q Q' f q => h.mono _ _ _ (fun d g => ?_) q⟩
  · refine ⟨W, env, S, R, h.mono _ _ _ (fun d g v H' k t => ?_) q⟩
    cases d with
    | int i => exact ⟨i, t.int, g H' k⟩
    | _ => exact g.elim
  · cases d with
    | int i => exact f _ g
    | _ => exact g.elim
def wSl (w : WE) (lo hi : WO) : WE := fun env Q => w env fun d => lo env fun l => hi env fun h => match d with
  | .list ds => Q (.list (cutD ds l h))
  | .tuple ds => Q (.tuple (cutD ds l h))
  | _ => False
omit [Tabs] in
theorem RpAll.cut {T : Nat → V} {H : Hp} {S : Addr → Prop} {vs : List V} {ds : List D} (r : RpAll T H S vs ds) (lo hi : Option Int) : RpAll T H S (cutV vs lo hi) (cutD ds lo hi) := by
  unfold cutV cutD
  rw [r.length]
  exact (r.drop _).take _
omit [Tabs] in
theorem cut_whole {xs : List D} {lo hi : Option Int} (h : HT.sIx xs.length 0 lo = 0 ∧ HT.sIx xs.length xs.length hi = xs.length) : cutD xs lo hi = xs := by
  unfold cutD
  rw [h.1, h.2]
  simp
def rSlAll (K : PySem.W.Frag) : V → Option Int → Option Int → Hp → VK → Prop := fun x lo hi H Q => rSlL K x lo hi H Q ∨ rSlA K x lo hi H Q
omit [Tabs] in
theorem sl_all : SlR X (rSlAll X.K) := sl_list.or sl_tupA
theorem slice_ {lo hi : Option Expr} {wl wh : WO} {p2 : Pos} (ha : PP X a wa) (hl : POv X lo wl) (hh : POv X hi wh) : PV X (.Subscript a (.Slice lo hi none p2) pos) (wSl wa wl wh) := by
  refine ⟨(pe_slice sl_all ha.pe hl.po hh.po).imp fun σ H Q ⟨W, env, S, R, h⟩ => ?_, fun env Q Q' f q => ha.mono _ _ _ (fun d q => hl.mono _ _ _ (fun l q => hh.mono _ _ _ (fun u q => ?_) q) q) q⟩
  · refine ⟨W, env, S, R, ha.mono _ _ _ (fun dx h1 x H1 k1 t1 => ?_) h⟩
    refine ⟨W, env, S, R.kept k1, hl.mono _ _ _ (fun l h2 H2 k2 => ?_) h1⟩
    refine ⟨W, env, S, (R.kept k1).kept k2, hh.mono _ _ _ (fun u h3 H3 k3 => ?_) h2⟩
    have t3 := t1.kept (k2.trans k3) R.sm
    have c3 := (R.cn.kept k1).kept (k2.trans k3)
    have kk := (k1.trans k2).trans k3
    cases dx with
    | list ds =>
      obtain ⟨a, vs, rfl, ha, r⟩ := t3.list
      refine .inl ⟨a, vs, rfl, .inl (.inl ha), fun p hp => ?_⟩
      exact h3 _ _ (kk.trans (.new c3.j hp)) (.lst upd_same (c3.np hp) (((r.cut l u).plus hp).less fun _ s => .inl s))
    | tuple ds =>
      obtain ⟨a, vs, rfl, ha, na, r⟩ := t3.tuple
      refine .inr ⟨a, vs, rfl, .inl (.inl ha), fun hw => ?_, fun hw p hp => ?_⟩
      · rw [r.length] at hw
        have h4 : ∀ (v : V) (H' : Hp), KpJ W H H' → Rp W.T H' S v (.tuple (cutD ds l u)) → Q v H' := h3
        rw [cut_whole hw] at h4
        exact h4 _ _ kk (.tup ha na r)
      · exact h3 _ _ (kk.trans (.new c3.j hp)) (.tup upd_same (c3.np hp) (((r.cut l u).plus hp).less fun _ s => .inl s))
    | _ => exact h3.elim
  · cases d <;> first | exact q.elim | exact f _ q
/-- a slice of a list: a new list -/
def wSlF (w : WE) (lo hi : WO) : WE := fun env Q => w env fun d => lo env fun l => hi env fun h => match d with
  | .list ds => Q (.list (cutD ds l h))
  | _ => False
theorem sliceF_ {lo hi : Option Expr} {wl wh : WO} {p2 : Pos} (ha : PP X a wa) (hl : POv X lo wl) (hh : POv X hi wh) : PF X (.Subscript a (.Slice lo hi none p2) pos) (wSlF wa wl wh) := by
  refine ⟨(pe_slice sl_list ha.pe hl.po hh.po).imp fun σ H Q ⟨W, env, S, R, h⟩ => ?_, fun env Q Q' f q => ha.mono _ _ _ (fun d q => hl.mono _ _ _ (fun l q => hh.mono _ _ _ (fun u q => ?_) q) q) q⟩
  · refine ⟨W, env, S, R, ha.mono _ _ _ (fun dx h1 x H1 k1 t1 => ?_) h⟩
    refine ⟨W, env, S, R.kept k1, hl.mono _ _ _ (fun l h2 H2 k2 => ?_) h1⟩
    refine ⟨W, env, S, (R.kept k1).kept k2, hh.mono _ _ _ (fun u h3 H3 k3 => ?_) h2⟩
    have t3 := t1.kept (k2.trans k3) R.sm
    have c3 := (R.cn.kept k1).kept (k2.trans k3)
    have kk := (k1.trans k2).trans k3
    cases dx with
    | list ds =>
      obtain ⟨a, vs, rfl, ha, r⟩ := t3.list
      refine ⟨a, vs, rfl, .inl (.inl ha), fun p hp => ?_⟩
      exact h3 p _ _ _ rfl (kk.trans (.new c3.j hp)) (kk.none_of R.j hp) upd_same ((r.cut l u).plus hp)
    | _ => exact h3.elim
  · cases d <;> first | exact q.elim | exact f _ q

/-! ### arguments, displays -/
def wN : WA := fun _ Q => Q []
def wK (w : WE) (u : WA) : WA := fun env Q => w env fun d => u env fun ds => Q (d :: ds)
omit [Tabs] in
theorem monoK (h : Mono w) (h' : MonoA u) : MonoA (wK w u) := fun env Q Q' f q => h _ _ _ (fun d q => h' _ _ _ (fun ds q => f _ q) q) q
theorem an_ : PAv X [] wN := ⟨pa_nil.imp fun σ H Q ⟨W, env, S, R, q⟩ => q [] H (.refl R.j) .nil, fun _ _ _ f q => f _ q⟩
theorem ac_ (h : PV X e w) (h' : PAv X es u) (hs : starEach (e :: es) X.env = (false, eval e X.env) :: starEach es X.env := by rfl) : PAv X (e :: es) (wK w u) := by
  refine ⟨(pa_cons h.pe h'.pa hs).imp fun σ H Q ⟨W, env, S, R, q⟩ => ?_, monoK h.mono h'.mono⟩
  refine ⟨W, env, S, R, h.mono _ _ _ (fun d q v H1 k1 r1 => ?_) q⟩
  exact ⟨W, env, S, R.kept k1, h'.mono _ _ _ (fun ds q vs H2 k2 r2 => q (v :: vs) H2 (k1.trans k2) (.cons (r1.kept k2 R.sm) r2)) q⟩
theorem pn_ : PAp X [] wN := an_.pp
theorem pc_ (h : PP X e w) (h' : PAp X es u) (hs : starEach (e :: es) X.env = (false, eval e X.env) :: starEach es X.env := by rfl) : PAp X (e :: es) (wK w u) := by
  refine ⟨(pa_cons h.pe h'.pa hs).imp fun σ H Q ⟨W, env, S, R, q⟩ => ?_, monoK h.mono h'.mono⟩
  refine ⟨W, env, S, R, h.mono _ _ _ (fun d q v H1 k1 r1 => ?_) q⟩
  exact ⟨W, env, S, R.kept k1, h'.mono _ _ _ (fun ds q vs H2 k2 r2 => q (v :: vs) H2 (k1.trans k2) (.cons (r1.kept k2 R.sm) r2)) q⟩
def wTup (u : WA) : WE := fun env Q => u env fun ds => ds.length ≤ sizeLine ∧ Q (.tuple ds)
def wLst (u : WA) : WE := fun env Q => u env fun ds => ds.length ≤ sizeLine ∧ Q (.list ds)
theorem tup_ {k} (h : PAv X es u) : PV X (.Tuple es k pos) (wTup u) := by
  refine ⟨(pe_tup h.pa).imp fun σ H Q ⟨W, env, S, R, q⟩ => ?_, fun env Q Q' f q => h.mono _ _ _ (fun ds q => ⟨q.1, f _ q.2⟩) q⟩
  refine ⟨W, env, S, R, h.mono _ _ _ (fun ds q vs H1 k1 r1 => ⟨by rw [r1.length]; exact q.1, fun p hp => ?_⟩) q⟩
  have c := R.cn.kept k1
  exact q.2 _ _ (k1.trans (.new c.j hp)) (.tup upd_same (c.np hp) ((r1.plus hp).less fun _ s => .inl s))
theorem lst_ (h : PAv X es u) : PF X (.List es pos) (wLst u) := by
  refine ⟨(pe_lst h.pa).imp fun σ H Q ⟨W, env, S, R, q⟩ => ?_, fun env Q Q' f q => h.mono _ _ _ (fun ds q => ⟨q.1, f _ q.2⟩) q⟩
  refine ⟨W, env, S, R, h.mono _ _ _ (fun ds q vs H1 k1 r1 => ⟨by rw [r1.length]; exact q.1, fun p hp => ?_⟩) q⟩
  have c := R.cn.kept k1
  exact q.2 p _ _ _ rfl (k1.trans (.new c.j hp)) (k1.none_of R.j hp) upd_same (r1.plus hp)

/-! ### calls of built-ins, by values -/
abbrev GN := List D → (D → Prop) → Prop
structure Cop (r : List V → Hp → VK → Prop) (g : GN) : Prop where
  to : ∀ (W : Wd) (S : Addr → Prop) (H : Hp) (xs : List V) (ds : List D) (Q : VK) (G : D → Prop), Cn W S H → TopAll W H S xs ds → g ds G → (∀ d v H', G d → KpJ W H H' → Rp W.T H' S v d → Q v H') → r xs H Q
  mono : ∀ ds G G', (∀ d, G d → G' d) → g ds G → g ds G'
structure CopF (r : List V → Hp → VK → Prop) (g : GN) : Prop where
  to : ∀ (W : Wd) (S : Addr → Prop) (H : Hp) (xs : List V) (ds : List D) (Q : VK) (G : D → Prop), Cn W S H → TopAll W H S xs ds → g ds G →
    (∀ p vs es H', G (.list es) → KpJ W H H' → H p = none → H' p = some (.lst vs) → RpAll W.T H' (plus S p) vs es → Q (.ref p) H') → r xs H Q
  mono : ∀ ds G G', (∀ d, G d → G' d) → g ds G → g ds G'
def wCl (g : GN) (u : WA) : WE := fun env Q => u env fun ds => g ds Q
omit [Tabs] in
theorem monoCl {g : GN} (hg : ∀ ds G G', (∀ d, G d → G' d) → g ds G → g ds G') (h : MonoA u) : Mono (wCl g u) := fun env Q Q' f q => h _ _ _ (fun ds q => hg _ _ _ f q) q
theorem call_ {r : List V → Hp → VK → Prop} {g : GN} (ho : ∀ {t : TA}, PA X es t → PE X e (tCB r t)) (hg : Cop r g) (ha : PAp X es u) : PV X e (wCl g u) := by
  refine ⟨(ho ha.pa).imp fun σ H Q ⟨W, env, S, R, h⟩ => ?_, monoCl hg.mono ha.mono⟩
  refine ⟨W, env, S, R, ha.mono _ _ _ (fun ds h1 xs H1 k1 t1 => ?_) h⟩
  exact hg.to W S H1 xs ds Q _ (R.cn.kept k1) t1 h1 fun d v H' hG k3 r3 => hG v H' (k1.trans k3) r3
theorem callF_ {r : List V → Hp → VK → Prop} {g : GN} (ho : ∀ {t : TA}, PA X es t → PE X e (tCB r t)) (hg : CopF r g) (ha : PAp X es u) : PF X e (wCl g u) := by
  refine ⟨(ho ha.pa).imp fun σ H Q ⟨W, env, S, R, h⟩ => ?_, monoCl hg.mono ha.mono⟩
  refine ⟨W, env, S, R, ha.mono _ _ _ (fun ds h1 xs H1 k1 t1 => ?_) h⟩
  exact hg.to W S H1 xs ds Q _ (R.cn.kept k1) t1 h1 fun p vs es H' hG k3 hn hp r3 => hG p vs es H' rfl (k1.trans k3) (k1.none_of R.j hn) hp r3
theorem CopF.cop {r : List V → Hp → VK → Prop} {g : GN} (h : CopF r g) : Cop r g := ⟨fun W S H xs ds Q G c t q k => h.to W S H xs ds Q G c t q fun p vs es H' hG kp hn hp r =>
  k _ _ _ hG kp (.lst hp (c.np hn) (r.less fun _ s => .inl s)), h.mono⟩

/-- len -/
def gLen : GN := fun ds Q => match ds with
  | [.list xs] => Q (.int xs.length)
  | [.tuple xs] => Q (.int xs.length)
  | _ => False
theorem copLen (K : PySem.W.Frag) : Cop (fun xs H Q => ∃ p ys, xs = [.ref p] ∧ (SqL K H p ys ∨ SqT K H p ys) ∧ Q (.int ys.length) H) gLen := ⟨fun W S H xs ds Q G c t q k => by
    unfold gLen at q
    split at q
    · cases t with
      | cons t t' =>
        cases t'
        obtain ⟨a, vs, rfl, ha, r⟩ := t.list
        exact ⟨a, vs, rfl, .inl (.inl (.inl ha)), by rw [r.length]; exact k _ _ H q (.refl c.j) (.int _)⟩
    · cases t with
      | cons t t' =>
        cases t'
        obtain ⟨a, vs, rfl, ha, _, r⟩ := t.tuple
        exact ⟨a, vs, rfl, .inr (.inl (.inl ha)), by rw [r.length]; exact k _ _ H q (.refl c.j) (.int _)⟩
    · exact q.elim, fun ds G G' f q => by
    unfold gLen at q ⊢
    split at q
    · exact f _ q
    · exact f _ q
    · exact q.elim⟩
/-- list(x), tuple(x) -/
def gListOf : GN := fun ds Q => match ds with
  | [.list xs] => Q (.list xs)
  | [.tuple xs] => Q (.list xs)
  | _ => False
theorem copListOf (K : PySem.W.Frag) : CopF (fun xs H Q => ∃ p ys, xs = [.ref p] ∧ (SqL K H p ys ∨ SqT K H p ys) ∧ ∀ l, H l = none → Q (.ref l) (upd H l (.lst ys))) gListOf := ⟨fun W S H xs ds Q G c t q k => by
    unfold gListOf at q
    split at q
    · cases t with
      | cons t t' =>
        cases t'
        obtain ⟨a, vs, rfl, ha, r⟩ := t.list
        exact ⟨a, vs, rfl, .inl (.inl (.inl ha)), fun l hl => k l vs _ _ q (.new c.j hl) hl upd_same (r.plus hl)⟩
    · cases t with
      | cons t t' =>
        cases t'
        obtain ⟨a, vs, rfl, ha, _, r⟩ := t.tuple
        exact ⟨a, vs, rfl, .inr (.inl (.inl ha)), fun l hl => k l vs _ _ q (.new c.j hl) hl upd_same (r.plus hl)⟩
    · exact q.elim, fun ds G G' f q => by
    unfold gListOf at q ⊢
    split at q
    · exact f _ q
    · exact f _ q
    · exact q.elim⟩
def gTupOf : GN := fun ds Q => match ds with
  | [.list xs] => Q (.tuple xs)
  | [.tuple xs] => Q (.tuple xs)
  | _ => False
theorem copTupOf (K : PySem.W.Frag) : Cop (fun xs H Q => ∃ p ys, xs = [.ref p] ∧ ((SqL K H p ys ∧ ∀ l, H l = none → Q (.ref l) (upd H l (.tup ys))) ∨ (SqT K H p ys ∧ Q (.ref p) H))) gTupOf := ⟨fun W S H xs ds Q G c t q k => by
    unfold gTupOf at q
    split at q
    · cases t with
      | cons t t' =>
        cases t'
        obtain ⟨a, vs, rfl, ha, r⟩ := t.list
        exact ⟨a, vs, rfl, .inl ⟨.inl (.inl ha), fun l hl => k _ _ _ q (.new c.j hl) (.tup upd_same (c.np hl) ((r.plus hl).less fun _ s => .inl s))⟩⟩
    · cases t with
      | cons t t' =>
        cases t'
        obtain ⟨a, vs, rfl, ha, na, r⟩ := t.tuple
        exact ⟨a, vs, rfl, .inr ⟨.inl (.inl ha), k _ _ H q (.refl c.j) (.tup ha na r)⟩⟩
    · exact q.elim, fun ds G G' f q => by
    unfold gTupOf at q ⊢
    split at q
    · exact f _ q
    · exact f _ q
    · exact q.elim⟩
/-- abs, int, bool -/
def gAbs : GN := fun ds Q => match ds with
  | [.int i] => Q (.int (if i < 0 then -i else i))
  | _ => False
theorem copAbs : Cop (fun xs H Q => ∃ i, xs = [.int i] ∧ Q (.int (if i < 0 then -i else i)) H) gAbs := ⟨fun W S H xs ds Q G c t q k => by
    unfold gAbs at q
    split at q
    · cases t with
      | cons t t' =>
        cases t'
        cases t.int
        exact ⟨_, rfl, k _ _ H q (.refl c.j) (.int _)⟩
    · exact q.elim, fun ds G G' f q => by
    unfold gAbs at q ⊢
    split at q
    · exact f _ q
    · exact q.elim⟩
def gInt : GN := fun ds Q => match ds with
  | [.int i] => Q (.int i)
  | [.bool b] => Q (.int (if b then 1 else 0))
  | _ => False
theorem copInt : Cop (fun xs H Q => (∃ i, xs = [.int i] ∧ Q (.int i) H) ∨ ∃ k, xs = [.bl k] ∧ Q (.int (if k then 1 else 0)) H) gInt := ⟨fun W S H xs ds Q G c t q k => by
    unfold gInt at q
    split at q
    · cases t with
      | cons t t' =>
        cases t'
        cases t.int
        exact .inl ⟨_, rfl, k _ _ H q (.refl c.j) (.int _)⟩
    · cases t with
      | cons t t' =>
        cases t'
        cases t.bl
        exact .inr ⟨_, rfl, k _ _ H q (.refl c.j) (.int _)⟩
    · exact q.elim, fun ds G G' f q => by
    unfold gInt at q ⊢
    split at q
    · exact f _ q
    · exact f _ q
    · exact q.elim⟩
/-- max(i, j), min(i, j) -/
def gMax2 : GN := fun ds Q => match ds with
  | [.int i, .int j] => Q (.int (if j > i then j else i))
  | _ => False
def gMin2 : GN := fun ds Q => match ds with
  | [.int i, .int j] => Q (.int (if j < i then j else i))
  | _ => False
theorem copMax2 : Cop (fun xs H Q => ∃ i j, xs = [.int i, .int j] ∧ Q (.int (if j > i then j else i)) H) gMax2 := ⟨fun W S H xs ds Q G c t q k => by
    unfold gMax2 at q
    split at q
    · cases t with
      | cons t t' =>
        cases t' with
        | cons u u' =>
          cases u'
          cases t.int
          cases u.int
          exact ⟨_, _, rfl, k _ _ H q (.refl c.j) (.int _)⟩
    · exact q.elim, fun ds G G' f q => by
    unfold gMax2 at q ⊢
    split at q
    · exact f _ q
    · exact q.elim⟩
theorem copMin2 : Cop (fun xs H Q => ∃ i j, xs = [.int i, .int j] ∧ Q (.int (if j < i then j else i)) H) gMin2 := ⟨fun W S H xs ds Q G c t q k => by
    unfold gMin2 at q
    split at q
    · cases t with
      | cons t t' =>
        cases t' with
        | cons u u' =>
          cases u'
          cases t.int
          cases u.int
          exact ⟨_, _, rfl, k _ _ H q (.refl c.j) (.int _)⟩
    · exact q.elim, fun ds G G' f q => by
    unfold gMin2 at q ⊢
    split at q
    · exact f _ q
    · exact q.elim⟩
def gGcd : GN := fun ds Q => match ds with
  | [.int i, .int j] => Q (.int ((Nat.gcd i.natAbs j.natAbs : Nat) : Int))
  | _ => False
theorem copGcd : Cop rGcd gGcd := ⟨fun W S H xs ds Q G c t q k => by
    unfold gGcd at q
    split at q
    · cases t with
      | cons t t' =>
        cases t' with
        | cons u u' =>
          cases u'
          cases t.int
          cases u.int
          exact ⟨_, _, rfl, k _ _ H q (.refl c.j) (.int _)⟩
    · exact q.elim, fun ds G G' f q => by
    unfold gGcd at q ⊢
    split at q
    · exact f _ q
    · exact q.elim⟩
/-- the ints, the bools of data -/
def intsOf : List D → Option (List Int)
  | [] => some []
  | .int i :: r => (intsOf r).map (i :: ·)
  | _ :: _ => none
def boolsOf : List D → Option (List Bool)
  | [] => some []
  | .bool i :: r => (boolsOf r).map (i :: ·)
  | _ :: _ => none
omit [Tabs] in
theorem intsOf_map : ∀ ns : List Int, intsOf (ns.map .int) = some ns
  | [] => rfl
  | n :: ns => by
    show (intsOf (ns.map .int)).map (n :: ·) = _
    rw [intsOf_map ns]; rfl
omit [Tabs] in
theorem boolsOf_map : ∀ ns : List Bool, boolsOf (ns.map .bool) = some ns
  | [] => rfl
  | n :: ns => by
    show (boolsOf (ns.map .bool)).map (n :: ·) = _
    rw [boolsOf_map ns]; rfl
theorem ints_rp {W : Wd} {S : Addr → Prop} {H : Hp} : ∀ {vs : List V} {ds : List D} {ns : List Int}, RpAll W.T H S vs ds → intsOf ds = some ns → vs = ns.map V.int
  | _, _, ns, .nil, h => by cases (show some [] = some ns from h); rfl
  | _, _, ns, .cons (d := d) (ds := ds) a t, h => by
    cases d with
    | int i =>
      cases a
      cases e : intsOf ds with
      | none =>
        have h' : (intsOf ds).map (i :: ·) = some ns := h
        rw [e] at h'; cases h'
      | some ms =>
        have h' : (intsOf ds).map (i :: ·) = some ns := h
        rw [e] at h'
        have h2 : i :: ms = ns := Option.some.inj h'
        rw [← h2, ints_rp t e]; rfl
    | _ => cases h
theorem bools_rp {W : Wd} {S : Addr → Prop} {H : Hp} : ∀ {vs : List V} {ds : List D} {ns : List Bool}, RpAll W.T H S vs ds → boolsOf ds = some ns → vs = ns.map V.bl
  | _, _, ns, .nil, h => by cases (show some [] = some ns from h); rfl
  | _, _, ns, .cons (d := d) (ds := ds) a t, h => by
    cases d with
    | bool i =>
      cases a
      cases e : boolsOf ds with
      | none =>
        have h' : (boolsOf ds).map (i :: ·) = some ns := h
        rw [e] at h'; cases h'
      | some ms =>
        have h' : (boolsOf ds).map (i :: ·) = some ns := h
        rw [e] at h'
        have h2 : i :: ms = ns := Option.some.inj h'
        rw [← h2, bools_rp t e]; rfl
    | _ => cases h
/-- sum, max, min, any, all of a list -/
def gInts (f : List Int → (D → Prop) → Prop) : GN := fun ds Q => match ds with
  | [.list xs] => match intsOf xs with
    | some ns => f ns Q
    | none => False
  | [.tuple xs] => match intsOf xs with
    | some ns => f ns Q
    | none => False
  | _ => False
omit [Tabs] in
theorem monoInts {f : List Int → (D → Prop) → Prop} (hf : ∀ ns G G', (∀ d, G d → G' d) → f ns G → f ns G') : ∀ ds G G', (∀ d, G d → G' d) → gInts f ds G → gInts f ds G' := fun ds G G' m q => by
  unfold gInts at q ⊢
  split at q
  · split at q
    · rename_i h; simp only [h] at *; exact hf _ _ _ m q
    · exact q.elim
  · split at q
    · rename_i h; simp only [h] at *; exact hf _ _ _ m q
    · exact q.elim
  · exact q.elim
theorem ints_list {W : Wd} {S : Addr → Prop} {H : Hp} {xs : List V} {ds : List D} {f : List Int → (D → Prop) → Prop} {G : D → Prop} (K : PySem.W.Frag) (t : TopAll W H S xs ds) (q : gInts f ds G) : ∃ (a : Addr) (ns : List Int), xs = [.ref a] ∧ (SqL K H a (ns.map V.int) ∨ SqT K H a (ns.map V.int)) ∧ f ns G := by
  unfold gInts at q
  split at q
  · split at q
    · rename_i h
      cases t with
      | cons t t' =>
        cases t'
        obtain ⟨a, vs, rfl, ha, r⟩ := t.list
        exact ⟨a, _, rfl, .inl (.inl (.inl (by rw [ha, ints_rp r h]))), q⟩
    · exact q.elim
  · split at q
    · rename_i h
      cases t with
      | cons t t' =>
        cases t'
        obtain ⟨a, vs, rfl, ha, _, r⟩ := t.tuple
        exact ⟨a, _, rfl, .inr (.inl (.inl (by rw [ha, ints_rp r h]))), q⟩
    · exact q.elim
  · exact q.elim
abbrev gSum : GN := gInts fun ns Q => Q (.int ns.sum)
abbrev gMaxL : GN := gInts fun ns Q => 0 < ns.length ∧ ∀ m, m ∈ ns → (∀ y, y ∈ ns → y ≤ m) → Q (.int m)
abbrev gMinL : GN := gInts fun ns Q => 0 < ns.length ∧ ∀ m, m ∈ ns → (∀ y, y ∈ ns → m ≤ y) → Q (.int m)
theorem copSum (K : PySem.W.Frag) : Cop (rSumD K) gSum := ⟨fun W S H xs ds Q G c t q k => by
    obtain ⟨a, ns, rfl, ha, q⟩ := ints_list K t q
    exact ⟨a, ns, rfl, ha, k _ _ H q (.refl c.j) (.int _)⟩, monoInts fun ns G G' f q => f _ q⟩
theorem copMaxL (K : PySem.W.Frag) : Cop (rMaxD K) gMaxL := ⟨fun W S H xs ds Q G c t q k => by
    obtain ⟨a, ns, rfl, ha, q⟩ := ints_list K t q
    exact ⟨a, ns, rfl, ha, q.1, fun m h1 h2 => k _ _ H (q.2 m h1 h2) (.refl c.j) (.int _)⟩, monoInts fun ns G G' f q => ⟨q.1, fun m h1 h2 => f _ (q.2 m h1 h2)⟩⟩
theorem copMinL (K : PySem.W.Frag) : Cop (rMinD K) gMinL := ⟨fun W S H xs ds Q G c t q k => by
    obtain ⟨a, ns, rfl, ha, q⟩ := ints_list K t q
    exact ⟨a, ns, rfl, ha, q.1, fun m h1 h2 => k _ _ H (q.2 m h1 h2) (.refl c.j) (.int _)⟩, monoInts fun ns G G' f q => ⟨q.1, fun m h1 h2 => f _ (q.2 m h1 h2)⟩⟩
def gBools (f : List Bool → Bool) : GN := fun ds Q => match ds with
  | [.list xs] => match boolsOf xs with
    | some ns => Q (.bool (f ns))
    | none => False
  | _ => False
theorem copBools (K : PySem.W.Frag) (f : List Bool → Bool) : Cop (fun vs H Q => ∃ (a : Addr) (bs : List Bool), vs = [V.ref a] ∧ SqL K H a (bs.map V.bl) ∧ Q (.bl (f bs)) H) (gBools f) := ⟨fun W S H xs ds Q G c t q k => by
    unfold gBools at q
    split at q
    · split at q
      · rename_i h
        cases t with
        | cons t t' =>
          cases t'
          obtain ⟨a, vs, rfl, ha, r⟩ := t.list
          exact ⟨a, _, rfl, .inl (.inl (by rw [ha, bools_rp r h])), k _ _ H q (.refl c.j) (.bl _)⟩
      · exact q.elim
    · exact q.elim, fun ds G G' m q => by
    unfold gBools at q ⊢
    split at q
    · split at q
      · rename_i h; simp only [h] at *; exact m _ q
      · exact q.elim
    · exact q.elim⟩
end
end Eg

/-! E4: what is walked, targets, comprehensions. -/
namespace Eg
open PySem PySem.Spec PyProof.Rows L2
variable [Tabs]

/-! ### what is walked -/
abbrev WI := En → (List D → Prop) → Prop
/-- the iterator J gives the data ds, as long as the values hv can be read -/
def Src (W : Wd) (J : It) (ds : List D) (hv : List (V × D)) : Prop := ∀ (H : Hp) (S : Addr → Prop), Cn W S H → (∀ p ∈ hv, Top W H S p.1 p.2) → ∀ i,
  (∀ d, ds[i]? = some d → J.go i H ∧ ∀ x H', J.yld i H x H' → KpJ W H H' ∧ Rp W.T H' S x d) ∧ (ds.length ≤ i → J.stop i H)
def tI (w : WI) : TI := fun σ H R => ∃ W env S, RlS W env S σ H ∧ w env fun ds => ∀ J H' hv, KpJ W H H' → (∀ p ∈ hv, Rp W.T H' S p.1 p.2) → Src W J ds hv → R J H'
def tIP (w : WI) : TI := fun σ H R => ∃ W env S, RlS W env S σ H ∧ w env fun ds => ∀ J H' hv, KpJ W H H' → (∀ p ∈ hv, Top W H' S p.1 p.2) → Src W J ds hv → R J H'
structure PIv (X : Cx) (tg e : Expr) (w : WI) : Prop where
  pi : PI X tg e (tI w)
  mono : MonoA w
structure PIp (X : Cx) (tg e : Expr) (w : WI) : Prop where
  pi : PI X tg e (tIP w)
  mono : MonoA w
omit [Tabs] in
theorem _root_.L2.PI.imp {X : Cx} {tg e : Expr} {t t' : TI} (h : PI X tg e t) (m : ∀ σ H Q, t' σ H Q → t σ H Q) : PI X tg e t' := ⟨fun pins s σ H Q I q => h.run pins s σ H Q I (m σ H Q q)⟩
theorem PIv.pp {X : Cx} {tg e : Expr} {w : WI} (h : PIv X tg e w) : PIp X tg e w := ⟨h.pi.imp fun σ H R ⟨W, env, S, r, q⟩ => ⟨W, env, S, r, h.mono _ _ _ (fun ds f J H' hv k t s => f J H' hv k (fun p hp => .inl (t p hp)) s) q⟩, h.mono⟩

section
variable {X : Cx} {tg e a b c : Expr} {es : List Expr} {w wa wb : WE} {u : WA} {pos : Pos}

/-- a list or a tuple -/
def iLT (K : PySem.W.Frag) (tl : TE) : TI := fun σ H R => tl σ H fun x H1 => ∃ a, x = .ref a ∧ ((∃ xs, SqL K H1 a xs ∧ (xs.length ≤ sizeLine → R (Itl K a) H1)) ∨ (∃ xs, SqT K H1 a xs ∧ (xs.length ≤ sizeLine → R (Itt K a) H1)))
omit [Tabs] in
theorem pi_lt {l : Expr} {tl : TE} (hl : PE X l tl) : PI X tg l (iLT X.K tl) := by
  refine ⟨fun pins s σ H R I h => ?_⟩
  refine thn (hl.run pins s σ H _ I h) fun v s1 ⟨x, H1, I1, r1, q1⟩ => ?_
  obtain ⟨a, e, q⟩ := q1
  subst e
  cases r1
  rcases q with ⟨xs, hq, q⟩ | ⟨xs, hq, q⟩
  · obtain ⟨its, rv, p, hz⟩ := I1.list hq
    refine wpAny_pyIter_list p.isList ?_
    refine ⟨s1.heap.objs.size, [s1.heap.objs.size], _, _, H1, rfl, I1.kept (t' := s1.toks) fun b o e => Heap.get?_push_of_some _ e, turn_list a _, ⟨_, Heap.get?_push_size _ rfl, rfl, rfl⟩, fun b hb => ?_, q hz⟩
    have e : b = s1.heap.objs.size := by simpa using hb
    subst e
    exact I1.fpOk (Nat.le_refl _) (I1.hok.fresh (Nat.le_refl _))
  · obtain ⟨its, rv, p, hz⟩ := I1.tuple hq
    refine wpAny_pyIter_tuple (show s1.heap.IsTuple a its.toArray from p) ?_
    refine ⟨s1.heap.objs.size, [s1.heap.objs.size], _, _, H1, rfl, I1.kept (t' := s1.toks) fun b o e => Heap.get?_push_of_some _ e, turn_tuple a _, ⟨_, Heap.get?_push_size _ rfl, rfl, rfl⟩, fun b hb => ?_, q hz⟩
    have e : b = s1.heap.objs.size := by simpa using hb
    subst e
    exact I1.fpOk (Nat.le_refl _) (I1.hok.fresh (Nat.le_refl _))

theorem src_list {W : Wd} {K : PySem.W.Frag} {a : Addr} {ds : List D} : Src W (Itl K a) ds [(.ref a, .list ds)] := fun H S c t i => by
  obtain ⟨a', vs, e, h, r⟩ := (t _ (List.mem_singleton.mpr rfl)).list
  have e' : a = a' := V.ref.inj e
  subst e'
  have hS : SqL K H a vs := .inl (.inl h)
  refine ⟨fun d hd => ?_, fun hl => ⟨vs, hS, by rw [r.length]; exact hl⟩⟩
  obtain ⟨v, hv, rv⟩ := r.get hd
  refine ⟨⟨vs, v, hS, hv⟩, fun x H' hy => ?_⟩
  obtain ⟨rfl, hy⟩ := hy
  have ex : v = x := Option.some.inj (hv.symm.trans (hy vs hS))
  subst ex
  exact ⟨.refl c.j, rv⟩
theorem src_tup {W : Wd} {K : PySem.W.Frag} {a : Addr} {ds : List D} : Src W (Itt K a) ds [(.ref a, .tuple ds)] := fun H S c t i => by
  obtain ⟨a', vs, e, h, _, r⟩ := (t _ (List.mem_singleton.mpr rfl)).tuple
  have e' : a = a' := V.ref.inj e
  subst e'
  have hS : SqT K H a vs := .inl (.inl h)
  refine ⟨fun d hd => ?_, fun hl => ⟨vs, hS, by rw [r.length]; exact hl⟩⟩
  obtain ⟨v, hv, rv⟩ := r.get hd
  refine ⟨⟨vs, v, hS, hv⟩, fun x H' hy => ?_⟩
  obtain ⟨rfl, hy⟩ := hy
  have ex : v = x := Option.some.inj (hv.symm.trans (hy vs hS))
  subst ex
  exact ⟨.refl c.j, rv⟩
def wIt (w : WE) : WI := fun env Q => w env fun d => match d with
  | .list ds => ds.length ≤ sizeLine → Q ds
  | .tuple ds => ds.length ≤ sizeLine → Q ds
  | _ => False
omit [Tabs] in
theorem monoIt (h : Mono w) : MonoA (wIt w) := fun env Q Q' f q => h _ _ _ (fun d q => by
  cases d <;> first | exact q.elim | exact fun l => f _ (q l)) q
theorem it_ (h : PV X e w) : PIv X tg e (wIt w) := by
  refine ⟨(pi_lt h.pe).imp fun σ H R ⟨W, env, S, r, q⟩ => ?_, monoIt h.mono⟩
  refine ⟨W, env, S, r, h.mono _ _ _ (fun d q v H1 k t => ?_) q⟩
  cases d with
  | list ds =>
    cases t with
    | lst ha na ra =>
      refine ⟨_, rfl, .inl ⟨_, .inl (.inl ha), fun hz => q (by rw [← ra.length]; exact hz) _ H1 _ k (fun p hp => ?_) src_list⟩⟩
      rw [List.mem_singleton.mp hp]
      exact .lst ha na ra
  | tuple ds =>
    cases t with
    | tup ha na ra =>
      refine ⟨_, rfl, .inr ⟨_, .inl (.inl ha), fun hz => q (by rw [← ra.length]; exact hz) _ H1 _ k (fun p hp => ?_) src_tup⟩⟩
      rw [List.mem_singleton.mp hp]
      exact .tup ha na ra
  | _ => exact q.elim
theorem itp_ (h : PP X e w) : PIp X tg e (wIt w) := by
  refine ⟨(pi_lt h.pe).imp fun σ H R ⟨W, env, S, r, q⟩ => ?_, monoIt h.mono⟩
  refine ⟨W, env, S, r, h.mono _ _ _ (fun d q v H1 k t => ?_) q⟩
  cases d with
  | list ds =>
    obtain ⟨a, vs, rfl, ha, ra⟩ := t.list
    refine ⟨_, rfl, .inl ⟨_, .inl (.inl ha), fun hz => q (by rw [← ra.length]; exact hz) _ H1 _ k (fun p hp => ?_) src_list⟩⟩
    rw [List.mem_singleton.mp hp]
    exact t
  | tuple ds =>
    obtain ⟨a, vs, rfl, ha, _, ra⟩ := t.tuple
    refine ⟨_, rfl, .inr ⟨_, .inl (.inl ha), fun hz => q (by rw [← ra.length]; exact hz) _ H1 _ k (fun p hp => ?_) src_tup⟩⟩
    rw [List.mem_singleton.mp hp]
    exact t
  | _ => exact q.elim
/-- range(..) -/
def rangeD (lo : Int) (n : Nat) : List D := (List.range n).map fun k => .int (lo + (k : Nat))
omit [Tabs] in
theorem rangeD_length {lo : Int} {n : Nat} : (rangeD lo n).length = n := by unfold rangeD; simp
theorem src_range {W : Wd} {lo : Int} {n : Nat} : Src W (Itr lo n) (rangeD lo n) [] := fun H S c t i => by
  refine ⟨fun d hd => ?_, fun hl => by rw [rangeD_length] at hl; exact hl⟩
  unfold rangeD at hd
  rw [List.getElem?_map] at hd
  by_cases hi : i < n
  · rw [List.getElem?_range hi] at hd
    have e : PyData.int (lo + (i : Nat)) = d := Option.some.inj hd
    subst e
    exact ⟨hi, fun x H' hy => by obtain ⟨rfl, rfl⟩ := hy; exact ⟨.refl c.j, .int _⟩⟩
  · rw [List.getElem?_eq_none (by simp; omega)] at hd; cases hd
theorem src_rangeC {W : Wd} {lo c' : Int} {n : Nat} : Src W (Itc lo c' n) ((List.range n).map fun k => .int (lo + (k : Nat) * c')) [] := fun H S c t i => by
  refine ⟨fun d hd => ?_, fun hl => by simp at hl; exact hl⟩
  rw [List.getElem?_map] at hd
  by_cases hi : i < n
  · rw [List.getElem?_range hi] at hd
    have e : PyData.int (lo + (i : Nat) * c') = d := Option.some.inj hd
    subst e
    exact ⟨hi, fun x H' hy => by obtain ⟨rfl, rfl⟩ := hy; exact ⟨.refl c.j, .int _⟩⟩
  · rw [List.getElem?_eq_none (by simp; omega)] at hd; cases hd

def wRng1 (u : WA) : WI := fun env Q => u env fun ds => match ds with
  | [.int j] => (-(2 ^ 62) ≤ j ∧ j < 2 ^ 62) ∧ Q (rangeD 0 j.toNat)
  | _ => False
def wRng2 (u : WA) : WI := fun env Q => u env fun ds => match ds with
  | [.int i, .int j] => (-(2 ^ 62) ≤ i ∧ i < 2 ^ 62 ∧ -(2 ^ 62) ≤ j ∧ j < 2 ^ 62) ∧ Q (rangeD i (j - i).toNat)
  | _ => False
def wRng3 (u : WA) : WI := fun env Q => u env fun ds => match ds with
  | [.int i, .int j, .int c] => c = -1 ∧ (-(2 ^ 62) ≤ i ∧ i < 2 ^ 62 ∧ -(2 ^ 62) ≤ j ∧ j < 2 ^ 62) ∧ Q ((List.range (i - j).toNat).map fun k => .int (i + (k : Nat) * (-1)))
  | _ => False
theorem range1_ {p : Pos} (hg : Gl X "range") (hm : X.mg "range" = none) (ha : PAp X [a] u) (hs : starEach [a] X.env = [(false, eval a X.env)] := by rfl) : PIv X tg (.Call (.Name "range" p) [a] [] pos) (wRng1 u) := by
  refine ⟨(pi_range1 hg hm ha.pa hs).imp fun σ H R ⟨W, env, S, r, q⟩ => ?_, fun env Q Q' f q => ha.mono _ _ _ (fun ds q => by
    split at q
    · exact ⟨q.1, f _ q.2⟩
    · exact q.elim) q⟩
  refine ⟨W, env, S, r, ha.mono _ _ _ (fun ds q vs H1 k t => ?_) q⟩
  split at q
  · cases t with
    | cons t t' =>
      cases t'
      cases t.int
      exact ⟨_, rfl, q.1.1, q.1.2, q.2 _ H1 [] k (fun _ z => nomatch z) src_range⟩
  · exact q.elim
theorem range2_ {p : Pos} (hg : Gl X "range") (hm : X.mg "range" = none) (ha : PAp X [a, b] u) (hs : starEach [a, b] X.env = [(false, eval a X.env), (false, eval b X.env)] := by rfl) (hs2 : starEach [b] X.env = [(false, eval b X.env)] := by rfl) : PIv X tg (.Call (.Name "range" p) [a, b] [] pos) (wRng2 u) := by
  refine ⟨(pi_range2 hg hm ha.pa hs hs2).imp fun σ H R ⟨W, env, S, r, q⟩ => ?_, fun env Q Q' f q => ha.mono _ _ _ (fun ds q => by
    split at q
    · exact ⟨q.1, f _ q.2⟩
    · exact q.elim) q⟩
  refine ⟨W, env, S, r, ha.mono _ _ _ (fun ds q vs H1 k t => ?_) q⟩
  split at q
  · cases t with
    | cons t t' =>
      cases t' with
      | cons t2 t' =>
        cases t'
        cases t.int
        cases t2.int
        exact ⟨_, _, rfl, q.1, q.2 _ H1 [] k (fun _ z => nomatch z) src_range⟩
  · exact q.elim
theorem range3_ {p : Pos} (hg : Gl X "range") (hm : X.mg "range" = none) (ha : PAp X [a, b, c] u) (hs : starEach [a, b, c] X.env = (false, eval a X.env) :: starEach [b, c] X.env := by rfl) (hpl : (backTo pos (starEach [b, c] X.env)).any (·.1) = false := by rfl) : PIv X tg (.Call (.Name "range" p) [a, b, c] [] pos) (wRng3 u) := by
  refine ⟨(pi_range3 hg hm ha.pa hs hpl).imp fun σ H R ⟨W, env, S, r, q⟩ => ?_, fun env Q Q' f q => ha.mono _ _ _ (fun ds q => by
    split at q
    · exact ⟨q.1, q.2.1, f _ q.2.2⟩
    · exact q.elim) q⟩
  refine ⟨W, env, S, r, ha.mono _ _ _ (fun ds q vs H1 k t => ?_) q⟩
  split at q
  · cases t with
    | cons t t' =>
      cases t' with
      | cons t2 t' =>
        cases t' with
        | cons t3 t' =>
          cases t'
          cases t.int
          cases t2.int
          cases t3.int
          obtain ⟨rfl, ⟨q1, q2, q3, q4⟩, q5⟩ := q
          exact ⟨_, _, _, _, rfl, RgC.neg q1 q2 q3 q4, q5 _ H1 [] k (fun _ z => nomatch z) src_rangeC⟩
  · exact q.elim

/-! ### targets -/
abbrev WG := D → En → (En → Prop) → Prop
def MonoG (w : WG) : Prop := ∀ d env Q Q', (∀ e, Q e → Q' e) → w d env Q → w d env Q'
/-- sl: the slots that it stores -/
def tG (w : WG) (sl : List Nat) : TG := fun v σ H Q => ∃ W env S d, RlS W env S σ H ∧ Rp W.T H S v d ∧ w d env fun env' => ∀ σ', RlS W env' S σ' H → (∀ vs, (∀ i ∈ sl, i ∈ vs) → wipe σ' vs = wipe σ vs) → Q σ' H
structure PGv (X : Cx) (tg : Expr) (w : WG) (sl : List Nat) : Prop where
  pg : PG X tg (tG w sl)
  mono : MonoG w
omit [Tabs] in
theorem _root_.L2.PG.imp {X : Cx} {tg : Expr} {t t' : TG} (h : PG X tg t) (m : ∀ v σ H Q, t' v σ H Q → t v σ H Q) : PG X tg t' := ⟨fun pins s σ H v u Q I r q => h.run pins s σ H v u Q I r (m v σ H Q q)⟩
omit [Tabs] in
theorem wipe_set {σ : L2.St} {i : Nat} {x : Option V} : ∀ {vs : List Nat}, i ∈ vs → wipe (σ.set i x) vs = wipe σ vs
  | [], h => by cases h
  | v :: vs, h => by
    show (wipe (σ.set i x) vs).set v none = (wipe σ vs).set v none
    by_cases hi : i ∈ vs
    · rw [wipe_set hi]
    · have e : i = v := by
        rcases List.mem_cons.mp h with e | e
        · exact e
        · exact absurd e hi
      subst e
      have q : ∀ ws : List Nat, i ∉ ws → wipe (σ.set i x) ws = (wipe σ ws).set i x := by
        intro ws
        induction ws with
        | nil => intro _; rfl
        | cons w ws ih =>
          intro hw
          have h1 : i ≠ w := fun z => hw (by rw [z]; exact List.mem_cons_self)
          have h2 : i ∉ ws := fun z => hw (List.mem_cons_of_mem _ z)
          show (wipe (σ.set i x) ws).set w none = ((wipe σ ws).set w none).set i x
          rw [ih h2, List.set_comm _ _ h1]
      rw [q vs hi, List.set_set]
omit [Tabs] in
theorem wipe_wipe {σ : L2.St} : ∀ {us vs : List Nat}, (∀ i ∈ us, i ∈ vs) → wipe (wipe σ us) vs = wipe σ vs
  | [], _, _ => rfl
  | u :: us, vs, h => by
    show wipe ((wipe σ us).set u none) vs = _
    rw [wipe_set (h u List.mem_cons_self), wipe_wipe fun i hi => h i (List.mem_cons_of_mem _ hi)]
def wGn (i : Nat) : WG := fun d env Q => Q (env.set i (.sh d))
theorem gn_ (i : Nat) {x : Str} (hN : X.N.Nodup) (hi : X.N[i]? = some x := by rfl) (hx : Loc X.env.scope x := by first | exact Or.inl rfl | exact Or.inr rfl) (hf : X.fn x = true ∨ X.env.scope.names.lookup x = some .local := by first | exact .inl rfl | exact .inr rfl | assumption) :
    PGv X (.Name x pos) (wGn i) [i] :=
  ⟨(pg_name hN hi hx hf).imp fun v σ H Q ⟨W, env, S, d, R, r, q⟩ => q _ (R.setSh r) fun vs h => wipe_set (h i List.mem_cons_self), fun d env Q Q' f q => f _ q⟩
/-- several, one after another -/
abbrev WGs := List D → En → (En → Prop) → Prop
def tGs (w : WGs) (sl : List Nat) : TGs := fun vs σ H Q => ∃ W env S ds, RlS W env S σ H ∧ RpAll W.T H S vs ds ∧ w ds env fun env' => ∀ σ', RlS W env' S σ' H → (∀ vs, (∀ i ∈ sl, i ∈ vs) → wipe σ' vs = wipe σ vs) → Q σ' H
structure PGsv (X : Cx) (tg : List Expr) (w : WGs) (sl : List Nat) : Prop where
  pg : PGs X tg (tGs w sl)
  mono : ∀ d env Q Q', (∀ e, Q e → Q' e) → w d env Q → w d env Q'
omit [Tabs] in
theorem _root_.L2.PGs.imp {X : Cx} {tg : List Expr} {t t' : TGs} (h : PGs X tg t) (m : ∀ v σ H Q, t' v σ H Q → t v σ H Q) : PGs X tg t' := ⟨fun pins s σ H v u Q I r q => h.run pins s σ H v u Q I r (m v σ H Q q)⟩
def wGnil : WGs := fun ds env Q => ds = [] ∧ Q env
def wGcons (g : WG) (gs : WGs) : WGs := fun ds env Q => match ds with
  | d :: r => g d env fun env' => gs r env' Q
  | [] => False
theorem gnil_ : PGsv X [] wGnil [] := ⟨pgs_nil.imp fun vs σ H Q ⟨W, env, S, ds, R, r, q⟩ => by
  obtain ⟨rfl, q⟩ := q
  cases r
  exact ⟨rfl, q σ R fun _ _ => rfl⟩, fun d env Q Q' f q => ⟨q.1, f _ q.2⟩⟩
theorem gcons_ {g : WG} {gs : WGs} {sl sl' : List Nat} (h : PGv X e g sl) (h' : PGsv X es gs sl') (hs : (assignEach (e :: es) X.env).map (·.2) = assign e X.env :: (assignEach es X.env).map (·.2) := by rfl) : PGsv X (e :: es) (wGcons g gs) (sl ++ sl') := by
  refine ⟨(pgs_cons h.pg h'.pg hs).imp fun vs σ H Q ⟨W, env, S, ds, R, r, q⟩ => ?_, fun d env Q Q' f q => ?_⟩
  · cases r with
    | nil => exact q.elim
    | cons r r' =>
      refine ⟨_, _, rfl, W, env, S, _, R, r, h.mono _ _ _ _ (fun env1 q1 σ1 R1 hw1 => ?_) q⟩
      exact ⟨W, env1, S, _, R1, r', h'.mono _ _ _ _ (fun env2 q2 σ2 R2 hw2 => q2 σ2 R2 fun vs hv => (hw2 vs fun i hi => hv i (List.mem_append_right _ hi)).trans (hw1 vs fun i hi => hv i (List.mem_append_left _ hi))) q1⟩
  · cases d with
    | nil => exact q.elim
    | cons d r => exact h.mono _ _ _ _ (fun e q => h'.mono _ _ _ _ f q) q
omit [Tabs] in
theorem draw_list {prog : Program} {w : World} {A : Around} {E : Value → Shared → Prop} {it t : Addr} {items : Array Value} (hne : t ≠ it) : ∀ (n i : Nat) (s : Shared) (Q : List Value → Shared → Prop), s.heap.IsListIter it t i → s.heap.IsList t items → i + n ≤ items.size →
    (∀ h', Heap.IsListIter h' it t (i + n) → Heap.SameBut it s.heap h' → Q ((items.toList.drop i).take n) { s with heap := h' }) → wpAny (model prog w) A (draw (.ref it) n) Q E s
  | 0, i, s, Q, hit, _, _, hQ => by
    show wpAny _ _ (pure []) Q E s
    exact wpAny_pure (by simpa using hQ s.heap hit (Heap.SameBut.refl ..))
  | n + 1, i, s, Q, hit, ht, hle, hQ => by
    have hlt : i < items.size := by omega
    show wpAny _ _ (pyNext (.ref it) >>= _) Q E s
    refine wpAny_bind (wpAny_pyNext_list_item hit ht (x := items[i]) (by simp [hlt]) fun h₁ hit₁ hs₁ => ?_)
    refine wpAny_bind (wpAny_holding (draw_list hne n (i + 1) _ _ hit₁ (ht.extBut hs₁.extBut hne) (by omega) fun h₂ hit₂ hs₂ => wpAny_pure ?_))
    have hd : items.toList.drop i = items[i] :: items.toList.drop (i + 1) := by simp [List.drop_eq_getElem_cons, hlt]
    have := hQ h₂ (by rw [show i + (n + 1) = i + 1 + n by omega]; exact hit₂) (hs₁.trans hs₂)
    rw [hd, List.take_succ_cons] at this
    exact this
omit [Tabs] in
theorem unpackItems_list {prog : Program} {w : World} {A : Around} {E : Value → Shared → Prop} {s : Shared} {t : Addr} {items : Array Value} {Q : List Value → Shared → Prop} (hh : A.handled = none) (ht : s.heap.IsList t items)
    (hQ : ∀ h', Heap.ExtBut s.heap.objs.size s.heap h' → Q items.toList { s with heap := h' }) : wpAny (model prog w) A (unpackItems (.ref t) items.size none) Q E s := by
  have hlt : t ≠ s.heap.objs.size := by obtain ⟨o, ho, _⟩ := ht; exact Nat.ne_of_lt (Heap.lt_size ho)
  unfold unpackItems
  refine wpAny_bind ?_
  · unfold notIterableAtAll
    refine wpAny_bind (wpAny_specialOf ht.typeIs slot_list_iter.lookup ?_)
    refine wpAny_pure ?_
    simp only [Bool.false_eq_true, if_false]
    refine wpAny_bind (wpAny_holding (wpAny_pyIter_list ht ?_))
    refine wpAny_bind (wpAny_holding (draw_list hlt items.size 0 _ _ ⟨_, Heap.get?_push_size _ rfl, rfl, rfl⟩ (ht.push _) (by omega) fun h₁ hit₁ hs₁ => ?_))
    have hall : List.take items.size (List.drop 0 items.toList) = items.toList := by
      rw [List.drop_zero]; exact List.take_of_length_le (by simp)
    rw [hall]
    rw [if_neg (by simp)]
    have ht₁ : Heap.IsList h₁ t items := (ht.push _).extBut hs₁.extBut hlt
    refine wpAny_bind (wpAny_holding (wpAny_pyNext_list_end hh hit₁ ht₁ (by simp) fun h₂ he₂ => ?_))
    simp only [Option.isSome_none, Bool.false_eq_true, if_false]
    refine wpAny_pure (hQ h₂ fun b o hb e => he₂ b o hb (hs₁.extBut b o hb (Heap.get?_push_of_some _ e)))
omit [Tabs] in
theorem assign_Tuple_list {prog : Program} {w : World} {A : Around} {E : Value → Shared → Prop} {s : Shared} {env : Env} {elts : List Expr} {x1} {pos : Pos} {t : Addr} {items : Array Value} {Q : Unit → Shared → Prop} (hh : A.handled = none) (ht : s.heap.IsList t items)
    (hn : (assignEach elts env).length = items.size) (hstar : (assignEach elts env).findIdx? (·.1) = none)
    (h : ∀ h', Heap.ExtBut s.heap.objs.size s.heap h' → wpAny (model prog w) A (assignInOrder ((assignEach elts env).map (·.2)) items.toList) Q E { s with heap := h' }) :
    wpAny (model prog w) A (assign (.Tuple elts x1 pos) env (.ref t)) Q E s := by
  rw [assign_Tuple]
  refine wpAny_bind (wpAny_standAt ?_)
  unfold unpack
  rw [hn, hstar]
  exact wpAny_bind (wpAny_holding (unpackItems_list hh ht h))
def gTupA (K : PySem.W.Frag) (n : Nat) (t : TGs) : TG := fun v σ H Q => ∃ a xs, v = .ref a ∧ (SqT K H a xs ∨ SqL K H a xs) ∧ xs.length = n ∧ t xs σ H Q
omit [Tabs] in
theorem pg_tupA {X : Cx} {pos : Pos} {es : List Expr} {k : Nat} {t : TGs} {n : Nat} (hc : X.calm = true) (h : PGs X es t)
    (hn : (assignEach es X.env).length = n := by rfl) (hst : (assignEach es X.env).findIdx? (·.1) = none := by rfl) : PG X (.Tuple es k pos) (gTupA X.K n t) := by
  refine ⟨fun pins s σ H v u Q I r hw => ?_⟩
  obtain ⟨a, xs, e1, hq, hl, hw⟩ := hw
  subst e1
  cases r
  rcases hq with hq | hq
  · obtain ⟨its, rv, ht, hz⟩ := I.tuple hq
    refine assign_Tuple_tuple (I.ok.hd hc) ht (by simp [hn, ← hl, rv.length]) hst fun h' hx => ?_
    have I1 : Inv X pins σ H { s with heap := h' } := I.kept (t' := s.toks) fun b o e => hx b o (Nat.ne_of_lt (Heap.lt_size e)) e
    exact h.run pins _ σ H xs _ Q I1 (by simpa using rv) hw
  · obtain ⟨its, rv, pl, hz⟩ := I.list hq
    refine assign_Tuple_list (I.ok.hd hc) pl.isList (by simp [hn, ← hl, rv.length]) hst fun h' hx => ?_
    have I1 : Inv X pins σ H { s with heap := h' } := I.kept (t' := s.toks) fun b o e => hx b o (Nat.ne_of_lt (Heap.lt_size e)) e
    exact h.run pins _ σ H xs _ Q I1 (by simpa using rv) hw
/-- (a, b, ..) = a tuple or a list -/
def wGt (n : Nat) (gs : WGs) : WG := fun d env Q => match d with
  | .tuple ds => ds.length = n ∧ gs ds env Q
  | .list ds => ds.length = n ∧ gs ds env Q
  | _ => False
theorem gt_ {k : Nat} {gs : WGs} {sl : List Nat} {n : Nat} (hc : X.calm = true) (h : PGsv X es gs sl) (hn : (assignEach es X.env).length = n := by rfl) (hst : (assignEach es X.env).findIdx? (·.1) = none := by rfl) : PGv X (.Tuple es k pos) (wGt n gs) sl := by
  refine ⟨(pg_tupA hc h.pg hn hst).imp fun v σ H Q ⟨W, env, S, d, R, r, q⟩ => ?_, fun d env Q Q' f q => ?_⟩
  · cases d with
    | tuple ds =>
      cases r with
      | tup ha na ra => exact ⟨_, _, rfl, .inl (.inl (.inl ha)), by rw [ra.length]; exact q.1, W, env, S, ds, R, ra, q.2⟩
    | list ds =>
      cases r with
      | lst ha na ra => exact ⟨_, _, rfl, .inr (.inl (.inl ha)), by rw [ra.length]; exact q.1, W, env, S, ds, R, ra, q.2⟩
    | _ => exact q.elim
  · cases d with
    | tuple ds => exact ⟨q.1, h.mono _ _ _ _ f q.2⟩
    | list ds => exact ⟨q.1, h.mono _ _ _ _ f q.2⟩
    | _ => exact q.elim

/-! ### comprehensions -/
def wipeE (env : En) : List Nat → En
  | [] => env
  | v :: vs => (wipeE env vs).set v .un
omit [Tabs] in
theorem wipeE_length (env : En) : ∀ vs, (wipeE env vs).length = env.length
  | [] => rfl
  | v :: vs => by
    show ((wipeE env vs).set v .un).length = _
    rw [List.length_set, wipeE_length env vs]
theorem _root_.Eg.RlS.unset {W : Wd} {env : En} {S : Addr → Prop} {σ : L2.St} {H : Hp} (r : RlS W env S σ H) (i : Nat) : RlS W (env.set i .un) S (σ.set i none) H where
  s0 := r.s0
  sm := r.sm
  sn := r.sn
  h0 := r.h0
  j := r.j
  len := by rw [List.length_set, List.length_set]; exact r.len
  sl := fun k => sl_set (W := W) (S := S) (x := .un) r.len trivial r.sl k
  ne := ne_set r.len r.ne fun a z => z.elim
  hd := r.hd
theorem RlS.wiped {W : Wd} {env : En} {S : Addr → Prop} {σ : L2.St} {H : Hp} (r : RlS W env S σ H) : ∀ vs : List Nat, RlS W (wipeE env vs) S (wipe σ vs) H
  | [] => r
  | v :: vs => (r.wiped vs).unset v
/-- tests of a clause -/
structure PTsv (X : Cx) (ifs : List Expr) (w : WT) : Prop where
  pt : PTs X ifs (tT w)
  mono : MonoT w
omit [Tabs] in
theorem _root_.L2.PTs.imp {X : Cx} {e : List Expr} {t t' : TT} (h : PTs X e t) (m : ∀ σ H Q, t' σ H Q → t σ H Q) : PTs X e t' := ⟨fun pins s σ H Q I q => h.run pins s σ H Q I (m σ H Q q)⟩
def wYes : WT := fun _ Q => Q true
theorem tn_ : PTsv X [] wYes := ⟨pts_nil.imp fun σ H Q ⟨W, env, S, R, q⟩ => q H (.refl R.j), fun _ _ _ f q => f _ q⟩
theorem t1_ {w : WT} (h : PTv X c w) : PTsv X [c] w := ⟨pts_one h.pt, h.mono⟩

/-- the turns -/
def lcGo (wg : WG) (wt : WT) (we : WE) (env : En) : List D → List D → (List D → Prop) → Prop
  | [], acc, K => K acc
  | d :: r, acc, K => wg d env fun env' => wt env' fun b => if b = true then we env' fun y => acc.length < sizeLine ∧ lcGo wg wt we env r (acc ++ [y]) K else lcGo wg wt we env r acc K
omit [Tabs] in
theorem lcGo_mono {wg : WG} {wt : WT} {we : WE} {env : En} (hg : MonoG wg) (ht : MonoT wt) (he : Mono we) : ∀ (ds acc : List D) (K K' : List D → Prop), (∀ a, K a → K' a) → lcGo wg wt we env ds acc K → lcGo wg wt we env ds acc K'
  | [], acc, K, K', f, q => f _ q
  | d :: r, acc, K, K', f, q => hg _ _ _ _ (fun env' q => ht _ _ _ (fun b q => by
    cases b with
    | true => exact he _ _ _ (fun y q => ⟨q.1, lcGo_mono hg ht he r _ K K' f q.2⟩) q
    | false => exact lcGo_mono hg ht he r _ K K' f q) q) q
def wLc (vs : List Nat) (wi : WI) (wg : WG) (wt : WT) (we : WE) : WE := fun env Q => wi env fun ds => lcGo wg wt we (wipeE env vs) ds [] fun acc => Q (.list acc)
omit [Tabs] in
theorem monoLc {vs : List Nat} {wi : WI} {wg : WG} {wt : WT} {we : WE} (hi : MonoA wi) (hg : MonoG wg) (ht : MonoT wt) (he : Mono we) : Mono (wLc vs wi wg wt we) := fun env Q Q' f q =>
  hi _ _ _ (fun ds q => lcGo_mono hg ht he ds [] _ _ (fun acc q => f _ q) q) q
/-- the turns in the heap -/
theorem lc_turns {W : Wd} {vs sl : List Nat} {wg : WG} {wt : WT} {we : WE} {env : En} {S : Addr → Prop} {σ : L2.St} {H1 : Hp} {p : Addr} {J : It} {ds : List D} {hv : List (V × D)} {Qd : Hp → Prop} {K : List D → Prop}
    (hg : MonoG wg) (ht : MonoT wt) (he : Mono we) (hsl : ∀ i ∈ sl, i ∈ vs) (R : RlS W env S σ H1) (hp : H1 p = none) (src : Src W J ds hv) (tv : ∀ q ∈ hv, Top W H1 S q.1 q.2)
    (hgo : lcGo wg wt we (wipeE env vs) ds [] K)
    (fin : ∀ acc xs H, K acc → KpJ W H1 H → H p = some (.lst xs) → RpAll W.T H (plus S p) xs acc → Qd H) :
    ∃ Wm : Nat → Nat → Hp → Prop, (∃ m, Wm 0 m (upd H1 p (.lst []))) ∧ ∀ i m H, Wm i m H →
      (J.stop i H ∧ Qd H) ∨ (J.go i H ∧ ∃ Nx : Hp → Prop, (∀ H', Nx H' → ∃ m', m' < m ∧ Wm (i + 1) m' H') ∧ ∀ x H', J.yld i H x H' → tG wg sl x (wipe σ vs) H' fun σ2 H2 => wipe σ2 vs = wipe σ vs ∧ tT wt σ2 H2 fun b H3 =>
        if b = true then tE we σ2 H3 fun y H4 => ∃ acc, H4 p = some (.lst acc) ∧ acc.length < sizeLine ∧ Nx (upd H4 p (.lst (acc ++ [y]))) else Nx H3) := by
  have npM : ¬ W.M p := fun m => W.jm H1 R.j p m hp
  refine ⟨fun i m H => m = ds.length - i ∧ i ≤ ds.length ∧ KpJ W H1 H ∧ ∃ acc xs, H p = some (.lst xs) ∧ RpAll W.T H (plus S p) xs acc ∧ lcGo wg wt we (wipeE env vs) (ds.drop i) acc K, ⟨ds.length, rfl, Nat.zero_le _, .new R.j hp, [], [], upd_same, .nil, hgo⟩, ?_⟩
  rintro i m H ⟨rfl, hi, kp, acc, xs, hx, rx, go⟩
  have R1 : RlS W env (plus S p) σ H := R.plus hp kp (by rw [hx]; simp)
  have tvH : ∀ q ∈ hv, Top W H (plus S p) q.1 q.2 := fun q hq => by
    rcases tv q hq with r | ⟨a, ws, es, e1, e2, nm, h, r⟩
    · exact .inl (r.move (d := q.2) fun a o e n => ⟨kp.1 a o e fun m => n (R.sm a m), fun s => s.elim n fun z => ne_of_none e hp z⟩)
    · exact .inr ⟨a, ws, es, e1, e2, nm, kp.1 a _ h nm, r.move (ds := es) fun a o e n => ⟨kp.1 a o e fun m => n (R.sm a m), fun s => s.elim n fun z => ne_of_none e hp z⟩⟩
  obtain ⟨s1, s2⟩ := src H (plus S p) R1.cn tvH i
  by_cases hlt : i < ds.length
  · obtain ⟨g1, g2⟩ := s1 _ (List.getElem?_eq_getElem hlt)
    rw [List.drop_eq_getElem_cons hlt] at go
    refine .inr ⟨g1, fun H' => KpJ W H1 H' ∧ ∃ acc xs, H' p = some (.lst xs) ∧ RpAll W.T H' (plus S p) xs acc ∧ lcGo wg wt we (wipeE env vs) (ds.drop (i + 1)) acc K, fun H' ⟨k, q⟩ => ⟨ds.length - (i + 1), by omega, rfl, hlt, k, q⟩, fun x H' hy => ?_⟩
    obtain ⟨k2, rx2⟩ := g2 x H' hy
    have R2 := (R1.kept k2).wiped vs
    have px : ∀ {G : Hp}, KpJ W H' G → G p = some (.lst xs) ∧ RpAll W.T G (plus S p) xs acc := fun {G} k3 => ⟨(k2.trans k3).1 p _ hx npM, (rx.kept (k2.trans k3) R1.sm)⟩
    refine ⟨W, wipeE env vs, plus S p, _, R2, rx2, hg _ _ _ _ (fun env' go σ' R3 hw => ⟨(hw vs hsl).trans (wipe_wipe fun _ z => z), W, env', plus S p, R3, ht _ _ _ (fun b go H3 k3 => ?_) go⟩) go⟩
    cases b with
    | false =>
      obtain ⟨e1, e2⟩ := px k3
      exact ⟨(kp.trans k2).trans k3, acc, xs, e1, e2, go⟩
    | true =>
      refine ⟨W, env', plus S p, R3.kept k3, he _ _ _ (fun y go v H4 k4 r4 => ?_) go⟩
      obtain ⟨e1, e2⟩ := px (k3.trans k4)
      have e3 := e2.length
      refine ⟨xs, e1, by rw [e3]; exact go.1, ?_⟩
      have kk := ((kp.trans k2).trans k3).trans k4
      have c4 := ((R1.kept k2).kept (k3.trans k4)).cn
      refine ⟨⟨fun a o e n => ?_, W.jk H4 _ (fun a m => by rw [upd_ne (fun z => npM (by rw [← z]; exact m))]) kk.2⟩, acc ++ [y], xs ++ [v], upd_same, ?_, go.2⟩
      · rw [upd_ne (ne_of_none e hp)]
        exact kk.1 a o e n
      · refine (e2.append (.cons r4 .nil)).move fun a o e n => ⟨?_, n⟩
        rw [upd_ne (fun z => n (.inr z))]
        exact e
  · have e : i = ds.length := by omega
    subst e
    rw [List.drop_length] at go
    exact .inl ⟨s2 (Nat.le_refl _), fin acc xs H go kp hx rx⟩
/-- as a value -/
theorem lc_ {elt iter : Expr} {ifs : List Expr} {scope : Scope} {own : List (Str × Nat)} {sl : List Nat} {wi : WI} {wg : WG} {wt : WT} {we : WE} (hc : X.calm = true) (hN : X.N.Nodup) (hi : PIp X tg iter wi) (ok : BlkOk X.N X.env.scope scope own) (hsl : ∀ i ∈ sl, i ∈ own.map (·.2))
    (hg : ∀ (s : Shared) (H : Hp) (C : Addr) (cl : List (Str × Addr)) (fp : List Addr), PGv (X.blk s H scope (compEnvC scope cl C X.env) fp) tg wg sl) (ht : ∀ (s : Shared) (H : Hp) (C : Addr) (cl : List (Str × Addr)) (fp : List Addr), PTsv (X.blk s H scope (compEnvC scope cl C X.env) fp) ifs wt)
    (he : ∀ (s : Shared) (H : Hp) (C : Addr) (cl : List (Str × Addr)) (fp : List Addr), PV (X.blk s H scope (compEnvC scope cl C X.env) fp) elt we) (hs : ∀ x, foldedSetIterable iter X.env x = pure x := by intro _; rfl)
    (mg : MonoG wg) (mt : MonoT wt) (me : Mono we) :
    PF X (.ListComp elt [⟨tg, iter, ifs, 0⟩] scope pos) (wLc (own.map (·.2)) wi wg wt we) := by
  refine ⟨(pe_lc hc hN hi.pi ok (fun s H C cl fp => (hg s H C cl fp).pg) (fun s H C cl fp => (ht s H C cl fp).pt) (fun s H C cl fp => (he s H C cl fp).pe) hs).imp fun σ H Q ⟨W, env, S, R, q⟩ => ?_, monoLc hi.mono mg mt me⟩
  refine ⟨W, env, S, R, hi.mono _ _ _ (fun ds go J H1 hv k tv src p hp => ?_) q⟩
  exact lc_turns mg mt me hsl (R.kept k) hp src tv go fun acc xs H2 q k2 hx rx => q p xs acc H2 rfl (k.trans k2) (k.none_of R.j hp) hx rx
end
end Eg

/-! E5: statements. -/
namespace Eg
open PySem PySem.Spec PyProof.Rows L2
variable [Tabs]

structure Po where
  nx : En → Prop
  rt : D → Prop
  bk : En → Prop
  ct : En → Prop
structure Po.Le (P P' : Po) : Prop where
  nx : ∀ e, P.nx e → P'.nx e
  rt : ∀ d, P.rt d → P'.rt d
  bk : ∀ e, P.bk e → P'.bk e
  ct : ∀ e, P.ct e → P'.ct e
omit [Tabs] in
theorem Po.Le.refl {P : Po} : Po.Le P P := ⟨fun _ h => h, fun _ h => h, fun _ h => h, fun _ h => h⟩
abbrev WS := En → Po → Prop
def MonoS (w : WS) : Prop := ∀ env P P', Po.Le P P' → w env P → w env P'
omit [Tabs] in
theorem MonoS.ap {w : WS} {env : En} {P P' : Po} (h : MonoS w) (q : w env P) (l : Po.Le P P') : w env P' := h env P P' l q

/-- a value that leaves the def -/
structure Rt (W : Wd) (H' : Hp) (v : V) (d : D) : Prop where
  h0 : ∀ a o, W.H0 a = some o → ¬ W.M a → H' a = some o
  j : W.J H'
  r : Rp W.T H' (fun a => W.S0 a ∨ W.M a) v d
def poOf (W : Wd) (D : Ends) : Po where
  nx := fun env' => ∀ σ' H' S', RlS W env' S' σ' H' → D.nx σ' H'
  rt := fun d => ∀ v H', Rt W H' v d → D.rt v H'
  bk := fun env' => ∀ σ' H' S', RlS W env' S' σ' H' → D.bk σ' H'
  ct := fun env' => ∀ σ' H' S', RlS W env' S' σ' H' → D.ct σ' H'
def tS (w : WS) : TS := fun D σ H => ∃ W env S, RlS W env S σ H ∧ w env (poOf W D)
structure PSv (X : Cx) (st : Stmt) (w : WS) : Prop where
  ps : PS X st (tS w)
  mono : MonoS w
structure PSsv (X : Cx) (st : List Stmt) (w : WS) : Prop where
  ps : PSs X st (tS w)
  mono : MonoS w

section
variable {X : Cx} {st : Stmt} {rest : List Stmt} {e a b c : Expr} {es : List Expr} {w wa wb wc : WE} {u : WA} {s t : WS} {pos : Pos}

def wNx : WS := fun env P => P.nx env
def wSeq (s t : WS) : WS := fun env P => s env { P with nx := fun env' => t env' P }
omit [Tabs] in
theorem monoSeq (hs : MonoS s) (ht : MonoS t) : MonoS (wSeq s t) := fun env P P' l q => hs.ap (show s env _ from q) ⟨fun e q => ht _ _ _ l q, l.rt, l.bk, l.ct⟩
theorem sn_ : PSsv X [] wNx := ⟨pss_nil.imp fun D σ H ⟨W, env, S, R, q⟩ => q σ H S R, fun env P P' l q => l.nx _ q⟩
theorem sc_ (h : PSv X st s) (h' : PSsv X rest t) : PSsv X (st :: rest) (wSeq s t) := by
  refine ⟨(pss_cons h.ps h'.ps).imp fun D σ H ⟨W, env, S, R, q⟩ => ?_, monoSeq h.mono h'.mono⟩
  exact ⟨W, env, S, R, h.mono.ap (show s env _ from q) ⟨fun env' q σ' H' S' R' => ⟨W, env', S', R', q⟩, fun d q => q, fun e q => q, fun e q => q⟩⟩
theorem s1_ (h : PSv X st s) : PSsv X [st] s := ⟨pss_one h.ps, h.mono⟩
def wBk : WS := fun env P => P.bk env
def wCt : WS := fun env P => P.ct env
theorem pass_ : PSv X (.Pass pos) wNx := ⟨ps_pass.imp fun D σ H ⟨W, env, S, R, q⟩ => q σ H S R, fun env P P' l q => l.nx _ q⟩
theorem brk_ : PSv X (.Break pos) wBk := ⟨ps_break.imp fun D σ H ⟨W, env, S, R, q⟩ => q σ H S R, fun env P P' l q => l.bk _ q⟩
theorem cont_ : PSv X (.Continue pos) wCt := ⟨ps_continue.imp fun D σ H ⟨W, env, S, R, q⟩ => q σ H S R, fun env P P' l q => l.ct _ q⟩
theorem doc_ {x j pos'} : PSv X (.Expr (.Constant (.str x) j pos) pos') wNx := ⟨ps_doc.imp fun D σ H ⟨W, env, S, R, q⟩ => q σ H S R, fun env P P' l q => l.nx _ q⟩
theorem RlS.rt {W : Wd} {env : En} {S : Addr → Prop} {σ : L2.St} {H H' : Hp} {v : V} {d : D} (R : RlS W env S σ H) (k : KpJ W H H') (r : Rp W.T H' S v d) : Rt W H' v d :=
  ⟨fun a o h n => k.1 a o (R.h0 a o h n) n, k.2, r.less fun a s => s.elim (R.s0 a) (R.sm a)⟩
def wRet (w : WE) : WS := fun env P => w env P.rt
theorem ret_ (h : PV X e w) : PSv X (.Return (some e) pos) (wRet w) :=
  ⟨(ps_ret h.pe).imp fun D σ H ⟨W, env, S, R, q⟩ => ⟨W, env, S, R, h.mono _ _ _ (fun d q v H' k r => q v H' (R.rt k r)) q⟩, fun env P P' l q => h.mono _ _ _ l.rt q⟩
def wDrop (w : WE) : WS := fun env P => w env fun _ => P.nx env
theorem drop_ (h : PV X e w) (hs : swapsWith e none pos.line X.env = pure false := by rfl) : PSv X (.Expr e pos) (wDrop w) :=
  ⟨(ps_expr h.pe hs).imp fun D σ H ⟨W, env, S, R, q⟩ => ⟨W, env, S, R, h.mono _ _ _ (fun d q v H' k r => q σ H' S (R.kept k)) q⟩, fun env P P' l q => h.mono _ _ _ (fun d q => l.nx _ q) q⟩
/-- a slot's own list becomes a value -/
def wSh (i : Nat) (s : WS) : WS := fun env P => match env.at i with
  | .ow ds => s (env.set i (.sh (.list ds))) P
  | .ow2 dss => s (env.set i (.sh (.list (dss.map .list)))) P
  | _ => False
omit [Tabs] in
theorem monoSh {i : Nat} (h : MonoS s) : MonoS (wSh i s) := fun env P P' l q => by
  unfold wSh at q ⊢
  split at q
  · exact h _ _ _ l q
  · exact h _ _ _ l q
  · exact q.elim
theorem RlS.shareS {W : Wd} {env : En} {S : Addr → Prop} {σ : L2.St} {H : Hp} {i : Nat} {P : Po} (R : RlS W env S σ H) (q : wSh i s env P) : ∃ env' S', RlS W env' S' σ H ∧ s env' P := by
  unfold wSh at q
  split at q
  · rename_i e
    obtain ⟨S', _, R'⟩ := R.share e
    exact ⟨_, S', R', q⟩
  · rename_i e
    obtain ⟨S', _, R'⟩ := R.share2 e
    exact ⟨_, S', R', q⟩
  · exact q.elim
theorem sh_ (i : Nat) (h : PSv X st s) : PSv X st (wSh i s) := ⟨h.ps.imp fun D σ H ⟨W, env, S, R, q⟩ => by
  obtain ⟨env', S', R', q'⟩ := R.shareS q
  exact ⟨W, env', S', R', q'⟩, monoSh h.mono⟩
theorem shs_ (i : Nat) (h : PSsv X rest s) : PSsv X rest (wSh i s) := ⟨h.ps.imp fun D σ H ⟨W, env, S, R, q⟩ => by
  obtain ⟨env', S', R', q'⟩ := R.shareS q
  exact ⟨W, env', S', R', q'⟩, monoSh h.mono⟩

/-! ### name = e -/
def wSet (i : Nat) (w : WE) : WS := fun env P => w env fun d => P.nx (env.set i (.sh d))
def wOwn (i : Nat) (w : WE) : WS := fun env P => w env fun d => match d with
  | .list ds => P.nx (env.set i (.ow ds))
  | _ => False
omit [Tabs] in
theorem monoSet {i : Nat} (h : Mono w) : MonoS (wSet i w) := fun env P P' l q => h _ _ _ (fun d q => l.nx _ q) q
omit [Tabs] in
theorem monoOwn {i : Nat} (h : Mono w) : MonoS (wOwn i w) := fun env P P' l q => h _ _ _ (fun d q => by
  cases d <;> first | exact q.elim | exact l.nx _ q) q
theorem asg_sh {i : Nat} {D : Ends} {σ : L2.St} {H : Hp} (h : Mono w) (q : tS (wSet i w) D σ H) : tE w σ H fun x H1 => gName i x σ H1 D.nx := by
  obtain ⟨W, env, S, R, q⟩ := q
  exact ⟨W, env, S, R, h _ _ _ (fun d q v H' k r => q _ H' S ((R.kept k).setSh r)) q⟩
theorem asg_ow {i : Nat} {D : Ends} {σ : L2.St} {H : Hp} (h : Mono w) (q : tS (wOwn i w) D σ H) : tF w σ H fun x H1 => gName i x σ H1 D.nx := by
  obtain ⟨W, env, S, R, q⟩ := q
  refine ⟨W, env, S, R, h _ _ _ (fun d q p vs ds H' ed k hn hp r => ?_) q⟩
  subst ed
  exact q _ H' _ (R.setOw hn k hp r)
theorem set_ (i : Nat) {x : Str} {pos' : Pos} (hN : X.N.Nodup) (h : PV X e w) (hi : X.N[i]? = some x := by rfl) (hx : Loc X.env.scope x := by first | exact Or.inl rfl | exact Or.inr rfl) (hs : swapsWith e (some (.Name x pos')) pos.line X.env = pure false := by rfl)
    (hf : X.fn x = true ∨ X.env.scope.names.lookup x = some .local := by first | exact .inl rfl | exact .inr rfl | assumption) : PSv X (.Assign [.Name x pos'] e pos) (wSet i w) :=
  ⟨(ps_set hN hi hx h.pe hs hf).imp fun D σ H q => asg_sh h.mono q, monoSet h.mono⟩
theorem own_ (i : Nat) {x : Str} {pos' : Pos} (hN : X.N.Nodup) (h : PF X e w) (hi : X.N[i]? = some x := by rfl) (hx : Loc X.env.scope x := by first | exact Or.inl rfl | exact Or.inr rfl) (hs : swapsWith e (some (.Name x pos')) pos.line X.env = pure false := by rfl)
    (hf : X.fn x = true ∨ X.env.scope.names.lookup x = some .local := by first | exact .inl rfl | exact .inr rfl | assumption) : PSv X (.Assign [.Name x pos'] e pos) (wOwn i w) :=
  ⟨(ps_set hN hi hx h.pe hs hf).imp fun D σ H q => asg_ow h.mono q, monoOwn h.mono⟩
-- name = [.. for ..] on one line, a local
section
variable {elt iter tg : Expr} {ifs : List Expr} {scope : Scope} {own : List (Str × Nat)} {sl : List Nat} {wi : WI} {wg : WG} {wt : WT} {we : WE} {y : Str} {py spos : Pos} {i : Nat}
theorem lc_read {σ : L2.St} {H : Hp} {Q : VK} (mi : MonoA wi) (mg : MonoG wg) (mt : MonoT wt) (me : Mono we) (hsl : ∀ i ∈ sl, i ∈ own.map (·.2)) (q : tF (wLc (own.map (·.2)) wi wg wt we) σ H Q) : tLc (tIP wi) (tG wg sl) (tT wt) (tE we) (own.map (·.2)) σ H Q := by
  obtain ⟨W, env, S, R, q⟩ := q
  refine ⟨W, env, S, R, mi _ _ _ (fun ds go J H1 hv k tv src p hp => ?_) q⟩
  exact lc_turns mg mt me hsl (R.kept k) hp src tv go fun acc xs H2 q k2 hx rx => q p xs acc H2 rfl (k.trans k2) (k.none_of R.j hp) hx rx
theorem lcAsg {tx : TS} (hc : X.calm = true) (hN : X.N.Nodup) (hi : X.N[i]? = some y := by rfl) (hyl : X.env.scope.names.lookup y = some .local := by rfl)
    (hsw : swapsWith (.ListComp elt [⟨tg, iter, ifs, 0⟩] scope pos) (some (.Name y py)) spos.line X.env = pure true := by exact sw_true rfl rfl rfl (by decide +kernel))
    (hit : PIp X tg iter wi) (ok : BlkOk X.N X.env.scope scope own) (hsl : ∀ i ∈ sl, i ∈ own.map (·.2))
    (hg : ∀ (s : Shared) (H : Hp) (C : Addr) (cl : List (Str × Addr)) (fp : List Addr), PGv (X.blk s H scope (compEnvC scope cl C X.env) fp) tg wg sl) (ht : ∀ (s : Shared) (H : Hp) (C : Addr) (cl : List (Str × Addr)) (fp : List Addr), PTsv (X.blk s H scope (compEnvC scope cl C X.env) fp) ifs wt)
    (he : ∀ (s : Shared) (H : Hp) (C : Addr) (cl : List (Str × Addr)) (fp : List Addr), PV (X.blk s H scope (compEnvC scope cl C X.env) fp) elt we) (hs : ∀ x, foldedSetIterable iter X.env x = pure x := by intro _; rfl) :
    PS X (.Assign [.Name y py] (.ListComp elt [⟨tg, iter, ifs, 0⟩] scope pos) spos) (tAsg (tLc (tIP wi) (tG wg sl) (tT wt) (tE we) (own.map (·.2))) (gName i)) :=
  ps_setLc hc hN hi hyl hsw hit.pi ok (fun s H C cl fp => (hg s H C cl fp).pg) (fun s H C cl fp => (ht s H C cl fp).pt) (fun s H C cl fp => (he s H C cl fp).pe) hs
end

/-! ### if, while, for -/
def wIfS (c : WT) (s t : WS) : WS := fun env P => c env fun b => if b = true then s env P else t env P
theorem ifs_ {wt : WT} {sa sb : List Stmt} (hc : PTv X c wt) (ha : PSsv X sa s) (hb : PSsv X sb t) : PSv X (.If c sa sb pos) (wIfS wt s t) := by
  refine ⟨(ps_if hc.pt ha.ps hb.ps).imp fun D σ H ⟨W, env, S, R, q⟩ => ?_, fun env P P' l q => hc.mono _ _ _ (fun b q => ?_) q⟩
  · refine ⟨W, env, S, R, hc.mono _ _ _ (fun b q H1 k => ?_) q⟩
    cases b with
    | true => exact ⟨W, env, S, R.kept k, q⟩
    | false => exact ⟨W, env, S, R.kept k, q⟩
  · cases b with
    | true => exact ha.mono _ _ _ l q
    | false => exact hb.mono _ _ _ l q
/-- n turns at most -/
def whGo (c : WT) (s : WS) : Nat → En → Po → Prop
  | 0, _, _ => False
  | n + 1, env, P => c env fun b => if b = true then s env ⟨fun e => whGo c s n e P, P.rt, P.nx, fun e => whGo c s n e P⟩ else P.nx env
def wWh (c : WT) (s : WS) : WS := fun env P => ∃ n, whGo c s n env P
omit [Tabs] in
theorem whGo_mono {wt : WT} (hc : MonoT wt) (hs : MonoS s) : ∀ n env P P', Po.Le P P' → whGo wt s n env P → whGo wt s n env P'
  | 0, _, _, _, _, q => q.elim
  | n + 1, env, P, P', l, q => hc _ _ _ (fun b q => by
    cases b with
    | true => exact hs.ap (show s env _ from q) ⟨fun e q => whGo_mono hc hs n _ _ _ l q, l.rt, l.nx, fun e q => whGo_mono hc hs n _ _ _ l q⟩
    | false => exact l.nx _ q) q
theorem while_ {wt : WT} {body : List Stmt} (hp : PassesOwn (model X.prog X.w) X.A X.env X.xe) (hc : PTv X c wt) (hb : PSsv X body s) : PSv X (.While c body [] pos) (wWh wt s) := by
  refine ⟨(ps_while hp hc.pt hb.ps).imp fun D σ H ⟨W, env, S, R, n, q⟩ => ?_, fun env P P' l ⟨n, q⟩ => ⟨n, whGo_mono hc.mono hb.mono n _ _ _ l q⟩⟩
  refine ⟨fun m σ H => ∃ env S, RlS W env S σ H ∧ whGo wt s m env (poOf W D), ⟨n, env, S, R, q⟩, fun m σ H ⟨env, S, R, q⟩ => ?_⟩
  cases m with
  | zero => exact q.elim
  | succ m =>
    refine ⟨W, env, S, R, hc.mono _ _ _ (fun b q H1 k => ?_) q⟩
    cases b with
    | true =>
      refine ⟨fun σ' H' => ∃ env' S', RlS W env' S' σ' H' ∧ whGo wt s m env' (poOf W D), fun σ' H' h => ⟨m, Nat.lt_succ_self m, h⟩, ?_⟩
      exact ⟨W, env, S, R.kept k, hb.mono.ap (show s env _ from q) ⟨fun e q σ' H' S' R' => ⟨e, S', R', q⟩, fun d q => q, fun e q => q, fun e q σ' H' S' R' => ⟨e, S', R', q⟩⟩⟩
    | false => exact q σ H1 S (R.kept k)
def forGo (g : WG) (s : WS) : List D → En → Po → Prop
  | [], env, P => P.nx env
  | d :: r, env, P => g d env fun env' => s env' ⟨fun e => forGo g s r e P, P.rt, P.nx, fun e => forGo g s r e P⟩
def wFor (wi : WI) (g : WG) (s : WS) : WS := fun env P => wi env fun ds => forGo g s ds env P
omit [Tabs] in
theorem forGo_mono {g : WG} (hg : MonoG g) (hs : MonoS s) : ∀ ds env P P', Po.Le P P' → forGo g s ds env P → forGo g s ds env P'
  | [], env, P, P', l, q => l.nx _ q
  | d :: r, env, P, P', l, q => hg _ _ _ _ (fun e q => hs.ap (P := ⟨fun e => forGo g s r e P, P.rt, P.nx, fun e => forGo g s r e P⟩) q ⟨fun e q => forGo_mono hg hs r _ _ _ l q, l.rt, l.nx, fun e q => forGo_mono hg hs r _ _ _ l q⟩) q
/-- values that a loop holds -/
def Wd.with (W : Wd) (hv : List (V × D)) : Wd := { W with hold := hv ++ W.hold }
theorem RlS.held {W : Wd} {env : En} {S : Addr → Prop} {σ : L2.St} {H : Hp} {hv : List (V × D)} (R : RlS W env S σ H) (h : ∀ p ∈ hv, Rp W.T H S p.1 p.2) : RlS (W.with hv) env S σ H where
  s0 := R.s0
  sm := R.sm
  sn := R.sn
  h0 := R.h0
  j := R.j
  len := R.len
  sl := fun i => by
    have q := R.sl i
    revert q
    generalize env.at i = x
    cases x with
    | un => intro _; trivial
    | sh d => intro q; exact q
    | ow ds => rintro ⟨a, vs, e, q⟩; exact ⟨a, vs, e, q.s, q.s0, q.m, q.h0, q.h, q.r⟩
    | od ds => rintro ⟨a, vs, e, q⟩; exact ⟨a, vs, e, q.s, q.s0, q.m, q.h0, q.h, q.k, q.r⟩
    | ow2 ds => rintro ⟨a, vs, e, q⟩; exact ⟨a, vs, e, q.s, q.s0, q.m, q.h0, q.h, q.nd, q.na, Rows.move (W := W) (W' := W.with hv) (fun b vs ds q => ⟨q.s, q.s0, q.m, q.h0, q.h, q.r⟩) q.rows⟩
  ne := R.ne
  hd := fun p hp => (List.mem_append.mp hp).elim (h p) (R.hd p)
theorem RlS.unheld {W : Wd} {env : En} {S : Addr → Prop} {σ : L2.St} {H : Hp} {hv : List (V × D)} (R : RlS (W.with hv) env S σ H) : RlS W env S σ H where
  s0 := R.s0
  sm := R.sm
  sn := R.sn
  h0 := R.h0
  j := R.j
  len := R.len
  sl := fun i => by
    have q := R.sl i
    revert q
    generalize env.at i = x
    cases x with
    | un => intro _; trivial
    | sh d => intro q; exact q
    | ow ds => rintro ⟨a, vs, e, q⟩; exact ⟨a, vs, e, q.s, q.s0, q.m, q.h0, q.h, q.r⟩
    | od ds => rintro ⟨a, vs, e, q⟩; exact ⟨a, vs, e, q.s, q.s0, q.m, q.h0, q.h, q.k, q.r⟩
    | ow2 ds => rintro ⟨a, vs, e, q⟩; exact ⟨a, vs, e, q.s, q.s0, q.m, q.h0, q.h, q.nd, q.na, Rows.move (W := W.with hv) (W' := W) (fun b vs ds q => ⟨q.s, q.s0, q.m, q.h0, q.h, q.r⟩) q.rows⟩
  ne := R.ne
  hd := fun p hp => R.hd p (List.mem_append_right _ hp)
theorem for_ {tg iter : Expr} {wi : WI} {g : WG} {sl : List Nat} {body : List Stmt} (hp : PassesOwn (model X.prog X.w) X.A X.env X.xe) (hc : X.calm = true) (hi : PIv X tg iter wi) (hg : PGv X tg g sl) (hb : PSsv X body s)
    (hs : ∀ x, foldedSetIterable iter X.env x = pure x := by intro _; rfl) : PSv X (.For tg iter body [] pos) (wFor wi g s) := by
  refine ⟨(ps_for hp hc hi.pi hg.pg hb.ps hs).imp fun D σ H ⟨W, env, S, R, q⟩ => ?_, fun env P P' l q => hi.mono _ _ _ (fun ds q => forGo_mono hg.mono hb.mono ds _ _ _ l q) q⟩
  refine ⟨W, env, S, R, hi.mono _ _ _ (fun ds q J H1 hv k tv src => ?_) q⟩
  refine ⟨fun i m σ H => m = ds.length - i ∧ i ≤ ds.length ∧ ∃ env S, RlS (W.with hv) env S σ H ∧ forGo g s (ds.drop i) env (poOf W D), ⟨ds.length, rfl, Nat.zero_le _, env, S, (R.kept k).held tv, q⟩, ?_⟩
  rintro i m σ H ⟨rfl, hi, env, S, R, q⟩
  obtain ⟨s1, s2⟩ := src H S ⟨R.sm, R.sn, R.j⟩ (fun p hp => .inl (R.hd p (List.mem_append_left _ hp))) i
  by_cases hlt : i < ds.length
  · obtain ⟨g1, g2⟩ := s1 _ (List.getElem?_eq_getElem hlt)
    rw [List.drop_eq_getElem_cons hlt] at q
    refine .inr ⟨g1, fun σ' H' => ∃ env S, RlS (W.with hv) env S σ' H' ∧ forGo g s (ds.drop (i + 1)) env (poOf W D), fun σ' H' h => ⟨ds.length - (i + 1), by omega, rfl, hlt, h⟩, fun x H' hy => ?_⟩
    obtain ⟨k2, rx⟩ := g2 x H' hy
    refine ⟨W.with hv, env, S, _, R.kept k2, rx, hg.mono _ _ _ _ (fun env' q σ' R3 _ => ?_) q⟩
    exact ⟨W.with hv, env', S, R3, hb.mono.ap (show s env' _ from q) ⟨fun e q σ' H' S' R' => ⟨e, S', R', q⟩, fun d q v H' r => q v H' ⟨r.h0, r.j, r.r⟩, fun e q σ' H' S' R' => q σ' H' S' R'.unheld, fun e q σ' H' S' R' => ⟨e, S', R', q⟩⟩⟩
  · have e : i = ds.length := by omega
    subst e
    rw [List.drop_length] at q
    exact .inl ⟨s2 (Nat.le_refl _), q σ H S R.unheld⟩

/-! ### lists that are written -/
/-- name.append(e) -/
def wApp (i : Nat) (w : WE) : WS := fun env P => match env.at i with
  | .ow ds => w env fun d => ds.length < sizeLine ∧ P.nx (env.set i (.ow (ds ++ [d])))
  | _ => False
theorem RlS.lt {W : Wd} {env : En} {S : Addr → Prop} {σ : L2.St} {H : Hp} {i : Nat} {ds : List D} (R : RlS W env S σ H) (h : env.at i = .ow ds) : i < env.length := by
  unfold En.at at h
  rw [List.getD_eq_getElem?_getD] at h
  cases e : env[i]? with
  | none => rw [e] at h; cases h
  | some x => exact (List.getElem?_eq_some_iff.mp e).1
theorem app_ (i : Nat) {x : Str} {p1 p2 p3 : Pos} (h : PV X e w) (hN : X.N[i]? = some x := by rfl) (hv : Vis X.env.scope x := by first | exact Or.inl rfl | exact Or.inr (Or.inl rfl) | exact Or.inr (Or.inr rfl)) (hd : (x == ("__debug__" : Str)) = false := by decide)
    (hcd : (x == ("__classdict__" : Str)) = false := by decide)
    (hbase : attributeBase (.Name x p1) (Str.ofString "append") X.env (eval (.Name x p1) X.env) = eval (.Name x p1) X.env := by rfl)
    (hfew : ((backTo p3 (starEach [e] X.env)).all (fun x => !x.1) && (backToKw p3 (keywordEach [] X.env)).all (fun x => x.1.isSome) && decide (([e] : List Expr).length + ([] : List Keyword).length + (if ([] : List Keyword).isEmpty then 0 else 1) < 30)) = true := by rfl)
    (hline : (p2.endLine == p3.line) = true := by rfl) (hs : starEach [e] X.env = (false, eval e X.env) :: starEach [] X.env := by rfl) (hplain : (backTo p3 (starEach [] X.env)).any (·.1) = false := by rfl)
    (hsw : swapsWith (.Call (.Attribute (.Name x p1) (Str.ofString "append") p2) [e] [] p3) none pos.line X.env = pure false := by rfl) :
    PSv X (.Expr (.Call (.Attribute (.Name x p1) (Str.ofString "append") p2) [e] [] p3) pos) (wApp i w) := by
  have pn : PA X [] tNil := pa_nil
  refine ⟨(ps_expr (pe_bm PySem.F.plainAttrs_list PySem.F.slot_list_append PySem.F.type_list_append mt_append (pe_var hN hv hd hcd) (pa_cons h.pe pn hs) hbase hfew hline hs hplain) hsw).imp fun D σ H ⟨W, env, S, R, q⟩ => ?_, fun env P P' l q => ?_⟩
  · unfold wApp at q
    split at q
    · rename_i ds0 he
      have sl := R.sl i
      rw [he] at sl
      obtain ⟨a, vs, ea, O⟩ := sl
      refine ⟨.ref a, ea, .inl ⟨rfl, vs, .inl (.inl O.h)⟩, W, env, S, R, h.mono _ _ _ (fun d q v H' k r => ?_) q⟩
      have q' : ds0.length < sizeLine ∧ (poOf W D).nx (env.set i (.ow (ds0 ++ [d]))) := q
      have hv' : H' a = some (.lst vs) := k.1 a _ O.h O.m
      have rv := O.r.kept k R.sm
      refine ⟨a, vs, v, rfl, rfl, hv', by rw [rv.length]; exact q'.1, ?_⟩
      exact q'.2 σ _ S ((R.kept k).write he ea (R.lt he) (rv.append (.cons r .nil)))
    · exact q.elim
  · unfold wApp at q ⊢
    split at q
    · rename_i ds0 he
      exact h.mono _ _ _ (fun d q => ⟨q.1, l.nx _ q.2⟩) q
    · exact q.elim
end
end Eg

/-! E6: defs and their calls. -/
namespace Eg
open PySem PySem.Spec PyProof.Rows L2
variable [Tabs]

/-- what a def that makes φ of data promises -/
def spOf (φ : GN) : Sp := fun vs H Q _ => ∃ (W : Wd) (S : Addr → Prop) (ds : List D), Cn W S H ∧ RpAll W.T H S vs ds ∧ φ ds fun r => ∀ v H', KpJ W H H' → Rp W.T H' S v r → Q v H'
def MonoN (φ : GN) : Prop := ∀ ds Q Q', (∀ d, Q d → Q' d) → φ ds Q → φ ds Q'
def phiOf (n np : Nat) (w : WS) : GN := fun ds Q => ds.length = np ∧ w (ds.map .sh ++ List.replicate (n - np) .un) ⟨fun _ => Q .none, Q, fun _ => False, fun _ => False⟩
omit [Tabs] in
theorem monoPhi {n np : Nat} {w : WS} (h : MonoS w) : MonoN (phiOf n np w) := fun ds Q Q' f q => ⟨q.1, h.ap q.2 ⟨fun _ q => f _ q, f, fun _ q => q, fun _ q => q⟩⟩

omit [Tabs] in
theorem at_start {vs : List V} {ds : List D} {m i : Nat} : En.at (ds.map .sh ++ List.replicate m .un) i = match ds[i]? with
    | some d => .sh d
    | none => .un := by
  unfold En.at
  rw [List.getD_eq_getElem?_getD]
  by_cases h : i < ds.length
  · rw [List.getElem?_append_left (by simpa using h), List.getElem?_map, List.getElem?_eq_getElem h]
    rfl
  · rw [List.getElem?_append_right (by simpa using Nat.le_of_not_lt h), List.getElem?_replicate, List.getElem?_eq_none (by omega)]
    split <;> rfl
/-- a def's body at its entry -/
theorem rl_start {N : List Str} {W : Wd} {S : Addr → Prop} {H : Hp} {vs : List V} {ds : List D} (c : Cn W S H) (r : RpAll W.T H S vs ds) (hl : vs.length ≤ N.length) :
    RlS { W with H0 := H, S0 := S, hold := [] } (ds.map .sh ++ List.replicate (N.length - ds.length) .un) S (L2.start N vs) H where
  s0 := fun _ h => h
  sm := c.sm
  sn := c.sn
  h0 := fun _ _ h _ => h
  j := c.j
  len := by
    have := r.length
    unfold L2.start
    simp only [List.length_append, List.length_map, List.length_replicate]
    omega
  sl := fun i => by
    rw [at_start (vs := vs)]
    cases e : ds[i]? with
    | none => trivial
    | some d =>
      obtain ⟨v, ev, rv⟩ := r.get e
      refine ⟨v, ?_, rv⟩
      unfold L2.start
      have hi : i < vs.length := (List.getElem?_eq_some_iff.mp ev).1
      rw [List.getElem?_append_left (by simpa using hi), List.getElem?_map, ev]
      rfl
  ne := fun i k a _ h1 _ => by
    rw [at_start (vs := vs)] at h1
    split at h1 <;> exact h1.elim
  hd := fun p hp => nomatch hp

section
variable {P : Program} {w : World} {K : PySem.W.Frag} {mg : Str → Option Value} {base : Heap}
/-- THE RULE for a def -/
theorem def_ok {x qual : Str} {st : Stmt} {f : Addr} {fd : FuncData} {N ps : List Str} {k : Nat} {w0 : WS} (F : Fun K x qual st f fd) (Sc : FnScope N ps (defScope st)) (hps : ps.length ≤ N.length)
    (body : ∀ (cdv : Value) (A : Around) (outer : List Env) (s : Shared) (H : Hp) (E : XK), Room k (A.deeper (envOfC qual (defScope st) s.heap.objs.size f cdv)) →
      PSsv (cxOf CX0 P w K mg base N qual (defScope st) f cdv A outer s H E).nox (defBody st) w0) : FnOk P w K mg base CX0 (k + 1) f fd ps (spOf (phiOf N.length ps.length w0)) := by
  refine F.ok Sc (fun vs H Q E h => ?_) (fun cdv A outer s H vs Q E hr h => ?_)
  · obtain ⟨W, S, ds, c, r, q⟩ := h
    rw [r.length]; exact q.1
  · have b := body cdv A outer s H E hr
    obtain ⟨W, S, ds, c, r, q⟩ := h
    refine ⟨_, b.ps, ?_⟩
    have hl : vs.length = ps.length := r.length.trans q.1
    have q2 := q.2
    rw [← q.1] at q2
    refine ⟨_, _, S, rl_start (N := N) c r (by omega), b.mono.ap q2 ⟨fun env' q σ' H' S' R' => ?_, fun d q v H' rt => ?_, fun _ q => q.elim, fun _ q => q.elim⟩⟩
    · exact q _ H' ⟨fun a o h n => R'.h0 a o h n, R'.j⟩ .non
    · exact q v H' ⟨fun a o h n => rt.h0 a o h n, rt.j⟩ (rt.r.less fun a s => .inl s)
end

section
variable {X : Cx} {k : Nat} {f : Addr} {fd : FuncData} {ps : List Str} {φ : GN} {x : Str} {p pos : Pos} {e : Expr} {es : List Expr} {u : WA}
/-- f(..) of one's own -/
theorem fcall_ (F : FnOk X.prog X.w X.K X.mg X.base CX0 k f fd ps (spOf φ)) (mφ : MonoN φ) (hr : Room k X.A) (hg : Gl X x) (hm : X.mg x = some (.ref f)) (hk : PySem.W.keepIn X.K (.ref f) = true) (hb : Binds X.K fd ps []) (ha : PAv X (e :: es) u)
    (hdb : (x == ("__debug__" : Str)) = false := by decide) (he : starEach (e :: es) X.env = (false, eval e X.env) :: starEach es X.env := by rfl) (hpl : (backTo pos (starEach es X.env)).any (·.1) = false := by rfl) :
    PV X (.Call (.Name x p) (e :: es) [] pos) (wCl φ u) := by
  refine ⟨(pe_call (E := E0) F hr hg hm hk hb .nil pass0 ha.pa hdb he hpl).imp fun σ H Q ⟨W, env, S, R, h⟩ => ?_, monoCl mφ ha.mono⟩
  refine ⟨W, env, S, R, ha.mono _ _ _ (fun ds h1 vs H1 k1 r1 => ?_) h⟩
  show spOf φ (vs ++ []) H1 Q E0
  rw [List.append_nil]
  exact ⟨W, S, ds, R.cn.kept k1, r1, mφ _ _ _ (fun d q v H' k2 r2 => q v H' (k1.trans k2) r2) h1⟩
end
end Eg

/-! E7: sorted, two clauses, pairs of names, stores by place, isinstance. -/
namespace PySem.W
open PySem PySem.Calls PyProof.Rows
section
variable {prog : Program} {w : World} {A : Around} {E : Value → Shared → Prop} {s : Shared} {β : Type} {vs : List Value} {bs : List β} {enc : β → PyData} {R : Value → β → Prop}
/-- the items of a tuple, one behind another -/
theorem collect_tup {l : Addr} {vs : List Value} {Q : List Value → Shared → Prop} (hl : s.heap.IsTuple l vs.toArray)
    (h : Q vs { s with heap := (s.heap.push (seqObj "list" #[] 0)).update s.heap.objs.size (Obj.mapSeq (· ++ vs.toArray)) }) (hsz : vs.length ≤ sizeLine) :
    wpAny (model prog w) A (collect (.ref l)) Q E s := by
  obtain ⟨o, ho, hc, n, hd⟩ := id hl
  unfold collect
  refine wpAny_bind (wpAny_runValue (codeAny_builtin entry_proto_collect' ?_))
  show wpAny _ _ (do again (.builtin "list.__iadd__" ⟨[← newList [], .ref l], []⟩)) _ _ s
  refine wpAny_bind (wpAny_newList (wpAny_pure ⟨Code.quiet_builtin _ (by decide +kernel), codeAny_builtin entry_list_iadd' ?_⟩))
  show wpAny _ _ (Builtin.List.listExtendWith (.ref s.heap.objs.size) (.ref l) (.ref s.heap.objs.size)) _ _ { s with heap := s.heap.push (seqObj "list" #[] 0) }
  unfold Builtin.List.listExtendWith
  have ho' : (s.heap.push (seqObj "list" #[] 0)).get? l = some o := Heap.get?_push_of_some _ ho
  refine wpAny_bind (wpAny_typeOf (T := "tuple") ⟨o, ho', hc⟩ ?_)
  have ht : (Value.type "tuple" == Value.type "tuple") = true := by rfl
  rw [if_pos (by rw [ht]; simp)]
  refine wpAny_bind (listItems_at ho' hd ?_)
  refine wpAny_bind (listItems_at (xs := #[]) (n := 0) (Heap.get?_push_size _ rfl) rfl ?_)
  rw [if_neg (by simp)]
  refine wpAny_bind (listUpdate_at (xs := #[]) (n := 0) (Heap.get?_push_size _ rfl) rfl ?_ (Nat.zero_le _) (by show (#[] ++ vs.toArray).size ≤ sizeLine + 1; simp only [Array.size_append, List.size_toArray, List.length_nil]; omega))
  refine wpAny_pure ?_
  show wpAny (model prog w) A (do
      let o ← load s.heap.objs.size
      match o.data with
      | .seq xs _ => pure xs.toList
      | _ => unsupported "internal:collect") Q E { s with heap := (s.heap.push (seqObj "list" #[] 0)).update s.heap.objs.size (Obj.mapSeq (· ++ vs.toArray)) }
  refine wpAny_bind (wpAny_load (get?_update_seq (Heap.get?_push_size _ rfl) _) ?_)
  show wpAny _ _ (pure ((#[] : Array Value) ++ vs.toArray).toList) Q E _
  rw [show ((#[] : Array Value) ++ vs.toArray).toList = vs by simp]
  exact wpAny_pure h
/-- all are tuples with an item at least, or none is a tuple or None, or there is one at most -/
def SortableX (ds : List PyData) : Prop := (∀ d, d ∈ ds → ∃ x r, d = .tuple (x :: r)) ∨ (∀ d, d ∈ ds → d ≠ .none ∧ ∀ xs, d ≠ .tuple xs) ∨ (ds.length ≤ 1 ∧ ∀ d, d ∈ ds → d ≠ .none)
theorem sortsX {vs : List Value} {ds : List PyData} (e : EachIs (fun v d => ∃ as, Reads s.heap v d as) vs ds) (hal : AllAlike ds) (hk : SortableX ds) (hu : ∀ d, d ∈ ds → A.units + d.depth < cLine) : SortsAt prog w A s (dataKind s.heap ds) vs := by
  rcases hk with hk | hk | ⟨h1, hn⟩
  · exact SortsAt.data e hal (.inl hk) hu
  · exact SortsAt.data e hal (.inr hk) hu
  · refine ⟨fun v hv => ?_, general', ?_, fun h2 => ?_⟩
    · obtain ⟨d, hd, as, r⟩ := e.left v hv
      exact ⟨_, dataKind_some hal hd r⟩
    · intro E x y a b Q ha hb hq
      obtain ⟨d, as, hd, ra, rfl⟩ := dataKind_inv ha
      obtain ⟨d', as', hd', rb, rfl⟩ := dataKind_inv hb
      show wpAny (model prog w) A (oneLt' false x y) Q E s
      exact oneLt_alike (fun z => nomatch z) ra rb (hal d hd d' hd') (hn d hd) (Nat.lt_of_le_of_lt (Nat.add_le_add_left (Nat.min_le_left _ _) _) (hu d hd)) hq
    · have := e.length
      omega
theorem sorted_dataL {l : Addr} {Q : Value → Shared → Prop} (hl : s.heap.IsList l vs.toArray) (e : EachIs R vs bs) (er : EachIs (fun v b => ∃ as, Reads s.heap v (enc b) as) vs bs) (hal : AllAlike (bs.map enc)) (hk : SortableX (bs.map enc)) (hL : bs.length ≤ sizeLine)
    (hu : ∀ b, b ∈ bs → A.units + 2 + (enc b).depth < cLine) (h : ∀ out, out.length = bs.length → EachIs R out (bs.mergeSort (dataLe false enc)) → Q (.ref (s.heap.objs.size + 1)) { s with heap := sortedAll s.heap vs (List.toArray out) }) :
    wpAny (model prog w) A (call (.builtin "sorted") [.ref l]) Q E s := by
  have er' : EachIs (fun v b => ∃ as, Reads (sortingHeap (copyHeap s.heap vs) (s.heap.objs.size + 1) vs) v (enc b) as) vs bs := er.mono fun _ _ ⟨as, r⟩ => ⟨as, PyProof.Rows.Reads.keeps (fun _ _ => sorting_copy_old) r⟩
  exact sorted_vals hl (sortsX (s := { s with heap := sortingHeap (copyHeap s.heap vs) (s.heap.objs.size + 1) vs }) (each_map (R := fun v d => ∃ as, Reads (sortingHeap (copyHeap s.heap vs) (s.heap.objs.size + 1) vs) v d as) enc er') hal hk (bound_map hu)) (by rw [e.length]; exact hL)
    (h _ (by rw [sortVals_length false rfl]; exact e.length) (sortVals_data false e er' hal))
/-- sorted(t) of a tuple -/
theorem sorted_dataT {l : Addr} {Q : Value → Shared → Prop} (hl : s.heap.IsTuple l vs.toArray) (e : EachIs R vs bs) (er : EachIs (fun v b => ∃ as, Reads s.heap v (enc b) as) vs bs) (hal : AllAlike (bs.map enc)) (hk : SortableX (bs.map enc)) (hL : bs.length ≤ sizeLine)
    (hu : ∀ b, b ∈ bs → A.units + 2 + (enc b).depth < cLine) (h : ∀ out, out.length = bs.length → EachIs R out (bs.mergeSort (dataLe false enc)) → Q (.ref (s.heap.objs.size + 1)) { s with heap := sortedAll s.heap vs (List.toArray out) }) :
    wpAny (model prog w) A (call (.builtin "sorted") [.ref l]) Q E s := by
  have er' : EachIs (fun v b => ∃ as, Reads (sortingHeap (copyHeap s.heap vs) (s.heap.objs.size + 1) vs) v (enc b) as) vs bs := er.mono fun _ _ ⟨as, r⟩ => ⟨as, PyProof.Rows.Reads.keeps (fun _ _ => sorting_copy_old) r⟩
  have hLv : vs.length ≤ sizeLine := by rw [e.length]; exact hL
  refine call_function_entry_kw kind_sorted plain_sorted entry_sorted (args_sorted1 _) ?_
  unfold Builtin.«sorted»
  refine wpAny_bind (m := checkCount "sorted" 1 1 _) (wpAny_pure ?_)
  refine wpAny_bind (collect_tup hl ?_ hLv)
  refine wpAny_bind (wpAny_newList ?_ hLv)
  have hsz : ((s.heap.push (seqObj "list" #[] 0)).update s.heap.objs.size (Obj.mapSeq (· ++ vs.toArray))).objs.size = s.heap.objs.size + 1 := by
    rw [Heap.size_update, size_push']
  show wpAny _ _ _ _ _ { s with heap := copyHeap s.heap vs }
  rw [hsz]
  refine wpAny_bind (wpAny_holding (wpAny_call_entry_kw slot_list_sort ⟨_, copyHeap_at s.heap vs, rfl⟩ entry_list_sort ?body (args_list_sort _)))
  case body =>
    refine wpAny_mono (list_sort_vals (P := fun f s' => f = .done (.ret .none) ∧ Q (.ref (s.heap.objs.size + 1)) s') (s := { s with heap := copyHeap s.heap vs }) (copyHeap_at s.heap vs) (sortsX (s := { s with heap := sortingHeap (copyHeap s.heap vs) (s.heap.objs.size + 1) vs }) (each_map (R := fun v d => ∃ as, Reads (sortingHeap (copyHeap s.heap vs) (s.heap.objs.size + 1) vs) v d as) enc er') hal hk (bound_map hu)) hLv
      ⟨rfl, h _ (by rw [sortVals_length false rfl]; exact e.length) (sortVals_data false e er' hal)⟩) (fun f s' hf => ?_) fun _ _ e => e
    obtain ⟨rfl, hq⟩ := hf
    exact ⟨_, rfl, wpAny_pure ⟨_, rfl, hq⟩⟩
end
end PySem.W
namespace Eg
open PySem PySem.Spec PyProof.Rows L2
variable [Tabs]

/-! ### sorted -/
def gSorted : GN := fun ds Q => match ds with
  | [.list xs] => (SeqAt.shaped (.list xs) = true ∧ PySem.W.AllAlike xs ∧ PySem.W.SortableX xs) ∧ Q (.list (xs.mergeSort (PySem.W.dataLe false id)))
  | [.tuple xs] => (SeqAt.shaped (.list xs) = true ∧ PySem.W.AllAlike xs ∧ PySem.W.SortableX xs) ∧ Q (.list (xs.mergeSort (PySem.W.dataLe false id)))
  | _ => False
def rSortD (K : PySem.W.Frag) : List V → Hp → VK → Prop := fun vs H Q => ∃ (a : Addr) (xs : List V) (ds : List PyData) (Rr : V → PyData → Prop), vs = [.ref a] ∧ (SqL K H a xs ∨ SqT K H a xs) ∧ DpAll K H xs ds ∧ Paired Rr xs ds ∧ SeqAt.shaped (.list ds) = true ∧ PySem.W.AllAlike ds ∧ PySem.W.SortableX ds ∧
  ∀ ys p, Paired Rr ys (ds.mergeSort (PySem.W.dataLe false id)) → H p = none → Q (.ref p) (upd H p (.lst ys))
omit [Tabs] in
theorem each_of {h : Heap} {Rr : V → PyData → Prop} : ∀ {xs : List V} {ds : List PyData} {its : List Value} {as : List Addr}, Vals xs its → Paired Rr xs ds → ReadsAll h its ds as →
    PySem.W.EachIs (fun v d => ∃ x, RelV x v ∧ Rr x d) its ds ∧ PySem.W.EachIs (fun v d => ∃ as, Reads h v d as) its ds
  | _, _, _, _, .nil, .nil, .nil => ⟨.nil, .nil⟩
  | _, _, _, _, .cons r t, .cons p q, .cons a b => by
    obtain ⟨h1, h2⟩ := each_of t q b
    exact ⟨.cons ⟨_, r, p⟩ h1, .cons ⟨_, a⟩ h2⟩
omit [Tabs] in
theorem each_back {Rr : V → PyData → Prop} : ∀ {out : List Value} {ds : List PyData}, PySem.W.EachIs (fun v d => ∃ x, RelV x v ∧ Rr x d) out ds → ∃ ys, Vals ys out ∧ Paired Rr ys ds
  | _, _, .nil => ⟨[], .nil, .nil⟩
  | _, _, .cons ⟨x, r, p⟩ t => by
    obtain ⟨ys, h1, h2⟩ := each_back t
    exact ⟨x :: ys, .cons r h1, .cons p h2⟩
omit [Tabs] in
theorem depth_mem : ∀ {ds : List PyData} {d : PyData}, d ∈ ds → d.depth ≤ PyData.depthAll ds
  | x :: r, d, h => by
    rw [PyData.depthAll]
    rcases List.mem_cons.mp h with rfl | h
    · exact Nat.le_max_left _ _
    · exact Nat.le_trans (depth_mem h) (Nat.le_max_right _ _)
section
variable {X : Cx} {e a b c : Expr} {es : List Expr} {w wa wb wc : WE} {u : WA} {pos : Pos}
omit [Tabs] in
theorem cr_sortD (hu : X.A.units + 67 < cLine) : CallR X (.builtin "sorted") (rSortD X.K) := by
  intro pins s σ H vs us Q I r h
  obtain ⟨a, xs, ds, Rr, rfl, hs, hd, hp, sh, al, so, q⟩ := h
  rw [Vals.ref1 r]
  rcases hs with hs | hs
  · obtain ⟨its, rv, hl, hz⟩ := I.list hs
    obtain ⟨as, ra⟩ := Dp.readsAll I ds xs its hd rv
    obtain ⟨e1, e2⟩ := each_of rv hp ra
    have hn : ds.length = xs.length := (Paired.length hp).symm
    refine PySem.W.sorted_dataL (enc := id) (bs := ds) hl.isList e1 e2 (by rw [List.map_id]; exact al) (by rw [List.map_id]; exact so) (by rw [hn]; exact hz) (fun d hm => ?_) fun out ho eo => ?_
    · have h1 := SeqAt.depth_of_shaped sh
      have h2 : (PyData.list ds).depth = PyData.depthAll ds + 1 := by simp [PyData.depth]
      have h3 := depth_mem hm
      show X.A.units + 2 + d.depth < cLine
      omega
    · obtain ⟨ys, h1, h2⟩ := each_back eo
      obtain ⟨ep, he'⟩ := PyProof.Rows.sortedAll_at s.heap its out.toArray
      have hlen : ys.length ≤ sizeLine := by rw [h1.length, ho, hn]; exact hz
      exact ⟨.ref _, upd H (s.heap.objs.size + 1) (.lst ys), I.laid (t' := s.toks) (fun _ _ => PyProof.Rows.sortedAll_old) (Nat.le_succ _) ⟨hlen, out, ep, h1, he'⟩, rfl, q _ _ h2 (I.hok.fresh (Nat.le_succ _))⟩
  · obtain ⟨its, rv, hl, hz⟩ := I.tuple hs
    obtain ⟨as, ra⟩ := Dp.readsAll I ds xs its hd rv
    obtain ⟨e1, e2⟩ := each_of rv hp ra
    have hn : ds.length = xs.length := (Paired.length hp).symm
    refine PySem.W.sorted_dataT (enc := id) (bs := ds) hl e1 e2 (by rw [List.map_id]; exact al) (by rw [List.map_id]; exact so) (by rw [hn]; exact hz) (fun d hm => ?_) fun out ho eo => ?_
    · have h1 := SeqAt.depth_of_shaped sh
      have h2 : (PyData.list ds).depth = PyData.depthAll ds + 1 := by simp [PyData.depth]
      have h3 := depth_mem hm
      show X.A.units + 2 + d.depth < cLine
      omega
    · obtain ⟨ys, h1, h2⟩ := each_back eo
      obtain ⟨ep, he'⟩ := PyProof.Rows.sortedAll_at s.heap its out.toArray
      have hlen : ys.length ≤ sizeLine := by rw [h1.length, ho, hn]; exact hz
      exact ⟨.ref _, upd H (s.heap.objs.size + 1) (.lst ys), I.laid (t' := s.toks) (fun _ _ => PyProof.Rows.sortedAll_old) (Nat.le_succ _) ⟨hlen, out, ep, h1, he'⟩, rfl, q _ _ h2 (I.hok.fresh (Nat.le_succ _))⟩
omit [Tabs] in
theorem rp_paired {T : Nat → V} {H : Hp} {S : Addr → Prop} : ∀ {vs : List V} {ds : List D}, RpAll T H S vs ds → Paired (Rp T H S) vs ds
  | _, _, .nil => .nil
  | _, _, .cons a t => .cons a (rp_paired t)
omit [Tabs] in
theorem paired_rp {T : Nat → V} {H : Hp} {S : Addr → Prop} : ∀ {vs : List V} {ds : List D}, Paired (Rp T H S) vs ds → RpAll T H S vs ds
  | _, _, .nil => .nil
  | _, _, .cons a t => .cons a (paired_rp t)
theorem copSorted (K : PySem.W.Frag) : CopF (rSortD K) gSorted := ⟨fun W S H xs ds Q G c t q k => by
    unfold gSorted at q
    split at q
    · rename_i es
      cases t with
      | cons t t' =>
        cases t'
        obtain ⟨a, vs, rfl, ha, r⟩ := t.list
        obtain ⟨⟨q1, q2, q3⟩, q4⟩ := q
        refine ⟨a, vs, es, Rp W.T H S, rfl, .inl (.inl (.inl ha)), r.dpAll K (by simpa [PyData.canLay0] using SeqAt.canLay_of_shaped q1), rp_paired r, q1, q2, q3, fun ys p hy hp => ?_⟩
        exact k p ys _ _ q4 (.new c.j hp) hp upd_same ((paired_rp hy).plus hp)
    · rename_i es
      cases t with
      | cons t t' =>
        cases t'
        obtain ⟨a, vs, rfl, ha, _, r⟩ := t.tuple
        obtain ⟨⟨q1, q2, q3⟩, q4⟩ := q
        refine ⟨a, vs, es, Rp W.T H S, rfl, .inr (.inl (.inl ha)), r.dpAll K (by simpa [PyData.canLay0] using SeqAt.canLay_of_shaped q1), rp_paired r, q1, q2, q3, fun ys p hy hp => ?_⟩
        exact k p ys _ _ q4 (.new c.j hp) hp upd_same ((paired_rp hy).plus hp)
    · exact q.elim, fun ds G G' f q => by
    unfold gSorted at q ⊢
    split at q
    · exact ⟨q.1, f _ q.2⟩
    · exact ⟨q.1, f _ q.2⟩
    · exact q.elim⟩

/-! ### isinstance -/
def tyName : D → String
  | .none => "NoneType"
  | .bool _ => "bool"
  | .int _ => "int"
  | .str _ => "str"
  | .list _ => "list"
  | .tuple _ => "tuple"
  | .dict _ => "dict"
def isT (T : String) : D → Bool
  | .none => false
  | .bool _ => T == "bool" || T == "int"
  | .int _ => T == "int"
  | .str _ => T == "str"
  | .list _ => T == "list"
  | .tuple _ => T == "tuple"
  | .dict _ => false
omit [Tabs] in
theorem kit_all {T : String} (hT : T = "list" ∨ T = "tuple" ∨ T = "int" ∨ T = "bool" ∨ T = "str") {d : D} (hd : ∀ k, d ≠ .dict k) : kitB (tyName d) T = some (isT T d) := by
  rcases hT with rfl | rfl | rfl | rfl | rfl <;> cases d <;> first | exact absurd rfl (hd _) | (simp only [tyName, isT]; decide +kernel)
theorem top_ty {W : Wd} {S : Addr → Prop} {H : Hp} {x : V} {d : D} (K : PySem.W.Frag) (t : Top W H S x d) (hd : ∀ k, d ≠ .dict k) : TyX K H x (.type (tyName d)) := by
  cases d with
  | none => cases t.non; exact .base .non
  | bool b => cases t.bl; exact .base (.bl b)
  | int i => cases t.int; exact .base (.int i)
  | str z => cases t.str; exact .base (.str z)
  | list ds =>
    obtain ⟨a, vs, rfl, ha, r⟩ := t.list
    exact .base (.lst ha)
  | tuple ds =>
    obtain ⟨a, vs, rfl, ha, _, r⟩ := t.tuple
    exact .base (.tup ha)
  | dict k => exact absurd rfl (hd k)
def gIsi (T : String) : G1 := fun d Q => match d with
  | .dict _ => False
  | d => Q (.bool (isT T d))
omit [Tabs] in
theorem gIsi_nd {T : String} {d : D} {Q : D → Prop} (h : gIsi T d Q) : (∀ k, d ≠ .dict k) ∧ Q (.bool (isT T d)) := by
  cases d <;> first | exact ⟨fun k z => (nomatch z), h⟩ | exact h.elim
omit [Tabs] in
theorem monoIsi {T : String} : ∀ dx G G', (∀ d, G d → G' d) → gIsi T dx G → gIsi T dx G' := fun dx G G' f q => by cases dx <;> first | exact q.elim | exact f _ q
theorem isi_ {p p2 : Pos} {x : Str} (T : String) (hT : T = "list" ∨ T = "tuple" ∨ T = "int" ∨ T = "bool" ∨ T = "str" := by simp) (hg : Gl X "isinstance") (hm : X.mg "isinstance" = none) (hg2 : Gl X x) (hm2 : X.mg x = none) (hv : bootBuiltins x = some (.type T))
    (ha : PP X a wa) (hn : x ≠ "__name__" := by decide) (hd : (x == ("__debug__" : Str)) = false := by decide)
    (hb : bootBuiltins "isinstance" = some (.builtin "isinstance") := by decide +kernel)
    (hs : starEach [a, .Name x p2] X.env = (false, eval a X.env) :: starEach [.Name x p2] X.env := by rfl) (hs2 : starEach [.Name x p2] X.env = (false, eval (.Name x p2) X.env) :: starEach [] X.env := by rfl) (hpl : (backTo pos (starEach [.Name x p2] X.env)).any (·.1) = false := by rfl) :
    PV X (.Call (.Name "isinstance" p) [a, .Name x p2] [] pos) (wU (gIsi T) wa) := by
  have pn : PA X [] tNil := pa_nil
  refine ⟨(pe_callB call_isi hg hm hb (pa_cons ha.pe (pa_cons (pe_bltn (v := .ty T) hg2 hm2 hv rfl hn hd) pn hs2) hs) (by decide) (by decide) hs hpl).imp fun σ H Q ⟨W, env, S, R, q⟩ => ?_, monoU monoIsi ha.mono⟩
  refine ⟨W, env, S, R, ha.mono _ _ _ (fun d q v H1 k t => ?_) q⟩
  obtain ⟨nd, q⟩ := gIsi_nd q
  exact ⟨v, .ty T, .type (tyName d), .type T, isT T d, rfl, .ty T, top_ty X.K t nd, kit_ty (kit_all hT nd), q _ H1 k (.bl _)⟩
/-- .. (T, U) -/
def gIsi2 (T U : String) : G1 := fun d Q => match d with
  | .dict _ => False
  | d => Q (.bool (isT T d || isT U d))
omit [Tabs] in
theorem gIsi2_nd {T U : String} {d : D} {Q : D → Prop} (h : gIsi2 T U d Q) : (∀ k, d ≠ .dict k) ∧ Q (.bool (isT T d || isT U d)) := by
  cases d <;> first | exact ⟨fun k z => (nomatch z), h⟩ | exact h.elim
omit [Tabs] in
theorem monoIsi2 {T U : String} : ∀ dx G G', (∀ d, G d → G' d) → gIsi2 T U dx G → gIsi2 T U dx G' := fun dx G G' f q => by cases dx <;> first | exact q.elim | exact f _ q
theorem isi2_ {p p2 p3 p4 : Pos} {x y : Str} {kk : Nat} (T U : String) (hT : T = "list" ∨ T = "tuple" ∨ T = "int" ∨ T = "bool" ∨ T = "str" := by simp) (hU : U = "list" ∨ U = "tuple" ∨ U = "int" ∨ U = "bool" ∨ U = "str" := by simp)
    (hg : Gl X "isinstance") (hm : X.mg "isinstance" = none) (hg2 : Gl X x) (hm2 : X.mg x = none) (hv : bootBuiltins x = some (.type T)) (hg3 : Gl X y) (hm3 : X.mg y = none) (hv3 : bootBuiltins y = some (.type U))
    (ha : PP X a wa) (hn : x ≠ "__name__" := by decide) (hd : (x == ("__debug__" : Str)) = false := by decide) (hn3 : y ≠ "__name__" := by decide) (hd3 : (y == ("__debug__" : Str)) = false := by decide)
    (hb : bootBuiltins "isinstance" = some (.builtin "isinstance") := by decide +kernel)
    (hs : starEach [a, .Tuple [.Name x p2, .Name y p3] kk p4] X.env = (false, eval a X.env) :: starEach [.Tuple [.Name x p2, .Name y p3] kk p4] X.env := by rfl)
    (hs2 : starEach [.Tuple [.Name x p2, .Name y p3] kk p4] X.env = (false, eval (.Tuple [.Name x p2, .Name y p3] kk p4) X.env) :: starEach [] X.env := by rfl)
    (hs3 : starEach [.Name x p2, .Name y p3] X.env = (false, eval (.Name x p2) X.env) :: starEach [.Name y p3] X.env := by rfl) (hs4 : starEach [.Name y p3] X.env = (false, eval (.Name y p3) X.env) :: starEach [] X.env := by rfl)
    (hpl : (backTo pos (starEach [.Tuple [.Name x p2, .Name y p3] kk p4] X.env)).any (·.1) = false := by rfl) :
    PV X (.Call (.Name "isinstance" p) [a, .Tuple [.Name x p2, .Name y p3] kk p4] [] pos) (wU (gIsi2 T U) wa) := by
  have pn : PA X [] tNil := pa_nil
  refine ⟨(pe_callB call_isiT hg hm hb (pa_cons ha.pe (pa_cons (pe_tup (pa_cons (pe_bltn (v := .ty T) hg2 hm2 hv rfl hn hd) (pa_cons (pe_bltn (v := .ty U) hg3 hm3 hv3 rfl hn3 hd3) pn hs4) hs3)) pn hs2) hs) (by decide) (by decide) hs hpl).imp fun σ H Q ⟨W, env, S, R, q⟩ => ?_, monoU monoIsi2 ha.mono⟩
  refine ⟨W, env, S, R, ha.mono _ _ _ (fun d q v H1 k t => ?_) q⟩
  obtain ⟨nd, q⟩ := gIsi2_nd q
  refine ⟨by show 2 ≤ sizeLine; decide, fun tp ntp => ?_⟩
  have t' := t.kept (KpJ.new k.2 ntp (o := .tup [.ty T, .ty U])) R.sm
  refine ⟨v, tp, [.ty T, .ty U], .type (tyName d), [.type T, .type U], isT T d || isT U d, rfl, upd_same, .cons (.ty T) (.cons (.ty U) .nil), top_ty X.K t' nd, ?_, q _ _ (k.trans (.new k.2 ntp)) (.bl _)⟩
  refine kitAny_cons (kit_ty (kit_all hT nd)) (fun e => ?_) fun e => by rw [e]; rfl
  rw [e, Bool.false_or]
  refine kitAny_cons (kit_ty (kit_all hU nd)) (fun e2 => by rw [e2]; exact kitAny_nil) fun e2 => e2

/-! ### two clauses -/
/-- all but p kept -/
def KpX (W : Wd) (p : Addr) (H H' : Hp) : Prop := (∀ a o, H a = some o → ¬ W.M a → a ≠ p → H' a = some o) ∧ W.J H'
theorem KpX.of {W : Wd} {p : Addr} {H H' : Hp} (k : KpJ W H H') : KpX W p H H' := ⟨fun a o h n _ => k.1 a o h n, k.2⟩
theorem KpX.trans {W : Wd} {p : Addr} {H H1 H2 : Hp} (a : KpX W p H H1) (b : KpX W p H1 H2) : KpX W p H H2 := ⟨fun c o h n e => b.1 c o (a.1 c o h n e) n e, b.2⟩
theorem KpX.upd {W : Wd} {p : Addr} {H : Hp} {o : HO} (j : W.J H) (np : ¬ W.M p) : KpX W p H (L2.upd H p o) := ⟨fun a o h n e => by rw [upd_ne e]; exact h, W.jk H _ (fun a m => by rw [upd_ne (fun z => np (by rw [← z]; exact m))]) j⟩
theorem KpX.toJ {W : Wd} {p : Addr} {H H1 H2 : Hp} (hp : H p = none) (k : KpJ W H H1) (k2 : KpX W p H1 H2) : KpJ W H H2 := ⟨fun a o h n => k2.1 a o (k.1 a o h n) n (ne_of_none h hp), k2.2⟩
theorem Rp.keptX {W : Wd} {S : Addr → Prop} {H H' : Hp} {p : Addr} {v : V} {d : D} (k : KpX W p H H') (sm : ∀ a, W.M a → S a) (sp : S p) (r : Rp W.T H S v d) : Rp W.T H' S v d := r.move (d := d) fun a o h n => ⟨k.1 a o h (fun m => n (sm a m)) (fun z => n (by rw [z]; exact sp)), n⟩
theorem RpAll.keptX {W : Wd} {S : Addr → Prop} {H H' : Hp} {p : Addr} {v : List V} {d : List D} (k : KpX W p H H') (sm : ∀ a, W.M a → S a) (sp : S p) (r : RpAll W.T H S v d) : RpAll W.T H' S v d := r.move (ds := d) fun a o h n => ⟨k.1 a o h (fun m => n (sm a m)) (fun z => n (by rw [z]; exact sp)), n⟩
/-- p set aside: no slot's own -/
def Wd.aside (W : Wd) (p : Addr) : Wd := { W with S0 := plus W.S0 p }
theorem RlS.aside {W : Wd} {env : En} {S : Addr → Prop} {σ : L2.St} {H H' : Hp} {p : Addr} (r : RlS W env S σ H) (hn : H p = none) (k : KpJ W H H') (hp : H' p ≠ none) : RlS (W.aside p) env (Eg.plus S p) σ H' := by
  have r' := r.plus hn k hp
  refine ⟨fun a s => s.elim (fun s => .inl (r.s0 a s)) .inr, r'.sm, r'.sn, r'.h0, r'.j, r'.len, fun i => ?_, r'.ne, r'.hd⟩
  have q := r'.sl i
  have q0 := r.sl i
  have up : ∀ a vs ds, Own W (Eg.plus S p) H' a vs ds → (∃ vs, H a = some (.lst vs)) → Own (W.aside p) (Eg.plus S p) H' a vs ds := fun a vs ds q ⟨us, h⟩ => ⟨q.s, fun s => s.elim q.s0 fun z => ne_of_none h hn z, q.m, q.h0, q.h, q.r⟩
  revert q q0
  generalize env.at i = x
  cases x with
  | un => intro _ _; trivial
  | sh d => intro q _; exact q
  | ow ds =>
    rintro ⟨a, vs, e, q⟩ ⟨b, us, e', q0⟩
    rw [e] at e'
    cases e'
    exact ⟨a, vs, e, up _ _ _ q ⟨_, q0.h⟩⟩
  | od ds =>
    rintro ⟨a, vs, e, q⟩ ⟨b, us, e', q0⟩
    rw [e] at e'
    cases e'
    exact ⟨a, vs, e, q.s, fun s => s.elim q.s0 fun z => ne_of_none q0.h hn z, q.m, q.h0, q.h, q.k, q.r⟩
  | ow2 ds =>
    rintro ⟨a, vs, e, q⟩ ⟨b, us, e', q0⟩
    rw [e] at e'
    cases e'
    have e2 : vs = us := by
      have h1 := k.1 a _ q0.h q0.m
      rw [q.h] at h1
      have h2 := Option.some.inj h1
      injection h2 with h2
      exact ref_inj h2
    subst e2
    exact ⟨a, vs, e, q.s, fun s => s.elim q.s0 fun z => ne_of_none q0.h hn z, q.m, q.h0, q.h, q.nd, q.na, Rows.moveM (fun c hc ws ds O => by
      obtain ⟨ws', ds', O'⟩ := q0.rows.each c hc
      exact up _ _ _ O ⟨_, O'.h⟩) q.rows⟩
/-- p is written, or things behind it -/
theorem RlS.keptX {W : Wd} {env : En} {S : Addr → Prop} {σ : L2.St} {H H' : Hp} {p : Addr} (r : RlS (W.aside p) env S σ H) (h0 : W.H0 p = none) (k : KpX W p H H') (hp : H' p ≠ none) : RlS (W.aside p) env S σ H' where
  s0 := r.s0
  sm := r.sm
  sn := fun a h => by
    by_cases e : a = p
    · rw [e]; exact hp
    · by_cases m : W.M a
      · exact W.jm H' k.2 a m
      · cases e2 : H a with
        | none => exact absurd e2 (r.sn a h)
        | some o => rw [k.1 a o e2 m e]; simp
  h0 := fun a o h n => k.1 a o (r.h0 a o h n) n fun z => by
    have h' : W.H0 a = some o := h
    rw [z, h0] at h'; cases h'
  j := k.2
  len := r.len
  sl := fun i => by
    have sp : S p := r.s0 p (.inr rfl)
    have up : ∀ a vs ds, Own (W.aside p) S H a vs ds → Own (W.aside p) S H' a vs ds := fun a vs ds q => ⟨q.s, q.s0, q.m, q.h0, k.1 a _ q.h q.m (fun z => q.s0 (.inr z)), RpAll.keptX (W := W) k r.sm sp q.r⟩
    have q := r.sl i
    cases e : env.at i with
    | un => trivial
    | sh d => rw [e] at q; obtain ⟨v, ev, q⟩ := q; exact ⟨v, ev, Rp.keptX (W := W) k r.sm sp q⟩
    | ow ds =>
      rw [e] at q
      obtain ⟨a, vs, ev, q⟩ := q
      exact ⟨a, vs, ev, up _ _ _ q⟩
    | od ds =>
      rw [e] at q
      obtain ⟨a, vs, ev, q⟩ := q
      exact ⟨a, vs, ev, q.s, q.s0, q.m, q.h0, k.1 a _ q.h q.m (fun z => q.s0 (.inr z)), q.k, RpAll.keptX (W := W) k r.sm sp q.r⟩
    | ow2 ds =>
      rw [e] at q
      obtain ⟨a, vs, ev, q⟩ := q
      exact ⟨a, vs, ev, q.s, q.s0, q.m, q.h0, k.1 a _ q.h q.m (fun z => q.s0 (.inr z)), q.nd, q.na, q.rows.move up⟩
  ne := fun i l a h x y => by
    have bk : ∀ l, Ads H' σ[l]? (env.at l) a → Ads H σ[l]? (env.at l) a := fun l z => by
      have ok := r.sl l
      revert ok z
      generalize env.at l = x
      cases x with
      | un => intro z; exact z.elim
      | sh d => intro z; exact z.elim
      | ow ds => intro z _; exact z
      | od ds => intro z _; exact z
      | ow2 dss =>
        rintro ⟨b, bs, e, hb, ha⟩ ⟨c, cs, e', O⟩
        rw [e] at e'; cases e'
        have h1 := k.1 b _ O.h O.m fun z => O.s0 (.inr z)
        rw [hb] at h1
        have h2 := Option.some.inj h1
        injection h2 with h2
        have h3 := ref_inj h2
        subst h3
        exact ⟨b, bs, e, O.h, ha⟩
    exact r.ne i l a h (bk i x) (bk l y)
  hd := fun q hq => Rp.keptX (W := W) k r.sm (r.s0 p (.inr rfl)) (r.hd q hq)
/-- the turns of the inner clause, the list at p so far acc0 -/
theorem lc_in {W : Wd} {vs sl : List Nat} {wg : WG} {wt : WT} {we : WE} {env : En} {S : Addr → Prop} {σ : L2.St} {H1 : Hp} {p : Addr} {J : It} {ds acc0 : List D} {xs0 : List V} {hv : List (V × D)} {Qd : Hp → Prop} {K : List D → Prop}
    (hg : MonoG wg) (ht : MonoT wt) (he : Mono we) (hsl : ∀ i ∈ sl, i ∈ vs) (R : RlS (W.aside p) env S σ H1) (h0 : W.H0 p = none) (np : ¬ W.M p) (hx0 : H1 p = some (.lst xs0)) (rx0 : RpAll W.T H1 S xs0 acc0) (src : Src (W.aside p) J ds hv) (tv : ∀ q ∈ hv, Rp W.T H1 S q.1 q.2)
    (hgo : lcGo wg wt we (wipeE env vs) ds acc0 K)
    (fin : ∀ acc xs H, K acc → KpX W p H1 H → H p = some (.lst xs) → RpAll W.T H S xs acc → Qd H) :
    ∃ Wm : Nat → Nat → Hp → Prop, (∃ m, Wm 0 m H1) ∧ ∀ i m H, Wm i m H →
      (J.stop i H ∧ Qd H) ∨ (J.go i H ∧ ∃ Nx : Hp → Prop, (∀ H', Nx H' → ∃ m', m' < m ∧ Wm (i + 1) m' H') ∧ ∀ x H', J.yld i H x H' → tG wg sl x (wipe σ vs) H' fun σ2 H2 => wipe σ2 vs = wipe σ vs ∧ tT wt σ2 H2 fun b H3 =>
        if b = true then tE we σ2 H3 fun y H4 => ∃ acc, H4 p = some (.lst acc) ∧ acc.length < sizeLine ∧ Nx (upd H4 p (.lst (acc ++ [y]))) else Nx H3) := by
  have sp : S p := R.s0 p (.inr rfl)
  refine ⟨fun i m H => m = ds.length - i ∧ i ≤ ds.length ∧ KpX W p H1 H ∧ ∃ acc xs, H p = some (.lst xs) ∧ RpAll W.T H S xs acc ∧ lcGo wg wt we (wipeE env vs) (ds.drop i) acc K, ⟨ds.length, rfl, Nat.zero_le _, .of (.refl R.j), acc0, xs0, hx0, rx0, hgo⟩, ?_⟩
  rintro i m H ⟨rfl, hi, kp, acc, xs, hx, rx, go⟩
  have R1 : RlS (W.aside p) env S σ H := R.keptX h0 kp (by rw [hx]; simp)
  obtain ⟨s1, s2⟩ := src H S R1.cn (fun q hq => .inl ((tv q hq).keptX kp R.sm sp)) i
  by_cases hlt : i < ds.length
  · obtain ⟨g1, g2⟩ := s1 _ (List.getElem?_eq_getElem hlt)
    rw [List.drop_eq_getElem_cons hlt] at go
    refine .inr ⟨g1, fun H' => KpX W p H1 H' ∧ ∃ acc xs, H' p = some (.lst xs) ∧ RpAll W.T H' S xs acc ∧ lcGo wg wt we (wipeE env vs) (ds.drop (i + 1)) acc K, fun H' ⟨k, q⟩ => ⟨ds.length - (i + 1), by omega, rfl, hlt, k, q⟩, fun x H' hy => ?_⟩
    obtain ⟨k2, rx2⟩ := g2 x H' hy
    have R2 := (R1.kept k2).wiped vs
    have px : ∀ {G : Hp}, KpJ W H' G → G p = some (.lst xs) ∧ RpAll W.T G S xs acc := fun {G} k3 => ⟨(KpJ.trans (W := W) k2 k3).1 p _ hx np, (RpAll.kept (W := W) (KpJ.trans (W := W) k2 k3) R1.sm rx)⟩
    refine ⟨W.aside p, wipeE env vs, S, _, R2, rx2, hg _ _ _ _ (fun env' go σ' R3 hw => ⟨(hw vs hsl).trans (wipe_wipe fun _ z => z), W.aside p, env', S, R3, ht _ _ _ (fun b go H3 k3 => ?_) go⟩) go⟩
    cases b with
    | false =>
      obtain ⟨e1, e2⟩ := px k3
      exact ⟨kp.trans (.of (KpJ.trans (W := W) k2 k3)), acc, xs, e1, e2, go⟩
    | true =>
      refine ⟨W.aside p, env', S, R3.kept k3, he _ _ _ (fun y go v H4 k4 r4 => ?_) go⟩
      obtain ⟨e1, e2⟩ := px (KpJ.trans (W := W) k3 k4)
      have e3 := e2.length
      refine ⟨xs, e1, by rw [e3]; exact go.1, ?_⟩
      have kk : KpX W p H1 H4 := kp.trans (.of (KpJ.trans (W := W) (KpJ.trans (W := W) k2 k3) k4))
      refine ⟨kk.trans (.upd kk.2 np), acc ++ [y], xs ++ [v], upd_same, ?_, go.2⟩
      refine (e2.append (.cons r4 .nil)).move fun a o e n => ⟨?_, n⟩
      rw [upd_ne (fun z => n (by rw [z]; exact sp))]
      exact e
  · have e : i = ds.length := by omega
    subst e
    rw [List.drop_length] at go
    exact .inl ⟨s2 (Nat.le_refl _), fin acc xs H go kp hx rx⟩
/-- both clauses -/
def lc2Go (wg : WG) (wt : WT) (vs1 : List Nat) (wi1 : WI) (wg1 : WG) (wt1 : WT) (we : WE) (env : En) : List D → List D → (List D → Prop) → Prop
  | [], acc, K => K acc
  | d :: r, acc, K => wg d env fun env' => wt env' fun b => if b = true then wi1 env' fun ds1 => lcGo wg1 wt1 we (wipeE env' vs1) ds1 acc fun acc' => lc2Go wg wt vs1 wi1 wg1 wt1 we env r acc' K
      else lc2Go wg wt vs1 wi1 wg1 wt1 we env r acc K
omit [Tabs] in
theorem lc2Go_mono {wg : WG} {wt : WT} {vs1 : List Nat} {wi1 : WI} {wg1 : WG} {wt1 : WT} {we : WE} {env : En} (hg : MonoG wg) (ht : MonoT wt) (hi1 : MonoA wi1) (hg1 : MonoG wg1) (ht1 : MonoT wt1) (he : Mono we) : ∀ (ds acc : List D) (K K' : List D → Prop), (∀ a, K a → K' a) → lc2Go wg wt vs1 wi1 wg1 wt1 we env ds acc K → lc2Go wg wt vs1 wi1 wg1 wt1 we env ds acc K'
  | [], acc, K, K', f, q => f _ q
  | d :: r, acc, K, K', f, q => hg _ _ _ _ (fun env' q => ht _ _ _ (fun b q => by
    cases b with
    | true => exact hi1 _ _ _ (fun ds1 q => lcGo_mono hg1 ht1 he _ _ _ _ (fun a q => lc2Go_mono hg ht hi1 hg1 ht1 he r _ K K' f q) q) q
    | false => exact lc2Go_mono hg ht hi1 hg1 ht1 he r _ K K' f q) q) q
def wLc2 (vs vs1 : List Nat) (wi : WI) (wg : WG) (wt : WT) (wi1 : WI) (wg1 : WG) (wt1 : WT) (we : WE) : WE := fun env Q => wi env fun ds => lc2Go wg wt vs1 wi1 wg1 wt1 we (wipeE env vs) ds [] fun acc => Q (.list acc)
omit [Tabs] in
theorem monoLc2 {vs vs1 : List Nat} {wi wi1 : WI} {wg wg1 : WG} {wt wt1 : WT} {we : WE} (hi : MonoA wi) (hg : MonoG wg) (ht : MonoT wt) (hi1 : MonoA wi1) (hg1 : MonoG wg1) (ht1 : MonoT wt1) (he : Mono we) : Mono (wLc2 vs vs1 wi wg wt wi1 wg1 wt1 we) := fun env Q Q' f q =>
  hi _ _ _ (fun ds q => lc2Go_mono hg ht hi1 hg1 ht1 he ds [] _ _ (fun acc q => f _ q) q) q
theorem lc2_read {vs vs1 sl sl1 : List Nat} {wi wi1 : WI} {wg wg1 : WG} {wt wt1 : WT} {we : WE} {σ : L2.St} {H : Hp} {Q : VK} (mi : MonoA wi) (mg : MonoG wg) (mt : MonoT wt) (mi1 : MonoA wi1) (mg1 : MonoG wg1) (mt1 : MonoT wt1) (me : Mono we) (hsl : ∀ i ∈ sl, i ∈ vs) (hsl1 : ∀ i ∈ sl1, i ∈ vs1)
    (q : tF (wLc2 vs vs1 wi wg wt wi1 wg1 wt1 we) σ H Q) : tLc2 (tI wi) (tG wg sl) (tT wt) (tI wi1) (tG wg1 sl1) (tT wt1) (tE we) vs vs1 σ H Q := by
  obtain ⟨W, env, S, R, q⟩ := q
  refine ⟨W, env, S, R, mi _ _ _ (fun ds go J H1 hv k tv src p hp => ?_) q⟩
  have Rk := R.kept k
  have npM : ¬ W.M p := fun m => W.jm H1 k.2 p m hp
  have h0p : W.H0 p = none := by
    cases e : W.H0 p with
    | none => rfl
    | some o => have := Rk.h0 p o e npM; rw [hp] at this; cases this
  obtain ⟨K, go, fin⟩ : ∃ K : List D → Prop, lc2Go wg wt vs1 wi1 wg1 wt1 we (wipeE env vs) ds [] K ∧ (∀ acc xs H2, K acc → KpJ W H1 H2 → H2 p = some (.lst xs) → RpAll W.T H2 (plus S p) xs acc → Q (.ref p) H2) := ⟨_, go, fun acc xs H2 q k2 hx rx => q p xs acc H2 rfl (k.trans k2) (k.none_of R.j hp) hx rx⟩
  · refine ⟨fun i m H => m = ds.length - i ∧ i ≤ ds.length ∧ KpJ W H1 H ∧ ∃ acc xs, H p = some (.lst xs) ∧ RpAll W.T H (plus S p) xs acc ∧ lc2Go wg wt vs1 wi1 wg1 wt1 we (wipeE env vs) (ds.drop i) acc K, ⟨ds.length, rfl, Nat.zero_le _, .new k.2 hp, [], [], upd_same, .nil, go⟩, ?_⟩
    rintro i m H ⟨rfl, hi, kp, acc, xs, hx, rx, go⟩
    have R1 : RlS (W.aside p) env (plus S p) σ H := Rk.aside hp kp (by rw [hx]; simp)
    have tvH : ∀ q ∈ hv, Top W H (plus S p) q.1 q.2 := fun q hq => .inl ((tv q hq).move (d := q.2) fun a o e n => ⟨kp.1 a o e fun m => n (R.sm a m), fun s => s.elim n fun z => ne_of_none e hp z⟩)
    obtain ⟨s1, s2⟩ := src H (plus S p) ⟨R1.sm, R1.sn, R1.j⟩ tvH i
    by_cases hlt : i < ds.length
    · obtain ⟨g1, g2⟩ := s1 _ (List.getElem?_eq_getElem hlt)
      rw [List.drop_eq_getElem_cons hlt] at go
      refine .inr ⟨g1, fun H' => KpJ W H1 H' ∧ ∃ acc xs, H' p = some (.lst xs) ∧ RpAll W.T H' (plus S p) xs acc ∧ lc2Go wg wt vs1 wi1 wg1 wt1 we (wipeE env vs) (ds.drop (i + 1)) acc K, fun H' ⟨k, q⟩ => ⟨ds.length - (i + 1), by omega, rfl, hlt, k, q⟩, fun x H' hy => ?_⟩
      obtain ⟨k2, rx2⟩ := g2 x H' hy
      have R2 := (R1.kept k2).wiped vs
      have px : ∀ {G : Hp}, KpJ W H' G → G p = some (.lst xs) ∧ RpAll W.T G (plus S p) xs acc := fun {G} k3 => ⟨(k2.trans k3).1 p _ hx npM, (RpAll.kept (W := W) (k2.trans k3) R1.sm rx)⟩
      refine ⟨W.aside p, wipeE env vs, plus S p, _, R2, rx2, mg _ _ _ _ (fun env' go σ' R3 hw => ⟨(hw vs hsl).trans (wipe_wipe fun _ z => z), W.aside p, env', plus S p, R3, mt _ _ _ (fun b go H3 k3 => ?_) go⟩) go⟩
      cases b with
      | false =>
        obtain ⟨e1, e2⟩ := px k3
        exact ⟨(kp.trans k2).trans k3, acc, xs, e1, e2, go⟩
      | true =>
        refine ⟨W.aside p, env', plus S p, R3.kept k3, mi1 _ _ _ (fun ds1 go J1 H4 hv1 k4 tv1 src1 => ?_) go⟩
        obtain ⟨e1, e2⟩ := px (KpJ.trans (W := W) k3 k4)
        have kk : KpJ W H1 H4 := KpJ.trans (W := W) (KpJ.trans (W := W) (kp.trans k2) k3) k4
        refine lc_in mg1 mt1 me hsl1 ((R3.kept k3).kept k4) h0p npM e1 e2 src1 tv1 go fun acc' xs' H5 q5 k5 hx5 rx5 => ?_
        exact ⟨KpX.toJ hp kk k5, acc', xs', hx5, rx5, q5⟩
    · have e : i = ds.length := by omega
      subst e
      rw [List.drop_length] at go
      exact .inl ⟨s2 (Nat.le_refl _), fin acc xs H go kp hx rx⟩
section
variable {elt tg iter tg1 iter1 : Expr} {ifs ifs1 : List Expr} {scope : Scope} {own : List (Str × Nat)} {vs1 sl sl1 : List Nat} {wi wi1 : WI} {wg wg1 : WG} {wt wt1 : WT} {we : WE} {y : Str} {py spos : Pos} {i : Nat}
theorem lc2_ (vs1 : List Nat) (hc : X.calm = true) (hN : X.N.Nodup) (hi : PIv X tg iter wi) (ok : BlkOk X.N X.env.scope scope own) (hv : ∀ i ∈ vs1, i ∈ own.map (·.2)) (hsl : ∀ i ∈ sl, i ∈ own.map (·.2)) (hsl1 : ∀ i ∈ sl1, i ∈ vs1)
    (hg : ∀ (s : Shared) (H : Hp) (C : Addr) (cl : List (Str × Addr)) (fp : List Addr), PGv (X.blk s H scope (compEnvC scope cl C X.env) fp) tg wg sl) (ht : ∀ (s : Shared) (H : Hp) (C : Addr) (cl : List (Str × Addr)) (fp : List Addr), PTsv (X.blk s H scope (compEnvC scope cl C X.env) fp) ifs wt)
    (hi1 : ∀ (s : Shared) (H : Hp) (C : Addr) (cl : List (Str × Addr)) (fp : List Addr), PIv (X.blk s H scope (compEnvC scope cl C X.env) fp) tg1 iter1 wi1)
    (hg1 : ∀ (s : Shared) (H : Hp) (C : Addr) (cl : List (Str × Addr)) (fp : List Addr), PGv (X.blk s H scope (compEnvC scope cl C X.env) fp) tg1 wg1 sl1) (ht1 : ∀ (s : Shared) (H : Hp) (C : Addr) (cl : List (Str × Addr)) (fp : List Addr), PTsv (X.blk s H scope (compEnvC scope cl C X.env) fp) ifs1 wt1)
    (he : ∀ (s : Shared) (H : Hp) (C : Addr) (cl : List (Str × Addr)) (fp : List Addr), PV (X.blk s H scope (compEnvC scope cl C X.env) fp) elt we)
    (mg : MonoG wg) (mt : MonoT wt) (mi1 : MonoA wi1) (mg1 : MonoG wg1) (mt1 : MonoT wt1) (me : Mono we)
    (hs : ∀ x, foldedSetIterable iter X.env x = pure x := by intro _; rfl) (hs1 : ∀ env x, foldedSetIterable iter1 env x = pure x := by intro _ _; rfl) :
    PF X (.ListComp elt [⟨tg, iter, ifs, 0⟩, ⟨tg1, iter1, ifs1, 0⟩] scope pos) (wLc2 (own.map (·.2)) vs1 wi wg wt wi1 wg1 wt1 we) :=
  ⟨(pe_lc2 hc hN hi.pi ok hv (fun s H C cl fp => (hg s H C cl fp).pg) (fun s H C cl fp => (ht s H C cl fp).pt) (fun s H C cl fp => (hi1 s H C cl fp).pi) (fun s H C cl fp => (hg1 s H C cl fp).pg) (fun s H C cl fp => (ht1 s H C cl fp).pt) (fun s H C cl fp => (he s H C cl fp).pe) hs hs1).imp
    fun σ H Q q => lc2_read hi.mono mg mt mi1 mg1 mt1 me hsl hsl1 q, monoLc2 hi.mono mg mt mi1 mg1 mt1 me⟩
/-- name = [..] on one line, a local: whatever is done with the list -/
structure LA (X : Cx) (e : Expr) (y : Str) (py spos : Pos) (i : Nat) (w : WE) : Prop where
  ps : PS X (.Assign [.Name y py] e spos) (fun D σ H => tF w σ H fun x H1 => gName i x σ H1 D.nx)
  mono : Mono w
theorem la1 (hc : X.calm = true) (hN : X.N.Nodup) (hi : X.N[i]? = some y) (hyl : X.env.scope.names.lookup y = some .local)
    (hsw : swapsWith (.ListComp elt [⟨tg, iter, ifs, 0⟩] scope pos) (some (.Name y py)) spos.line X.env = pure true)
    (hit : PIp X tg iter wi) (ok : BlkOk X.N X.env.scope scope own) (hsl : ∀ i ∈ sl, i ∈ own.map (·.2))
    (hg : ∀ (s : Shared) (H : Hp) (C : Addr) (cl : List (Str × Addr)) (fp : List Addr), PGv (X.blk s H scope (compEnvC scope cl C X.env) fp) tg wg sl) (ht : ∀ (s : Shared) (H : Hp) (C : Addr) (cl : List (Str × Addr)) (fp : List Addr), PTsv (X.blk s H scope (compEnvC scope cl C X.env) fp) ifs wt)
    (he : ∀ (s : Shared) (H : Hp) (C : Addr) (cl : List (Str × Addr)) (fp : List Addr), PV (X.blk s H scope (compEnvC scope cl C X.env) fp) elt we)
    (mg : MonoG wg) (mt : MonoT wt) (me : Mono we) (hs : ∀ x, foldedSetIterable iter X.env x = pure x := by intro _; rfl) :
    LA X (.ListComp elt [⟨tg, iter, ifs, 0⟩] scope pos) y py spos i (wLc (own.map (·.2)) wi wg wt we) :=
  ⟨(lcAsg (tx := fun _ _ _ => True) hc hN hi hyl hsw hit ok hsl hg ht he hs).imp fun D σ H q => lc_read hit.mono mg mt me hsl q, monoLc hit.mono mg mt me⟩
theorem la2 (vs1 : List Nat) (hc : X.calm = true) (hN : X.N.Nodup) (hi' : X.N[i]? = some y) (hyl : X.env.scope.names.lookup y = some .local)
    (hsw : swapsWith (.ListComp elt [⟨tg, iter, ifs, 0⟩, ⟨tg1, iter1, ifs1, 0⟩] scope pos) (some (.Name y py)) spos.line X.env = pure true)
    (hi : PIv X tg iter wi) (ok : BlkOk X.N X.env.scope scope own) (hv : ∀ i ∈ vs1, i ∈ own.map (·.2)) (hsl : ∀ i ∈ sl, i ∈ own.map (·.2)) (hsl1 : ∀ i ∈ sl1, i ∈ vs1)
    (hg : ∀ (s : Shared) (H : Hp) (C : Addr) (cl : List (Str × Addr)) (fp : List Addr), PGv (X.blk s H scope (compEnvC scope cl C X.env) fp) tg wg sl) (ht : ∀ (s : Shared) (H : Hp) (C : Addr) (cl : List (Str × Addr)) (fp : List Addr), PTsv (X.blk s H scope (compEnvC scope cl C X.env) fp) ifs wt)
    (hi1 : ∀ (s : Shared) (H : Hp) (C : Addr) (cl : List (Str × Addr)) (fp : List Addr), PIv (X.blk s H scope (compEnvC scope cl C X.env) fp) tg1 iter1 wi1)
    (hg1 : ∀ (s : Shared) (H : Hp) (C : Addr) (cl : List (Str × Addr)) (fp : List Addr), PGv (X.blk s H scope (compEnvC scope cl C X.env) fp) tg1 wg1 sl1) (ht1 : ∀ (s : Shared) (H : Hp) (C : Addr) (cl : List (Str × Addr)) (fp : List Addr), PTsv (X.blk s H scope (compEnvC scope cl C X.env) fp) ifs1 wt1)
    (he : ∀ (s : Shared) (H : Hp) (C : Addr) (cl : List (Str × Addr)) (fp : List Addr), PV (X.blk s H scope (compEnvC scope cl C X.env) fp) elt we)
    (mg : MonoG wg) (mt : MonoT wt) (mi1 : MonoA wi1) (mg1 : MonoG wg1) (mt1 : MonoT wt1) (me : Mono we)
    (hs : ∀ x, foldedSetIterable iter X.env x = pure x := by intro _; rfl) (hs1 : ∀ env x, foldedSetIterable iter1 env x = pure x := by intro _ _; rfl) :
    LA X (.ListComp elt [⟨tg, iter, ifs, 0⟩, ⟨tg1, iter1, ifs1, 0⟩] scope pos) y py spos i (wLc2 (own.map (·.2)) vs1 wi wg wt wi1 wg1 wt1 we) :=
  ⟨(ps_setLc2 hc hN hi' hyl hsw hi.pi ok hv (fun s H C cl fp => (hg s H C cl fp).pg) (fun s H C cl fp => (ht s H C cl fp).pt) (fun s H C cl fp => (hi1 s H C cl fp).pi) (fun s H C cl fp => (hg1 s H C cl fp).pg) (fun s H C cl fp => (ht1 s H C cl fp).pt) (fun s H C cl fp => (he s H C cl fp).pe) hs hs1).imp
    fun D σ H q => lc2_read hi.mono mg mt mi1 mg1 mt1 me hsl hsl1 q, monoLc2 hi.mono mg mt mi1 mg1 mt1 me⟩
theorem laOwn {e : Expr} (h : LA X e y py spos i w) : PSv X (.Assign [.Name y py] e spos) (wOwn i w) := ⟨h.ps.imp fun D σ H q => asg_ow h.mono q, monoOwn h.mono⟩
theorem laSet {e : Expr} (h : LA X e y py spos i w) : PSv X (.Assign [.Name y py] e spos) (wSet i w) := ⟨h.ps.imp fun D σ H ⟨W, env, S, R, q⟩ => ⟨W, env, S, R, h.mono _ _ _ (fun d q p vs ds H' ed k hn hp r => by
  subst ed
  exact q _ H' S ((R.kept k).setSh (.lst hp (R.cn.np hn) (r.less fun _ s => .inl s)))) q⟩, monoSet h.mono⟩
end
end
end Eg

/-! E8: defs by names, comprehensions in a def's body, several names stored at once, stores by place. -/
namespace Eg
open PySem PySem.Spec PyProof.Rows L2
variable [Tabs]

/-- what a def makes, closed upwards -/
def phiC (n np : Nat) (w : WS) : GN := fun ds Q => ∃ Q' : D → Prop, (∀ d, Q' d → Q d) ∧ phiOf n np w ds Q'
omit [Tabs] in
theorem monoC' {n np : Nat} {w : WS} : MonoN (phiC n np w) := fun ds Q Q' f ⟨R, g, q⟩ => ⟨R, fun d h => f d (g d h), q⟩
omit [Tabs] in
theorem phiC_i {n np : Nat} {w : WS} {ds : List D} {Q : D → Prop} (h : phiOf n np w ds Q) : phiC n np w ds Q := ⟨Q, fun _ h => h, h⟩
omit [Tabs] in
theorem phi_i {n np : Nat} {w : WS} {ds : List D} {Q : D → Prop} (hl : ds.length = np) (h : w (ds.map .sh ++ List.replicate (n - np) .un) ⟨fun _ => Q .none, Q, fun _ => False, fun _ => False⟩) : phiC n np w ds Q := phiC_i ⟨hl, h⟩

/-- one's own def by its name -/
structure Fd (P : Program) (w : World) (K : PySem.W.Frag) (mg : Str → Option Value) (base : Heap) (x : Str) (ps : List Str) (k : Nat) (φ : GN) : Prop where
  ex : ∃ f fd, FnOk P w K mg base CX0 k f fd ps (spOf φ) ∧ mg x = some (.ref f) ∧ PySem.W.keepIn K (.ref f) = true ∧ Binds K fd ps []
  mono : MonoN φ
section
variable {P : Program} {w : World} {K : PySem.W.Frag} {mg : Str → Option Value} {base : Heap}
theorem Fd.up {x : Str} {ps : List Str} {j k : Nat} {φ : GN} (h : Fd P w K mg base x ps j φ) (hk : j ≤ k) : Fd P w K mg base x ps k φ := by
  obtain ⟨⟨f, fd, F, a, b, c⟩, m⟩ := h
  exact ⟨⟨f, fd, F.mono hk, a, b, c⟩, m⟩
theorem spOf_len {n np : Nat} {w0 : WS} {vs : List V} {H : Hp} {Q : VK} {E : XK} (h : spOf (phiC n np w0) vs H Q E) : vs.length = np := by
  obtain ⟨W, S, ds, c, r, R, g, q⟩ := h
  rw [r.length]; exact q.1
/-- THE RULE for a def -/
theorem def_okD {x qual : Str} {params : Arguments} {bodyS : List Stmt} {scope : Scope} {f : Addr} {fd : FuncData} {N ps : List Str} {k : Nat} {w0 : WS} (F : FunD K x qual params bodyS scope [] [] f fd) (Sc : FnScope N ps scope) (hps : ps.length ≤ N.length)
    (body : ∀ (cdv : Value) (A : Around) (outer : List Env) (s : Shared) (H : Hp) (E : XK), Room k (A.deeper (envOfC qual scope s.heap.objs.size f cdv)) →
      PSsv (cxOf CX0 P w K mg base N qual scope f cdv A outer s H E).nox bodyS w0) : FnOk P w K mg base CX0 (k + 1) f fd ps (spOf (phiC N.length ps.length w0)) := by
  refine F.ok Sc (fun vs H Q E h => spOf_len h) (fun cdv A outer s H vs Q E hr h => ?_)
  have b := body cdv A outer s H E hr
  obtain ⟨W, S, ds, c, r, R, g, q⟩ := h
  refine ⟨_, PSs.nox b.ps, ?_⟩
  have hl : vs.length = ps.length := r.length.trans q.1
  have q2 := q.2
  rw [← q.1] at q2
  refine ⟨_, _, S, rl_start (N := N) c r (by omega), b.mono.ap q2 ⟨fun env' q σ' H' S' R' => ?_, fun d q v H' rt => ?_, fun _ q => q.elim, fun _ q => q.elim⟩⟩
  · exact g _ q _ H' ⟨fun a o h n => R'.h0 a o h n, R'.j⟩ .non
  · exact g _ q v H' ⟨fun a o h n => rt.h0 a o h n, rt.j⟩ (rt.r.less fun a s => .inl s)
/-- .. and its name -/
theorem def_fd {x qual : Str} {params : Arguments} {bodyS : List Stmt} {scope : Scope} {f : Addr} {fd : FuncData} {N ps : List Str} {k n np : Nat} {w0 : WS} (F : FunD K x qual params bodyS scope [] [] f fd) (hx : mg x = some (.ref f)) (Sc : FnScope N ps scope) (hps : ps.length ≤ N.length) (hn : N.length = n) (hp : ps.length = np)
    (hb : ∀ (kV doc pm : Value) (an : Option Addr) (cdv ct : Value) (us : List Value), us.length = ps.length → bindArgs (PySem.W.fnOf x qual params bodyS scope .none kV doc pm an cdv ct) ⟨us, []⟩ = pure (ps.zip us))
    (body : ∀ (cdv : Value) (A : Around) (outer : List Env) (s : Shared) (H : Hp) (E : XK), Room k (A.deeper (envOfC qual scope s.heap.objs.size f cdv)) →
      PSsv (cxOf CX0 P w K mg base N qual scope f cdv A outer s H E).nox bodyS w0) : Fd P w K mg base x ps (k + 1) (phiC n np w0) := by
  subst hn
  subst hp
  exact ⟨⟨f, fd, def_okD F Sc hps body, hx, F.kp, F.bindsN hb⟩, monoC'⟩
end

section
variable {X : Cx} {e a b c : Expr} {es : List Expr} {w wa wb wc : WE} {u : WA} {pos : Pos}
/-- f(..) of one's own -/
theorem fc_ {k : Nat} {ps : List Str} {φ : GN} {x : Str} {p : Pos} (F : Fd X.prog X.w X.K X.mg X.base x ps k φ) (hr : Room k X.A) (hg : Gl X x) (ha : PAv X (e :: es) u)
    (hdb : (x == ("__debug__" : Str)) = false := by decide) (he : starEach (e :: es) X.env = (false, eval e X.env) :: starEach es X.env := by rfl) (hpl : (backTo pos (starEach es X.env)).any (·.1) = false := by rfl) :
    PV X (.Call (.Name x p) (e :: es) [] pos) (wCl φ u) := by
  obtain ⟨⟨f, fd, F, hx, kp, hb⟩, mφ⟩ := F
  exact fcall_ F mφ hr hg hx kp hb ha hdb he hpl
omit [Tabs] in
theorem ur {k j : Nat} {A : Around} (h : Room k A) (hj : j ≤ 200 := by decide) : A.units + j < cLine := by have := h.un; omega

section
variable {elt tg iter tg1 iter1 : Expr} {ifs ifs1 : List Expr} {scope : Scope} {own : List (Str × Nat)} {vs1 sl sl1 : List Nat} {wi wi1 : WI} {wg wg1 : WG} {wt wt1 : WT} {we : WE} {y : Str} {py spos : Pos} {i : Nat}
abbrev Blk (X : Cx) (scope : Scope) (p : Cx → Prop) : Prop := ∀ (s : Shared) (H : Hp) (C : Addr) (cl : List (Str × Addr)) (fp : List Addr), p (X.blk s H scope (compEnvC scope cl C X.env) fp)
theorem lcv (own : List (Str × Nat)) (hc : X.calm = true) (hN : X.N.Nodup) (hi : PIp X tg iter wi)
    (hg : Blk X scope fun Y => PGv Y tg wg sl) (ht : Blk X scope fun Y => PTsv Y ifs wt) (he : Blk X scope fun Y => PV Y elt we)
    (hb : blkC X.N X.env.scope scope own = true := by kernel_rfl) (hsl : ∀ i ∈ sl, i ∈ own.map (·.2) := by decide) (hs : ∀ x, foldedSetIterable iter X.env x = pure x := by intro _; rfl) :
    PF X (.ListComp elt [⟨tg, iter, ifs, 0⟩] scope pos) (wLc (own.map (·.2)) wi wg wt we) :=
  lc_ hc hN hi (blkOk_by hb) hsl hg ht he hs (hg X.s_0 X.H_0 0 [] []).mono (ht X.s_0 X.H_0 0 [] []).mono (he X.s_0 X.H_0 0 [] []).mono
theorem lcv2 (own : List (Str × Nat)) (vs1 : List Nat) (hc : X.calm = true) (hN : X.N.Nodup) (hi : PIv X tg iter wi)
    (hg : Blk X scope fun Y => PGv Y tg wg sl) (ht : Blk X scope fun Y => PTsv Y ifs wt) (hi1 : Blk X scope fun Y => PIv Y tg1 iter1 wi1) (hg1 : Blk X scope fun Y => PGv Y tg1 wg1 sl1) (ht1 : Blk X scope fun Y => PTsv Y ifs1 wt1) (he : Blk X scope fun Y => PV Y elt we)
    (hb : blkC X.N X.env.scope scope own = true := by kernel_rfl) (hv : ∀ i ∈ vs1, i ∈ own.map (·.2) := by decide) (hsl : ∀ i ∈ sl, i ∈ own.map (·.2) := by decide) (hsl1 : ∀ i ∈ sl1, i ∈ vs1 := by decide) (hs : ∀ x, foldedSetIterable iter X.env x = pure x := by intro _; rfl) (hs1 : ∀ env x, foldedSetIterable iter1 env x = pure x := by intro _ _; rfl) :
    PF X (.ListComp elt [⟨tg, iter, ifs, 0⟩, ⟨tg1, iter1, ifs1, 0⟩] scope pos) (wLc2 (own.map (·.2)) vs1 wi wg wt wi1 wg1 wt1 we) :=
  lc2_ vs1 hc hN hi (blkOk_by hb) hv hsl hsl1 hg ht hi1 hg1 ht1 he (hg X.s_0 X.H_0 0 [] []).mono (ht X.s_0 X.H_0 0 [] []).mono (hi1 X.s_0 X.H_0 0 [] []).mono (hg1 X.s_0 X.H_0 0 [] []).mono (ht1 X.s_0 X.H_0 0 [] []).mono (he X.s_0 X.H_0 0 [] []).mono hs hs1
theorem lav (i : Nat) (own : List (Str × Nat)) (hc : X.calm = true) (hN : X.N.Nodup) (hit : PIp X tg iter wi)
    (hg : Blk X scope fun Y => PGv Y tg wg sl) (ht : Blk X scope fun Y => PTsv Y ifs wt) (he : Blk X scope fun Y => PV Y elt we)
    (hi : X.N[i]? = some y := by rfl) (hyl : X.env.scope.names.lookup y = some .local := by rfl)
    (hsw : swapsWith (.ListComp elt [⟨tg, iter, ifs, 0⟩] scope pos) (some (.Name y py)) spos.line X.env = pure true := by exact sw_true rfl rfl rfl (by decide +kernel))
    (hb : blkC X.N X.env.scope scope own = true := by kernel_rfl) (hsl : ∀ i ∈ sl, i ∈ own.map (·.2) := by decide) (hs : ∀ x, foldedSetIterable iter X.env x = pure x := by intro _; rfl) :
    LA X (.ListComp elt [⟨tg, iter, ifs, 0⟩] scope pos) y py spos i (wLc (own.map (·.2)) wi wg wt we) :=
  la1 hc hN hi hyl hsw hit (blkOk_by hb) hsl hg ht he (hg X.s_0 X.H_0 0 [] []).mono (ht X.s_0 X.H_0 0 [] []).mono (he X.s_0 X.H_0 0 [] []).mono hs
theorem lav2 (i : Nat) (own : List (Str × Nat)) (vs1 : List Nat) (hc : X.calm = true) (hN : X.N.Nodup) (hit : PIv X tg iter wi)
    (hg : Blk X scope fun Y => PGv Y tg wg sl) (ht : Blk X scope fun Y => PTsv Y ifs wt) (hi1 : Blk X scope fun Y => PIv Y tg1 iter1 wi1) (hg1 : Blk X scope fun Y => PGv Y tg1 wg1 sl1) (ht1 : Blk X scope fun Y => PTsv Y ifs1 wt1) (he : Blk X scope fun Y => PV Y elt we)
    (hi : X.N[i]? = some y := by rfl) (hyl : X.env.scope.names.lookup y = some .local := by rfl)
    (hsw : swapsWith (.ListComp elt [⟨tg, iter, ifs, 0⟩, ⟨tg1, iter1, ifs1, 0⟩] scope pos) (some (.Name y py)) spos.line X.env = pure true := by exact sw_true rfl rfl rfl (by decide +kernel))
    (hb : blkC X.N X.env.scope scope own = true := by kernel_rfl) (hv : ∀ i ∈ vs1, i ∈ own.map (·.2) := by decide) (hsl : ∀ i ∈ sl, i ∈ own.map (·.2) := by decide) (hsl1 : ∀ i ∈ sl1, i ∈ vs1 := by decide) (hs : ∀ x, foldedSetIterable iter X.env x = pure x := by intro _; rfl) (hs1 : ∀ env x, foldedSetIterable iter1 env x = pure x := by intro _ _; rfl) :
    LA X (.ListComp elt [⟨tg, iter, ifs, 0⟩, ⟨tg1, iter1, ifs1, 0⟩] scope pos) y py spos i (wLc2 (own.map (·.2)) vs1 wi wg wt wi1 wg1 wt1 we) :=
  la2 vs1 hc hN hi hyl hsw hit (blkOk_by hb) hv hsl hsl1 hg ht hi1 hg1 ht1 he (hg X.s_0 X.H_0 0 [] []).mono (ht X.s_0 X.H_0 0 [] []).mono (hi1 X.s_0 X.H_0 0 [] []).mono (hg1 X.s_0 X.H_0 0 [] []).mono (ht1 X.s_0 X.H_0 0 [] []).mono (he X.s_0 X.H_0 0 [] []).mono hs hs1
end
end
end Eg

/-! E9: several names stored at once, unpacking, stores by place, op=. -/
namespace Eg
open PySem PySem.Spec PyProof.Rows L2
variable [Tabs]

/-! ### several at once -/
inductive Mem (W : Wd) (S : Addr → Prop) (H : Hp) : V → Sl → Prop
  | sh {v : V} {d : D} : Rp W.T H S v d → Mem W S H v (.sh d)
  | ow {a : Addr} {vs : List V} {ds : List D} : Own W S H a vs ds → Mem W S H (.ref a) (.ow ds)
def Apt (H : Hp) (env : En) (σ : L2.St) (a : Addr) : Prop := ∀ i, ¬ Ads H σ[i]? (env.at i) a
inductive Mems (W : Wd) (S : Addr → Prop) (H : Hp) (env : En) (σ : L2.St) : List V → List Sl → Prop
  | nil : Mems W S H env σ [] []
  | cons {v : V} {m : Sl} {vs : List V} {ms : List Sl} : Mem W S H v m → (∀ a ds, m = .ow ds → v = .ref a → Apt H env σ a ∧ ∀ (j : Nat) ds', ms[j]? = some (.ow ds') → vs[j]? ≠ some (.ref a)) → Mems W S H env σ vs ms → Mems W S H env σ (v :: vs) (m :: ms)
theorem Mems.length {W : Wd} {S : Addr → Prop} {H : Hp} {env : En} {σ : L2.St} : ∀ {vs : List V} {ms : List Sl}, Mems W S H env σ vs ms → vs.length = ms.length
  | _, _, .nil => rfl
  | _, _, .cons _ _ t => congrArg (· + 1) t.length
section
variable {W : Wd} {env : En} {S S' : Addr → Prop} {σ : L2.St} {H H' : Hp}
theorem Mem.kept {v : V} {m : Sl} (k : KpJ W H H') (sm : ∀ a, W.M a → S a) (h : Mem W S H v m) : Mem W S H' v m := by
  cases h with
  | sh r => exact .sh (r.kept k sm)
  | ow O => exact .ow ⟨O.s, O.s0, O.m, O.h0, k.1 _ _ O.h O.m, O.r.kept k sm⟩
theorem Apt.kept {a : Addr} (R : RlS W env S σ H) (k : KpJ W H H') (h : Apt H env σ a) : Apt H' env σ a := fun i z => h i (z.back (R.sl i) fun b vs _ n e => k.1 b _ e n)
theorem Mems.kept (R : RlS W env S σ H) (k : KpJ W H H') : ∀ {vs : List V} {ms : List Sl}, Mems W S H env σ vs ms → Mems W S H' env σ vs ms
  | _, _, .nil => .nil
  | _, _, .cons h a t => .cons (h.kept k R.sm) (fun b ds e1 e2 => ⟨(a b ds e1 e2).1.kept R k, (a b ds e1 e2).2⟩) (t.kept R k)
theorem RlS.setM (R : RlS W env S σ H) {i : Nat} {v : V} {m : Sl} (hm : Mem W S H v m) (ha : ∀ a ds, m = .ow ds → v = .ref a → Apt H env σ a) : RlS W (env.set i m) S (σ.set i (some v)) H where
  s0 := R.s0
  sm := R.sm
  sn := R.sn
  h0 := R.h0
  j := R.j
  len := by rw [List.length_set, List.length_set]; exact R.len
  sl := fun k => sl_set (W := W) (S := S) (x := m) R.len (by
    cases hm with
    | sh r => exact ⟨v, rfl, r⟩
    | ow O => exact ⟨_, _, rfl, O⟩) R.sl k
  ne := ne_set R.len R.ne fun a z l hl q => by
    cases hm with
    | sh r => exact z.elim
    | ow O =>
      rename_i b vs ds
      have e : b = a := by
        have z' : (some (some (V.ref b)) : Option (Option V)) = some (some (.ref a)) := z
        cases z'; rfl
      subst e
      exact ha b ds rfl rfl l q
  hd := R.hd
def setsE : En → List Nat → List Sl → En
  | env, i :: is, m :: ms => setsE (env.set i m) is ms
  | env, _, _ => env
def setsS : L2.St → List Nat → List V → L2.St
  | σ, i :: is, v :: vs => setsS (σ.set i (some v)) is vs
  | σ, _, _ => σ
omit [Tabs] in
theorem Apt.set {i : Nat} {v : V} {m : Sl} {a : Addr} (h : Apt H env σ a) (hl : env.length = σ.length) (hn : ¬ Ads H (some (some v)) m a) : Apt H (env.set i m) (σ.set i (some v)) a := fun k z => by
  rw [at_set] at z
  by_cases q1 : k = i ∧ i < env.length
  · rw [if_pos q1] at z
    obtain ⟨rfl, hl'⟩ := q1
    rw [List.getElem?_set_self (by rw [← hl]; exact hl')] at z
    exact hn z
  · rw [if_neg q1] at z
    by_cases hk : k = i
    · subst hk
      have e : (σ.set k (some v))[k]? = none := List.getElem?_eq_none (by rw [List.length_set, ← hl]; exact Nat.le_of_not_lt fun z => q1 ⟨rfl, z⟩)
      rw [e] at z
      exact (ads_none z).elim
    · rw [List.getElem?_set_ne (Ne.symm hk)] at z
      exact h k z
theorem Mems.set {i : Nat} {v : V} {m : Sl} (hm : Mem W S H v m) (hl : env.length = σ.length) : ∀ {vs : List V} {ms : List Sl}, (∀ a ds, m = .ow ds → v = .ref a → ∀ (j : Nat) ds', ms[j]? = some (.ow ds') → vs[j]? ≠ some (.ref a)) → Mems W S H env σ vs ms → Mems W S H (env.set i m) (σ.set i (some v)) vs ms
  | _, _, _, .nil => .nil
  | u :: vs, n :: ms, hn, .cons h a t => .cons h (fun b ds e1 e2 => ⟨(a b ds e1 e2).1.set hl fun z => by
      cases hm with
      | sh r => exact z.elim
      | ow O =>
        rename_i c cs es
        have e : c = b := by
          have z' : (some (some (V.ref c)) : Option (Option V)) = some (some (.ref b)) := z
          cases z'; rfl
        subst e
        exact hn c es rfl rfl 0 ds (by rw [e1]; rfl) (by rw [e2]; rfl), (a b ds e1 e2).2⟩) (t.set hm hl fun b ds e1 e2 j ds' e3 e4 => hn b ds e1 e2 (j + 1) ds' (by simpa using e3) (by simpa using e4))
theorem RlS.sets : ∀ {is : List Nat} {vs : List V} {ms : List Sl} {env : En} {σ : L2.St}, RlS W env S σ H → Mems W S H env σ vs ms → RlS W (setsE env is ms) S (setsS σ is vs) H
  | [], _, _, _, _, R, h => by cases h <;> exact R
  | i :: is, _, _, _, _, R, .nil => R
  | i :: is, v :: vs, m :: ms, env, σ, R, .cons h a t => RlS.sets (is := is) (R.setM h fun b ds e1 e2 => (a b ds e1 e2).1) (t.set h R.len fun b ds e1 e2 => (a b ds e1 e2).2)
end
abbrev WM := En → (List Sl → Prop) → Prop
def tM (m : WM) : TA := fun σ H Q => ∃ W env S, RlS W env S σ H ∧ m env fun ms => ∀ vs H' S', (∀ a, S a → S' a) → (∀ a, S' a → S a ∨ H a = none) → KpJ W H H' → RlS W env S' σ H' → Mems W S' H' env σ vs ms →
  (∀ (j : Nat) a ds, ms[j]? = some (.ow ds) → vs[j]? = some (.ref a) → H a = none) → Q vs H'
def MonoM (w : WM) : Prop := ∀ env Q Q', (∀ d, Q d → Q' d) → w env Q → w env Q'
structure PMs (X : Cx) (es : List Expr) (m : WM) : Prop where
  pa : PA X es (tM m)
  mono : MonoM m
def wMn : WM := fun _ Q => Q []
def wMs (w : WE) (m : WM) : WM := fun env Q => w env fun d => m env fun ms => Q (.sh d :: ms)
def wMf (w : WE) (m : WM) : WM := fun env Q => w env fun d => match d with
  | .list ds => m env fun ms => Q (.ow ds :: ms)
  | _ => False
section
variable {X : Cx} {e a b c : Expr} {es : List Expr} {w wa wb wc : WE} {u : WA} {m : WM} {pos : Pos}
theorem mn_ : PMs X [] wMn := ⟨pa_nil.imp fun σ H Q ⟨W, env, S, R, q⟩ => q [] H S (fun _ h => h) (fun _ h => .inl h) (.refl R.j) R .nil (fun j a ds h => by simp at h), fun _ _ _ f q => f _ q⟩
theorem ms_ (h : PV X e w) (h' : PMs X es m) (hs : starEach (e :: es) X.env = (false, eval e X.env) :: starEach es X.env := by rfl) : PMs X (e :: es) (wMs w m) := by
  refine ⟨(pa_cons h.pe h'.pa hs).imp fun σ H Q ⟨W, env, S, R, q⟩ => ?_, fun env Q Q' f q => h.mono _ _ _ (fun d q => h'.mono _ _ _ (fun ms q => f _ q) q) q⟩
  refine ⟨W, env, S, R, h.mono _ _ _ (fun d q v H1 k1 r1 => ?_) q⟩
  refine ⟨W, env, S, R.kept k1, h'.mono _ _ _ (fun ms q vs H2 S2 s1 s2 k2 R2 M2 fr => ?_) q⟩
  refine q (v :: vs) H2 S2 s1 (fun a s => (s2 a s).elim .inl fun z => .inr (k1.none_of R.j z)) (k1.trans k2) R2 (.cons (.sh ?_) (fun _ _ z => nomatch z) M2) fun j a ds e1 e2 => ?_
  · exact r1.move (d := d) fun a o e n => ⟨k2.1 a o e fun m => n (R.sm a m), fun s => (s2 a s).elim n fun z => by rw [z] at e; cases e⟩
  · cases j with
    | zero => simp at e1
    | succ j => exact k1.none_of R.j (fr j a ds (by simpa using e1) (by simpa using e2))
theorem mf_ (h : PF X e w) (h' : PMs X es m) (hs : starEach (e :: es) X.env = (false, eval e X.env) :: starEach es X.env := by rfl) : PMs X (e :: es) (wMf w m) := by
  refine ⟨(pa_cons h.pe h'.pa hs).imp fun σ H Q ⟨W, env, S, R, q⟩ => ?_, fun env Q Q' f q => h.mono _ _ _ (fun d q => ?_) q⟩
  · refine ⟨W, env, S, R, h.mono _ _ _ (fun d q p vs0 ds H1 ed k1 hn hp r1 => ?_) q⟩
    subst ed
    have np : ¬ W.M p := fun z => W.jm H R.j p z hn
    have h0 : W.H0 p = none := by
      cases e : W.H0 p with
      | none => rfl
      | some o => have := R.h0 p o e np; rw [hn] at this; cases this
    have nS : ¬ S p := fun s => R.sn p s hn
    have R1 : RlS W env (Eg.plus S p) σ H1 := R.plus hn k1 (by rw [hp]; simp)
    refine ⟨W, env, Eg.plus S p, R1, h'.mono _ _ _ (fun ms q vs H2 S2 s1 s2 k2 R2 M2 fr => ?_) q⟩
    refine q (.ref p :: vs) H2 S2 (fun a s => s1 a (.inl s)) (fun a s => (s2 a s).elim (fun z => z.elim .inl fun z => .inr (by rw [z]; exact hn)) fun z => .inr (k1.none_of R.j z)) (k1.trans k2) R2 (.cons (.ow ⟨s1 p (.inr rfl), fun s => nS (R.s0 p s), np, h0, k2.1 p _ hp np, ?_⟩) (fun a ds' _ ea => ?_) M2) fun j a ds' e1 e2 => ?_
    · exact r1.move (ds := ds) fun a o e n => ⟨k2.1 a o e fun z => n (R1.sm a z), fun s => (s2 a s).elim n fun z => by rw [z] at e; cases e⟩
    · cases ea
      refine ⟨fun i z => ?_, fun j es e1 e2 => ?_⟩
      · have z' := z.back (R.sl i) fun b vs _ n e => (k1.trans k2).1 b _ e n
        exact nS (z'.own (R.sl i)).1
      · rw [fr j p es e1 e2] at hp; cases hp
    · cases j with
      | zero =>
        have e : p = a := by simpa using e2
        rw [← e]; exact hn
      | succ j => exact k1.none_of R.j (fr j a ds' (by simpa using e1) (by simpa using e2))
  · cases d with
    | list ds => exact h'.mono _ _ _ (fun ms q => f _ q) q
    | _ => exact q.elim
def wPar (is : List Nat) (m : WM) : WS := fun env P => m env fun ms => ms.length = is.length ∧ P.nx (setsE env is ms)
omit [Tabs] in
theorem monoPar {is : List Nat} (h : MonoM m) : MonoS (wPar is m) := fun env P P' l q => h _ _ _ (fun ms q => ⟨q.1, l.nx _ q.2⟩) q
theorem par2_ (i j : Nat) {x y : Str} {px py pt pt2 : Pos} {kt k2 : Nat} (hN : X.N.Nodup) (h : PMs X [a, b] m) (hc : X.calm = true := by rfl) (hi : X.N[i]? = some x := by rfl) (hj : X.N[j]? = some y := by rfl) (hij : i ≠ j := by decide)
    (hx : X.env.scope.names.lookup x = some .local := by rfl) (hy : X.env.scope.names.lookup y = some .local := by rfl)
    (hw : swappedStores [.Tuple [.Name x px, .Name y py] kt pt] (.Tuple [a, b] k2 pt2) X.env = pure (some [x, y]) := by kernel_rfl)
    (hs : swapsWithSole [.Tuple [.Name x px, .Name y py] kt pt] (.Tuple [a, b] k2 pt2) pos.line X.env = pure false := by rfl) : PSv X (.Assign [.Tuple [.Name x px, .Name y py] kt pt] (.Tuple [a, b] k2 pt2) pos) (wPar [i, j] m) := by
  refine ⟨(ps_par hc hN hi hj hij hx hy h.pa hw hs).imp fun D σ H ⟨W, env, S, R, q⟩ => ?_, monoPar h.mono⟩
  refine ⟨W, env, S, R, h.mono _ _ _ (fun ms q vs H' S' s1 s2 k R' M fr => ?_) q⟩
  have hl := M.length
  rw [q.1] at hl
  match vs, hl with
  | [v1, v2], _ => exact ⟨v1, v2, rfl, q.2 _ _ _ (R'.sets (is := [i, j]) M)⟩
theorem par3_ (i j l : Nat) {x y z : Str} {px py pz pt pt2 : Pos} {kt k2 : Nat} (hN : X.N.Nodup) (h : PMs X [a, b, c] m) (hc : X.calm = true := by rfl) (hi : X.N[i]? = some x := by rfl) (hj : X.N[j]? = some y := by rfl) (hk : X.N[l]? = some z := by rfl) (hij : i ≠ j := by decide) (hil : i ≠ l := by decide) (hjl : j ≠ l := by decide)
    (hx : X.env.scope.names.lookup x = some .local := by rfl) (hy : X.env.scope.names.lookup y = some .local := by rfl) (hz : X.env.scope.names.lookup z = some .local := by rfl)
    (hw : swappedStores [.Tuple [.Name x px, .Name y py, .Name z pz] kt pt] (.Tuple [a, b, c] k2 pt2) X.env = pure (some [x, y, z]) := by kernel_rfl)
    (hs : swapsWithSole [.Tuple [.Name x px, .Name y py, .Name z pz] kt pt] (.Tuple [a, b, c] k2 pt2) pos.line X.env = pure false := by rfl) : PSv X (.Assign [.Tuple [.Name x px, .Name y py, .Name z pz] kt pt] (.Tuple [a, b, c] k2 pt2) pos) (wPar [i, j, l] m) := by
  refine ⟨(ps_par3 hc hN hi hj hk hij hil hjl hx hy hz h.pa hw hs).imp fun D σ H ⟨W, env, S, R, q⟩ => ?_, monoPar h.mono⟩
  refine ⟨W, env, S, R, h.mono _ _ _ (fun ms q vs H' S' s1 s2 k R' M fr => ?_) q⟩
  have hl := M.length
  rw [q.1] at hl
  match vs, hl with
  | [v1, v2, v3], _ => exact ⟨v1, v2, v3, rfl, q.2 _ _ _ (R'.sets (is := [i, j, l]) M)⟩
/-- by way of the tuple -/
theorem parT2_ (i j : Nat) {x y : Str} {px py pt pt2 : Pos} {kt k2 : Nat} (hN : X.N.Nodup) (h : PMs X [a, b] m) (hc : X.calm = true := by rfl) (hi : X.N[i]? = some x := by rfl) (hj : X.N[j]? = some y := by rfl)
    (hx : Loc X.env.scope x := by first | exact Or.inl rfl | exact Or.inr rfl) (hy : Loc X.env.scope y := by first | exact Or.inl rfl | exact Or.inr rfl)
    (hfx : X.fn x = true ∨ X.env.scope.names.lookup x = some .local := by first | exact .inl rfl | exact .inr rfl) (hfy : X.fn y = true ∨ X.env.scope.names.lookup y = some .local := by first | exact .inl rfl | exact .inr rfl)
    (hs : swapsWithSole [.Tuple [.Name x px, .Name y py] kt pt] (.Tuple [a, b] k2 pt2) pos.line X.env = pure false := by rfl)
    (hw : swappedStores [.Tuple [.Name x px, .Name y py] kt pt] (.Tuple [a, b] k2 pt2) X.env = pure none := by kernel_rfl) : PSv X (.Assign [.Tuple [.Name x px, .Name y py] kt pt] (.Tuple [a, b] k2 pt2) pos) (wPar [i, j] m) := by
  refine ⟨(ps_asg (pe_tup h.pa) (pg_tup hc (pgs_cons (pg_name hN hi hx hfx) (pgs_cons (pg_name hN hj hy hfy) pgs_nil rfl) rfl) rfl rfl) hs hw rfl).imp fun D σ H ⟨W, env, S, R, q⟩ => ?_, monoPar h.mono⟩
  refine ⟨W, env, S, R, h.mono _ _ _ (fun ms q vs H' S' s1 s2 k R' M fr => ?_) q⟩
  have hl := M.length
  rw [q.1] at hl
  match vs, hl with
  | [v1, v2], _ =>
    refine ⟨by show 2 ≤ sizeLine; decide, fun p hp => ?_⟩
    have k2 := KpJ.new (o := .tup [v1, v2]) R'.j hp
    exact ⟨p, [v1, v2], rfl, .inl (.inl upd_same), rfl, _, _, rfl, _, _, rfl, rfl, q.2 _ _ _ ((R'.kept k2).sets (is := [i, j]) (M.kept R' k2))⟩
theorem parT3_ (i j l : Nat) {x y z : Str} {px py pz pt pt2 : Pos} {kt k2 : Nat} (hN : X.N.Nodup) (h : PMs X [a, b, c] m) (hc : X.calm = true := by rfl) (hi : X.N[i]? = some x := by rfl) (hj : X.N[j]? = some y := by rfl) (hk : X.N[l]? = some z := by rfl)
    (hx : Loc X.env.scope x := by first | exact Or.inl rfl | exact Or.inr rfl) (hy : Loc X.env.scope y := by first | exact Or.inl rfl | exact Or.inr rfl) (hz : Loc X.env.scope z := by first | exact Or.inl rfl | exact Or.inr rfl)
    (hfx : X.fn x = true ∨ X.env.scope.names.lookup x = some .local := by first | exact .inl rfl | exact .inr rfl) (hfy : X.fn y = true ∨ X.env.scope.names.lookup y = some .local := by first | exact .inl rfl | exact .inr rfl) (hfz : X.fn z = true ∨ X.env.scope.names.lookup z = some .local := by first | exact .inl rfl | exact .inr rfl)
    (hs : swapsWithSole [.Tuple [.Name x px, .Name y py, .Name z pz] kt pt] (.Tuple [a, b, c] k2 pt2) pos.line X.env = pure false := by rfl)
    (hw : swappedStores [.Tuple [.Name x px, .Name y py, .Name z pz] kt pt] (.Tuple [a, b, c] k2 pt2) X.env = pure none := by kernel_rfl) : PSv X (.Assign [.Tuple [.Name x px, .Name y py, .Name z pz] kt pt] (.Tuple [a, b, c] k2 pt2) pos) (wPar [i, j, l] m) := by
  refine ⟨(ps_asg (pe_tup h.pa) (pg_tup hc (pgs_cons (pg_name hN hi hx hfx) (pgs_cons (pg_name hN hj hy hfy) (pgs_cons (pg_name hN hk hz hfz) pgs_nil rfl) rfl) rfl) rfl rfl) hs hw rfl).imp fun D σ H ⟨W, env, S, R, q⟩ => ?_, monoPar h.mono⟩
  refine ⟨W, env, S, R, h.mono _ _ _ (fun ms q vs H' S' s1 s2 k R' M fr => ?_) q⟩
  have hl := M.length
  rw [q.1] at hl
  match vs, hl with
  | [v1, v2, v3], _ =>
    refine ⟨by show 3 ≤ sizeLine; decide, fun p hp => ?_⟩
    have k2 := KpJ.new (o := .tup [v1, v2, v3]) R'.j hp
    exact ⟨p, [v1, v2, v3], rfl, .inl (.inl upd_same), rfl, _, _, rfl, _, _, rfl, _, _, rfl, rfl, q.2 _ _ _ ((R'.kept k2).sets (is := [i, j, l]) (M.kept R' k2))⟩
/-- target = e -/
def wAsg (w : WE) (g : WG) : WS := fun env P => w env fun d => g d env P.nx
theorem asg_ {tg : Expr} {g : WG} {sl : List Nat} (h : PV X e w) (hg : PGv X tg g sl) (hs : swapsWithSole [tg] e pos.line X.env = pure false := by rfl) (hw : swappedStores [tg] e X.env = pure none := by rfl)
    (h1 : (assignEach [tg] X.env).map (·.2) = [assign tg X.env] := by rfl) : PSv X (.Assign [tg] e pos) (wAsg w g) := by
  refine ⟨(ps_asg h.pe hg.pg hs hw h1).imp fun D σ H ⟨W, env, S, R, q⟩ => ?_, fun env P P' l q => h.mono _ _ _ (fun d q => hg.mono _ _ _ _ l.nx q) q⟩
  exact ⟨W, env, S, R, h.mono _ _ _ (fun d q v H1 k1 r1 => ⟨W, env, S, d, R.kept k1, r1, hg.mono _ _ _ _ (fun env' q σ' R' _ => q σ' _ S R') q⟩) q⟩
/-- name[i] = e -/
def stI (i : Nat) (env : En) (ix x : D) (K : En → Prop) : Prop := match env.at i, ix with
  | .ow ds, .int k => match ixN ds.length k with
    | some j => K (env.set i (.ow (ds.set j x)))
    | none => False
  | _, _ => False
omit [Tabs] in
theorem stI_mono {i : Nat} {env : En} {ix x : D} {K K' : En → Prop} (f : ∀ e, K e → K' e) (q : stI i env ix x K) : stI i env ix x K' := by
  unfold stI at q ⊢
  split at q
  · split at q
    · exact f _ q
    · exact q.elim
  · exact q.elim
theorem stI_rl {i : Nat} {W : Wd} {env : En} {S : Addr → Prop} {σ : L2.St} {H : Hp} {ix x : D} {K : En → Prop} {v iv : V} {p : Addr} {Q : Hp → Prop} (R : RlS W env S σ H) (ep : σ[i]? = some (some (.ref p))) (ri : Top W H S iv ix) (rv : Rp W.T H S v x) (q : stI i env ix x K)
    (f : ∀ env' H', K env' → RlS W env' S σ H' → Q H') : rSetL (.ref p) iv v H Q := by
  unfold stI at q
  split at q
  · rename_i ds k he
    split at q
    · rename_i j hj
      have sl := R.sl i
      rw [he] at sl
      obtain ⟨p', vs, ep', O⟩ := sl
      rw [ep] at ep'; cases ep'
      refine ⟨p, vs, k, j, rfl, ri.int, O.h, by rw [O.r.length]; exact hj, f _ _ q ?_⟩
      exact R.write he ep (R.lt he) (O.r.set rv j)
    · exact q.elim
  · exact q.elim
theorem RlS.own_at {i : Nat} {W : Wd} {env : En} {S : Addr → Prop} {σ : L2.St} {H : Hp} (R : RlS W env S σ H) (h : ∃ ds, env.at i = .ow ds) : ∃ p, σ[i]? = some (some (.ref p)) := by
  obtain ⟨ds, he⟩ := h
  have sl := R.sl i
  rw [he] at sl
  obtain ⟨p, vs, ep, O⟩ := sl
  exact ⟨p, ep⟩
def wStI (i : Nat) (wi w : WE) : WS := fun env P => (∃ ds, env.at i = .ow ds) ∧ w env fun x => wi env fun ix => stI i env ix x P.nx
theorem sti_ (i : Nat) {x : Str} {ie : Expr} {wi : WE} {p1 p2 : Pos} (hi : PP X ie wi) (h : PV X e w) (hN : X.N[i]? = some x := by rfl) (hv : Vis X.env.scope x := by first | exact Or.inl rfl | exact Or.inr (Or.inl rfl) | exact Or.inr (Or.inr rfl)) (hd : (x == ("__debug__" : Str)) = false := by decide)
    (hcd : (x == ("__classdict__" : Str)) = false := by decide)
    (ha : ∀ v, assign (.Subscript (.Name x p1) ie p2) X.env v = (do
      let ov ← holding [v] (eval (.Name x p1) X.env)
      let iv ← holding [v, ov] (eval ie X.env)
      standAt p2
      holding [v, ov, iv] (setItem ov iv v)
      release [v, ov, iv] []) := by intro _; rfl)
    (hs : swapsWithSole [.Subscript (.Name x p1) ie p2] e pos.line X.env = pure false := by rfl) (hw : swappedStores [.Subscript (.Name x p1) ie p2] e X.env = pure none := by rfl)
    (h1 : (assignEach [.Subscript (.Name x p1) ie p2] X.env).map (·.2) = [assign (.Subscript (.Name x p1) ie p2) X.env] := by rfl) : PSv X (.Assign [.Subscript (.Name x p1) ie p2] e pos) (wStI i wi w) := by
  refine ⟨(ps_asg h.pe (pg_sub (pe_var hN hv hd hcd) hi.pe set_list ha) hs hw h1).imp fun D σ H ⟨W, env, S, R, q⟩ => ?_, fun env P P' l q => ⟨q.1, h.mono _ _ _ (fun d q => hi.mono _ _ _ (fun ix q => stI_mono l.nx q) q) q.2⟩⟩
  obtain ⟨p, ep⟩ := R.own_at q.1
  refine ⟨W, env, S, R, h.mono _ _ _ (fun d q v H1 k1 r1 => ?_) q.2⟩
  refine ⟨.ref p, ep, W, env, S, R.kept k1, hi.mono _ _ _ (fun ix q iv H2 k2 r2 => ?_) q⟩
  exact stI_rl ((R.kept k1).kept k2) ep r2 (r1.kept k2 R.sm) q fun env' H' q' R' => q' σ H' S R'
end
end Eg

/-! E10: a number drawn. -/
namespace Eg
open PySem PySem.Spec PyProof.Rows L2
variable [Tabs]
/-- a number below a bound, whatever it is -/
def pDraw : GN := fun ds Q => ∃ m : Int, ds = [.dict [(.int 0, .none)], .int m] ∧ 0 < m ∧ m < 2 ^ 63 ∧ ∀ d : Int, 0 ≤ d → d < m → Q (.int d)
omit [Tabs] in
theorem monoDraw : MonoN pDraw := fun ds Q Q' f ⟨m, e, h1, h2, q⟩ => ⟨m, e, h1, h2, fun d a b => f _ (q d a b)⟩
def rLenS (K : PySem.W.Frag) : List V → Hp → VK → Prop := fun xs H Q => ∃ p ys, xs = [.ref p] ∧ (SqL K H p ys ∨ SqT K H p ys) ∧ Q (.int ys.length) H
def rInt1 : List V → Hp → VK → Prop := fun xs H Q => (∃ i, xs = [.int i] ∧ Q (.int i) H) ∨ ∃ k, xs = [.bl k] ∧ Q (.int (if k then 1 else 0)) H
def tDraw (K : PySem.W.Frag) : TS :=
  tSeq (tAsg (tOp (rIxL K) (tVar 0) (tC (.int 0))) (gName 2))
  (tSeq (tWhile (tAnd (tB (tGt (tCB (rLenS K) (tCons (tVar 2) tNil)) (tC (.int 0)))) (tTest (tOp rEq (tOp (rIxL K) (tVar 2) (tC (.int 0))) (tC (.int 0))))) (tDrop (tBM K "list" rPopAt (tVar 2) (tCons (tC (.int 0)) tNil))))
  (tSeq (tIfS (tB (tGt (tCB (rLenS K) (tCons (tVar 2) tNil)) (tC (.int 0))))
    (tSeq (tAsg (tOp (rIxL K) (tVar 2) (tC (.int 0))) (gName 3))
      (tSeq (tAsg (tOp (rI DivOk fun i j => .int (i.fdiv j)) (tVar 3) (tVar 1)) (L2.gSub (tVar 2) (tC (.int 0)) rSetL))
        (tRet (tOp (rI (fun _ j => j ≠ 0) fun i j => .int (i.fmod j)) (tCB rInt1 (tCons (tVar 3) tNil)) (tVar 1))))) tNext)
  (tSeq (tAsg (tOp (rI (fun _ j => j ≠ 0) fun i j => .int (i.fmod j)) (tCB rInt1 (tCons (tOp (rI0 fun i j => .int (i + j)) (tOp (rI Eg.MulOk fun i j => .int (i * j)) (tOp (rIxL K) (tVar 0) (tC (.int 1))) (tC (.int 48271))) (tC (.int 12345))) tNil)) (tC (.int 2147483647))) (gName 4))
  (tSeq (tAsg (tVar 4) (L2.gSub (tVar 0) (tC (.int 1)) rSetL))
    (tRet (tOp (rI (fun _ j => j ≠ 0) fun i j => .int (i.fmod j)) (tCB rInt1 (tCons (tOp (rI DivOk fun i j => .int (i.fdiv j)) (tVar 4) (tC (.int 64))) tNil)) (tVar 1)))))))
theorem KpJ.wr {W : Wd} {H : Hp} {x : Addr} {o : HO} (m : W.M x) (j : W.J (upd H x o)) : KpJ W H (upd H x o) := ⟨fun a q e n => by
  rw [upd_ne (fun z => n (by rw [z]; exact m))]; exact e, j⟩
theorem draw_pure {K : PySem.W.Frag} {vs : List V} {H : Hp} {Q : VK} {E : XK} (h : spOf pDraw vs H Q E) : tDraw K { nx := fun _ H' => Q .non H', rt := Q } (L2.start ["state", "many", "cells", "value", "mixed"] vs) H := by
  obtain ⟨W, S, ds, c0, r, m, rfl, hm, hm2, hQ⟩ := h
  cases r with
  | cons r r' =>
    cases r' with
    | cons r2 r3 =>
      cases r3
      cases r2
      cases r with
      | tok _ nt =>
        obtain ⟨a, c, ea, hac, ma, mc, hJ⟩ := W.dr.one nt
        have hm0 : m ≠ 0 := by omega
        have hl : m.natAbs.log2 < 9000 := by
          have h1 : m.natAbs < 2 ^ 63 := by omega
          have h2 := (Nat.log2_lt (n := m.natAbs) (k := 63) (by omega)).mpr h1
          omega
        have fm : ∀ x : Int, 0 ≤ x.fmod m ∧ x.fmod m < m := fun x => ⟨Int.fmod_nonneg_of_pos x hm, Int.fmod_lt_of_pos x hm⟩
        rw [ea]
        obtain ⟨cells, s, h1, h2, s1, s2⟩ := (hJ H c0.j).1
        refine ⟨.ref a, rfl, a, _, 0, .ref c, rfl, rfl, .inl (.inl h1), rfl, ?_⟩
        have ix0 : ∀ n : Nat, ixN (n + 1) 0 = some 0 := fun n => by
          unfold ixN
          rw [if_pos (by omega), if_pos (by omega)]; rfl
        have at0 : ∀ (x : V) (l : List V), atI (x :: l) 0 = some x := fun x l => by
          unfold atI
          rw [show (x :: l).length = l.length + 1 from rfl, ix0]; rfl
        have ret : ∀ (x : Int) (H' : Hp), KpJ W H H' → Q (.int (x.fmod m)) H' := fun x H' k => hQ _ (fm x).1 (fm x).2 _ H' k (.int _)
        have after : ∀ (H' : Hp) (cells : List Int) (s : Int), KpJ W H H' → H' a = some (.lst [.ref c, .int s]) → H' c = some (.lst (cells.map V.int)) → 0 ≤ s → s < 2147483648 →
            (tSeq (tIfS (tB (tGt (tCB (rLenS K) (tCons (tVar 2) tNil)) (tC (.int 0))))
    (tSeq (tAsg (tOp (rIxL K) (tVar 2) (tC (.int 0))) (gName 3))
      (tSeq (tAsg (tOp (rI DivOk fun i j => .int (i.fdiv j)) (tVar 3) (tVar 1)) (L2.gSub (tVar 2) (tC (.int 0)) rSetL))
        (tRet (tOp (rI (fun _ j => j ≠ 0) fun i j => .int (i.fmod j)) (tCB rInt1 (tCons (tVar 3) tNil)) (tVar 1))))) tNext)
  (tSeq (tAsg (tOp (rI (fun _ j => j ≠ 0) fun i j => .int (i.fmod j)) (tCB rInt1 (tCons (tOp (rI0 fun i j => .int (i + j)) (tOp (rI Eg.MulOk fun i j => .int (i * j)) (tOp (rIxL K) (tVar 0) (tC (.int 1))) (tC (.int 48271))) (tC (.int 12345))) tNil)) (tC (.int 2147483647))) (gName 4))
  (tSeq (tAsg (tVar 4) (L2.gSub (tVar 0) (tC (.int 1)) rSetL))
    (tRet (tOp (rI (fun _ j => j ≠ 0) fun i j => .int (i.fmod j)) (tCB rInt1 (tCons (tOp (rI DivOk fun i j => .int (i.fdiv j)) (tVar 4) (tC (.int 64))) tNil)) (tVar 1)))))) { nx := fun _ H' => Q .non H', rt := Q } [some (.ref a), some (.int m), some (.ref c), none, none] H' := by
          intro H' cells s k h1 h2 s1 s2
          refine ⟨.ref c, rfl, c, _, rfl, .inl (.inl (.inl h2)), _, _, rfl, rfl, _, rfl, ?_⟩
          cases cells with
          | nil =>
            refine ⟨.ref a, rfl, a, _, 1, .int s, rfl, rfl, .inl (.inl h1), rfl, s, 48271, rfl, rfl, .inl (.inr (by decide)), _, _, rfl, rfl, .inl ⟨_, rfl, ?_⟩⟩
            refine ⟨_, _, rfl, rfl, show (2147483647 : Int) ≠ 0 by decide, ?_⟩
            have f1 := Int.fmod_nonneg_of_pos (s * 48271 + 12345) (show (0 : Int) < 2147483647 by decide)
            have f2 := Int.fmod_lt_of_pos (s * 48271 + 12345) (show (0 : Int) < 2147483647 by decide)
            refine ⟨_, rfl, .ref a, rfl, a, [.ref c, .int s], 1, 1, rfl, rfl, h1, rfl, ?_⟩
            have k2 : KpJ W H (upd H' a (.lst [.ref c, .int ((s * 48271 + 12345).fmod 2147483647)])) := k.trans (.wr ma ((hJ _ k.2).2 _ (fun b n1 n2 _ => upd_ne n1) ⟨[], _, upd_same, by rw [upd_ne (Ne.symm hac)]; exact h2, f1, by omega⟩))
            refine ⟨_, rfl, _, _, rfl, rfl, ⟨by decide, by decide⟩, .inl ⟨_, rfl, _, rfl, _, _, rfl, rfl, hm0, ret _ _ k2⟩⟩
          | cons x cells =>
            have hd : decide ((0 : Int) < (((x :: cells).map V.int).length : Nat)) = true := by simp
            show if decide ((0 : Int) < (((x :: cells).map V.int).length : Nat)) = true then _ else _
            rw [hd]
            refine ⟨.ref c, rfl, c, _, 0, .int x, rfl, rfl, .inl (.inl h2), at0 _ _, .int x, rfl, .int m, rfl, _, _, rfl, rfl, ⟨hm0, hl⟩, .ref c, rfl, c, _, 0, 0, rfl, rfl, h2, by rw [List.map_cons, List.length_cons]; exact ix0 _, ?_⟩
            have k2 : KpJ W H (upd H' c (.lst (((x :: cells).map V.int).set 0 (.int (x.fdiv m))))) := k.trans (.wr mc ((hJ _ k.2).2 _ (fun b n1 n2 _ => upd_ne n2) ⟨x.fdiv m :: cells, s, by rw [upd_ne hac]; exact h1, upd_same, s1, s2⟩))
            exact ⟨.int x, rfl, .inl ⟨_, rfl, .int m, rfl, _, _, rfl, rfl, hm0, ret _ _ k2⟩⟩
        refine ⟨fun n σ H' => σ = [some (.ref a), some (.int m), some (.ref c), none, none] ∧ KpJ W H H' ∧ ∃ cells s, H' a = some (.lst [.ref c, .int s]) ∧ H' c = some (.lst (cells.map V.int)) ∧ 0 ≤ s ∧ s < 2147483648 ∧ n = cells.length, ⟨cells.length, rfl, .refl c0.j, cells, s, h1, h2, s1, s2, rfl⟩, ?_⟩
        rintro n σ H' ⟨rfl, k, cells, s, h1, h2, s1, s2, rfl⟩
        refine ⟨.ref c, rfl, c, _, rfl, .inl (.inl (.inl h2)), ?_⟩
        refine ⟨_, _, rfl, rfl, _, rfl, ?_⟩
        cases cells with
        | nil => exact after H' [] s k h1 h2 s1 s2
        | cons x cells =>
          have hd : decide ((0 : Int) < (((x :: cells).map V.int).length : Nat)) = true := by simp
          show if decide ((0 : Int) < (((x :: cells).map V.int).length : Nat)) = true then _ else _
          rw [hd]
          refine ⟨.ref c, rfl, c, _, 0, .int x, rfl, rfl, .inl (.inl h2), at0 _ _, rfl, decide (V.int x = V.int 0), rfl, ?_⟩
          by_cases hx : x = 0
          · subst hx
            refine ⟨fun σ H'' => σ = [some (.ref a), some (.int m), some (.ref c), none, none] ∧ KpJ W H H'' ∧ H'' a = some (.lst [.ref c, .int s]) ∧ H'' c = some (.lst (cells.map V.int)), fun σ' H'' ⟨e, k', q1, q2⟩ => ⟨cells.length, Nat.lt_succ_self _, e, k', cells, s, q1, q2, s1, s2, rfl⟩, ?_⟩
            refine ⟨.ref c, rfl, .inl ⟨rfl, _, .inl (.inl h2)⟩, c, _, 0, 0, .int 0, rfl, rfl, h2, by decide, by decide, by rw [List.map_cons, List.length_cons]; exact (ixN_seq (ix0 _)).1, rfl, rfl, ?_, by rw [upd_ne hac]; exact h1, upd_same⟩
            exact k.trans (.wr mc ((hJ _ k.2).2 _ (fun b n1 n2 _ => upd_ne n2) ⟨cells, s, by rw [upd_ne hac]; exact h1, upd_same, s1, s2⟩))
          · have e : decide (V.int x = V.int 0) = false := decide_eq_false fun z => hx (V.int.inj z)
            rw [e]
            exact after H' (x :: cells) s k h1 h2 s1 s2
end Eg

/-! E11: the state that a law draws from; a law as a whole. -/
namespace Eg
open PySem PySem.Spec PyProof.Rows L2
variable [Tabs]
omit [Tabs] in
theorem sq_new {K : PySem.W.Frag} {H : Hp} {a p : Addr} {xs : List V} {o : HO} (h : SqL K H a xs) (hp : H p = none) : SqL K (upd H p o) a xs := by
  rcases h with (h | ⟨q, h⟩) | h
  · exact .inl (.inl (same_new hp a _ h))
  · exact .inl (.inr ⟨q, same_new hp a _ h⟩)
  · exact .inr h
omit [Tabs] in
theorem sq_other {K : PySem.W.Frag} {H : Hp} {a p : Addr} {xs ys : List V} {o : HO} (h : SqL K H a xs) (hp : H p = some (.lst ys)) (hn : a ≠ p) : SqL K (upd H p o) a xs := by
  rcases h with (h | ⟨q, h⟩) | h
  · exact .inl (.inl (by rw [upd_ne hn]; exact h))
  · exact .inl (.inr ⟨q, by rw [upd_ne hn]; exact h⟩)
  · exact .inr h
/-- the state made of a script -/
def spState (K : PySem.W.Frag) : Sp := fun vs H Q _ => ∃ (a : Addr) (ns : List Int), vs = [.ref a] ∧ SqL K H a (ns.map V.int) ∧ ns.length ≤ 63 ∧
  ∀ p c H', (∃ (cells : List Int) (m : Int), H' p = some (.lst [.ref c, .int m]) ∧ H' c = some (.lst (cells.map V.int)) ∧ 0 ≤ m ∧ m < 2147483648) → p ≠ c → (∀ b o, H b = some o → H' b = some o) → H p = none → H c = none → Q (.ref p) H'
def tState (K : PySem.W.Frag) : TS :=
  tSeq (tAsg (tC (.int 7)) (gName 1))
  (tSeq (tFor (iList K (tVar 0)) (gName 2) (tAsg (tOp (rI (fun _ j => j ≠ 0) fun i j => .int (i.fmod j)) (tCB rInt1 (tCons (tOp (rI0 fun i j => .int (i + j)) (tOp (rI Eg.MulOk fun i j => .int (i * j)) (tVar 1) (tC (.int 31))) (tVar 2)) tNil)) (tC (.int 1000003))) (gName 1)))
  (tRet (tLst (tCons (tLc (iList K (tVar 0)) (gName 2) tYes (tCB (fun xs H Q => ∃ i, xs = [.int i] ∧ Q (.int (if i < 0 then -i else i)) H) (tCons (tVar 2) tNil)) [2]) (tCons (tOp (rI0 fun i j => .int (i + j)) (tVar 1) (tC (.int 1))) tNil)))))
omit [Tabs] in
theorem state_pure {K : PySem.W.Frag} {vs : List V} {H : Hp} {Q : VK} {E : XK} (h : spState K vs H Q E) : tState K { nx := fun _ H' => Q .non H', rt := Q } (L2.start ["script", "seed", "cell"] vs) H := by
  obtain ⟨a, ns, rfl, hS, hl, hQ⟩ := h
  refine ⟨_, rfl, a, rfl, ⟨_, hS⟩, ?_⟩
  refine for_list (xs := ns.map V.int) (fun i σ H' => H' = H ∧ ∃ s c, σ = [some (.ref a), some (.int s), c] ∧ 0 ≤ s ∧ s < 1000003) ⟨rfl, 7, none, rfl, by decide, by decide⟩ (fun i σ H' _ q => by rw [q.1]; exact hS) ?_ ?_
  · rintro i x σ H' hx ⟨rfl, s, c, rfl, s1, s2⟩
    rw [List.getElem?_map] at hx
    cases hn : ns[i]? with
    | none => rw [hn] at hx; cases hx
    | some n =>
      rw [hn] at hx
      have e : V.int n = x := Option.some.inj hx
      subst e
      have f1 := Int.fmod_nonneg_of_pos (s * 31 + n) (show (0 : Int) < 1000003 by decide)
      have f2 := Int.fmod_lt_of_pos (s * 31 + n) (show (0 : Int) < 1000003 by decide)
      exact ⟨.int s, rfl, s, 31, rfl, rfl, .inl (.inr (by decide)), .int n, rfl, _, _, rfl, rfl, .inl ⟨_, rfl, _, _, rfl, rfl, show (1000003 : Int) ≠ 0 by decide, rfl, _, _, rfl, f1, f2⟩⟩
  · rintro σ H' ⟨rfl, s, c, rfl, s1, s2⟩
    refine ⟨_, rfl, a, rfl, ⟨_, hS⟩, fun p hp => ?_⟩
    refine lc_list (xs := ns.map V.int) (fun i H1 => SqL K H1 a (ns.map V.int) ∧ (∀ b o, H' b = some o → H1 b = some o) ∧ ∃ cells : List Int, cells.length = i ∧ H1 p = some (.lst (cells.map V.int))) ⟨sq_new hS hp, fun b o e => same_new hp b o e, [], rfl, upd_same⟩ (fun i H1 _ q => q.1) ?_ ?_
    · rintro i x H1 hx ⟨q1, q2, cells, q3, q4⟩
      rw [List.getElem?_map] at hx
      cases hn : ns[i]? with
      | none => rw [hn] at hx; cases hx
      | some n =>
        rw [hn] at hx
        have e : V.int n = x := Option.some.inj hx
        subst e
        have hi : i < ns.length := (List.getElem?_eq_some_iff.mp hn).1
        have hsz : (cells.map V.int).length < sizeLine := by
          rw [List.length_map, q3]
          have : (63 : Nat) < sizeLine := by decide
          omega
        refine ⟨rfl, ?_⟩
        refine ⟨.int n, rfl, n, rfl, cells.map V.int, q4, hsz, ?_, fun b o e => ?_, cells ++ [if n < 0 then -n else n], by simp [q3], ?_⟩
        · by_cases hap : a = p
          · subst hap
            exact .inr (by
              rcases hS with (h | ⟨q, h⟩) | h
              · rw [hp] at h; cases h
              · rw [hp] at h; cases h
              · exact h)
          · exact sq_other q1 q4 hap
        · rw [upd_ne (ne_of_none e hp)]; exact q2 b o e
        · rw [upd_same]; simp
    · rintro H1 ⟨q1, q2, cells, q3, q4⟩
      refine ⟨.int s, rfl, _, _, rfl, rfl, by show 2 ≤ sizeLine; decide, fun q hq => ?_⟩
      have hpq : q ≠ p := fun z => by subst z; rw [q4] at hq; cases hq
      have hq0 : H' q = none := by
        cases e : H' q with
        | none => rfl
        | some o => rw [q2 q o e] at hq; cases hq
      exact hQ q p _ ⟨cells, s + 1, upd_same, by rw [upd_ne (Ne.symm hpq)]; exact q4, by omega, by omega⟩ hpq (fun b o e => by rw [upd_ne fun z => by rw [z, hq0] at e; cases e]; exact q2 b o e) hq0 hp
/-- a law's promise -/
def spLaw (K : PySem.W.Frag) : Sp := fun vs H Q _ => ∃ (a : Addr) (ns : List Int), vs = [.ref a] ∧ SqL K H a (ns.map V.int) ∧ ns.length ≤ 63 ∧ (∀ P ∈ Tabs.tb, GxR.TabG H P) ∧ ∀ H', Q (.bl true) H'
def tok0 : D := .dict [(.int 0, .none)]
def lawEnv (n : Nat) : En := .un :: .sh tok0 :: List.replicate (n - 2) .un
def yes : Po := ⟨fun _ => False, fun d => d = .bool true, fun _ => False, fun _ => False⟩
def drawW (p c : Addr) (hpc : p ≠ c) (hp : p ∉ Tabs.tb) (hc : c ∉ Tabs.tb) : Wd where
  T := fun k => if k = 0 then .ref p else .non
  M := fun x => (x = p ∨ x = c) ∨ x ∈ Tabs.tb
  J := fun H => St1 p c H ∧ ∀ P ∈ Tabs.tb, GxR.TabG H P
  dr := ⟨fun _ => ⟨p, c, rfl, hpc, .inl (.inl rfl), .inl (.inr rfl), fun H j => ⟨j.1, fun H' e s => ⟨s, fun P hP => by
    obtain ⟨ps, h1, h2⟩ := j.2 P hP
    exact ⟨ps, (e P (fun z => hp (by rw [← z]; exact hP)) (fun z => hc (by rw [← z]; exact hP)) (.inr hP)).trans h1, h2⟩⟩⟩⟩, fun h => absurd rfl h⟩
  tm := fun P hP => .inr hP
  tj := fun P hP H j => ⟨j.2 P hP, fun ps h => ⟨by
    obtain ⟨cells, m, h1, h2, h3⟩ := j.1
    exact ⟨cells, m, by rw [upd_ne (fun z => hp (by rw [z]; exact hP))]; exact h1, by rw [upd_ne (fun z => hc (by rw [z]; exact hP))]; exact h2, h3⟩, fun P' hP' => by
    by_cases z : P' = P
    · subst z
      exact ⟨ps, upd_same, h⟩
    · obtain ⟨qs, h1, h2⟩ := j.2 P' hP'
      exact ⟨qs, by rw [upd_ne z]; exact h1, h2⟩⟩⟩
  jm := fun H ⟨⟨cells, m, h1, h2, _, _⟩, h3⟩ x hx => by
    rcases hx with (rfl | rfl) | hx
    · rw [h1]; simp
    · rw [h2]; simp
    · obtain ⟨ps, e, _⟩ := h3 x hx
      rw [e]; simp
  jk := fun H H' e ⟨⟨cells, m, h1, h2, h3, h4⟩, h5⟩ => ⟨⟨cells, m, (e p (.inl (.inl rfl))).symm.trans h1, (e c (.inl (.inr rfl))).symm.trans h2, h3, h4⟩, fun P hP => by
    obtain ⟨ps, q1, q2⟩ := h5 P hP
    exact ⟨ps, (e P (.inr hP)).symm.trans q1, q2⟩⟩
  H0 := fun _ => none
  S0 := fun x => (x = p ∨ x = c) ∨ x ∈ Tabs.tb
  hold := []
theorem law_env {n : Nat} {a : Addr} {p c : Addr} {hpc : p ≠ c} {hp : p ∉ Tabs.tb} {hc : c ∉ Tabs.tb} {H : Hp} (j : (drawW p c hpc hp hc).J H) (hn : 2 ≤ n) : RlS (drawW p c hpc hp hc) (lawEnv n) (fun x => (x = p ∨ x = c) ∨ x ∈ Tabs.tb) (some (V.ref a) :: some (V.ref p) :: List.replicate (n - 2) none) H where
  s0 := fun _ h => h
  sm := fun _ h => h
  sn := (drawW p c hpc hp hc).jm H j
  h0 := fun _ _ h _ => nomatch h
  j := j
  len := by simp [lawEnv]
  sl := fun i => by
    unfold lawEnv En.at
    match i with
    | 0 => trivial
    | 1 => exact ⟨.ref p, rfl, Rp.tok (T := (drawW p c hpc hp hc).T) 0 (fun z => nomatch z)⟩
    | i + 2 =>
      have e : (Sl.un :: Sl.sh tok0 :: List.replicate (n - 2) Sl.un).getD (i + 2) Sl.un = Sl.un := by
        rw [List.getD_eq_getElem?_getD]
        show ((List.replicate (n - 2) Sl.un)[i]?).getD Sl.un = Sl.un
        rw [List.getElem?_replicate]
        split <;> rfl
      rw [e]; trivial
  ne := fun i k b _ h1 _ => by
    unfold lawEnv En.at at h1
    match i with
    | 0 => exact h1
    | 1 => exact h1
    | i + 2 =>
      have e : (Sl.un :: Sl.sh tok0 :: List.replicate (n - 2) Sl.un).getD (i + 2) Sl.un = Sl.un := by
        rw [List.getD_eq_getElem?_getD]
        show ((List.replicate (n - 2) Sl.un)[i]?).getD Sl.un = Sl.un
        rw [List.getElem?_replicate]
        split <;> rfl
      rw [e] at h1; exact h1
  hd := fun q hq => nomatch hq
/-- THE RULE for a law that draws from its state -/
theorem law_ok1 {P : Program} {w : World} {K : PySem.W.Frag} {mg : Str → Option Value} {base : Heap} {x qual : Str} {params : Arguments} {st0 : Stmt} {rest : List Stmt} {scope : Scope} {f : Addr} {fd : FuncData} {N : List Str} {k : Nat} {w0 : WS}
    (F : FunD K x qual params (st0 :: rest) scope [] [] f fd) (Sc : FnScope N ["script"] scope) (hn : 2 ≤ N.length)
    (hst : ∀ (cdv : Value) (A : Around) (outer : List Env) (s : Shared) (H : Hp) (E : XK), Room k (A.deeper (envOfC qual scope s.heap.objs.size f cdv)) →
      PS (cxOf CX0 P w K mg base N qual scope f cdv A outer s H E).nox st0 (tAsg (tCall (spState K) [] E0 (tCons (tVar 0) tNil)) (gName 1)))
    (hre : ∀ (cdv : Value) (A : Around) (outer : List Env) (s : Shared) (H : Hp) (E : XK), Room k (A.deeper (envOfC qual scope s.heap.objs.size f cdv)) →
      PSsv (cxOf CX0 P w K mg base N qual scope f cdv A outer s H E).nox rest w0)
    (plain : w0 (lawEnv N.length) yes) : FnOk P w K mg base CX0 (k + 1) f fd ["script"] (spLaw K) := by
  refine F.ok Sc (fun vs H Q E h => ?_) (fun cdv A outer s H vs Q E hr h => ⟨_, PSs.nox (pss_cons (hst cdv A outer s H E hr) (hre cdv A outer s H E hr).ps), ?_⟩)
  · obtain ⟨a, ns, rfl, _⟩ := h
    rfl
  · have m := (hre cdv A outer s H E hr).mono
    obtain ⟨a, ns, rfl, hS, hl, hT, hQ⟩ := h
    have e : L2.start N [V.ref a] = some (V.ref a) :: none :: List.replicate (N.length - 2) none := by
      unfold L2.start
      show some (V.ref a) :: List.replicate (N.length - 1) none = _
      have : N.length - 1 = (N.length - 2) + 1 := by omega
      rw [this, List.replicate_succ]
    rw [e]
    refine ⟨.ref a, rfl, a, ns, rfl, hS, hl, fun p c H' j hpc hk hp0 hc0 => ?_⟩
    have nT : ∀ x, H x = none → x ∉ Tabs.tb := fun x e z => by
      obtain ⟨ps, e2, _⟩ := hT x z
      rw [e] at e2; cases e2
    have hTT : ∀ P ∈ Tabs.tb, GxR.TabG H' P := fun P hP => by
      obtain ⟨ps, e2, e3⟩ := hT P hP
      exact ⟨ps, hk _ _ e2, e3⟩
    show tS w0 { nx := fun _ H' => Q .non H', rt := Q } (some (V.ref a) :: some (V.ref p) :: List.replicate (N.length - 2) none) H'
    refine ⟨drawW p c hpc (nT p hp0) (nT c hc0), lawEnv N.length, _, law_env ⟨j, hTT⟩ hn, m.ap plain ⟨fun _ z => z.elim, fun d hd v H'' rt => ?_, fun _ z => z.elim, fun _ z => z.elim⟩⟩
    subst hd
    have r := rt.r
    cases r
    exact hQ H''
end Eg

/-! E12: how the terms read, for plain laws. -/
namespace Eg
open PySem PySem.Spec PyProof.Rows L2
section
variable {env : En} {Q : D → Prop} {QL : List D → Prop} {QB : Bool → Prop} {QO : Option Int → Prop} {QM : List Sl → Prop} {P : Po} {w wa wb wc : WE} {u : WA} {m : WM} {s t : WS} {g : WG} {gs : WGs} {c c' : WT} {i : Nat} {d x y : D} {ds es : List D} {QE : En → Prop}
@[simp] theorem at_0 {a : Sl} {e : En} : En.at (a :: e) 0 = a := id rfl
@[simp] theorem at_S {a : Sl} {e : En} {n : Nat} : En.at (a :: e) (n + 1) = En.at e n := id rfl
@[simp] theorem s_wV : wV i env Q = match env.at i with | .sh d => Q d | _ => False := id rfl
@[simp] theorem s_wO : wO i env Q = match env.at i with | .ow ds => Q (.list ds) | _ => False := id rfl
@[simp] theorem s_wC : wC d env Q = Q d := id rfl
@[simp] theorem s_wB {g : G2} : wB g wa wb env Q = wa env fun x => wb env fun y => g x y Q := id rfl
@[simp] theorem s_wU {g : G1} : wU g wa env Q = wa env fun x => g x Q := id rfl
@[simp] theorem s_wCl {g : GN} : wCl g u env Q = u env fun ds => g ds Q := id rfl
@[simp] theorem s_wN : wN env QL = QL [] := id rfl
@[simp] theorem s_wK : wK w u env QL = w env fun d => u env fun ds => QL (d :: ds) := id rfl
@[simp] theorem s_wTup : wTup u env Q = u env fun ds => ds.length ≤ sizeLine ∧ Q (.tuple ds) := id rfl
@[simp] theorem s_wLst : wLst u env Q = u env fun ds => ds.length ≤ sizeLine ∧ Q (.list ds) := id rfl
@[simp] theorem s_wT : wT w env QB = w env fun d => gTru d QB := id rfl
@[simp] theorem s_gTru : gTru d QB = (isD d = true ∧ QB (tru d)) := id rfl
@[simp] theorem s_wTB : wTB w env QB = w env fun d => gBool d QB := id rfl
@[simp] theorem s_gBool {b : Bool} : gBool (.bool b) QB = QB b := id rfl
@[simp] theorem s_wNotT : wNotT c env QB = c env fun b => QB (!b) := id rfl
@[simp] theorem s_wAndT : wAndT c c' env QB = c env fun b => if b = true then c' env QB else QB false := id rfl
@[simp] theorem s_wOrT : wOrT c c' env QB = c env fun b => if b = true then QB true else c' env QB := id rfl
@[simp] theorem s_wAndV : wAndV wa wb env Q = wa env fun x => gTru x fun b => if b = true then wb env Q else Q x := id rfl
@[simp] theorem s_wOrV : wOrV wa wb env Q = wa env fun x => gTru x fun b => if b = true then Q x else wb env Q := id rfl
@[simp] theorem s_wNotV : wNotV wa env Q = wa env fun x => gTru x fun b => Q (.bool (!b)) := id rfl
@[simp] theorem s_wIf : wIf c wa wb env Q = c env fun b => if b = true then wa env Q else wb env Q := id rfl
@[simp] theorem s_wCh {g g' : G2} : wCh g g' wa wb wc env Q = wa env fun x => wb env fun y => g x y fun z => match z with
  | .bool k => if k = true then wc env fun w => g' y w Q else Q (.bool false)
  | _ => False := id rfl
@[simp] theorem s_wNo : wNo env QO = QO none := id rfl
@[simp] theorem s_wSo : wSo w env QO = w env fun d => match d with | .int i => QO (some i) | _ => False := id rfl
@[simp] theorem s_wSl {lo hi : WO} : wSl w lo hi env Q = w env fun d => lo env fun l => hi env fun h => match d with
  | .list ds => Q (.list (cutD ds l h))
  | .tuple ds => Q (.tuple (cutD ds l h))
  | _ => False := id rfl
@[simp] theorem s_wSlF {lo hi : WO} : wSlF w lo hi env Q = w env fun d => lo env fun l => hi env fun h => match d with
  | .list ds => Q (.list (cutD ds l h))
  | _ => False := id rfl
@[simp] theorem s_wIt : wIt w env QL = w env fun d => match d with
  | .list ds => ds.length ≤ sizeLine → QL ds
  | .tuple ds => ds.length ≤ sizeLine → QL ds
  | _ => False := id rfl
@[simp] theorem s_wRng1 : wRng1 u env QL = u env fun ds => match ds with
  | [.int j] => (-(2 ^ 62) ≤ j ∧ j < 2 ^ 62) ∧ QL (rangeD 0 j.toNat)
  | _ => False := id rfl
@[simp] theorem s_wRng2 : wRng2 u env QL = u env fun ds => match ds with
  | [.int i, .int j] => (-(2 ^ 62) ≤ i ∧ i < 2 ^ 62 ∧ -(2 ^ 62) ≤ j ∧ j < 2 ^ 62) ∧ QL (rangeD i (j - i).toNat)
  | _ => False := id rfl
@[simp] theorem s_wGn : wGn i d env QE = QE (env.set i (.sh d)) := id rfl
@[simp] theorem s_wGnil : wGnil ds env QE = (ds = [] ∧ QE env) := id rfl
@[simp] theorem s_wGcons : wGcons g gs (d :: ds) env QE = g d env fun env' => gs ds env' QE := id rfl
@[simp] theorem s_wGt {n : Nat} : wGt n gs (.tuple ds) env QE = (ds.length = n ∧ gs ds env QE) := id rfl
@[simp] theorem s_wGtL {n : Nat} : wGt n gs (.list ds) env QE = (ds.length = n ∧ gs ds env QE) := id rfl
@[simp] theorem s_wYes : wYes env QB = QB true := id rfl
@[simp] theorem s_wNx : wNx env P = P.nx env := id rfl
@[simp] theorem s_wBk : wBk env P = P.bk env := id rfl
@[simp] theorem s_wCt : wCt env P = P.ct env := id rfl
@[simp] theorem s_wSeq : wSeq s t env P = s env { P with nx := fun env' => t env' P } := id rfl
@[simp] theorem s_wRet : wRet w env P = w env P.rt := id rfl
@[simp] theorem s_wDrop : wDrop w env P = w env fun _ => P.nx env := id rfl
@[simp] theorem s_wSh : wSh i s env P = match env.at i with | .ow ds => s (env.set i (.sh (.list ds))) P | .ow2 dss => s (env.set i (.sh (.list (dss.map .list)))) P | _ => False := id rfl
@[simp] theorem s_wSet : wSet i w env P = w env fun d => P.nx (env.set i (.sh d)) := id rfl
@[simp] theorem s_wOwn : wOwn i w env P = w env fun d => match d with | .list ds => P.nx (env.set i (.ow ds)) | _ => False := id rfl
@[simp] theorem s_wIfS : wIfS c s t env P = c env fun b => if b = true then s env P else t env P := id rfl
@[simp] theorem s_wFor {wi : WI} : wFor wi g s env P = wi env fun ds => forGo g s ds env P := id rfl
@[simp] theorem s_wApp : wApp i w env P = match env.at i with | .ow ds => w env fun d => ds.length < sizeLine ∧ P.nx (env.set i (.ow (ds ++ [d]))) | _ => False := id rfl
@[simp] theorem s_wLc {vs : List Nat} {wi : WI} : wLc vs wi g c w env Q = wi env fun ds => lcGo g c w (wipeE env vs) ds [] fun acc => Q (.list acc) := id rfl
@[simp] theorem s_wLc2 {vs vs1 : List Nat} {wi wi1 : WI} {g1 : WG} {c1 : WT} : wLc2 vs vs1 wi g c wi1 g1 c1 w env Q = wi env fun ds => lc2Go g c vs1 wi1 g1 c1 w (wipeE env vs) ds [] fun acc => Q (.list acc) := id rfl
@[simp] theorem s_wipeN : wipeE env [] = env := id rfl
@[simp] theorem s_wipeC {v : Nat} {vs : List Nat} : wipeE env (v :: vs) = (wipeE env vs).set v .un := id rfl
@[simp] theorem s_wMn : wMn env QM = QM [] := id rfl
@[simp] theorem s_wMs : wMs w m env QM = w env fun d => m env fun ms => QM (.sh d :: ms) := id rfl
@[simp] theorem s_wMf : wMf w m env QM = w env fun d => match d with | .list ds => m env fun ms => QM (.ow ds :: ms) | _ => False := id rfl
@[simp] theorem s_wPar {is : List Nat} : wPar is m env P = m env fun ms => ms.length = is.length ∧ P.nx (setsE env is ms) := id rfl
@[simp] theorem s_setsE {a : Sl} {is : List Nat} {ms : List Sl} : setsE env (i :: is) (a :: ms) = setsE (env.set i a) is ms := id rfl
@[simp] theorem s_setsN {ms : List Sl} : setsE env [] ms = env := by cases ms <;> rfl
@[simp] theorem s_wAsg : wAsg w g env P = w env fun d => g d env P.nx := id rfl
@[simp] theorem s_wStI {wi : WE} : wStI i wi w env P = ((∃ ds, env.at i = .ow ds) ∧ w env fun x => wi env fun ix => stI i env ix x P.nx) := id rfl
@[simp] theorem s_gI {C : Int → Int → Prop} {f : Int → Int → D} {a b : Int} : gI C f (.int a) (.int b) Q = (C a b ∧ Q (f a b)) := id rfl
@[simp] theorem s_gAddI {a b : Int} : gAdd (.int a) (.int b) Q = Q (.int (a + b)) := id rfl
@[simp] theorem s_gAddL {a b : List D} : gAdd (.list a) (.list b) Q = (a.length + b.length ≤ sizeLine ∧ Q (.list (a ++ b))) := id rfl
@[simp] theorem s_gAddT {a b : List D} : gAdd (.tuple a) (.tuple b) Q = (a.length + b.length ≤ sizeLine ∧ Q (.tuple (a ++ b))) := id rfl
@[simp] theorem s_gAddB {a : Int} {b : Bool} : gAdd (.int a) (.bool b) Q = Q (.int (a + b2i b)) := id rfl
@[simp] theorem s_gCat {a b : List D} : gCat (.list a) (.list b) Q = (a.length + b.length ≤ sizeLine ∧ Q (.list (a ++ b))) := id rfl
@[simp] theorem s_gMul {a b : Int} : gMul (.int a) (.int b) Q = (MulOk a b ∧ Q (.int (a * b))) := id rfl
@[simp] theorem s_gNeg {a : Int} : gNeg (.int a) Q = Q (.int (-a)) := id rfl
@[simp] theorem s_gEq : gEq x y Q = ((SeqAt.shaped x = true ∧ SeqAt.shaped y = true) ∧ Q (.bool (PyData.eqv x y))) := id rfl
@[simp] theorem s_gNe : gNe x y Q = ((SeqAt.shaped x = true ∧ SeqAt.shaped y = true) ∧ Q (.bool (!PyData.eqv x y))) := id rfl
@[simp] theorem s_gInL {neg : Bool} : gInB neg x (.list ds) Q = ((SeqAt.shaped x = true ∧ PyData.canLayAll0 ds = true) ∧ Q (.bool (if neg = true then !inD x ds else inD x ds))) := id rfl
@[simp] theorem s_gInT {neg : Bool} : gInB neg x (.tuple ds) Q = ((SeqAt.shaped x = true ∧ PyData.canLayAll0 ds = true) ∧ Q (.bool (if neg = true then !inD x ds else inD x ds))) := id rfl
@[simp] theorem s_gIxL {a : Int} : gIx (.list ds) (.int a) Q = match atI ds a with | some d => Q d | none => False := id rfl
@[simp] theorem s_gIxT {a : Int} : gIx (.tuple ds) (.int a) Q = match atI ds a with | some d => Q d | none => False := id rfl
@[simp] theorem s_gIsB {a b : Bool} : gIs (.bool a) (.bool b) Q = Q (.bool (decide (a = b))) := id rfl
@[simp] theorem s_gIsNotB {a b : Bool} : gIsNot (.bool a) (.bool b) Q = Q (.bool (!decide (a = b))) := id rfl
@[simp] theorem s_gLenL : gLen [.list ds] Q = Q (.int ds.length) := id rfl
@[simp] theorem s_gLenT : gLen [.tuple ds] Q = Q (.int ds.length) := id rfl
@[simp] theorem s_gListL : gListOf [.list ds] Q = Q (.list ds) := id rfl
@[simp] theorem s_gListT : gListOf [.tuple ds] Q = Q (.list ds) := id rfl
@[simp] theorem s_gTupL : gTupOf [.list ds] Q = Q (.tuple ds) := id rfl
@[simp] theorem s_gTupT : gTupOf [.tuple ds] Q = Q (.tuple ds) := id rfl
@[simp] theorem s_gAbs {a : Int} : gAbs [.int a] Q = Q (.int (if a < 0 then -a else a)) := id rfl
@[simp] theorem s_gInt {a : Int} : gInt [.int a] Q = Q (.int a) := id rfl
@[simp] theorem s_gIntB {b : Bool} : gInt [.bool b] Q = Q (.int (if b then 1 else 0)) := id rfl
@[simp] theorem s_gMax2 {a b : Int} : gMax2 [.int a, .int b] Q = Q (.int (if b > a then b else a)) := id rfl
@[simp] theorem s_gMin2 {a b : Int} : gMin2 [.int a, .int b] Q = Q (.int (if b < a then b else a)) := id rfl
@[simp] theorem s_gSortedT : gSorted [.tuple ds] Q = ((SeqAt.shaped (.list ds) = true ∧ PySem.W.AllAlike ds ∧ PySem.W.SortableX ds) ∧ Q (.list (ds.mergeSort (PySem.W.dataLe false id)))) := id rfl
@[simp] theorem s_gSorted : gSorted [.list ds] Q = ((SeqAt.shaped (.list ds) = true ∧ PySem.W.AllAlike ds ∧ PySem.W.SortableX ds) ∧ Q (.list (ds.mergeSort (PySem.W.dataLe false id)))) := id rfl
@[simp] theorem s_gIsiL {T : String} : gIsi T (.list ds) Q = Q (.bool (T == "list")) := id rfl
@[simp] theorem s_gIsiT {T : String} : gIsi T (.tuple ds) Q = Q (.bool (T == "tuple")) := id rfl
@[simp] theorem s_gIsiI {T : String} {a : Int} : gIsi T (.int a) Q = Q (.bool (T == "int")) := id rfl
@[simp] theorem s_gIsiB {T : String} {b : Bool} : gIsi T (.bool b) Q = Q (.bool (T == "bool" || T == "int")) := id rfl
@[simp] theorem s_truI {a : Int} : tru (.int a) = (a != 0) := id rfl
@[simp] theorem s_truB {b : Bool} : tru (.bool b) = b := id rfl
@[simp] theorem s_truL : tru (.list ds) = !ds.isEmpty := id rfl
@[simp] theorem s_truT : tru (.tuple ds) = !ds.isEmpty := id rfl
@[simp] theorem s_truN : tru .none = false := id rfl
@[simp] theorem s_isI {a : Int} : isD (.int a) = true := id rfl
@[simp] theorem s_isB {b : Bool} : isD (.bool b) = true := id rfl
@[simp] theorem s_isL : isD (.list ds) = true := id rfl
@[simp] theorem s_isT : isD (.tuple ds) = true := id rfl
@[simp] theorem s_isN : isD .none = true := id rfl
theorem draw_i {m : Int} (h0 : 0 < m) (h1 : m < 2 ^ 63) (h : ∀ d : Int, 0 ≤ d → d < m → Q (.int d)) : pDraw [.dict [(.int 0, .none)], .int m] Q := ⟨m, rfl, h0, h1, h⟩
end

/-! ### loops -/
theorem lcGo_map {wg : WG} {wt : WT} {we : WE} {env : En} (f : D → Option D) : ∀ (ds acc : List D) (K : List D → Prop),
    (∀ d ∈ ds, ∀ (Y : D → Prop) (N : Prop), (match f d with | some y => Y y | none => N) → wg d env fun env' => wt env' fun b => if b = true then we env' Y else N) → acc.length + ds.length ≤ sizeLine →
    K (acc ++ ds.filterMap f) → lcGo wg wt we env ds acc K
  | [], acc, K, _, _, h => by
    rw [List.filterMap_nil, List.append_nil] at h; exact h
  | d :: r, acc, K, hs, hl, h => by
    have hl' : acc.length + (r.length + 1) ≤ sizeLine := by simpa using hl
    refine hs d List.mem_cons_self _ _ ?_
    cases e : f d with
    | some y =>
      refine ⟨by omega, lcGo_map f r (acc ++ [y]) K (fun d hd => hs d (List.mem_cons_of_mem _ hd)) (by rw [List.length_append, List.length_singleton]; omega) ?_⟩
      rw [List.filterMap_cons_some e] at h
      rw [List.append_assoc]; exact h
    | none =>
      refine lcGo_map f r acc K (fun d hd => hs d (List.mem_cons_of_mem _ hd)) (by omega) ?_
      rw [List.filterMap_cons_none e] at h
      exact h
/-- over items that stand for things -/
theorem lcGo_enc {α : Type} (en : α → D) {wg : WG} {wt : WT} {we : WE} {env : En} (p : α → Bool) (f : α → D) {xs : List α} {acc : List D} {K : List D → Prop}
    (hs : ∀ x ∈ xs, ∀ (Y : D → Prop) (N : Prop), (if p x = true then Y (f x) else N) → wg (en x) env fun env' => wt env' fun b => if b = true then we env' Y else N) (hl : acc.length + xs.length ≤ sizeLine)
    (h : K (acc ++ (xs.filter p).map f)) : lcGo wg wt we env (xs.map en) acc K := by
  induction xs generalizing acc with
  | nil => simpa [lcGo] using h
  | cons x r ih =>
    have hl' : acc.length + (r.length + 1) ≤ sizeLine := by simpa using hl
    rw [List.map_cons]
    refine hs x List.mem_cons_self _ _ ?_
    by_cases e : p x = true
    · rw [if_pos e]
      rw [List.filter_cons_of_pos e, List.map_cons] at h
      refine ⟨by omega, ih (acc := acc ++ [f x]) (fun y hy => hs y (List.mem_cons_of_mem _ hy)) (by rw [List.length_append, List.length_singleton]; omega) (by rw [List.append_assoc]; exact h)⟩
    · rw [if_neg e]
      rw [List.filter_cons_of_neg e] at h
      exact ih (fun y hy => hs y (List.mem_cons_of_mem _ hy)) (by omega) h
theorem forGo_nil {g : WG} {s : WS} {env : En} {P : Po} (h : P.nx env) : forGo g s [] env P := h
/-- an invariant along a loop -/
theorem forGo_inv {α : Type} (en : α → D) {g : WG} {s : WS} {P : Po} (I : List α → En → Prop) : ∀ (todo done : List α) (env : En), I done env →
    (∀ (x : α) (d r : List α) (env : En), done ++ todo = d ++ x :: r → I d env → ∀ (N : En → Prop), (∀ e, I (d ++ [x]) e → N e) → g (en x) env fun env' => s env' ⟨N, P.rt, P.nx, N⟩) → (∀ env, I (done ++ todo) env → P.nx env) → forGo g s (todo.map en) env P
  | [], done, env, h, _, fin => fin env (by rw [List.append_nil]; exact h)
  | x :: r, done, env, h, st, fin => by
    refine st x done r env rfl h _ fun e he => ?_
    refine forGo_inv en I r (done ++ [x]) e he (fun y d r' env' eq => st y d r' env' (by rw [← eq]; simp)) (fun env' h' => fin env' ?_)
    rw [List.append_assoc] at h'; exact h'
theorem wWh_i {c : WT} {s : WS} {env : En} {P : Po} (I : Nat → En → Prop) {n : Nat} (h : I n env)
    (st : ∀ (n : Nat) (env : En), I n env → ∀ (N : En → Prop), (∀ m e, m < n → I m e → N e) → c env fun b => if b = true then s env ⟨N, P.rt, P.nx, N⟩ else P.nx env) : wWh c s env P := by
  have key : ∀ k n env, n < k → I n env → whGo c s k env P := by
    intro k
    induction k with
    | zero => intro n env hn; omega
    | succ k ih =>
      intro n env hn hI
      exact st n env hI _ fun m e hm he => ih m e (by omega) he
  exact ⟨n + 1, key (n + 1) n env (Nat.lt_succ_self n) h⟩

/-! ### data -/
theorem eqv_int {a b : Int} : PyData.eqv (.int a) (.int b) = decide (a = b) := by
  show (a == b) = _
  by_cases h : a = b <;> simp [h]
theorem eqvAll_map {α : Type} [DecidableEq α] (f : α → D) (hf : ∀ x y, PyData.eqv (f x) (f y) = decide (x = y)) : ∀ xs ys : List α, PyData.eqvAll (xs.map f) (ys.map f) = decide (xs = ys)
  | [], [] => rfl
  | [], _ :: _ => rfl
  | _ :: _, [] => rfl
  | x :: xs, y :: ys => by
    show (PyData.eqv (f x) (f y) && PyData.eqvAll (xs.map f) (ys.map f)) = _
    rw [hf, eqvAll_map f hf xs ys]
    by_cases h1 : x = y <;> by_cases h2 : xs = ys <;> simp [h1, h2]
def Il (ns : List Int) : D := .list (ns.map .int)
def It' (ns : List Int) : D := .tuple (ns.map .int)
theorem eqv_Il {a b : List Int} : PyData.eqv (Il a) (Il b) = decide (a = b) := eqvAll_map _ (fun _ _ => eqv_int) a b
theorem eqv_It {a b : List Int} : PyData.eqv (It' a) (It' b) = decide (a = b) := eqvAll_map _ (fun _ _ => eqv_int) a b
theorem inD_map {α : Type} [DecidableEq α] (f : α → D) (hf : ∀ x y, PyData.eqv (f x) (f y) = decide (x = y)) (x : α) (xs : List α) : inD (f x) (xs.map f) = decide (x ∈ xs) := by
  unfold inD
  rw [List.any_map, Bool.eq_iff_iff, List.any_eq_true, decide_eq_true_eq]
  constructor
  · rintro ⟨y, hy, e⟩
    have e2 : PyData.eqv (f y) (f x) = true := e
    rw [hf, decide_eq_true_eq] at e2
    rw [← e2]; exact hy
  · intro h
    exact ⟨x, h, by show PyData.eqv (f x) (f x) = true; rw [hf]; simp⟩
theorem inD_int {x : Int} {xs : List Int} : inD (.int x) (xs.map .int) = decide (x ∈ xs) := inD_map .int (fun _ _ => eqv_int) x xs
/-- plain data of a depth -/
def Pl (n : Nat) (d : D) : Prop := d.canLay0 = true ∧ d.depth ≤ n
theorem Pl.shaped {n : Nat} {d : D} (h : Pl n d) (hn : n ≤ 64 := by decide) : SeqAt.shaped d = true := by
  unfold SeqAt.shaped
  rw [h.1, decide_eq_true (Nat.le_trans h.2 hn)]; rfl
theorem Pl.int {n : Nat} {a : Int} : Pl (n + 1) (.int a) := ⟨rfl, by simp [PyData.depth]⟩
theorem canLayAll_map {α : Type} {f : α → D} {xs : List α} (h : ∀ x ∈ xs, (f x).canLay0 = true) : PyData.canLayAll0 (xs.map f) = true := by
  induction xs with
  | nil => rfl
  | cons x r ih =>
    show (PyData.canLay0 (f x) && PyData.canLayAll0 (r.map f)) = true
    rw [h x List.mem_cons_self, ih fun y hy => h y (List.mem_cons_of_mem _ hy)]; rfl
theorem depthAll_le {n : Nat} : ∀ {ds : List D}, (∀ d ∈ ds, d.depth ≤ n) → PyData.depthAll ds ≤ n
  | [], _ => by simp [PyData.depthAll]
  | d :: r, h => by
    rw [PyData.depthAll]
    exact Nat.max_le.mpr ⟨h d List.mem_cons_self, depthAll_le fun x hx => h x (List.mem_cons_of_mem _ hx)⟩
theorem canLayAll_of {ds : List D} (h : ∀ d ∈ ds, d.canLay0 = true) : PyData.canLayAll0 ds = true := by
  have := canLayAll_map (f := id) h
  rwa [List.map_id] at this
theorem Pl.list {n : Nat} {ds : List D} (h : ∀ d ∈ ds, Pl n d) : Pl (n + 1) (.list ds) := by
  refine ⟨?_, ?_⟩
  · show PyData.canLayAll0 ds = true
    exact canLayAll_of fun d hd => (h d hd).1
  · simp only [PyData.depth]
    have := depthAll_le (n := n) fun d hd => (h d hd).2
    omega
theorem Pl.tuple {n : Nat} {ds : List D} (h : ∀ d ∈ ds, Pl n d) : Pl (n + 1) (.tuple ds) := by
  refine ⟨?_, ?_⟩
  · show PyData.canLayAll0 ds = true
    exact canLayAll_of fun d hd => (h d hd).1
  · simp only [PyData.depth]
    have := depthAll_le (n := n) fun d hd => (h d hd).2
    omega
theorem Pl.lay {n : Nat} {ds : List D} (h : ∀ d ∈ ds, Pl n d) : PyData.canLayAll0 ds = true := canLayAll_of fun d hd => (h d hd).1
theorem Pl.map {n : Nat} {α : Type} {f : α → D} {xs : List α} (h : ∀ x, Pl n (f x)) : ∀ d ∈ xs.map f, Pl n d := fun d hd => by
  obtain ⟨x, _, rfl⟩ := List.mem_map.mp hd
  exact h x
theorem pl_Il {n : Nat} {a : List Int} : Pl (n + 2) (Il a) := .list (.map fun _ => .int)
theorem pl_It {n : Nat} {a : List Int} : Pl (n + 2) (It' a) := .tuple (.map fun _ => .int)
theorem sh_int {a : Int} : SeqAt.shaped (.int a) = true := (Pl.int (n := 0)).shaped
theorem lay_ints {a : List Int} : PyData.canLayAll0 (a.map .int) = true := Pl.lay (n := 1) (.map fun _ => .int)
end Eg
namespace Eg
open PySem PySem.Spec PyProof.Rows L2
def rng (lo : Int) (n : Nat) : List Int := (List.range n).map fun k => lo + (k : Nat)
theorem rangeD_map {lo : Int} {n : Nat} : rangeD lo n = (rng lo n).map .int := by
  unfold rangeD rng
  rw [List.map_map]; rfl
theorem rng_length {lo : Int} {n : Nat} : (rng lo n).length = n := by unfold rng; simp
theorem mem_rng {lo : Int} {n : Nat} {x : Int} : x ∈ rng lo n ↔ lo ≤ x ∧ x < lo + n := by
  unfold rng
  rw [List.mem_map]
  constructor
  · rintro ⟨k, hk, rfl⟩
    have := List.mem_range.mp hk
    omega
  · rintro ⟨h1, h2⟩
    exact ⟨(x - lo).toNat, List.mem_range.mpr (by omega), by omega⟩
theorem rng_succ {lo : Int} {n : Nat} : rng lo (n + 1) = rng lo n ++ [lo + n] := by
  unfold rng
  rw [List.range_succ, List.map_append]; rfl
theorem atI_ok {α : Type} {xs : List α} {i : Int} (h0 : 0 ≤ i) (h1 : i < xs.length) {x : α} (hx : xs[i.toNat]? = some x) : atI xs i = some x := by
  unfold atI ixN
  rw [if_pos h0, if_pos h1]; exact hx
def gi (xs : List Int) (i : Int) : Int := xs.getD i.toNat 0
theorem atI_int {xs : List Int} {i : Int} (h0 : 0 ≤ i) (h1 : i < xs.length) : atI (xs.map PyData.int) i = some (.int (gi xs i)) := by
  unfold gi
  refine atI_ok h0 (by simpa using h1) ?_
  rw [List.getElem?_map, List.getD_eq_getElem?_getD]
  have : i.toNat < xs.length := by omega
  rw [List.getElem?_eq_getElem this]; rfl
theorem line_big : (2 : Nat) ^ 20 ≤ sizeLine := by decide
theorem inD_pair {p a b : Int} : inD (.int p) [.int a, .int b] = decide (p = a ∨ p = b) := by
  have := inD_int (x := p) (xs := [a, b])
  simpa using this
theorem lay_pair {a b : Int} : PyData.canLayAll0 [.int a, .int b] = true := lay_ints (a := [a, b])
theorem two_le : 2 ≤ sizeLine := by decide
theorem one_le : 1 ≤ sizeLine := by decide
def unI : D → Option Int
  | .int i => some i
  | _ => none
theorem alike_ints {a : List Int} : PySem.W.AllAlike (a.map .int) := fun d hd d' hd' => by
  obtain ⟨x, _, rfl⟩ := List.mem_map.mp hd
  obtain ⟨y, _, rfl⟩ := List.mem_map.mp hd'
  rfl
theorem sortable_intsW {a : List Int} : PySem.W.Sortable (a.map .int) := .inr fun d hd => by
  obtain ⟨x, _, rfl⟩ := List.mem_map.mp hd
  exact ⟨fun z => (nomatch z), fun _ z => (nomatch z)⟩
theorem sortable_ints {a : List Int} : PySem.W.SortableX (a.map .int) := .inr (.inl fun d hd => by
  obtain ⟨x, _, rfl⟩ := List.mem_map.mp hd
  exact ⟨fun z => (nomatch z), fun _ z => (nomatch z)⟩)
theorem perm_ints {ds : List D} {a : List Int} (h : ds.Perm (a.map .int)) : ∃ b : List Int, ds = b.map .int ∧ b.Perm a := by
  have : ∀ d ∈ ds, ∃ i, d = PyData.int i := fun d hd => by
    obtain ⟨x, _, e⟩ := List.mem_map.mp (h.mem_iff.mp hd)
    exact ⟨x, e.symm⟩
  obtain ⟨b, rfl⟩ : ∃ b : List Int, ds = b.map .int := by
    clear h
    induction ds with
    | nil => exact ⟨[], rfl⟩
    | cons d r ih =>
      obtain ⟨i, rfl⟩ := this d List.mem_cons_self
      obtain ⟨b, rfl⟩ := ih fun x hx => this x (List.mem_cons_of_mem _ hx)
      exact ⟨i :: b, rfl⟩
  refine ⟨b, rfl, ?_⟩
  have inj : ∀ l : List Int, (l.map PyData.int).filterMap unI = l := fun l => by
    induction l with
    | nil => rfl
    | cons x r ih =>
      show List.filterMap unI (PyData.int x :: r.map PyData.int) = x :: r
      rw [List.filterMap_cons]
      show x :: List.filterMap unI (r.map PyData.int) = x :: r
      rw [ih]
  have := h.filterMap unI
  rwa [inj, inj] at this
theorem cut_last {xs : List D} {d : D} : cutD (xs ++ [d]) none (some (-1)) = xs := by
  unfold cutD
  have h1 : HT.sIx (xs ++ [d]).length 0 none = 0 := rfl
  have h2 : HT.sIx (xs ++ [d]).length (xs ++ [d]).length (some (-1)) = xs.length := by
    have e : HT.sIx (xs ++ [d]).length (xs ++ [d]).length (some (-1)) = ((-1 : Int) + ((xs ++ [d]).length : Int)).toNat := by
      unfold HT.sIx
      exact if_pos (by decide)
    rw [e, List.length_append, List.length_singleton]
    omega
  rw [h1, h2]
  simp
theorem cut_to {xs : List D} {k : Int} (h0 : 0 ≤ k) : cutD xs none (some k) = xs.take k.toNat := by
  obtain ⟨n, rfl⟩ := Int.eq_ofNat_of_zero_le h0
  unfold cutD
  have h1 : HT.sIx xs.length 0 none = 0 := rfl
  rw [h1, HT.sIx_nat]
  simp [List.take_eq_take_iff]
theorem cut_from {xs : List D} {k : Int} (h0 : 0 ≤ k) : cutD xs (some k) none = xs.drop k.toNat := by
  obtain ⟨n, rfl⟩ := Int.eq_ofNat_of_zero_le h0
  unfold cutD
  have h1 : HT.sIx xs.length xs.length none = xs.length := rfl
  rw [h1, HT.sIx_nat]
  by_cases h : n ≤ xs.length
  · rw [Nat.min_eq_left h]
    rw [List.take_of_length_le (by rw [List.length_drop]; omega)]
    rfl
  · rw [Nat.min_eq_right (by omega)]
    rw [List.drop_of_length_le (Nat.le_refl _), List.take_nil, List.drop_of_length_le (by show xs.length ≤ n; omega)]
theorem atI_last {xs : List D} {d : D} : atI (xs ++ [d]) (-1) = some d := by
  unfold atI ixN
  rw [if_neg (by decide), if_pos (by simp; omega)]
  simp
  have : (-1 + ((xs.length : Int) + 1)).toNat = xs.length := by omega
  rw [this, List.getElem?_append_right (Nat.le_refl _)]
  simp
/-- a list of lists, flat -/
theorem lc2Go_flat {α : Type} (en : α → D) {wg wg1 : WG} {wt wt1 : WT} {we : WE} {vs1 : List Nat} {wi1 : WI} {env : En} (inner : α → List D) (B : Nat) : ∀ (xs : List α) (acc : List D) (K : List D → Prop),
    (∀ x ∈ xs, ∀ (acc : List D) (K' : List D → Prop), acc.length + (inner x).length ≤ B → K' (acc ++ inner x) → wg (en x) env fun env' => wt env' fun b => if b = true then wi1 env' fun ds1 => lcGo wg1 wt1 we (wipeE env' vs1) ds1 acc K' else K' acc) →
    acc.length + (xs.flatMap inner).length ≤ B → K (acc ++ xs.flatMap inner) → lc2Go wg wt vs1 wi1 wg1 wt1 we env (xs.map en) acc K
  | [], acc, K, _, _, h => by
    rw [List.flatMap_nil, List.append_nil] at h; exact h
  | x :: r, acc, K, st, hl, h => by
    rw [List.flatMap_cons, List.length_append] at hl
    rw [List.flatMap_cons, ← List.append_assoc] at h
    rw [List.map_cons]
    exact st x List.mem_cons_self acc _ (by omega) (lc2Go_flat en inner B r (acc ++ inner x) K (fun y hy => st y (List.mem_cons_of_mem _ hy)) (by rw [List.length_append]; omega) h)
theorem perm_map {α β : Type} {f : α → β} {as bs : List β} (h : as.Perm bs) : ∀ xs : List α, bs = xs.map f → ∃ ys : List α, as = ys.map f ∧ ys.Perm xs := by
  induction h with
  | nil =>
    intro xs e
    have : xs = [] := List.map_eq_nil_iff.mp e.symm
    subst this
    exact ⟨[], rfl, .nil⟩
  | cons a _ ih =>
    intro xs e
    cases xs with
    | nil => cases e
    | cons x r =>
      rw [List.map_cons] at e
      injection e with e1 e2
      obtain ⟨ys, e3, p⟩ := ih r e2
      exact ⟨x :: ys, by rw [List.map_cons, ← e3, e1], p.cons x⟩
  | swap a b l =>
    intro xs e
    match xs, e with
    | x :: y :: r, e =>
      rw [List.map_cons, List.map_cons] at e
      injection e with e1 e2
      injection e2 with e2 e3
      exact ⟨y :: x :: r, by rw [List.map_cons, List.map_cons, e1, e2, e3], .swap x y r⟩
  | trans _ _ i1 i2 =>
    intro xs e
    obtain ⟨ys, e1, p1⟩ := i2 xs e
    obtain ⟨zs, e2, p2⟩ := i1 ys e1
    exact ⟨zs, e2, p2.trans p1⟩
/-- one statement, what comes behind it kept shut -/
theorem sq_ {s t : WS} {env : En} {P : Po} (h : ∀ T : En → Prop, (∀ e, t e P → T e) → s env { P with nx := T }) : wSeq s t env P := h _ fun _ q => q
/-- which items stay is not known -/
theorem lcGo_any {α : Type} (en : α → D) {wg : WG} {wt : WT} {we : WE} {env : En} (f : α → D) : ∀ (xs : List α) (acc : List D) (K : List D → Prop),
    (∀ x ∈ xs, ∀ (Y : D → Prop) (N : Prop), Y (f x) → N → wg (en x) env fun env' => wt env' fun b => if b = true then we env' Y else N) → acc.length + xs.length ≤ sizeLine →
    (∀ ys : List α, ys.Sublist xs → K (acc ++ ys.map f)) → lcGo wg wt we env (xs.map en) acc K
  | [], acc, K, _, _, h => by
    have := h [] (List.Sublist.refl _)
    simpa [lcGo] using this
  | x :: r, acc, K, hs, hl, h => by
    have hl' : acc.length + (r.length + 1) ≤ sizeLine := by simpa using hl
    rw [List.map_cons]
    refine hs x List.mem_cons_self _ _ ⟨by omega, ?_⟩ ?_
    · refine lcGo_any en f r (acc ++ [f x]) K (fun y hy => hs y (List.mem_cons_of_mem _ hy)) (by rw [List.length_append, List.length_singleton]; omega) fun ys hy => ?_
      have := h (x :: ys) (hy.cons_cons x)
      simpa using this
    · exact lcGo_any en f r acc K (fun y hy => hs y (List.mem_cons_of_mem _ hy)) (by omega) fun ys hy => h ys (hy.cons x)
end Eg

/-! E13: zip, enumerate, a list of a range. -/
namespace PySem
open Sem (wp)
section
theorem meets_enumerate_newT {v : Value} {o : Obj} {H : Heap → Prop} (B : Begins v o H) :
    Meets (Builtin.«enumerate.__new__» ⟨[.type "enumerate", v], []⟩) (fun _ R s => H s.heap ∧
      R (.ok (.ret (.ref (s.heap.push o).objs.size))) { s with heap := (s.heap.push o).push { cls := .type "enumerate", data := .fields #[.none, .bool false, .ref s.heap.objs.size, rawInt 0, .none, .none] } }) :=
  .of_wp fun prog w A R s h => by
    obtain ⟨hp, g, d, tk, os⟩ := s; obtain ⟨h1, h⟩ := h
    have hsub := sub_enumerate
    have q1 : ∀ {A' : Around} {E : Value → Shared → Prop} {Q : Value → Shared → Prop}, Q (.ref hp.objs.size) ⟨hp.push o, g, d, tk, os⟩ → wpAny (model prog w) A' (pyIter v) Q E ⟨hp, g, d, tk, os⟩ :=
      fun q => B.iter prog w _ _ ⟨hp, g, d, tk, os⟩ _ h1 q
    wp_walk using q1
    refine wpAny_stack_any fun st => wpAny_pure ?_
    split
    · rename_i c _ _ _ _ _
      cases (c == Value.type "enumerate")
      · wp_walk using q1
        exact ⟨_, rfl, h⟩
      · wp_walk using q1
        exact ⟨_, rfl, h⟩
    · wp_walk using q1
      exact ⟨_, rfl, h⟩
end
section
variable {prog : Program} {w : World} {A : Around} {E : Value → Shared → Prop} {s : Shared}
theorem call_enumerate_tuple {l : Addr} {items : Array Value} {Q : Value → Shared → Prop} (hL : s.heap.IsTuple l items)
    (h : ∀ h', IsEnum h' (s.heap.objs.size + 1) s.heap.objs.size 0 .none → h'.IsTupleIter s.heap.objs.size l 0 → h'.objs.size = s.heap.objs.size + 2 →
      (∀ b o, s.heap.get? b = some o → h'.get? b = some o) → Q (.ref (s.heap.objs.size + 1)) { s with heap := h' }) :
    wpAny (model prog w) A (call (.type "enumerate") [.ref l]) Q E s := by
  refine callType_new F.called_enumerate (by decide) (F.typeCall_enumerate_1 _) (F.newCall_enumerate_1 _) (fun obj => F.args_object_init_2 obj _) F.entry_enumerate_new
    (meets_enumerate_newT (begins_tuple l items)) ⟨hL, ?_⟩
  have hz : (s.heap.push { cls := .type "tuple_iterator", data := .fields #[.ref l, .int 0 0] }).objs.size = s.heap.objs.size + 1 := Heap.size_push ..
  show _ ∧ _
  rw [hz]
  have he : IsEnum ((s.heap.push { cls := .type "tuple_iterator", data := .fields #[.ref l, .int 0 0] }).push
      { cls := .type "enumerate", data := .fields #[.none, .bool false, .ref s.heap.objs.size, rawInt 0, .none, .none] }) (s.heap.objs.size + 1) s.heap.objs.size 0 .none := by
    have := Heap.get?_push_size (s.heap.push { cls := .type "tuple_iterator", data := .fields #[.ref l, .int 0 0] })
      (o := { cls := .type "enumerate", data := .fields #[.none, .bool false, .ref s.heap.objs.size, rawInt 0, .none, .none] }) rfl
    rw [hz] at this; exact this
  refine ⟨⟨_, he, rfl⟩, h _ he ⟨_, Heap.get?_push_of_some _ (Heap.get?_push_size _ rfl), rfl, rfl⟩ (by rw [Heap.size_push, hz]) fun b o x => Heap.get?_push_of_some _ (Heap.get?_push_of_some _ x)⟩
theorem enumT_end {e it l : Addr} {i : Nat} {items : Array Value} {old : Value} {Q : Option Value → Shared → Prop} (hh : A.handled = none)
    (he : IsEnum s.heap e it i old) (hit : s.heap.IsTupleIter it l i) (hl : s.heap.IsTuple l items) (hx : items[i]? = none)
    (hQ : ∀ h', Heap.ExtBut it s.heap h' → Q none { s with heap := h' }) : wpAny (model prog w) A (pyNext (.ref e)) Q E s := by
  have hT : s.TypeIs (.ref e) "enumerate" := ⟨_, he, rfl⟩
  unfold pyNext
  refine wpAny_bind (wpAny_attempt (wpAny_callSpecial?_slot (name := Str.ofString "__next__") hT F.slot_enumerate_next
    (wpAny_call_entry F.slot_enumerate_next hT F.entry_enumerate_next ?_ (F.args_enumerate_next_1 _))))
  show wpAny _ _ (field (.ref e) 2 >>= _) _ _ _
  refine wpAny_bind (wpAny_field he rfl (x := .ref it) rfl ?_)
  refine wpAny_bind (wpAny_nextOf_tuple_end hh hit hl hx fun h' x he' hx' => ?_)
  obtain ⟨o, ho, hc⟩ := hx'
  refine wpAny_bind (wpAny_isInstance (T := "StopIteration") (b := true) ⟨o, ho, hc⟩ isSubtype_stop ?_)
  exact wpAny_pure (hQ _ he')
end
end PySem
namespace Eg
open PySem PySem.Spec PyProof.Rows L2
/-- the tuple at a, each item in a new pair -/
def IteT (K : PySem.W.Frag) (a : Addr) : It :=
  ⟨fun i H => ∃ (xs : List V) (x : V), SqT K H a xs ∧ xs[i]? = some x, fun i H v H' => ∃ T x, v = .ref T ∧ H T = none ∧ H' = upd H T (.tup [.int (i : Nat), x]) ∧ ∀ xs, SqT K H a xs → xs[i]? = some x, fun i H => ∃ xs : List V, SqT K H a xs ∧ xs.length ≤ i⟩
theorem turn_enumT {P : Program} {w : World} {K : PySem.W.Frag} {elts : List Expr} {kk : Nat} {tpos : Pos} (a e it : Addr) :
    Turn P w K (.Tuple elts kk tpos) (IteT K a) [e, it] e (fun i h => (∃ old, IsEnum h e it ((i : Nat) : Int) old) ∧ h.IsTupleIter it a i ∧ e ≠ it) where
  mem := by simp
  obj := fun i h st b hb => by
    obtain ⟨⟨old, he⟩, ⟨o, ho, hc, hd⟩, _⟩ := st
    have e' : b = e ∨ b = it := by simpa using hb
    rcases e' with z | z
    · rw [z]; exact ⟨_, he, fun v q => nomatch q⟩
    · rw [z]; exact ⟨o, ho, fun v q => by rw [hd] at q; cases q⟩
  keep := fun i h h' st k => let ⟨⟨old, he⟩, hi, hne⟩ := st; ⟨⟨old, k e (by simp) _ he⟩, hi.at fun o q => k it (by simp) o q, hne⟩
  item := by
    intro X hP hw hK hc i pins s σ H E I hf st hg
    subst hP hw hK
    obtain ⟨⟨old, he⟩, hit, hne⟩ := st
    obtain ⟨xs, x, hq, hx⟩ := hg
    obtain ⟨its, rv, p, hz⟩ := I.tuple hq
    obtain ⟨u, hu, ru⟩ := rv.get hx
    have hel : e < s.heap.objs.size := Heap.lt_size he
    have hil : it < s.heap.objs.size := by obtain ⟨_, q, _⟩ := hit; exact Heap.lt_size q
    have hae : e ≠ a := by
      rintro rfl
      obtain ⟨o, q1, q2, _⟩ := id p
      rw [he] at q1
      cases q1
      exact absurd q2 (by simp)
    have hai : a ≠ it := by
      rintro rfl
      obtain ⟨o, q1, q2, _⟩ := id p
      obtain ⟨o', q3, q4, _⟩ := id hit
      rw [q1] at q3
      cases q3
      rw [q2] at q4
      exact absurd q4 (by simp)
    have D := Draws.tuple (prog := X.prog) (w := X.w) (A := X.A.in1) (I.ok.hd hc) it a hai its.toArray
    have hlt : i < its.toArray.size := by
      have := (List.getElem?_eq_some_iff.mp hu).1
      simpa using this
    refine wpAny_pyNext_enum_itemC D he ⟨hit, p⟩ hlt hne (by simp [hne, hae]) fun x' h' tk hx' ho hst hT hsz hk => ?_
    have ex : x' = u := by
      rw [List.getElem?_toArray, hu] at hx'
      exact (Option.some.inj hx').symm
    subst ex
    refine ⟨_, rfl, wpAny_letOwnedTupleGo_enum (s := { s with heap := h', toks := tk + 1 }) ho fun h'' he' sb => ?_⟩
    have hT2 : h''.get? s.heap.objs.size = some { cls := .type "tuple", data := .seq #[.int i tk, x'] } := (sb.2 _ (Nat.ne_of_gt hel)).trans hT
    have new : ObjOk X.prog X.w (upd H s.heap.objs.size (.tup [.int (i : Nat), x])) h'' s.heap.objs.size (.tup [.int (i : Nat), x]) :=
      ⟨by show 2 ≤ sizeLine; decide, [.int i tk, x'], .cons ⟨_, rfl⟩ (.cons ru .nil), ⟨_, hT2, rfl, _, rfl⟩⟩
    have I1 : Inv X pins σ (upd H s.heap.objs.size (.tup [.int (i : Nat), x])) { s with heap := h'', toks := tk + 1 } :=
      I.turnedNew (ch := [e, it]) (fun b ob hb q => (sb.2 b (fun z => hb (by simp [z]))).trans (hk b ob (fun z => hb (by simp [z])) (fun z => hb (by simp [z])) q)) hf (Nat.le_refl _) new
    refine ⟨.ref s.heap.objs.size, _, I1, rfl, ⟨_, x, rfl, I.hok.fresh (Nat.le_refl _), rfl, fun ys hy => by rw [I.tuple_inj hy hq]; exact hx⟩, ⟨⟨x', ?_⟩, hst.1.at fun o q => (sb.2 it (Ne.symm hne)).trans q, hne⟩, fun b hb => ?_⟩
    · have e1 : ((i + 1 : Nat) : Int) = (i : Int) + 1 := by omega
      rw [e1]; exact he'
    · have hb' : b < s.heap.objs.size := by
        have e' : b = e ∨ b = it := by simpa using hb
        rcases e' with z | z
        · rw [z]; exact hel
        · rw [z]; exact hil
      rw [upd_ne (Nat.ne_of_lt hb')]
      exact (hf b hb).1
  done := by
    intro X hP hw hK hc i pins s σ H E I hf st hg
    subst hP hw hK
    obtain ⟨⟨old, he⟩, hit, hne⟩ := st
    obtain ⟨xs, hq, hx⟩ := hg
    obtain ⟨its, rv, p, hz⟩ := I.tuple hq
    obtain ⟨f0, f1, f2, f3, f4, f5⟩ := hf it (by simp)
    have hl := rv.length
    exact enumT_end (I.ok.hd hc) he hit p (by simp; omega) fun h' eb => ⟨rfl, I.turned (t' := s.toks) (fun b o hb q => eb b o hb q) f0 f1 f3 f4 f5⟩
  self := fun A i s Q E st h => let ⟨⟨_, he⟩, _⟩ := st; wpAny_pyIter_enum he h
def iEnumD (K : PySem.W.Frag) (ta : TA) : TI := fun σ H R => ta σ H fun vs H1 => ∃ a xs, vs = [.ref a] ∧ ((SqL K H1 a xs ∧ R (Ite K a) H1) ∨ (SqT K H1 a xs ∧ R (IteT K a) H1))
theorem pi_enumD {X : Cx} {e : Expr} {ta : TA} {p pos tpos : Pos} {elts : List Expr} {kk : Nat} (hg : Gl X "enumerate") (hm : X.mg "enumerate" = none) (ha : PA X [e] ta) (hs : starEach [e] X.env = [(false, eval e X.env)] := by rfl) :
    PI X (.Tuple elts kk tpos) (.Call (.Name "enumerate" p) [e] [] pos) (iEnumD X.K ta) := by
  refine ⟨fun pins s σ H R I h => ?_⟩
  refine Call_ (ld_blt I hg hm boot_enumerate (PyProof.Rows.callWith_type1 (thn (ha.run pos pins s σ H _ I h) fun us s1 ⟨vs, H1, I1, r1, q1⟩ => ?_) hs rfl))
  obtain ⟨a, xs, ex, hq⟩ := q1
  subst ex
  cases r1 with
  | cons r rr =>
    cases rr
    cases r
    have last : ∀ {b : Addr}, b ∈ [s1.heap.objs.size + 1, s1.heap.objs.size] → s1.heap.objs.size ≤ b := fun {b} hb => by
      have e' : b = s1.heap.objs.size + 1 ∨ b = s1.heap.objs.size := by simpa using hb
      rcases e' with z | z
      · rw [z]; exact Nat.le_add_right _ _
      · rw [z]; exact Nat.le_refl _
    rcases hq with ⟨hq, q⟩ | ⟨hq, q⟩
    · obtain ⟨its, rv, p', hz⟩ := I1.list hq
      refine call_enumerate_list p'.isList fun h' he hit hsz hk => wpAny_pyIter_enum he ?_
      have I2 : Inv X pins σ H1 { s1 with heap := h' } := I1.kept (t' := s1.toks) hk
      exact ⟨s1.heap.objs.size + 1, [s1.heap.objs.size + 1, s1.heap.objs.size], _, _, H1, rfl, I2, turn_enum a (s1.heap.objs.size + 1) s1.heap.objs.size, ⟨⟨.none, he⟩, hit, Nat.succ_ne_self _⟩, fun b hb => I1.fpOk (last hb) (I1.hok.fresh (last hb)), q⟩
    · obtain ⟨its, rv, p', hz⟩ := I1.tuple hq
      refine call_enumerate_tuple p' fun h' he hit hsz hk => wpAny_pyIter_enum he ?_
      have I2 : Inv X pins σ H1 { s1 with heap := h' } := I1.kept (t' := s1.toks) hk
      exact ⟨s1.heap.objs.size + 1, [s1.heap.objs.size + 1, s1.heap.objs.size], _, _, H1, rfl, I2, turn_enumT a (s1.heap.objs.size + 1) s1.heap.objs.size, ⟨⟨.none, he⟩, hit, Nat.succ_ne_self _⟩, fun b hb => I1.fpOk (last hb) (I1.hok.fresh (last hb)), q⟩
end Eg
namespace Eg
open PySem PySem.Spec PyProof.Rows L2 RZ
variable [Tabs]
def zipD (a b : List D) : List D := List.zipWith (fun x y => .tuple [x, y]) a b
omit [Tabs] in
theorem zipD_get {a b : List D} {i : Nat} {d : D} (h : (zipD a b)[i]? = some d) : ∃ x y, a[i]? = some x ∧ b[i]? = some y ∧ d = .tuple [x, y] := by
  unfold zipD at h
  rw [List.getElem?_zipWith] at h
  cases ha : a[i]? with
  | none => rw [ha] at h; simp at h
  | some x =>
    cases hb : b[i]? with
    | none => rw [ha, hb] at h; simp at h
    | some y =>
      rw [ha, hb] at h
      exact ⟨x, y, rfl, rfl, (Option.some.inj h).symm⟩
theorem src_zip {W : Wd} {K : PySem.W.Frag} {a b : Addr} {as bs : List D} : Src W (Itz K a b) (zipD as bs) [(.ref a, .list as), (.ref b, .list bs)] := fun H S c t i => by
  obtain ⟨a', vs, e, h, r⟩ := (t (.ref a, .list as) (by simp)).list
  cases e
  obtain ⟨b', ws, e, h2, r2⟩ := (t (.ref b, .list bs) (by simp)).list
  cases e
  have hS : SqL K H a vs := .inl (.inl h)
  have hS2 : SqL K H b ws := .inl (.inl h2)
  refine ⟨fun d hd => ?_, fun hl => ⟨vs, ws, hS, hS2, ?_⟩⟩
  · obtain ⟨x, y, hx, hy, rfl⟩ := zipD_get hd
    obtain ⟨v, hv, rv⟩ := r.get hx
    obtain ⟨w, hw, rw'⟩ := r2.get hy
    refine ⟨⟨vs, ws, v, w, hS, hS2, hv, hw⟩, fun x' H' hyd => ?_⟩
    obtain ⟨p, x1, y1, rfl, hp, rfl, q1, q2⟩ := hyd
    have ex : v = x1 := Option.some.inj (hv.symm.trans (q1 vs hS))
    have ey : w = y1 := Option.some.inj (hw.symm.trans (q2 ws hS2))
    subst ex
    subst ey
    exact ⟨.new c.j hp, .tup upd_same (c.np hp) (.cons ((rv.plus hp).less fun _ s => .inl s) (.cons ((rw'.plus hp).less fun _ s => .inl s) .nil))⟩
  · have l : (zipD as bs).length = min as.length bs.length := by unfold zipD; simp
    rw [l] at hl
    have l1 := r.length
    have l2 := r2.length
    omega
theorem src_zipT {W : Wd} {K : PySem.W.Frag} {a b : Addr} {as bs : List D} : Src W (ItzT K a b) (zipD as bs) [(.ref a, .tuple as), (.ref b, .tuple bs)] := fun H S c t i => by
  obtain ⟨a', vs, e, h, _, r⟩ := (t (.ref a, .tuple as) (by simp)).tuple
  cases e
  obtain ⟨b', ws, e, h2, _, r2⟩ := (t (.ref b, .tuple bs) (by simp)).tuple
  cases e
  have hS : SqT K H a vs := .inl (.inl h)
  have hS2 : SqT K H b ws := .inl (.inl h2)
  refine ⟨fun d hd => ?_, fun hl => ⟨vs, ws, hS, hS2, ?_⟩⟩
  · obtain ⟨x, y, hx, hy, rfl⟩ := zipD_get hd
    obtain ⟨v, hv, rv⟩ := r.get hx
    obtain ⟨w, hw, rw'⟩ := r2.get hy
    refine ⟨⟨vs, ws, v, w, hS, hS2, hv, hw⟩, fun x' H' hyd => ?_⟩
    obtain ⟨p, x1, y1, rfl, hp, rfl, q1, q2⟩ := hyd
    have ex : v = x1 := Option.some.inj (hv.symm.trans (q1 vs hS))
    have ey : w = y1 := Option.some.inj (hw.symm.trans (q2 ws hS2))
    subst ex
    subst ey
    exact ⟨.new c.j hp, .tup upd_same (c.np hp) (.cons ((rv.plus hp).less fun _ s => .inl s) (.cons ((rw'.plus hp).less fun _ s => .inl s) .nil))⟩
  · have l : (zipD as bs).length = min as.length bs.length := by unfold zipD; simp
    rw [l] at hl
    have l1 := r.length
    have l2 := r2.length
    omega
def wZip (u : WA) : WI := fun env Q => u env fun ds => match ds with
  | [.list a, .list b] => Q (zipD a b)
  | [.tuple a, .tuple b] => Q (zipD a b)
  | _ => False
omit [Tabs] in
theorem monoZip {u : WA} (h : MonoA u) : MonoA (wZip u) := fun env Q Q' f q => h _ _ _ (fun ds q => by
  split at q
  · exact f _ q
  · exact f _ q
  · exact q.elim) q
/-- enumerate -/
def enumGo : Nat → List D → List D
  | _, [] => []
  | n, d :: r => .tuple [.int (n : Nat), d] :: enumGo (n + 1) r
omit [Tabs] in
theorem enumGo_length : ∀ (n : Nat) (ds : List D), (enumGo n ds).length = ds.length
  | _, [] => rfl
  | n, d :: r => congrArg (· + 1) (enumGo_length (n + 1) r)
omit [Tabs] in
theorem enumGo_get : ∀ (n : Nat) (ds : List D) (i : Nat) {d : D}, (enumGo n ds)[i]? = some d → ∃ x, ds[i]? = some x ∧ d = .tuple [.int ((n + i : Nat) : Int), x]
  | _, [], _, _, h => by simp [enumGo] at h
  | n, d :: r, 0, e, h => by
    simp [enumGo] at h
    exact ⟨d, rfl, h.symm⟩
  | n, d :: r, i + 1, e, h => by
    obtain ⟨x, h1, h2⟩ := enumGo_get (n + 1) r i (d := e) (by simpa [enumGo] using h)
    refine ⟨x, by simpa using h1, ?_⟩
    rw [h2]
    have : n + 1 + i = n + (i + 1) := by omega
    rw [this]
theorem src_enum {W : Wd} {K : PySem.W.Frag} {a : Addr} {as : List D} : Src W (Ite K a) (enumGo 0 as) [(.ref a, .list as)] := fun H S c t i => by
  obtain ⟨a', vs, e, h, r⟩ := (t _ (List.mem_singleton.mpr rfl)).list
  cases e
  have hS : SqL K H a vs := .inl (.inl h)
  refine ⟨fun d hd => ?_, fun hl => ⟨vs, hS, ?_⟩⟩
  · obtain ⟨x, hx, rfl⟩ := enumGo_get 0 as i hd
    obtain ⟨v, hv, rv⟩ := r.get hx
    refine ⟨⟨vs, v, hS, hv⟩, fun x' H' hyd => ?_⟩
    obtain ⟨p, x1, rfl, hp, rfl, q1⟩ := hyd
    have ex : v = x1 := Option.some.inj (hv.symm.trans (q1 vs hS))
    subst ex
    rw [Nat.zero_add]
    exact ⟨.new c.j hp, .tup upd_same (c.np hp) (.cons (.int _) (.cons ((rv.plus hp).less fun _ s => .inl s) .nil))⟩
  · rw [enumGo_length] at hl
    rw [r.length]; exact hl
theorem src_enumT {W : Wd} {K : PySem.W.Frag} {a : Addr} {as : List D} : Src W (IteT K a) (enumGo 0 as) [(.ref a, .tuple as)] := fun H S c t i => by
  obtain ⟨a', vs, e, h, _, r⟩ := (t _ (List.mem_singleton.mpr rfl)).tuple
  cases e
  have hS : SqT K H a vs := .inl (.inl h)
  refine ⟨fun d hd => ?_, fun hl => ⟨vs, hS, ?_⟩⟩
  · obtain ⟨x, hx, rfl⟩ := enumGo_get 0 as i hd
    obtain ⟨v, hv, rv⟩ := r.get hx
    refine ⟨⟨vs, v, hS, hv⟩, fun x' H' hyd => ?_⟩
    obtain ⟨p, x1, rfl, hp, rfl, q1⟩ := hyd
    have ex : v = x1 := Option.some.inj (hv.symm.trans (q1 vs hS))
    subst ex
    rw [Nat.zero_add]
    exact ⟨.new c.j hp, .tup upd_same (c.np hp) (.cons (.int _) (.cons ((rv.plus hp).less fun _ s => .inl s) .nil))⟩
  · rw [enumGo_length] at hl
    rw [r.length]; exact hl
def wEnum (u : WA) : WI := fun env Q => u env fun ds => match ds with
  | [.list a] => Q (enumGo 0 a)
  | [.tuple a] => Q (enumGo 0 a)
  | _ => False
omit [Tabs] in
theorem monoEnum {u : WA} (h : MonoA u) : MonoA (wEnum u) := fun env Q Q' f q => h _ _ _ (fun ds q => by
  split at q
  · exact f _ q
  · exact f _ q
  · exact q.elim) q
section
variable {X : Cx} {e e2 : Expr} {u : WA} {p pos tpos : Pos} {elts : List Expr} {kk : Nat}
theorem zip_ (hg : Gl X "zip") (hm : X.mg "zip" = none) (ha : PAv X [e, e2] u) (hs : starEach [e, e2] X.env = (false, eval e X.env) :: starEach [e2] X.env := by rfl) (hpl : (backTo pos (starEach [e2] X.env)).any (·.1) = false := by rfl) :
    PIv X (.Tuple elts kk tpos) (.Call (.Name "zip" p) [e, e2] [] pos) (wZip u) := by
  refine ⟨(pi_zipA hg hm ha.pa hs hpl).imp fun σ H R ⟨W, env, S, r, q⟩ => ?_, monoZip ha.mono⟩
  refine ⟨W, env, S, r, ha.mono _ _ _ (fun ds q vs H1 k t => ?_) q⟩
  split at q
  · cases t with
    | cons t t' =>
      cases t' with
      | cons t2 t' =>
        cases t'
        cases t with
        | lst h1 n1 r1 =>
          cases t2 with
          | lst h2 n2 r2 =>
            refine ⟨_, _, _, _, rfl, .inl ⟨.inl (.inl h1), .inl (.inl h2), q _ H1 _ k (fun z hz => ?_) src_zip⟩⟩
            simp at hz
            rcases hz with rfl | rfl
            · exact .lst h1 n1 r1
            · exact .lst h2 n2 r2
  · cases t with
    | cons t t' =>
      cases t' with
      | cons t2 t' =>
        cases t'
        cases t with
        | tup h1 n1 r1 =>
          cases t2 with
          | tup h2 n2 r2 =>
            refine ⟨_, _, _, _, rfl, .inr ⟨.inl (.inl h1), .inl (.inl h2), q _ H1 _ k (fun z hz => ?_) src_zipT⟩⟩
            simp at hz
            rcases hz with rfl | rfl
            · exact .tup h1 n1 r1
            · exact .tup h2 n2 r2
  · exact q.elim
theorem zipp_ (hg : Gl X "zip") (hm : X.mg "zip" = none) (ha : PAp X [e, e2] u) (hs : starEach [e, e2] X.env = (false, eval e X.env) :: starEach [e2] X.env := by rfl) (hpl : (backTo pos (starEach [e2] X.env)).any (·.1) = false := by rfl) :
    PIp X (.Tuple elts kk tpos) (.Call (.Name "zip" p) [e, e2] [] pos) (wZip u) := by
  refine ⟨(pi_zipA hg hm ha.pa hs hpl).imp fun σ H R ⟨W, env, S, r, q⟩ => ?_, monoZip ha.mono⟩
  refine ⟨W, env, S, r, ha.mono _ _ _ (fun ds q vs H1 k t => ?_) q⟩
  split at q
  · cases t with
    | cons t t' =>
      cases t' with
      | cons t2 t' =>
        cases t'
        obtain ⟨a, xs, rfl, h1, r1⟩ := t.list
        obtain ⟨b, ys, rfl, h2, r2⟩ := t2.list
        refine ⟨_, _, _, _, rfl, .inl ⟨.inl (.inl h1), .inl (.inl h2), q _ H1 _ k (fun z hz => ?_) src_zip⟩⟩
        simp at hz
        rcases hz with rfl | rfl
        · exact t
        · exact t2
  · cases t with
    | cons t t' =>
      cases t' with
      | cons t2 t' =>
        cases t'
        obtain ⟨a, xs, rfl, h1, _, r1⟩ := t.tuple
        obtain ⟨b, ys, rfl, h2, _, r2⟩ := t2.tuple
        refine ⟨_, _, _, _, rfl, .inr ⟨.inl (.inl h1), .inl (.inl h2), q _ H1 _ k (fun z hz => ?_) src_zipT⟩⟩
        simp at hz
        rcases hz with rfl | rfl
        · exact t
        · exact t2
  · exact q.elim
theorem enum_ (hg : Gl X "enumerate") (hm : X.mg "enumerate" = none) (ha : PAv X [e] u) (hs : starEach [e] X.env = [(false, eval e X.env)] := by rfl) : PIv X (.Tuple elts kk tpos) (.Call (.Name "enumerate" p) [e] [] pos) (wEnum u) := by
  refine ⟨(pi_enumD hg hm ha.pa hs).imp fun σ H R ⟨W, env, S, r, q⟩ => ?_, monoEnum ha.mono⟩
  refine ⟨W, env, S, r, ha.mono _ _ _ (fun ds q vs H1 k t => ?_) q⟩
  split at q
  · cases t with
    | cons t t' =>
      cases t'
      cases t with
      | lst h1 n1 r1 =>
        refine ⟨_, _, rfl, .inl ⟨.inl (.inl h1), q _ H1 _ k (fun z hz => ?_) src_enum⟩⟩
        simp at hz
        subst hz
        exact .lst h1 n1 r1
  · cases t with
    | cons t t' =>
      cases t'
      cases t with
      | tup h1 n1 r1 =>
        refine ⟨_, _, rfl, .inr ⟨.inl (.inl h1), q _ H1 _ k (fun z hz => ?_) src_enumT⟩⟩
        simp at hz
        subst hz
        exact .tup h1 n1 r1
  · exact q.elim
theorem enump_ (hg : Gl X "enumerate") (hm : X.mg "enumerate" = none) (ha : PAp X [e] u) (hs : starEach [e] X.env = [(false, eval e X.env)] := by rfl) : PIp X (.Tuple elts kk tpos) (.Call (.Name "enumerate" p) [e] [] pos) (wEnum u) := by
  refine ⟨(pi_enumD hg hm ha.pa hs).imp fun σ H R ⟨W, env, S, r, q⟩ => ?_, monoEnum ha.mono⟩
  refine ⟨W, env, S, r, ha.mono _ _ _ (fun ds q vs H1 k t => ?_) q⟩
  split at q
  · cases t with
    | cons t t' =>
      cases t'
      obtain ⟨a, xs, rfl, h1, r1⟩ := t.list
      refine ⟨_, _, rfl, .inl ⟨.inl (.inl h1), q _ H1 _ k (fun z hz => ?_) src_enum⟩⟩
      simp at hz
      subst hz
      exact t
  · cases t with
    | cons t t' =>
      cases t'
      obtain ⟨a, xs, rfl, h1, _, r1⟩ := t.tuple
      refine ⟨_, _, rfl, .inr ⟨.inl (.inl h1), q _ H1 _ k (fun z hz => ?_) src_enumT⟩⟩
      simp at hz
      subst hz
      exact t
  · exact q.elim
end
omit [Tabs] in
@[simp] theorem s_wZip {u : WA} {env : En} {QL : List D → Prop} : wZip u env QL = u env fun ds => match ds with
  | [.list a, .list b] => QL (zipD a b)
  | [.tuple a, .tuple b] => QL (zipD a b)
  | _ => False := id rfl
omit [Tabs] in
@[simp] theorem s_wEnum {u : WA} {env : En} {QL : List D → Prop} : wEnum u env QL = u env fun ds => match ds with
  | [.list a] => QL (enumGo 0 a)
  | [.tuple a] => QL (enumGo 0 a)
  | _ => False := id rfl
omit [Tabs] in
theorem zipD_map {α β : Type} {f : α → D} {g : β → D} {xs : List α} {ys : List β} : zipD (xs.map f) (ys.map g) = (List.zip xs ys).map fun q => .tuple [f q.1, g q.2] := by
  unfold zipD
  induction xs generalizing ys with
  | nil => simp
  | cons x r ih =>
    cases ys with
    | nil => simp
    | cons y s => simp [ih]
end Eg

/-! E14: lists by their places, lists sorted. -/
namespace Eg
open PySem PySem.Spec PyProof.Rows L2
variable [Tabs]
omit [Tabs] in
theorem rng0 {m : Nat} : rng 0 (m + 1) = 0 :: rng 1 m := by
  unfold rng
  rw [List.range_succ_eq_map, List.map_cons, List.map_map]
  congr 1
  refine List.map_congr_left fun k _ => ?_
  simp; omega
omit [Tabs] in
theorem rng_get {lo : Int} {n k : Nat} (h : k < n) : (rng lo n)[k]? = some (lo + k) := by
  unfold rng
  rw [List.getElem?_map, List.getElem?_range h]; rfl
omit [Tabs] in
theorem rng_at {lo : Int} {n : Nat} {d r : List Int} {x : Int} (e : rng lo n = d ++ x :: r) : x = lo + d.length ∧ d.length < n := by
  have hl := rng_length (lo := lo) (n := n)
  rw [e] at hl
  simp at hl
  have h1 : (rng lo n)[d.length]? = some x := by rw [e]; simp
  rw [rng_get (by omega)] at h1
  exact ⟨(Option.some.inj h1).symm, by omega⟩
omit [Tabs] in
theorem gi_map {n : Nat} {g : Int → Int} {k : Int} (h0 : 0 ≤ k) (h1 : k < n) : gi ((rng 0 n).map g) k = g k := by
  unfold gi
  rw [List.getD_eq_getElem?_getD, List.getElem?_map, rng_get (by omega)]
  show g (0 + (k.toNat : Int)) = g k
  congr 1; omega
omit [Tabs] in
theorem list_tab {xs : List Int} {n : Nat} (h : xs.length = n) : xs = (rng 0 n).map (gi xs) := by
  refine List.ext_getElem? fun i => ?_
  rw [List.getElem?_map]
  by_cases hi : i < n
  · rw [rng_get hi, List.getElem?_eq_getElem (by omega)]
    show _ = some (gi xs (0 + (i : Int)))
    unfold gi
    rw [List.getD_eq_getElem?_getD]
    have : (0 + (i : Int)).toNat = i := by omega
    rw [this, List.getElem?_eq_getElem (by omega)]; rfl
  · rw [List.getElem?_eq_none (by omega), List.getElem?_eq_none (by rw [rng_length]; omega)]; rfl
omit [Tabs] in
theorem tab_at {n : Nat} {g : Int → Int} {k : Int} (h0 : 0 ≤ k) (h1 : k < n) : atI (((rng 0 n).map g).map PyData.int) k = some (.int (g k)) := by
  rw [atI_int h0 (by rw [List.length_map, rng_length]; exact h1), gi_map h0 h1]
omit [Tabs] in
theorem tab_set {n : Nat} {g : Int → Int} {k v : Int} (h0 : 0 ≤ k) (h1 : k < n) : (((rng 0 n).map g).map PyData.int).set k.toNat (.int v) = ((rng 0 n).map fun p => if p = k then v else g p).map .int := by
  refine List.ext_getElem? fun i => ?_
  rw [List.getElem?_set]
  simp only [List.getElem?_map, List.length_map, rng_length]
  by_cases hi : i < n
  · rw [rng_get hi]
    by_cases hk : k.toNat = i
    · rw [if_pos hk, if_pos (by omega)]
      have : (0 : Int) + i = k := by omega
      simp only [Option.map_some, this, if_true]
    · rw [if_neg hk]
      have : ¬ (0 : Int) + i = k := by omega
      simp only [Option.map_some, this, if_false]
  · have : (rng 0 n)[i]? = none := List.getElem?_eq_none (by rw [rng_length]; omega)
    rw [this]
    have hk : ¬ k.toNat = i := by omega
    rw [if_neg hk]; rfl
omit [Tabs] in
theorem ixN_ok {n : Nat} {k : Int} (h0 : 0 ≤ k) (h1 : k < n) : ixN n k = some k.toNat := by
  unfold ixN
  rw [if_pos h0, if_pos h1]
omit [Tabs] in
theorem stI_ok {i : Nat} {env : En} {ds : List D} {k : Int} {x : D} {K : En → Prop} (he : env.at i = .ow ds) (h0 : 0 ≤ k) (h1 : k < ds.length) (h : K (env.set i (.ow (ds.set k.toNat x)))) : stI i env (.int k) x K := by
  unfold stI
  rw [he]
  simp only [ixN_ok h0 h1]
  exact h
omit [Tabs] in
theorem rep_tab {n : Nat} {d : D} : List.replicate n d = (rng 0 n).map fun _ => d := by
  have l := rng_length (lo := 0) (n := n)
  rw [List.map_const', l]
omit [Tabs] in
@[simp] theorem s_gRep {a : List D} {k : Int} {Q : D → Prop} : gRep (.list a) (.int k) Q = ((-(2 ^ 63) ≤ k ∧ k < 2 ^ 63 ∧ a.length * k.toNat ≤ sizeLine) ∧ Q (.list (List.replicate k.toNat a).flatten)) := id rfl
omit [Tabs] in
@[simp] theorem s_gMulL {a : List D} {k : Int} {Q : D → Prop} : gMul (.list a) (.int k) Q = ((-(2 ^ 63) ≤ k ∧ k < 2 ^ 63 ∧ a.length * k.toNat ≤ sizeLine) ∧ Q (.list (List.replicate k.toNat a).flatten)) := id rfl
omit [Tabs] in
theorem zip_same {α β γ : Type} (f : α → β) (g : α → γ) (l : List α) : List.zip (l.map f) (l.map g) = l.map fun x => (f x, g x) := by
  induction l with
  | nil => rfl
  | cons x r ih => simp [ih]
/-! ### sorted -/
/-- rows of ints in their order -/
def leR (a b : List Int) : Bool := decide (a ≤ b)
def sortR (xs : List (List Int)) : List (List Int) := xs.mergeSort leR
omit [Tabs] in
theorem leR_trans (a b c : List Int) (h1 : leR a b = true) (h2 : leR b c = true) : leR a c = true := by
  unfold leR at *
  rw [decide_eq_true_eq] at *
  exact List.le_trans h1 h2
omit [Tabs] in
theorem leR_total (a b : List Int) : (leR a b || leR b a) = true := by
  unfold leR
  rcases List.le_total a b with h | h <;> simp [h]
omit [Tabs] in
theorem leR_anti (a b : List Int) (h1 : leR a b = true) (h2 : leR b a = true) : a = b := by
  unfold leR at *
  rw [decide_eq_true_eq] at *
  exact List.le_antisymm h1 h2
omit [Tabs] in
theorem sortR_perm {xs ys : List (List Int)} (h : xs.Perm ys) : sortR xs = sortR ys := by
  refine List.Perm.eq_of_pairwise (le := fun a b => leR a b = true) (fun a b _ _ => leR_anti a b) (List.pairwise_mergeSort leR_trans leR_total xs) (List.pairwise_mergeSort leR_trans leR_total ys) ?_
  exact ((List.mergeSort_perm xs leR).trans h).trans (List.mergeSort_perm ys leR).symm
omit [Tabs] in
theorem sortR_mem {xs : List (List Int)} {a : List Int} : a ∈ sortR xs ↔ a ∈ xs := (List.mergeSort_perm xs leR).mem_iff
omit [Tabs] in
theorem sortR_length {xs : List (List Int)} : (sortR xs).length = xs.length := (List.mergeSort_perm xs leR).length_eq
omit [Tabs] in
theorem dataLe_tup {a b : List Int} : PySem.W.dataLe false id (.tuple (a.map .int)) (.tuple (b.map .int)) = leR a b := by
  have h := congrFun (congrFun (PySem.W.dataLe_rows (fun b : List Int => b)) a) b
  exact h
omit [Tabs] in
theorem sort_tup (xs : List (List Int)) : (xs.map fun r => PyData.tuple (r.map .int)).mergeSort (PySem.W.dataLe false id) = (sortR xs).map fun r => PyData.tuple (r.map .int) := by
  unfold sortR
  rw [List.map_mergeSort (s := PySem.W.dataLe false id) fun a _ b _ => (dataLe_tup (a := a) (b := b)).symm]
omit [Tabs] in
theorem sort_lst (xs : List (List Int)) : (xs.map Il).mergeSort (PySem.W.dataLe false id) = (sortR xs).map Il := by
  unfold sortR
  rw [List.map_mergeSort (s := PySem.W.dataLe false id) fun a _ b _ => ?_]
  exact (congrFun (congrFun (PySem.W.dataLe_rows (fun b : List Int => b)) a) b).symm
def sortI (xs : List Int) : List Int := xs.mergeSort fun a b => decide (a ≤ b)
omit [Tabs] in
theorem sort_int (xs : List Int) : (xs.map PyData.int).mergeSort (PySem.W.dataLe false id) = (sortI xs).map .int := by
  unfold sortI
  rw [List.map_mergeSort (s := PySem.W.dataLe false id) fun a _ b _ => ?_]
  exact (congrFun (congrFun (PySem.W.dataLe_int (fun b : Int => b)) a) b).symm
omit [Tabs] in
theorem alike_tup {xs : List (List Int)} : PySem.W.AllAlike (xs.map fun r => PyData.tuple (r.map .int)) := fun d hd d' hd' => by
  obtain ⟨x, _, rfl⟩ := List.mem_map.mp hd
  obtain ⟨y, _, rfl⟩ := List.mem_map.mp hd'
  exact PySem.W.alike_ints x y
/-- a row of ints by places, kept shut -/
def tabD (n : Nat) (g : Int → Int) : List D := ((rng 0 n).map g).map PyData.int
omit [Tabs] in
@[simp] theorem tabD_length {n : Nat} {g : Int → Int} : (tabD n g).length = n := by unfold tabD; rw [List.length_map, List.length_map, rng_length]
omit [Tabs] in
theorem tabD_at {n : Nat} {g : Int → Int} {k : Int} (h0 : 0 ≤ k) (h1 : k < n) : atI (tabD n g) k = some (.int (g k)) := tab_at h0 h1
omit [Tabs] in
theorem tabD_set {n : Nat} {g : Int → Int} {k v : Int} (h0 : 0 ≤ k) (h1 : k < n) : (tabD n g).set k.toNat (.int v) = tabD n fun p => if p = k then v else g p := tab_set h0 h1
omit [Tabs] in
theorem tabD_congr {n : Nat} {g g' : Int → Int} (h : ∀ p : Int, 0 ≤ p → p < n → g p = g' p) : tabD n g = tabD n g' := by
  unfold tabD
  congr 1
  refine List.map_congr_left fun p hp => ?_
  have := mem_rng.mp hp
  exact h p this.1 (by omega)
omit [Tabs] in
theorem rep_tabD {n : Nat} {a : Int} : List.replicate n (PyData.int a) = tabD n fun _ => a := by
  unfold tabD
  rw [List.map_map]
  exact rep_tab
omit [Tabs] in
/-- values drawn, one an item -/
theorem lcGo_each {α : Type} (en : α → D) {wg : WG} {wt : WT} {we : WE} {env : En} (R : Int → Prop) : ∀ (xs : List α) (acc : List D) (K : List D → Prop),
    (∀ x ∈ xs, ∀ (Y : D → Prop) (N : Prop), (∀ v, R v → Y (.int v)) → wg (en x) env fun env' => wt env' fun b => if b = true then we env' Y else N) → acc.length + xs.length ≤ sizeLine →
    (∀ vs : List Int, vs.length = xs.length → (∀ v ∈ vs, R v) → K (acc ++ vs.map .int)) → lcGo wg wt we env (xs.map en) acc K
  | [], acc, K, _, _, h => by
    have := h [] rfl (by simp)
    simpa [lcGo] using this
  | x :: r, acc, K, hs, hl, h => by
    have hl' : acc.length + (r.length + 1) ≤ sizeLine := by simpa using hl
    rw [List.map_cons]
    refine hs x List.mem_cons_self _ _ fun v hv => ⟨by omega, ?_⟩
    refine lcGo_each en R r (acc ++ [.int v]) K (fun y hy => hs y (List.mem_cons_of_mem _ hy)) (by rw [List.length_append, List.length_singleton]; omega) fun vs hl2 hv2 => ?_
    have := h (v :: vs) (by simp [hl2]) (by
      intro u hu
      rcases List.mem_cons.mp hu with rfl | hu
      · exact hv
      · exact hv2 u hu)
    simpa using this
omit [Tabs] in
theorem inD_mem {α : Type} {f : α → D} (hf : ∀ x y, PyData.eqv (f x) (f y) = true ↔ x = y) {x : α} {xs : List α} : inD (f x) (xs.map f) = true ↔ x ∈ xs := by
  unfold inD
  rw [List.any_map, List.any_eq_true]
  constructor
  · rintro ⟨y, hy, e⟩
    have := (hf y x).mp e
    rw [← this]; exact hy
  · intro h
    exact ⟨x, h, (hf x x).mpr rfl⟩
end Eg

/-! E15: sums over the places from 1 on. -/
namespace Eg
open PySem PySem.Spec PyProof.Rows L2
variable [Tabs]
def Sm (n : Nat) (f : Int → Int) : Int := ((rng 1 (n - 1)).map f).sum
omit [Tabs] in
theorem sum_map_add {α : Type} (f g : α → Int) : ∀ l : List α, (l.map fun x => f x + g x).sum = (l.map f).sum + (l.map g).sum
  | [] => rfl
  | x :: r => by
    simp only [List.map_cons, List.sum_cons]
    rw [sum_map_add f g r]; omega
omit [Tabs] in
theorem sum_map_mul {α : Type} (a : Int) (f : α → Int) : ∀ l : List α, (l.map fun x => a * f x).sum = a * (l.map f).sum
  | [] => by simp
  | x :: r => by
    simp only [List.map_cons, List.sum_cons]
    rw [sum_map_mul a f r, Int.mul_add]
omit [Tabs] in
theorem sum_map_le {α : Type} {f g : α → Int} : ∀ {l : List α}, (∀ x ∈ l, f x ≤ g x) → (l.map f).sum ≤ (l.map g).sum
  | [], _ => Int.le_refl _
  | x :: r, h => by
    simp only [List.map_cons, List.sum_cons]
    have h1 := h x List.mem_cons_self
    have h2 := sum_map_le (l := r) fun y hy => h y (List.mem_cons_of_mem _ hy)
    omega
omit [Tabs] in
theorem sum_map_zero {α : Type} : ∀ l : List α, (l.map fun _ => (0 : Int)).sum = 0
  | [] => rfl
  | x :: r => by
    simp only [List.map_cons, List.sum_cons]
    rw [sum_map_zero r]; rfl
omit [Tabs] in
theorem sum_one {l : List Int} (hd : l.Nodup) (x v : Int) : (l.map fun q => if q = x then v else 0).sum = if x ∈ l then v else 0 := by
  induction l with
  | nil => simp
  | cons y r ih =>
    have hd' := List.pairwise_cons.mp hd
    simp only [List.map_cons, List.sum_cons]
    rw [ih hd'.2]
    by_cases h : y = x
    · subst h
      have : y ∉ r := fun z => hd'.1 y z rfl
      simp [this]
    · have h' : ¬ x = y := fun z => h z.symm
      simp [h, h']
omit [Tabs] in
theorem rng_nd {lo : Int} {n : Nat} : (rng lo n).Nodup := by
  unfold rng
  refine List.pairwise_map.mpr ?_
  refine List.Pairwise.imp (fun {a b} (h : a < b) => ?_) (List.pairwise_lt_range)
  omega
omit [Tabs] in
theorem Sm_add {n : Nat} (f g : Int → Int) : Sm n (fun x => f x + g x) = Sm n f + Sm n g := sum_map_add f g _
omit [Tabs] in
theorem Sm_mul {n : Nat} (a : Int) (f : Int → Int) : Sm n (fun x => a * f x) = a * Sm n f := sum_map_mul a f _
omit [Tabs] in
theorem Sm_le {n : Nat} {f g : Int → Int} (h : ∀ p : Int, 1 ≤ p → p < n → f p ≤ g p) : Sm n f ≤ Sm n g := sum_map_le fun x hx => by
  have := mem_rng.mp hx
  exact h x this.1 (by omega)
omit [Tabs] in
theorem Sm_congr {n : Nat} {f g : Int → Int} (h : ∀ p : Int, 1 ≤ p → p < n → f p = g p) : Sm n f = Sm n g := by
  unfold Sm
  congr 1
  refine List.map_congr_left fun x hx => ?_
  have := mem_rng.mp hx
  exact h x this.1 (by omega)
omit [Tabs] in
theorem Sm_zero {n : Nat} : Sm n (fun _ => 0) = 0 := sum_map_zero _
omit [Tabs] in
theorem Sm_one {n : Nat} {x v : Int} (h1 : 1 ≤ x) (h2 : x < n) : Sm n (fun q => if q = x then v else 0) = v := by
  unfold Sm
  rw [sum_one rng_nd, if_pos (mem_rng.mpr ⟨h1, by omega⟩)]
omit [Tabs] in
theorem Sm_out {n : Nat} {x v : Int} (h : ¬ (1 ≤ x ∧ x < n)) : Sm n (fun q => if q = x then v else 0) = 0 := by
  unfold Sm
  rw [sum_one rng_nd, if_neg]
  intro z
  have := mem_rng.mp z
  omega
omit [Tabs] in
/-- the items of a row, by what they are -/
theorem Sm_count {n : Nat} {f : Int → Int} (f0 : f 0 = 0) : ∀ l : List Int, (∀ x ∈ l, 0 ≤ x ∧ x < n) → Sm n (fun q => ((l.count q : Nat) : Int) * f q) = (l.map f).sum
  | [], _ => by
    simp only [List.count_nil, List.map_nil, List.sum_nil]
    rw [Sm_congr (g := fun _ => 0) fun p _ _ => by simp]
    exact Sm_zero
  | x :: r, h => by
    have ih := Sm_count (n := n) (f := f) f0 r fun y hy => h y (List.mem_cons_of_mem _ hy)
    have e : Sm n (fun q => (((x :: r).count q : Nat) : Int) * f q) = Sm n (fun q => ((r.count q : Nat) : Int) * f q) + Sm n (fun q => if q = x then f x else 0) := by
      rw [← Sm_add]
      refine Sm_congr fun p _ _ => ?_
      rw [List.count_cons]
      by_cases hp : x = p
      · subst hp; simp [Int.add_mul]
      · have hp' : ¬ p = x := fun z => hp z.symm
        simp [hp, hp']
    rw [e, ih, List.map_cons, List.sum_cons]
    have hx := h x List.mem_cons_self
    by_cases h1 : 1 ≤ x
    · rw [Sm_one h1 hx.2]; omega
    · have : x = 0 := by omega
      subst this
      rw [Sm_out (by omega), f0]; omega
end Eg

/-! E16: tables that a slot alone holds. -/
namespace Eg
open PySem PySem.Spec PyProof.Rows L2
variable [Tabs]
section
variable {W : Wd} {env : En} {S : Addr → Prop} {σ : L2.St} {H H' : Hp}
theorem Rows.setM : ∀ {bs : List Addr} {dss : List (List D)} {r : Nat} {b : Addr} {es : List D} {S' : Addr → Prop} {H' : Hp}, Rows W S H bs dss → bs.Nodup → bs[r]? = some b → (∃ vs, Own W S' H' b vs es) → (∀ c vs ds, c ≠ b → Own W S H c vs ds → Own W S' H' c vs ds) → Rows W S' H' bs (dss.set r es)
  | _, _, r, b, _, _, _, .nil, _, e, _, _ => by simp at e
  | c :: bs, ds :: dss, 0, b, es, S', H', .cons O t, nd, e, ⟨vs, O'⟩, f => by
    have e' : c = b := by simpa using e
    subst e'
    have nd' := List.pairwise_cons.mp nd
    exact .cons O' (Rows.moveM (fun x hx vs ds o => f x vs ds (fun z => nd'.1 x hx z.symm) o) t)
  | c :: bs, ds :: dss, r + 1, b, es, S', H', .cons O t, nd, e, O', f => by
    have nd' := List.pairwise_cons.mp nd
    have e' : bs[r]? = some b := by simpa using e
    have hb : b ∈ bs := List.mem_of_getElem? e'
    exact .cons (f c _ _ (nd'.1 b hb) O) (Rows.setM t nd'.2 e' O' f)
/-- a row of a slot's own table is written -/
theorem RlS.write2 (r : RlS W env S σ H) {i n : Nat} {a b : Addr} {bs : List Addr} {ws : List V} {dss : List (List D)} {es : List D} (he : env.at i = .ow2 dss) (hs : σ[i]? = some (some (.ref a))) (hl : i < env.length) (O : Own2 W S H a bs dss) (hb : bs[n]? = some b) (h : RpAll W.T H S ws es) :
    RlS W (env.set i (.ow2 (dss.set n es))) S σ (upd H b (.lst ws)) := by
  have hm : b ∈ bs := List.mem_of_getElem? hb
  obtain ⟨vs, ds, B⟩ := O.rows.each b hm
  have ai : Ads H σ[i]? (env.at i) b := by rw [he]; exact ⟨a, bs, hs, O.h, .inr hm⟩
  have mv : ∀ {v : V} {d : D}, Rp W.T H S v d → Rp W.T (upd H b (.lst ws)) S v d := fun {v d} q => q.move (d := d) fun c o e n => ⟨by rw [upd_ne (fun z => n (by rw [z]; exact B.s))]; exact e, n⟩
  have mvA : ∀ {v : List V} {d : List D}, RpAll W.T H S v d → RpAll W.T (upd H b (.lst ws)) S v d := fun {v d} q => q.move (ds := d) fun c o e n => ⟨by rw [upd_ne (fun z => n (by rw [z]; exact B.s))]; exact e, n⟩
  have nab : a ≠ b := fun z => O.na (by rw [z]; exact hm)
  have bk : ∀ l c, l ≠ i → Ads (upd H b (.lst ws)) σ[l]? (env.at l) c → Ads H σ[l]? (env.at l) c := fun l c hl z => z.back (r.sl l) fun p vs ep n hp => by
    rw [upd_ne]
    · exact hp
    · intro e; subst e
      refine r.ne l i p hl ?_ ai
      have ok := r.sl l
      revert ok z
      generalize env.at l = x
      cases x with
      | un => intro z; exact z.elim
      | sh d => intro z; exact z.elim
      | ow ds => intro _ _; exact ep
      | od ds => intro _ _; exact ep
      | ow2 dss =>
        intro _ ok
        obtain ⟨c, cs, e', O'⟩ := ok
        rw [ep] at e'; cases e'
        exact ⟨p, cs, ep, O'.h, .inl rfl⟩
  have upO : ∀ c vs ds, c ≠ b → Own W S H c vs ds → Own W S (upd H b (.lst ws)) c vs ds := fun c vs ds hc q => ⟨q.s, q.s0, q.m, q.h0, by rw [upd_ne hc]; exact q.h, mvA q.r⟩
  have ha' : upd H b (.lst ws) a = some (.lst (bs.map V.ref)) := by rw [upd_ne nab]; exact O.h
  refine ⟨r.s0, r.sm, fun c s => ?_, fun c o e n => ?_, ?_, by rw [List.length_set]; exact r.len, fun l => ?_, fun k l c hkl h1 h2 => ?_, fun p hp => mv (r.hd p hp)⟩
  · by_cases hc : c = b
    · subst hc; rw [upd_same]; simp
    · rw [upd_ne hc]; exact r.sn c s
  · rw [upd_ne (fun z => by rw [z, B.h0] at e; cases e)]
    exact r.h0 c o e n
  · exact W.jk H _ (fun c m => by rw [upd_ne (fun z => B.m (by rw [← z]; exact m))]) r.j
  · rw [at_set]
    split
    · rename_i q
      obtain ⟨rfl, _⟩ := q
      exact ⟨a, bs, hs, O.s, O.s0, O.m, O.h0, ha', O.nd, O.na, Rows.setM O.rows O.nd hb ⟨ws, B.s, B.s0, B.m, B.h0, upd_same, mvA h⟩ upO⟩
    · rename_i q
      exact (r.sl l).away B.s fun z => r.ne l i b (fun e => q ⟨e, hl⟩) z ai
  · have cl : ∀ m, Ads (upd H b (.lst ws)) σ[m]? (En.at (env.set i (.ow2 (dss.set n es))) m) c → Ads H σ[m]? (env.at m) c := fun m z => by
      rw [at_set] at z
      split at z
      · rename_i q
        obtain ⟨rfl, _⟩ := q
        obtain ⟨p, ps, e1, e2, e3⟩ := z
        rw [hs] at e1; cases e1
        rw [ha'] at e2
        have e4 := Option.some.inj e2
        injection e4 with e4
        have e5 := ref_inj e4
        subst e5
        rw [he]; exact ⟨a, bs, hs, O.h, e3⟩
      · rename_i q
        exact bk m c (fun e => q ⟨e, hl⟩) z
    exact r.ne k l c hkl (cl k h1) (cl l h2)
theorem RlS.lt2 {i : Nat} {dss : List (List D)} (R : RlS W env S σ H) (h : env.at i = .ow2 dss) : i < env.length := by
  unfold En.at at h
  rw [List.getD_eq_getElem?_getD] at h
  cases e : env[i]? with
  | none => rw [e] at h; cases h
  | some x => exact (List.getElem?_eq_some_iff.mp e).1
end
section
variable {X : Cx} {e a b c : Expr} {es : List Expr} {w wa wb wc : WE} {u : WA} {pos : Pos}
/-- name[e1], a row read in place -/
def wOx (i : Nat) (w1 : WE) : WE := fun env Q => match env.at i with
  | .ow2 dss => w1 env fun ix => match ix with
    | .int k => match atI dss k with
      | some ds => Q (.list ds)
      | none => False
    | _ => False
  | _ => False
omit [Tabs] in
theorem monoOx {i : Nat} (h : Mono w) : Mono (wOx i w) := fun env Q Q' f q => by
  unfold wOx at q ⊢
  split at q
  · exact h _ _ _ (fun d q => by
      cases d with
      | int k =>
        simp only at q ⊢
        split at q
        · exact f _ q
        · exact q.elim
      | _ => exact q.elim) q
  · exact q.elim
theorem Rows.atI {W : Wd} {S : Addr → Prop} {H : Hp} {bs : List Addr} {dss : List (List D)} {k : Int} {ds : List D} (r : Rows W S H bs dss) (h : L2.atI dss k = some ds) : ∃ (n : Nat) (b : Addr) (vs : List V), ixN dss.length k = some n ∧ bs[n]? = some b ∧ dss[n]? = some ds ∧ L2.atI (bs.map V.ref) k = some (.ref b) ∧ Own W S H b vs ds := by
  unfold L2.atI at h ⊢
  rw [List.length_map, r.length]
  cases e : ixN dss.length k with
  | none => rw [e] at h; cases h
  | some n =>
    rw [e] at h
    obtain ⟨b, vs, hb, O⟩ := r.get (i := n) h
    refine ⟨n, b, vs, rfl, hb, h, ?_, O⟩
    show (bs.map V.ref)[n]? = _
    rw [List.getElem?_map, hb]; rfl
theorem ox_ (i : Nat) {x : Str} {p1 : Pos} (h : PP X e w) (hN : X.N[i]? = some x := by rfl) (hv : Vis X.env.scope x := by first | exact Or.inl rfl | exact Or.inr (Or.inl rfl) | exact Or.inr (Or.inr rfl)) (hd : (x == ("__debug__" : Str)) = false := by decide)
    (hcd : (x == ("__classdict__" : Str)) = false := by decide) (hs : PlainIx e := by exact fun _ _ => rfl) : PP X (.Subscript (.Name x p1) e pos) (wOx i w) := by
  refine ⟨(pe_ix ix_list (pe_var hN hv hd hcd) h.pe hs).imp fun σ H Q ⟨W, env, S, R, q⟩ => ?_, monoOx h.mono⟩
  unfold wOx at q
  split at q
  · rename_i dss he
    have s := R.sl i
    rw [he] at s
    obtain ⟨a, bs, ea, O⟩ := s
    refine ⟨.ref a, ea, W, env, S, R, h.mono _ _ _ (fun d q v H1 k1 t1 => ?_) q⟩
    cases d with
    | int k =>
      simp only at q
      split at q
      · rename_i ds hk
        have O1 := O.kept k1 R.sm
        obtain ⟨n, b, vs, _, _, _, e3, B⟩ := O1.rows.atI hk
        exact ⟨a, _, k, .ref b, rfl, t1.int, .inl (.inl O1.h), e3, q _ H1 k1 (.inr ⟨b, vs, ds, rfl, rfl, B.m, B.h, B.r⟩)⟩
      · exact q.elim
    | _ => exact q.elim
  · exact q.elim
/-- a row of a table -/
def row2 (i : Nat) (env : En) (ix : D) (K : Nat → List D → List (List D) → Prop) : Prop := match env.at i, ix with
  | .ow2 dss, .int k => match ixN dss.length k with
    | some r => match dss[r]? with
      | some ds => K r ds dss
      | none => False
    | none => False
  | _, _ => False
omit [Tabs] in
theorem row2_e {i : Nat} {env : En} {ix : D} {K : Nat → List D → List (List D) → Prop} (q : row2 i env ix K) : ∃ k r ds dss, env.at i = .ow2 dss ∧ ix = .int k ∧ ixN dss.length k = some r ∧ dss[r]? = some ds ∧ K r ds dss := by
  unfold row2 at q
  split at q
  · rename_i dss k he
    split at q
    · rename_i r hr
      split at q
      · rename_i ds hds
        exact ⟨k, r, ds, dss, he, rfl, hr, hds, q⟩
      · exact q.elim
    · exact q.elim
  · exact q.elim
omit [Tabs] in
theorem row2_i {i : Nat} {env : En} {k : Int} {r : Nat} {ds : List D} {dss : List (List D)} {K : Nat → List D → List (List D) → Prop} (he : env.at i = .ow2 dss) (hr : ixN dss.length k = some r) (hd : dss[r]? = some ds) (q : K r ds dss) : row2 i env (.int k) K := by
  unfold row2
  rw [he]
  simp only [hr, hd]
  exact q
omit [Tabs] in
theorem row2_mono {i : Nat} {env : En} {ix : D} {K K' : Nat → List D → List (List D) → Prop} (f : ∀ r ds dss, K r ds dss → K' r ds dss) (q : row2 i env ix K) : row2 i env ix K' := by
  obtain ⟨k, r, ds, dss, he, rfl, hr, hd, q⟩ := row2_e q
  exact row2_i he hr hd (f _ _ _ q)
/-- name[e1][e2] = e -/
def cell2 (ds : List D) (iy : D) (K : Nat → Prop) : Prop := match iy with
  | .int l => match ixN ds.length l with
    | some c => K c
    | none => False
  | _ => False
omit [Tabs] in
theorem cell2_e {ds : List D} {iy : D} {K : Nat → Prop} (q : cell2 ds iy K) : ∃ l c, iy = .int l ∧ ixN ds.length l = some c ∧ K c := by
  unfold cell2 at q
  split at q
  · split at q
    · rename_i l c h
      exact ⟨_, _, rfl, h, q⟩
    · exact q.elim
  · exact q.elim
omit [Tabs] in
theorem cell2_i {ds : List D} {l : Int} {c : Nat} {K : Nat → Prop} (h : ixN ds.length l = some c) (q : K c) : cell2 ds (.int l) K := by
  unfold cell2
  simp only [h]
  exact q
def wSt2 (i : Nat) (w1 w2 w : WE) : WS := fun env P => (∃ dss, env.at i = .ow2 dss) ∧ w env fun x => w1 env fun ix => row2 i env ix fun r ds dss => w2 env fun iy => cell2 ds iy fun c => P.nx (env.set i (.ow2 (dss.set r (ds.set c x))))
theorem st2_ (i : Nat) {x : Str} {ie je : Expr} {w1 w2 : WE} {p1 p2 p3 : Pos} (hi : PP X ie w1) (hj : PP X je w2) (h : PV X e w) (hN : X.N[i]? = some x := by rfl) (hv : Vis X.env.scope x := by first | exact Or.inl rfl | exact Or.inr (Or.inl rfl) | exact Or.inr (Or.inr rfl)) (hd : (x == ("__debug__" : Str)) = false := by decide)
    (hcd : (x == ("__classdict__" : Str)) = false := by decide) (hpl : PlainIx ie := by exact fun _ _ => rfl)
    (ha : ∀ v, assign (.Subscript (.Subscript (.Name x p1) ie p2) je p3) X.env v = (do
      let ov ← holding [v] (eval (.Subscript (.Name x p1) ie p2) X.env)
      let iv ← holding [v, ov] (eval je X.env)
      standAt p3
      holding [v, ov, iv] (setItem ov iv v)
      release [v, ov, iv] []) := by intro _; rfl)
    (hs : swapsWithSole [.Subscript (.Subscript (.Name x p1) ie p2) je p3] e pos.line X.env = pure false := by rfl) (hw : swappedStores [.Subscript (.Subscript (.Name x p1) ie p2) je p3] e X.env = pure none := by rfl)
    (h1 : (assignEach [.Subscript (.Subscript (.Name x p1) ie p2) je p3] X.env).map (·.2) = [assign (.Subscript (.Subscript (.Name x p1) ie p2) je p3) X.env] := by rfl) : PSv X (.Assign [.Subscript (.Subscript (.Name x p1) ie p2) je p3] e pos) (wSt2 i w1 w2 w) := by
  refine ⟨(ps_asg h.pe (pg_sub (pe_ix ix_list (pe_var hN hv hd hcd) hi.pe hpl) hj.pe set_list ha) hs hw h1).imp fun D σ H ⟨W, env, S, R, q⟩ => ?_, fun env P P' l q => ⟨q.1, h.mono _ _ _ (fun d q => hi.mono _ _ _ (fun ix q => row2_mono (fun r ds dss q => hj.mono _ _ _ (fun iy q => by
    obtain ⟨l2, c, rfl, hc, q⟩ := cell2_e q
    exact cell2_i hc (l.nx _ q)) q) q) q) q.2⟩⟩
  obtain ⟨⟨dss0, he0⟩, q⟩ := q
  have s := R.sl i
  rw [he0] at s
  obtain ⟨a, bs, ea, O⟩ := s
  refine ⟨W, env, S, R, h.mono _ _ _ (fun d q v H1 k1 r1 => ?_) q⟩
  refine ⟨.ref a, ea, W, env, S, R.kept k1, hi.mono _ _ _ (fun ix q iv H2 k2 t2 => ?_) q⟩
  obtain ⟨k, r, ds, dss, he, rfl, hr, hds, q⟩ := row2_e q
  rw [he0] at he
  cases he
  have O2 := O.kept (k1.trans k2) R.sm
  have hat : L2.atI dss0 k = some ds := by
    unfold L2.atI
    rw [hr]; exact hds
  obtain ⟨n, b, vs, e1, e2, e3, e4, B⟩ := O2.rows.atI hat
  rw [hr] at e1; cases e1
  refine ⟨a, _, k, .ref b, rfl, t2.int, .inl (.inl O2.h), e4, ?_⟩
  refine ⟨W, env, S, (R.kept k1).kept k2, hj.mono _ _ _ (fun iy q jv H3 k3 t3 => ?_) q⟩
  obtain ⟨l, c, rfl, hc, q⟩ := cell2_e q
  have O3 := O2.kept k3 R.sm
  have B3 := B.kept k3 R.sm
  have R3 := ((R.kept k1).kept k2).kept k3
  have r3 := r1.kept (k2.trans k3) R.sm
  refine ⟨b, vs, l, c, rfl, t3.int, B3.h, by rw [B3.r.length]; exact hc, ?_⟩
  exact q σ _ S (R3.write2 he0 ea (R.lt2 he0) O3 e2 (B3.r.set r3 c))
end
end Eg

/-! E17: tables made anew. -/
namespace Eg
open PySem PySem.Spec PyProof.Rows L2
variable [Tabs]
section
variable {W : Wd} {env : En} {S : Addr → Prop} {σ : L2.St} {H H' : Hp}
/-- some more places to leave out, none of them there before -/
theorem RlS.plusN (r : RlS W env S σ H) {N : Addr → Prop} (hN : ∀ a, N a → H a = none) (k : KpJ W H H') (hN' : ∀ a, N a → H' a ≠ none) : RlS W env (fun a => S a ∨ N a) σ H' := by
  have r' := r.kept k
  have up : ∀ {v : V} {d : D}, Rp W.T H S v d → Rp W.T H' (fun a => S a ∨ N a) v d := fun {v d} q => q.move (d := d) fun a o e n => ⟨k.1 a o e fun m => n (r.sm a m), fun s => s.elim n fun z => ne_of_none e (hN a z) rfl⟩
  have upA : ∀ {v : List V} {d : List D}, RpAll W.T H S v d → RpAll W.T H' (fun a => S a ∨ N a) v d := fun {v d} q => q.move (ds := d) fun a o e n => ⟨k.1 a o e fun m => n (r.sm a m), fun s => s.elim n fun z => ne_of_none e (hN a z) rfl⟩
  have upO : ∀ a vs ds, Own W S H a vs ds → Own W (fun a => S a ∨ N a) H' a vs ds := fun a vs ds q => ⟨.inl q.s, q.s0, q.m, q.h0, k.1 a _ q.h q.m, upA q.r⟩
  refine ⟨fun a s => .inl (r.s0 a s), fun a m => .inl (r.sm a m), fun a s => ?_, r'.h0, r'.j, r.len, fun i => ?_, r'.ne, fun q hq => up (r.hd q hq)⟩
  · rcases s with s | s
    · exact r'.sn a s
    · exact hN' a s
  · have q := r.sl i
    revert q
    generalize env.at i = x
    cases x with
    | un => intro _; trivial
    | sh d => rintro ⟨v, e, q⟩; exact ⟨v, e, up q⟩
    | ow es => rintro ⟨a, ws, e, q⟩; exact ⟨a, ws, e, upO _ _ _ q⟩
    | od es => rintro ⟨a, ws, e, q⟩; exact ⟨a, ws, e, .inl q.s, q.s0, q.m, q.h0, k.1 a _ q.h q.m, q.k, upA q.r⟩
    | ow2 es => rintro ⟨a, ws, e, q⟩; exact ⟨a, ws, e, .inl q.s, q.s0, q.m, q.h0, k.1 a _ q.h q.m, q.nd, q.na, q.rows.move upO⟩
end
/-- a new table: the list at p, rows at bs -/
inductive Fr (W : Wd) (S : Addr → Prop) (H : Hp) : List Addr → List (List D) → Prop
  | nil : Fr W S H [] []
  | cons {b : Addr} {bs : List Addr} {vs : List V} {ds : List D} {dss : List (List D)} : H b = some (.lst vs) → RpAll W.T H S vs ds → Fr W S H bs dss → Fr W S H (b :: bs) (ds :: dss)
theorem Fr.length {W : Wd} {S : Addr → Prop} {H : Hp} : ∀ {bs : List Addr} {dss : List (List D)}, Fr W S H bs dss → bs.length = dss.length
  | _, _, .nil => rfl
  | _, _, .cons _ _ t => congrArg (· + 1) t.length
theorem Fr.move {W : Wd} {S S' : Addr → Prop} {H H' : Hp} : ∀ {bs : List Addr} {dss : List (List D)}, (∀ b ∈ bs, ∀ vs, H b = some (.lst vs) → H' b = some (.lst vs)) → (∀ (vs : List V) (ds : List D), RpAll W.T H S vs ds → RpAll W.T H' S' vs ds) → Fr W S H bs dss → Fr W S' H' bs dss
  | _, _, _, _, .nil => .nil
  | _, _, f, g, .cons h r t => .cons (f _ List.mem_cons_self _ h) (g _ _ r) (Fr.move (fun b hb => f b (List.mem_cons_of_mem _ hb)) g t)
theorem Fr.snoc {W : Wd} {S : Addr → Prop} {H : Hp} {b : Addr} {vs : List V} {ds : List D} (h : H b = some (.lst vs)) (r : RpAll W.T H S vs ds) : ∀ {bs : List Addr} {dss : List (List D)}, Fr W S H bs dss → Fr W S H (bs ++ [b]) (dss ++ [ds])
  | _, _, .nil => .cons h r .nil
  | _, _, .cons h' r' t => .cons h' r' (t.snoc h r)
theorem Fr.all {W : Wd} {S : Addr → Prop} {H : Hp} : ∀ {bs : List Addr} {dss : List (List D)}, Fr W S H bs dss → ∀ b ∈ bs, ∃ vs, H b = some (.lst vs)
  | _, _, .nil, b, h => by cases h
  | _, _, .cons h' _ t, b, h => by
    rcases List.mem_cons.mp h with rfl | h
    · exact ⟨_, h'⟩
    · exact t.all b h
theorem Fr.rows {W : Wd} {S : Addr → Prop} {H : Hp} : ∀ {bs : List Addr} {dss : List (List D)}, (∀ b ∈ bs, S b ∧ ¬ W.S0 b ∧ ¬ W.M b ∧ W.H0 b = none) → Fr W S H bs dss → Rows W S H bs dss
  | _, _, _, .nil => .nil
  | _, _, f, .cons h r t => by
    obtain ⟨a, b, c, d⟩ := f _ List.mem_cons_self
    exact .cons ⟨a, b, c, d, h, r⟩ (Fr.rows (fun x hx => f x (List.mem_cons_of_mem _ hx)) t)
abbrev W2 := En → (List (List D) → Prop) → Prop
def Mono2 (w : W2) : Prop := ∀ env Q Q', (∀ d, Q d → Q' d) → w env Q → w env Q'
/-- the places that a new table takes -/
def tbl (S : Addr → Prop) (p : Addr) (bs : List Addr) : Addr → Prop := fun a => S a ∨ (a = p ∨ a ∈ bs)
def tF2 (w : W2) : TE := fun σ H Q => ∃ W env S, RlS W env S σ H ∧ w env fun dss => ∀ p bs H', KpJ W H H' → H p = none → (∀ b ∈ bs, H b = none) → bs.Nodup → p ∉ bs → H' p = some (.lst (bs.map V.ref)) → Fr W (tbl S p bs) H' bs dss → Q (.ref p) H'
/-- the turns -/
def lcG2 (wg : WG) (wt : WT) (we : WE) (env : En) : List D → List (List D) → (List (List D) → Prop) → Prop
  | [], acc, K => K acc
  | d :: r, acc, K => wg d env fun env' => wt env' fun b => if b = true then we env' fun y => match y with
      | .list ds => acc.length < sizeLine ∧ lcG2 wg wt we env r (acc ++ [ds]) K
      | _ => False
    else lcG2 wg wt we env r acc K
omit [Tabs] in
theorem lcG2_mono {wg : WG} {wt : WT} {we : WE} {env : En} (hg : MonoG wg) (ht : MonoT wt) (he : Mono we) : ∀ (ds : List D) (acc : List (List D)) (K K' : List (List D) → Prop), (∀ a, K a → K' a) → lcG2 wg wt we env ds acc K → lcG2 wg wt we env ds acc K'
  | [], acc, K, K', f, q => f _ q
  | d :: r, acc, K, K', f, q => hg _ _ _ _ (fun env' q => ht _ _ _ (fun b q => by
    cases b with
    | true => exact he _ _ _ (fun y q => by
        cases y with
        | list ds => exact ⟨q.1, lcG2_mono hg ht he r _ K K' f q.2⟩
        | _ => exact q.elim) q
    | false => exact lcG2_mono hg ht he r _ K K' f q) q) q
def wLcF (vs : List Nat) (wi : WI) (wg : WG) (wt : WT) (we : WE) : W2 := fun env Q => wi env fun ds => lcG2 wg wt we (wipeE env vs) ds [] Q
omit [Tabs] in
theorem monoLcF {vs : List Nat} {wi : WI} {wg : WG} {wt : WT} {we : WE} (hi : MonoA wi) (hg : MonoG wg) (ht : MonoT wt) (he : Mono we) : Mono2 (wLcF vs wi wg wt we) := fun env Q Q' f q =>
  hi _ _ _ (fun ds q => lcG2_mono hg ht he ds [] _ _ (fun acc q => f _ q) q) q
theorem lcF_read {vs sl : List Nat} {wi : WI} {wg : WG} {wt : WT} {we : WE} {σ : L2.St} {H : Hp} {Q : VK} (mi : MonoA wi) (hg : MonoG wg) (ht : MonoT wt) (he : Mono we) (hsl : ∀ i ∈ sl, i ∈ vs)
    (q : tF2 (wLcF vs wi wg wt we) σ H Q) : tLc (tI wi) (tG wg sl) (tT wt) (tF we) vs σ H Q := by
  obtain ⟨W, env, S, R, q⟩ := q
  refine ⟨W, env, S, R, mi _ _ _ (fun ds go J H1 hv k tv src p hp => ?_) q⟩
  have Rk := R.kept k
  have npM : ¬ W.M p := fun m => W.jm H1 Rk.j p m hp
  obtain ⟨K, go, fin⟩ : ∃ K : List (List D) → Prop, lcG2 wg wt we (wipeE env vs) ds [] K ∧ (∀ acc bs H2, K acc → KpJ W H1 H2 → (∀ b ∈ bs, H1 b = none) → bs.Nodup → p ∉ bs → H2 p = some (.lst (bs.map V.ref)) → Fr W (tbl S p bs) H2 bs acc → Q (.ref p) H2) :=
    ⟨_, go, fun acc bs H2 q k2 hb nd np hx f => q p bs H2 (k.trans k2) (k.none_of R.j hp) (fun b hb' => k.none_of R.j (hb b hb')) nd np hx f⟩
  refine ⟨fun i m H => m = ds.length - i ∧ i ≤ ds.length ∧ KpJ W H1 H ∧ ∃ acc bs, H p = some (.lst (bs.map V.ref)) ∧ (∀ b ∈ bs, H1 b = none) ∧ bs.Nodup ∧ p ∉ bs ∧ Fr W (tbl S p bs) H bs acc ∧ lcG2 wg wt we (wipeE env vs) (ds.drop i) acc K,
    ⟨ds.length, rfl, Nat.zero_le _, .new k.2 hp, [], [], upd_same, by simp, List.nodup_nil, by simp, .nil, go⟩, ?_⟩
  rintro i m H ⟨rfl, hi, kp, acc, bs, hx, hb, nd, np, fr, go⟩
  have hNn : ∀ a, (a = p ∨ a ∈ bs) → H1 a = none := fun a z => z.elim (fun z => by rw [z]; exact hp) (hb a)
  have hNs : ∀ a, (a = p ∨ a ∈ bs) → H a ≠ none := fun a z => z.elim (fun z => by rw [z, hx]; simp) fun z => by
    obtain ⟨ws, e⟩ := fr.all a z
    rw [e]; simp
  have R1 : RlS W env (tbl S p bs) σ H := Rk.plusN hNn kp hNs
  have tvH : ∀ q ∈ hv, Top W H (tbl S p bs) q.1 q.2 := fun q hq => .inl ((tv q hq).move (d := q.2) fun a o e n => ⟨kp.1 a o e fun m => n (R.sm a m), fun s => s.elim n fun z => ne_of_none e (hNn a z) rfl⟩)
  obtain ⟨s1, s2⟩ := src H (tbl S p bs) R1.cn tvH i
  by_cases hlt : i < ds.length
  · obtain ⟨g1, g2⟩ := s1 _ (List.getElem?_eq_getElem hlt)
    rw [List.drop_eq_getElem_cons hlt] at go
    refine .inr ⟨g1, fun H' => KpJ W H1 H' ∧ ∃ acc bs, H' p = some (.lst (bs.map V.ref)) ∧ (∀ b ∈ bs, H1 b = none) ∧ bs.Nodup ∧ p ∉ bs ∧ Fr W (tbl S p bs) H' bs acc ∧ lcG2 wg wt we (wipeE env vs) (ds.drop (i + 1)) acc K, fun H' ⟨k, q⟩ => ⟨ds.length - (i + 1), by omega, rfl, hlt, k, q⟩, fun x H' hy => ?_⟩
    obtain ⟨k2, rx2⟩ := g2 x H' hy
    have R2 := (R1.kept k2).wiped vs
    have nM : ∀ b ∈ bs, ¬ W.M b := fun b hb' m => W.jm H1 Rk.j b m (hb b hb')
    have px : ∀ {G : Hp}, KpJ W H' G → G p = some (.lst (bs.map V.ref)) ∧ Fr W (tbl S p bs) G bs acc := fun {G} k3 => ⟨(k2.trans k3).1 p _ hx npM, fr.move (fun b hb' vs h => (k2.trans k3).1 b _ h (nM b hb')) fun vs ds r => r.kept (k2.trans k3) R1.sm⟩
    refine ⟨W, wipeE env vs, tbl S p bs, _, R2, rx2, hg _ _ _ _ (fun env' go σ' R3 hw => ⟨(hw vs hsl).trans (wipe_wipe fun _ z => z), W, env', tbl S p bs, R3, ht _ _ _ (fun b go H3 k3 => ?_) go⟩) go⟩
    cases b with
    | false =>
      obtain ⟨e1, e2⟩ := px k3
      exact ⟨(kp.trans k2).trans k3, acc, bs, e1, hb, nd, np, e2, go⟩
    | true =>
      refine ⟨W, env', tbl S p bs, R3.kept k3, he _ _ _ (fun y go b ws es H4 ed k4 hn4 hp4 r4 => ?_) go⟩
      subst ed
      obtain ⟨e1, e2⟩ := px (k3.trans k4)
      have kk := ((kp.trans k2).trans k3).trans k4
      have hb1 : H1 b = none := ((kp.trans k2).trans k3).none_of Rk.j hn4
      have nbp : b ≠ p := fun z => by
        have := (px k3).1
        rw [← z, hn4] at this; cases this
      have nbb : b ∉ bs := fun z => by
        obtain ⟨us, e⟩ := (px k3).2.all b z
        rw [hn4] at e; cases e
      have ex : acc.length = bs.length := fr.length.symm
      refine ⟨bs.map V.ref, e1, by rw [List.length_map, ← ex]; exact go.1, ⟨fun a o e n => by rw [upd_ne (ne_of_none e hp)]; exact kk.1 a o e n, W.jk H4 _ (fun a m => by rw [upd_ne (fun z => npM (by rw [← z]; exact m))]) kk.2⟩, acc ++ [es], bs ++ [b], ?_, ?_, ?_, ?_, ?_, go.2⟩
      · rw [upd_same]; simp
      · intro c hc
        rcases List.mem_append.mp hc with hc | hc
        · exact hb c hc
        · rw [List.mem_singleton.mp hc]; exact hb1
      · exact List.nodup_append.mpr ⟨nd, by simp, fun c hc c' hc' => by
          rw [List.mem_singleton.mp hc']
          intro z; rw [z] at hc; exact nbb hc⟩
      · intro z
        rcases List.mem_append.mp z with z | z
        · exact np z
        · exact nbp (List.mem_singleton.mp z).symm
      · have grow : ∀ (vs : List V) (ds : List D), RpAll W.T H4 (tbl S p bs) vs ds → (∀ a o, H4 a = some o → ¬ tbl S p bs a → a ≠ b → True) → True := fun _ _ _ _ => trivial
        have old : Fr W (tbl S p (bs ++ [b])) (upd H4 p (.lst (bs.map V.ref ++ [V.ref b]))) bs acc := by
          have f3 := (px k3).2
          refine f3.move (fun c hc us h => ?_) fun us es r => r.move (ds := es) fun a o e n => ⟨?_, ?_⟩
          · rw [upd_ne (fun z => np (by rw [← z]; exact hc))]
            exact k4.1 c _ h (nM c hc)
          · rw [upd_ne (fun z => n (.inr (.inl z)))]
            exact k4.1 a o e fun m => n (R3.sm a m)
          · intro s
            rcases s with s | s | s
            · exact n (.inl s)
            · exact n (.inr (.inl s))
            · rcases List.mem_append.mp s with s | s
              · exact n (.inr (.inr s))
              · rw [List.mem_singleton.mp s, hn4] at e; cases e
        refine old.snoc (vs := ws) (by rw [upd_ne nbp]; exact hp4) (r4.move (ds := es) fun a o e n => ⟨?_, ?_⟩)
        · rw [upd_ne (fun z => n (.inl (.inr (.inl z))))]; exact e
        · intro s
          rcases s with s | s | s
          · exact n (.inl (.inl s))
          · exact n (.inl (.inr (.inl s)))
          · rcases List.mem_append.mp s with s | s
            · exact n (.inl (.inr (.inr s)))
            · exact n (.inr (List.mem_singleton.mp s))
  · have e : i = ds.length := by omega
    subst e
    rw [List.drop_length] at go
    exact .inl ⟨s2 (Nat.le_refl _), fin acc bs H go kp hb nd np hx fr⟩
end Eg

/-! E18: names that stand for tables. -/
namespace Eg
open PySem PySem.Spec PyProof.Rows L2
variable [Tabs]
theorem RlS.setOw2 {W : Wd} {env : En} {S : Addr → Prop} {σ : L2.St} {H H' : Hp} (r : RlS W env S σ H) {i : Nat} {p : Addr} {bs : List Addr} {dss : List (List D)} (k : KpJ W H H') (hn : H p = none) (hb : ∀ b ∈ bs, H b = none) (nd : bs.Nodup) (np : p ∉ bs) (hp : H' p = some (.lst (bs.map V.ref))) (f : Fr W (tbl S p bs) H' bs dss) :
    RlS W (env.set i (.ow2 dss)) (tbl S p bs) (σ.set i (some (.ref p))) H' := by
  have hNn : ∀ a, (a = p ∨ a ∈ bs) → H a = none := fun a z => z.elim (fun z => by rw [z]; exact hn) (hb a)
  have r' := r.plusN hNn k fun a z => z.elim (fun z => by rw [z, hp]; simp) fun z => by
    obtain ⟨ws, e⟩ := f.all a z
    rw [e]; simp
  have own : ∀ a, (a = p ∨ a ∈ bs) → ¬ S a ∧ ¬ W.M a ∧ W.H0 a = none := fun a z => by
    have h := hNn a z
    have nm : ¬ W.M a := fun m => W.jm H r.j a m h
    refine ⟨fun s => r.sn a s h, nm, ?_⟩
    cases e : W.H0 a with
    | none => rfl
    | some o => have := r.h0 a o e nm; rw [h] at this; cases this
  have O : Own2 W (tbl S p bs) H' p bs dss := by
    obtain ⟨a1, a2, a3⟩ := own p (.inl rfl)
    exact ⟨.inr (.inl rfl), fun s => a1 (r.s0 p s), a2, a3, hp, nd, np, f.rows fun b hb' => by
      obtain ⟨b1, b2, b3⟩ := own b (.inr hb')
      exact ⟨.inr (.inr hb'), fun s => b1 (r.s0 b s), b2, b3⟩⟩
  refine ⟨r'.s0, r'.sm, r'.sn, r'.h0, r'.j, by rw [List.length_set, List.length_set]; exact r.len, sl_set (W := W) (S := tbl S p bs) (x := .ow2 dss) r.len ⟨p, bs, rfl, O⟩ r'.sl, ne_set r.len r'.ne fun a z l hl q => ?_, r'.hd⟩
  obtain ⟨b, cs, e1, e2, e3⟩ := z
  have eb : p = b := by
    have z' : (some (some (V.ref p)) : Option (Option V)) = some (some (.ref b)) := e1
    cases z'; rfl
  subst eb
  rw [hp] at e2
  have e4 := Option.some.inj e2
  injection e4 with e4
  have e5 := ref_inj e4
  subst e5
  have q' := q.back (r.sl l) fun b vs _ n e => k.1 b _ e n
  exact (own a e3).1 (q'.own (r.sl l)).1
def wOwn2 (i : Nat) (w : W2) : WS := fun env P => w env fun dss => P.nx (env.set i (.ow2 dss))
omit [Tabs] in
theorem monoOwn2 {i : Nat} {w : W2} (h : Mono2 w) : MonoS (wOwn2 i w) := fun env P P' l q => h _ _ _ (fun d q => l.nx _ q) q
theorem asg_ow2 {i : Nat} {D : Ends} {σ : L2.St} {H : Hp} {w : W2} (h : Mono2 w) (q : tS (wOwn2 i w) D σ H) : tF2 w σ H fun x H1 => gName i x σ H1 D.nx := by
  obtain ⟨W, env, S, R, q⟩ := q
  exact ⟨W, env, S, R, h _ _ _ (fun dss q p bs H' k hn hb nd np hp f => q _ H' _ (R.setOw2 k hn hb nd np hp f)) q⟩
section
variable {X : Cx} {elt tg iter : Expr} {ifs : List Expr} {scope : Scope} {own : List (Str × Nat)} {sl : List Nat} {wi : WI} {wg : WG} {wt : WT} {we : WE} {y : Str} {py pos spos : Pos}
/-- name = [fresh for ..] -/
theorem own2_ (i : Nat) (own : List (Str × Nat)) (hc : X.calm = true) (hN : X.N.Nodup) (hit : PIv X tg iter wi)
    (hg : Blk X scope fun Y => PGv Y tg wg sl) (ht : Blk X scope fun Y => PTsv Y ifs wt) (he : Blk X scope fun Y => PF Y elt we)
    (hi : X.N[i]? = some y := by rfl) (hx : Loc X.env.scope y := by first | exact Or.inl rfl | exact Or.inr rfl) (hsw : swapsWith (.ListComp elt [⟨tg, iter, ifs, 0⟩] scope pos) (some (.Name y py)) spos.line X.env = pure false := by rfl)
    (hf : X.fn y = true ∨ X.env.scope.names.lookup y = some .local := by first | exact .inl rfl | exact .inr rfl | assumption)
    (hb : blkC X.N X.env.scope scope own = true := by kernel_rfl) (hsl : ∀ i ∈ sl, i ∈ own.map (·.2) := by decide) (hs : ∀ x, foldedSetIterable iter X.env x = pure x := by intro _; rfl) :
    PSv X (.Assign [.Name y py] (.ListComp elt [⟨tg, iter, ifs, 0⟩] scope pos) spos) (wOwn2 i (wLcF (own.map (·.2)) wi wg wt we)) := by
  have mg := (hg X.s_0 X.H_0 0 [] []).mono
  have mt := (ht X.s_0 X.H_0 0 [] []).mono
  have me := (he X.s_0 X.H_0 0 [] []).mono
  have pe : PE X (.ListComp elt [⟨tg, iter, ifs, 0⟩] scope pos) (tF2 (wLcF (own.map (·.2)) wi wg wt we)) := (pe_lc hc hN hit.pi (blkOk_by hb) (fun s H C cl fp => (hg s H C cl fp).pg) (fun s H C cl fp => (ht s H C cl fp).pt) (fun s H C cl fp => (he s H C cl fp).pe) hs).imp fun σ H Q q => lcF_read hit.mono mg mt me hsl q
  exact ⟨(ps_set hN hi hx pe hsw hf).imp fun D σ H q => asg_ow2 (monoLcF hit.mono mg mt me) q, monoOwn2 (monoLcF hit.mono mg mt me)⟩
/-- .. on one line, a local -/
theorem la2_ (i : Nat) (own : List (Str × Nat)) (hc : X.calm = true) (hN : X.N.Nodup) (hit : PIv X tg iter wi)
    (hg : Blk X scope fun Y => PGv Y tg wg sl) (ht : Blk X scope fun Y => PTsv Y ifs wt) (he : Blk X scope fun Y => PF Y elt we)
    (hi : X.N[i]? = some y := by rfl) (hyl : X.env.scope.names.lookup y = some .local := by rfl)
    (hsw : swapsWith (.ListComp elt [⟨tg, iter, ifs, 0⟩] scope pos) (some (.Name y py)) spos.line X.env = pure true := by exact sw_true rfl rfl rfl (by decide +kernel))
    (hb : blkC X.N X.env.scope scope own = true := by kernel_rfl) (hsl : ∀ i ∈ sl, i ∈ own.map (·.2) := by decide) (hs : ∀ x, foldedSetIterable iter X.env x = pure x := by intro _; rfl) :
    PSv X (.Assign [.Name y py] (.ListComp elt [⟨tg, iter, ifs, 0⟩] scope pos) spos) (wOwn2 i (wLcF (own.map (·.2)) wi wg wt we)) := by
  have mg := (hg X.s_0 X.H_0 0 [] []).mono
  have mt := (ht X.s_0 X.H_0 0 [] []).mono
  have me := (he X.s_0 X.H_0 0 [] []).mono
  exact ⟨(ps_setLc hc hN hi hyl hsw hit.pi (blkOk_by hb) (fun s H C cl fp => (hg s H C cl fp).pg) (fun s H C cl fp => (ht s H C cl fp).pt) (fun s H C cl fp => (he s H C cl fp).pe) hs).imp
    fun D σ H q => lcF_read hit.mono mg mt me hsl (asg_ow2 (monoLcF hit.mono mg mt me) q), monoOwn2 (monoLcF hit.mono mg mt me)⟩
end
/-! ### how they read -/
section
variable {env : En} {Q : D → Prop} {P : Po} {i : Nat}
omit [Tabs] in
@[simp] theorem s_wOx {w : WE} : wOx i w env Q = match env.at i with
  | .ow2 dss => w env fun ix => match ix with
    | .int k => match atI dss k with
      | some ds => Q (.list ds)
      | none => False
    | _ => False
  | _ => False := id rfl
omit [Tabs] in
@[simp] theorem s_wSt2 {w1 w2 w : WE} : wSt2 i w1 w2 w env P = ((∃ dss, env.at i = .ow2 dss) ∧ w env fun x => w1 env fun ix => row2 i env ix fun r ds dss => w2 env fun iy => cell2 ds iy fun c => P.nx (env.set i (.ow2 (dss.set r (ds.set c x))))) := id rfl
omit [Tabs] in
@[simp] theorem s_wOwn2 {w : W2} : wOwn2 i w env P = w env fun dss => P.nx (env.set i (.ow2 dss)) := id rfl
omit [Tabs] in
@[simp] theorem s_wLcF {vs : List Nat} {wi : WI} {wg : WG} {wt : WT} {we : WE} {QQ : List (List D) → Prop} : wLcF vs wi wg wt we env QQ = wi env fun ds => lcG2 wg wt we (wipeE env vs) ds [] QQ := id rfl
end
omit [Tabs] in
theorem lcG2_enc {α : Type} (en : α → D) {wg : WG} {wt : WT} {we : WE} {env : En} (p : α → Bool) (f : α → List D) {xs : List α} {acc : List (List D)} {K : List (List D) → Prop}
    (hs : ∀ x ∈ xs, ∀ (Y : D → Prop) (N : Prop), (if p x = true then Y (.list (f x)) else N) → wg (en x) env fun env' => wt env' fun b => if b = true then we env' Y else N) (hl : acc.length + xs.length ≤ sizeLine)
    (h : K (acc ++ (xs.filter p).map f)) : lcG2 wg wt we env (xs.map en) acc K := by
  induction xs generalizing acc with
  | nil => simpa [lcG2] using h
  | cons x r ih =>
    have hl' : acc.length + (r.length + 1) ≤ sizeLine := by simpa using hl
    rw [List.map_cons]
    refine hs x List.mem_cons_self _ _ ?_
    by_cases e : p x = true
    · rw [if_pos e]
      rw [List.filter_cons_of_pos e, List.map_cons] at h
      refine ⟨by omega, ih (acc := acc ++ [f x]) (fun y hy => hs y (List.mem_cons_of_mem _ hy)) (by rw [List.length_append, List.length_singleton]; omega) (by rw [List.append_assoc]; exact h)⟩
    · rw [if_neg e]
      rw [List.filter_cons_of_neg e] at h
      exact ih (fun y hy => hs y (List.mem_cons_of_mem _ hy)) (by omega) h
end Eg

/-! E19: tables of ints by places. -/
namespace Eg
open PySem PySem.Spec PyProof.Rows L2
variable [Tabs]
def tab2 (n : Nat) (T : Int → Int → Int) : List (List D) := (rng 0 n).map fun i => tabD n (T i)
omit [Tabs] in
@[simp] theorem tab2_length {n : Nat} {T : Int → Int → Int} : (tab2 n T).length = n := by unfold tab2; rw [List.length_map, rng_length]
omit [Tabs] in
theorem tab2_get {n : Nat} {T : Int → Int → Int} {k : Int} (h0 : 0 ≤ k) (h1 : k < n) : (tab2 n T)[k.toNat]? = some (tabD n (T k)) := by
  unfold tab2
  rw [List.getElem?_map, rng_get (by omega)]
  have : (0 : Int) + (k.toNat : Nat) = k := by omega
  rw [this]; rfl
omit [Tabs] in
theorem tab2_at {n : Nat} {T : Int → Int → Int} {k : Int} (h0 : 0 ≤ k) (h1 : k < n) : atI (tab2 n T) k = some (tabD n (T k)) := atI_ok h0 (by simp; omega) (tab2_get h0 h1)
omit [Tabs] in
theorem tab2_set {n : Nat} {T : Int → Int → Int} {k : Int} {g : Int → Int} (h0 : 0 ≤ k) (h1 : k < n) : (tab2 n T).set k.toNat (tabD n g) = tab2 n fun x y => if x = k then g y else T x y := by
  unfold tab2
  refine List.ext_getElem? fun i => ?_
  rw [List.getElem?_set]
  simp only [List.getElem?_map, List.length_map, rng_length]
  by_cases hi : i < n
  · rw [rng_get hi]
    by_cases hk : k.toNat = i
    · rw [if_pos hk, if_pos (by omega)]
      have : (0 : Int) + i = k := by omega
      simp only [Option.map_some, this, if_true]
    · rw [if_neg hk]
      have : ¬ (0 : Int) + i = k := by omega
      simp only [Option.map_some, this, if_false]
  · have : (rng 0 n)[i]? = none := List.getElem?_eq_none (by rw [rng_length]; omega)
    rw [this]
    have hk : ¬ k.toNat = i := by omega
    rw [if_neg hk]; rfl
omit [Tabs] in
theorem tab2_congr {n : Nat} {T T' : Int → Int → Int} (h : ∀ x y : Int, 0 ≤ x → x < n → 0 ≤ y → y < n → T x y = T' x y) : tab2 n T = tab2 n T' := by
  unfold tab2
  refine List.map_congr_left fun x hx => ?_
  have := mem_rng.mp hx
  exact tabD_congr fun y y0 y1 => h x y this.1 (by omega) y0 y1
omit [Tabs] in
/-- a cell stored -/
theorem cell_ok {i n : Nat} {env : En} {T : Int → Int → Int} {k l v : Int} {K : En → Prop} (he : env.at i = .ow2 (tab2 n T)) (k0 : 0 ≤ k) (k1 : k < n) (l0 : 0 ≤ l) (l1 : l < n)
    (h : K (env.set i (.ow2 (tab2 n fun x y => if x = k ∧ y = l then v else T x y)))) : row2 i env (.int k) fun r ds dss => cell2 ds (.int l) fun c => K (env.set i (.ow2 (dss.set r (ds.set c (.int v))))) := by
  refine row2_i he (ixN_ok k0 (by simp; omega)) (tab2_get k0 k1) (cell2_i (ixN_ok l0 (by simp; omega)) ?_)
  rw [tabD_set l0 l1, tab2_set k0 k1]
  have e : tab2 n (fun x y => if x = k then if y = l then v else T k y else T x y) = tab2 n fun x y => if x = k ∧ y = l then v else T x y := tab2_congr fun x y _ _ _ _ => by
    by_cases hx : x = k
    · subst hx; simp
    · simp [hx]
  rw [e]; exact h
/-- as data -/
def Tb2 (n : Nat) (T : Int → Int → Int) : D := .list ((tab2 n T).map .list)
omit [Tabs] in
/-- which items stay is not known, but that each has a property -/
theorem lcGo_some {α : Type} (en : α → D) {wg : WG} {wt : WT} {we : WE} {env : En} (f : α → D) (p : α → Prop) : ∀ (xs : List α) (acc : List D) (K : List D → Prop),
    (∀ x ∈ xs, ∀ (Y : D → Prop) (N : Prop), (p x → Y (f x)) → N → wg (en x) env fun env' => wt env' fun b => if b = true then we env' Y else N) → acc.length + xs.length ≤ sizeLine →
    (∀ ys : List α, ys.Sublist xs → (∀ y ∈ ys, p y) → K (acc ++ ys.map f)) → lcGo wg wt we env (xs.map en) acc K
  | [], acc, K, _, _, h => by
    have := h [] (List.Sublist.refl _) (by simp)
    simpa [lcGo] using this
  | x :: r, acc, K, hs, hl, h => by
    have hl' : acc.length + (r.length + 1) ≤ sizeLine := by simpa using hl
    rw [List.map_cons]
    refine hs x List.mem_cons_self _ _ (fun hp => ⟨by omega, ?_⟩) ?_
    · refine lcGo_some en f p r (acc ++ [f x]) K (fun y hy => hs y (List.mem_cons_of_mem _ hy)) (by rw [List.length_append, List.length_singleton]; omega) fun ys hy hq => ?_
      have := h (x :: ys) (hy.cons_cons x) (by
        intro z hz
        rcases List.mem_cons.mp hz with rfl | hz
        · exact hp
        · exact hq z hz)
      simpa using this
    · exact lcGo_some en f p r acc K (fun y hy => hs y (List.mem_cons_of_mem _ hy)) (by omega) fun ys hy hq => h ys (hy.cons x) hq
omit [Tabs] in
/-- values drawn, by the items -/
theorem lcGo_fun (en : Int → D) {wg : WG} {wt : WT} {we : WE} {env : En} (R : Int → Int → Prop) : ∀ (xs : List Int) (acc : List D) (K : List D → Prop), xs.Nodup →
    (∀ x ∈ xs, ∀ (Y : D → Prop) (N : Prop), (∀ v, R x v → Y (.int v)) → wg (en x) env fun env' => wt env' fun b => if b = true then we env' Y else N) → acc.length + xs.length ≤ sizeLine →
    (∀ o : Int → Int, (∀ x ∈ xs, R x (o x)) → K (acc ++ xs.map fun x => .int (o x))) → lcGo wg wt we env (xs.map en) acc K
  | [], acc, K, _, _, _, h => by
    have := h (fun _ => 0) (by simp)
    simpa [lcGo] using this
  | x :: r, acc, K, nd, hs, hl, h => by
    have hl' : acc.length + (r.length + 1) ≤ sizeLine := by simpa using hl
    have nd' := List.pairwise_cons.mp nd
    rw [List.map_cons]
    refine hs x List.mem_cons_self _ _ fun v hv => ⟨by omega, ?_⟩
    refine lcGo_fun en R r (acc ++ [.int v]) K nd'.2 (fun y hy => hs y (List.mem_cons_of_mem _ hy)) (by rw [List.length_append, List.length_singleton]; omega) fun o ho => ?_
    have := h (fun y => if y = x then v else o y) (by
      intro y hy
      by_cases e : y = x
      · subst e; simpa using hv
      · rcases List.mem_cons.mp hy with hy | hy
        · exact absurd hy e
        · simpa [e] using ho y hy)
    have e : r.map (fun y => PyData.int (if y = x then v else o y)) = r.map fun y => .int (o y) := List.map_congr_left fun y hy => by
      have : ¬ y = x := fun z => nd'.1 y hy z.symm
      rw [if_neg this]
    rw [List.map_cons, e, if_pos rfl] at this
    simpa using this
end Eg

/-! E20: quiet expressions of a generator's own frame; any, all of a generator expression. -/
namespace Eg
open PySem PySem.Spec PyProof.Rows L2

/-- a generator's frame: the names ns stand for the data ρ -/
structure QX (P : Program) (w : World) (mg : Str → Option Value) (T : Nat → V) (H : Hp) (S : Addr → Prop) (scope : Scope) (ns : List Str) (ρ : List D) (cenv : Env) (s : Shared) : Prop where
  sc : cenv.scope = scope
  gl : cenv.globals = mainGlobals ∧ cenv.builtins = builtinsNs
  ng : s.heap.Ns mainGlobals mg
  nb : ∃ mb, s.heap.Ns builtinsNs mb ∧ ∀ x : Str, x ≠ "__name__" → mb x = bootBuiltins x
  ok : HOk P w H s.heap
  get : ∀ (i : Nat) (y : Str) (d : D), ns[i]? = some y → ρ[i]? = some d → ∃ (u : Value) (v : V), RelV v u ∧ Rp T H S v d ∧
    ((scope.names.lookup y = some .local ∧ ∃ m, s.heap.Ns cenv.locals m ∧ m y = some u) ∨ (scope.names.lookup y = some .free ∧ ∃ c, cenv.cells.lookup y = some c ∧ s.heap.IsCell c (some u)))
section
variable {P : Program} {w : World} {mg : Str → Option Value} {T : Nat → V} {H : Hp} {S : Addr → Prop} {scope : Scope} {ns : List Str} {ρ : List D} {cenv : Env} {s s' : Shared}
theorem QX.keeps (x : QX P w mg T H S scope ns ρ cenv s) (k : Keeps s s') : QX P w mg T H S scope ns ρ cenv s' := by
  obtain ⟨h', tk, rfl, k⟩ := k
  refine ⟨x.sc, x.gl, x.ng.keeps k, (let ⟨mb, h1, h2⟩ := x.nb; ⟨mb, h1.keeps k, h2⟩), x.ok.kept k, fun i y d h1 h2 => ?_⟩
  obtain ⟨u, v, r, r2, h⟩ := x.get i y d h1 h2
  refine ⟨u, v, r, r2, h.imp (fun ⟨a, m, b, c⟩ => ⟨a, m, b.keeps k, c⟩) fun ⟨a, c, b, e⟩ => ⟨a, c, b, e.keeps k⟩⟩
end
abbrev QF := List D → Option D
/-- where a quiet expression may be evaluated -/
structure QA (A : Around) : Prop where
  hd : A.handled = none
  un : A.units + 100 < cLine
structure QE (mg : Str → Option Value) (scope : Scope) (ns : List Str) (e : Expr) (f : QF) : Prop where
  run : ∀ (P : Program) (w : World) (T : Nat → V) (H : Hp) (S : Addr → Prop) (ρ : List D) (cenv : Env) (s : Shared) (A : Around) (E : Value → Shared → Prop) (Q : Value → Shared → Prop) (d : D),
    QA A → QX P w mg T H S scope ns ρ cenv s → f ρ = some d → (∀ (v : V) (u : Value) (s' : Shared), Keeps s s' → RelV v u → Rp T H S v d → Q u s') → wpAny (model P w) A (eval e cenv) Q E s
theorem keeps_trans {s s1 s2 : Shared} (a : Keeps s s1) (b : Keeps s1 s2) : Keeps s s2 := by
  obtain ⟨h1, k1, rfl, kp⟩ := a
  obtain ⟨h2, k2, rfl, kp2⟩ := b
  exact ⟨h2, k2, rfl, fun c o e => kp2 c o (kp c o e)⟩
section
variable {mg : Str → Option Value} {scope : Scope} {ns : List Str} {a b c : Expr} {f g h : QF} {pos : Pos}
theorem q_nm (i : Nat) {y : Str} (hn : ns[i]? = some y := by rfl) (hk : scope.kind = .function := by rfl) (hd : (y == ("__debug__" : Str)) = false := by decide) (hcd : (y == ("__classdict__" : Str)) = false := by decide) :
    QE mg scope ns (.Name y pos) fun ρ => ρ[i]? := by
  refine ⟨fun P w T H S ρ cenv s A E Q d hA x e k => ?_⟩
  obtain ⟨u, v, r, r2, l⟩ := x.get i y d hn e
  have fin : Q u s := k v u s (GxR.keeps_refl s) r r2
  have hk' : cenv.scope.kind = .function := by rw [x.sc]; exact hk
  rcases l with ⟨h1, m, h2, h3⟩ | ⟨h1, c, h2, h3⟩
  · exact wpAny_Name (wpAny_loadName_local hk' (show cenv.scope.names.lookup y = some .local by rw [x.sc]; exact h1) h2 h3 fin) hd
  · exact wpAny_Name (wpAny_loadName_free hk' (show cenv.scope.names.lookup y = some .free by rw [x.sc]; exact h1) h2 h3 fin hcd) hd
theorem q_int {i : Int} {j : Nat} : QE mg scope ns (.Constant (.int i) j pos) fun _ => some (.int i) :=
  ⟨fun P w T H S ρ cenv s A E Q d hA x e k => by
    cases e
    exact wpAny_Constant_int (k (.int i) _ _ (GxR.keeps_tok s _) ⟨_, rfl⟩ (.int i))⟩
/-- two ints to a flat value -/
def qI (F : Int → Int → Option D) (f g : QF) : QF := fun ρ => match f ρ, g ρ with
  | some (.int i), some (.int j) => F i j
  | _, _ => none
theorem qI_some {F : Int → Int → Option D} {f g : QF} {ρ : List D} {d : D} (e : qI F f g ρ = some d) : ∃ i j, f ρ = some (.int i) ∧ g ρ = some (.int j) ∧ F i j = some d := by
  unfold qI at e
  split at e
  · rename_i i j h1 h2
    exact ⟨i, j, h1, h2, e⟩
  · cases e
/-- the operation on two ints -/
def OpI (o : Value → Value → Sem Value) (F : Int → Int → Option D) : Prop := ∀ (P : Program) (w : World) (A : Around) (E : Value → Shared → Prop) (Q : Value → Shared → Prop) (s : Shared) (i j : Int) (t u : Tok) (d : D), F i j = some d →
  (∀ (T : Nat → V) (H : Hp) (S : Addr → Prop), True) → (∀ (v : V) (x : Value) (s' : Shared), Keeps s s' → RelV v x → (∀ T H S, Rp T H S v d) → Q x s') → wpAny (model P w) A (o (.int i t) (.int j u)) Q E s
theorem rel_int {v : V} {u : Value} {T : Nat → V} {H : Hp} {S : Addr → Prop} {i : Int} (r : RelV v u) (r2 : Rp T H S v (.int i)) : ∃ t, u = .int i t := by
  cases r2
  exact r
theorem q_cmp {op : CmpOp} {F : Int → Int → Option D} (ho : OpI (compareOp op) F) (ha : QE mg scope ns a f) (hb : QE mg scope ns b g) (hm : behindInMarks op b = false := by exact nomark _) : QE mg scope ns (.Compare a [op] [b] pos) (qI F f g) := by
  refine ⟨fun P w T H S ρ cenv s A E Q d hA x e k => ?_⟩
  obtain ⟨i, j, h1, h2, h3⟩ := qI_some e
  refine wpAny_Compare1 (ha.run P w T H S ρ cenv s A E _ _ hA x h1 fun v u s1 k1 r1 t1 => hb.run P w T H S ρ cenv s1 A E _ _ hA (x.keeps k1) h2 fun v2 u2 s2 k2 r2 t2 => ?_) hm
  obtain ⟨_, rfl⟩ := rel_int r1 t1
  obtain ⟨_, rfl⟩ := rel_int r2 t2
  exact ho P w A E Q s2 i j _ _ d h3 (fun _ _ _ => trivial) fun v y s3 k3 r3 t3 => k v y s3 (keeps_trans k1 (keeps_trans k2 k3)) r3 (t3 T H S)
theorem q_bin {op : Operator} {F : Int → Int → Option D} (ho : OpI (binaryOp op) F) (ha : QE mg scope ns a f) (hb : QE mg scope ns b g) : QE mg scope ns (.BinOp a op b pos) (qI F f g) := by
  refine ⟨fun P w T H S ρ cenv s A E Q d hA x e k => ?_⟩
  obtain ⟨i, j, h1, h2, h3⟩ := qI_some e
  refine wpAny_BinOp (ha.run P w T H S ρ cenv s A E _ _ hA x h1 fun v u s1 k1 r1 t1 => hb.run P w T H S ρ cenv s1 A E _ _ hA (x.keeps k1) h2 fun v2 u2 s2 k2 r2 t2 => ?_)
  obtain ⟨_, rfl⟩ := rel_int r1 t1
  obtain ⟨_, rfl⟩ := rel_int r2 t2
  exact ho P w A E Q s2 i j _ _ d h3 (fun _ _ _ => trivial) fun v y s3 k3 r3 t3 => k v y s3 (keeps_trans k1 (keeps_trans k2 k3)) r3 (t3 T H S)
theorem opi_lt : OpI (compareOp .Lt) fun i j => some (.bool (decide (i < j))) := fun P w A E Q s i j t u d h _ k => by
  cases h
  exact lt_int (k (.bl _) _ s (GxR.keeps_refl s) rfl fun _ _ _ => .bl _)
theorem opi_le : OpI (compareOp .LtE) fun i j => some (.bool (decide (i ≤ j))) := fun P w A E Q s i j t u d h _ k => by
  cases h
  exact PySem.P.le_int (k (.bl _) _ s (GxR.keeps_refl s) rfl fun _ _ _ => .bl _)
theorem opi_gt : OpI (compareOp .Gt) fun i j => some (.bool (decide (j < i))) := fun P w A E Q s i j t u d h _ k => by
  cases h
  exact gt_int (k (.bl _) _ s (GxR.keeps_refl s) rfl fun _ _ _ => .bl _)
theorem opi_ge : OpI (compareOp .GtE) fun i j => some (.bool (decide (j ≤ i))) := fun P w A E Q s i j t u d h _ k => by
  cases h
  exact PySem.P.ge_int (k (.bl _) _ s (GxR.keeps_refl s) rfl fun _ _ _ => .bl _)
theorem opi_eq : OpI (compareOp .Eq) fun i j => some (.bool (i == j)) := fun P w A E Q s i j t u d h _ k => by
  cases h
  exact eq_int (k (.bl _) _ s (GxR.keeps_refl s) rfl fun _ _ _ => .bl _)
theorem opi_ne : OpI (compareOp .NotEq) fun i j => some (.bool (i != j)) := fun P w A E Q s i j t u d h _ k => by
  cases h
  exact ne_int (k (.bl _) _ s (GxR.keeps_refl s) rfl fun _ _ _ => .bl _)
theorem opi_sub : OpI (binaryOp .Sub) fun i j => some (.int (i - j)) := fun P w A E Q s i j t u d h _ k => by
  cases h
  exact sub_int (k (.int _) _ _ (GxR.keeps_tok s _) ⟨_, rfl⟩ fun _ _ _ => .int _)
theorem opi_add : OpI (binaryOp .Add) fun i j => some (.int (i + j)) := fun P w A E Q s i j t u d h _ k => by
  cases h
  exact add_int (k (.int _) _ _ (GxR.keeps_tok s _) ⟨_, rfl⟩ fun _ _ _ => .int _)
theorem opi_mod : OpI (binaryOp .Mod) fun i j => if j = 0 then none else some (.int (i.fmod j)) := fun P w A E Q s i j t u d h _ k => by
  replace h : (if j = 0 then none else some (PyData.int (i.fmod j))) = some d := h
  split at h
  · cases h
  · rename_i hj
    cases h
    exact mod_int' hj (k (.int _) _ _ (GxR.keeps_tok s _) ⟨_, rfl⟩ fun _ _ _ => .int _)
end
end Eg

/-! E21: any, all of a generator expression over a list or a tuple. -/
namespace Eg
open PySem PySem.Spec PyProof.Rows L2
variable [Tabs]
/-- the scope of a generator -/
structure GenZ (env : Env) (scope : Scope) (x : Str) : Prop where
  kind : scope.kind = .function
  co : scope.isCoroutine = false
  cell : ∀ y ∈ scope.names, y.2 ≠ .cell
  dot : scope.names.lookup (".0" : Str) = some NameKind.local
  loc : scope.names.lookup x = some .local
  free : ∀ y ∈ scope.names, y.2 = .free → env.scope.names.lookup y.1 = some .cell ∨ env.scope.names.lookup y.1 = some .free
/-- captured names (with their slots) -/
structure Caps (X : Cx) (scope : Scope) (caps : List (Str × Nat)) : Prop where
  at_ : ∀ p ∈ caps, X.N[p.2]? = some p.1 ∧ (X.env.scope.names.lookup p.1 = some .cell ∨ X.env.scope.names.lookup p.1 = some .free) ∧ (p.1, NameKind.free) ∈ scope.names ∧ scope.names.lookup p.1 = some .free
omit [Tabs] in
theorem mem_lookup_nodup {α : Type} {l : List (Str × α)} {n : Str} {a : α} (h : (n, a) ∈ l) (u : ∀ b, (n, b) ∈ l → b = a) : l.lookup n = some a := by
  induction l with
  | nil => cases h
  | cons p l ih =>
    obtain ⟨m, b⟩ := p
    by_cases e : n = m
    · subst e
      rw [List.lookup_cons, beq_self_eq_true]
      exact congrArg some (u b List.mem_cons_self)
    · rw [List.lookup_cons, show (n == m) = false from by simpa using e]
      rcases List.mem_cons.mp h with z | z
      · exact absurd (congrArg Prod.fst z) e
      · exact ih z fun b hb => u b (List.mem_cons_of_mem _ hb)
omit [Tabs] in
theorem clo_at {cells : List (Str × Addr)} {names : List (Str × NameKind)} {y : Str} {c : Addr} (h : (y, NameKind.free) ∈ names) (hc : cells.lookup y = some c) : (cloFrom cells names []).lookup y = some c := by
  refine mem_lookup_nodup ?_ ?_
  · have := cloFrom_has (cells := cells) (acc := []) h
    rw [hc] at this
    exact this
  · intro b hb
    rcases cloFrom_mem hb with z | ⟨_, e⟩
    · cases z
    · rw [e, hc]; rfl

section
variable {X : Cx} {pins : List (Addr × Obj)} {σ : L2.St} {H : Hp} {s : Shared}
/-- the generator g ready to be walked -/
def Rdy (X : Cx) (pins : List (Addr × Obj)) (σ : L2.St) (H1 : Hp) (P : Addr) (n : Nat) (bs : Nat → Bool) (g : Addr) (s5 : Shared) : Prop :=
  ∃ (fp wr : List Addr) (G : Array GenState → Array GenState → Prop) (F : Nat → Value → Prop) (St : Nat → Shared → Prop),
    WalksS X.prog X.w X.A.in1 g fp wr G n F St ∧ St 0 s5 ∧ TruthOf X.prog X.w X.A.in1 F bs ∧ ∀ s', Moved wr G s5 s' → ∃ H2, GxR.Tabbed P H1 H2 ∧ Inv X pins σ H2 s'
/-- what is walked: the data dd, n of them; f tells bs of them -/
structure SrcAt (X : Cx) (T : Nat → V) (H1 : Hp) (Sx : Addr → Prop) (P : Addr) (n : Nat) (dd : Nat → D) (s1 : Shared) (it : Value) (s2 : Shared) : Prop where
  ex : ∃ (Ia : Addr) (fp wr : List Addr) (Pf : Nat → Value → Prop) (St₀ : Nat → Heap → Prop), it = .ref Ia ∧ (∃ h tk, s2 = { s1 with heap := h, toks := tk } ∧ s1.heap.objs.size ≤ h.objs.size ∧ (∀ b o, s1.heap.get? b = some o → h.get? b = some o) ∧ (s1.heap.NoLimit → h.NoLimit)) ∧
    (∀ A' : Around, A'.handled = none → Walks X.prog X.w A' Ia fp wr n Pf St₀) ∧ St₀ 0 s2.heap ∧ (∀ b ∈ fp, b < s2.heap.objs.size ∧ b ≠ P) ∧ (∀ b ∈ wr, s1.heap.objs.size ≤ b) ∧ ∀ i v, Pf i v → ∃ y, i < n ∧ RelV y v ∧ Rp T H1 Sx y (dd i)
omit [Tabs] in
theorem gen_core {c P : Addr} {elt iter : Expr} {x : Str} {px gpos : Pos} {scope : Scope} {caps : List (Str × Nat)} {f : QF} {k : Nat} {Q' : Value → Shared → Prop}
    (hr : Room k X.A) (TB : GxR.TabB X.base X.mg c P) (hcode : X.env.code = .ref c) (S : GenZ X.env scope x) (hfree : ∀ y ∈ scope.names, y.2 = .free → ∃ c, X.env.cells.lookup y.1 = some c) (C : Caps X scope caps) (hq : QE X.mg scope (x :: caps.map (·.1)) elt f)
    (hs : ∀ v, genFold iter X.env v = pure v)
    (hit : wpAny (model X.prog X.w) X.A (eval iter X.env) (fun xv s1 => ∃ (H1 : Hp) (T : Nat → V) (Sx : Addr → Prop) (n : Nat) (dd : Nat → D) (cs : List D) (bs : Nat → Bool), Inv X pins σ H1 s1 ∧ GxR.TabG H1 P ∧ Sx P ∧ cs.length = caps.length ∧
      (∀ (j : Nat) (p : Str × Nat) (d : D), caps[j]? = some p → cs[j]? = some d → ∃ v, σ[p.2]? = some (some v) ∧ Rp T H1 Sx v d) ∧ (∀ i, i < n → f (dd i :: cs) = some (.bool (bs i))) ∧
      wpAny (model X.prog X.w) X.A (pyIter xv) (SrcAt X T H1 Sx P n dd s1) X.xe s1 ∧ ∀ g s5, Rdy X pins σ H1 P n bs g s5 → Q' (.ref g) s5) X.xe s) :
    wpAny (model X.prog X.w) X.A (eval (.GeneratorExp elt [⟨.Name x px, iter, [], 0⟩] scope gpos) X.env) Q' X.xe s := by
  refine wpAny_GeneratorExp_walksQD hr.hd S.co (closure_ok hfree) S.cell S.dot S.loc S.kind (by have := hr.dp; omega) ?_ hs
  refine thn hit fun xv s1 ⟨H1, T, Sx, n, dd, cs, bs, I1, ⟨ps, hP, ht⟩, hSP, hcl, hcap, hf, hpi, hQ⟩ => ?_
  refine wpAny_mono hpi (fun it s2 ⟨Ia, fp, wr, Pf, St₀, eit, ⟨h2, tk2, es2, hsz2, hk2, hnl2⟩, W, hst, hfp, hwr, hPf⟩ => ?_) fun _ _ e => e
  subst es2
  have hPs : s1.heap.get? P = some { cls := .none, data := .fields ps } := I1.hok P _ hP
  have hPlt : P < s1.heap.objs.size := Heap.lt_size hPs
  have hP2 : h2.get? P = some { cls := .none, data := .fields ps } := hk2 _ _ hPs
  have cd : PySem.W.CodeHd h2 c P := TB.code.keeps fun b u e => hk2 b u (I1.bk b u e)
  have lim2 : h2.NoLimit := hnl2 I1.nolimit
  have cont : ∀ (code : Value) (h3 : Heap) (tk : Nat) (ps' : Array Value), Heap.ExtBut P h2 h3 → h2.objs.size ≤ h3.objs.size → h3.get? P = some { cls := .none, data := .fields ps' } → (∃ more, ps' = ps ++ more) → TriplesOk ps'.toList →
      wpAny (model X.prog X.w) X.A (builtinsFor X.env.globals X.env.builtins) (fun bi s₄ =>
        ∃ Ia fp wr n₀ Pf St₀ pz F, it = .ref Ia ∧ (∀ A' : Around, A'.handled = none → Walks X.prog X.w A' Ia fp wr n₀ Pf St₀) ∧ St₀ 0 s₄.heap ∧ (∀ b ∈ fp, b < s₄.heap.objs.size) ∧ s₄.heap.NoLimit ∧ cStatics ∉ wr ∧
          (∀ href : Heap, (∀ b o, s₄.heap.get? b = some o → href.get? b = some o) →
            QuietGenD X.prog X.w (genEnv scope (cloFrom X.env.cells scope.names []) s₄.heap.objs.size code bi X.env) x [] elt (List.range s₄.heap.objs.size) wr Pf pz F href (X.A.depth + 1) (X.A.units + 8)) ∧
          (∀ a h₅ tk gs, gs.bare = true → s₄.heap.objs.size < a → h₅.objs.size = a + 1 → (∀ b o, s₄.heap.get? b = some o → h₅.get? b = some o) →
            WalksS X.prog X.w X.A.in4 a (a :: s₄.heap.objs.size :: List.range s₄.heap.objs.size) (s₄.heap.objs.size :: wr) (GenOnlyQ s₄.gens.size) (passing pz n₀ 0).length
              (fun j y => ∃ i, (passing pz n₀ 0)[j]? = some i ∧ F i y) (GenAt X.prog X.w X.A.in4 a s₄.gens.size s₄.heap.objs.size (List.range s₄.heap.objs.size) wr pz n₀ F) →
            GenAt X.prog X.w X.A.in4 a s₄.gens.size s₄.heap.objs.size (List.range s₄.heap.objs.size) wr pz n₀ F 0 { s₄ with gens := s₄.gens.push gs, toks := tk, heap := h₅ } →
            Q' (.ref a) { s₄ with gens := s₄.gens.push gs, toks := tk, heap := h₅ })) X.xe { s1 with heap := h3, toks := tk } := by
    intro code h3 tk ps' hx hsz hP3 hmore ht3
    obtain ⟨bm, ob, e1, e2, e3, e4, e5, e6, e7, e8⟩ := TB.bm
    have hcP : cStatics ≠ P := fun e => by
      obtain ⟨_, hns, _⟩ := I1.nolimit
      obtain ⟨o', es, ep, ho, hd, _⟩ := hns
      rw [e, hPs] at ho
      cases ho
      cases hd
    have hcl1 : ∃ o, s1.heap.get? cStatics = some o := by
      obtain ⟨_, hns, _⟩ := I1.nolimit
      obtain ⟨o', es, ep, ho, hd, _⟩ := hns
      exact ⟨o', ho⟩
    have keep3 : ∀ b u, b ≠ P → s1.heap.get? b = some u → h3.get? b = some u := fun b u hb e => hx b u hb (hk2 _ _ e)
    have wr1 : ∀ b u, s1.heap.get? b = some u → b ∉ wr := fun b u e hb => Nat.lt_irrefl _ (Nat.lt_of_lt_of_le (Heap.lt_size e) (hwr b hb))
    refine wpAny_builtinsFor (m := X.mg) (by rw [I1.ok.glob]; exact ((I1.mod.glob.keeps I1.bk).keeps hk2).extBut hx TB.gP) e1 e2 (keep3 _ _ e4 (I1.bk _ _ e5)) e6 e7 e8 ?_
    -- the table has grown
    obtain ⟨more, em⟩ := hmore
    have J0 := GxR.inv_tab (more := more) (h' := h3) (g' := s1.gens) (d' := s1.drawn) (t' := tk) I1 hP (fun b u hb e => keep3 b u hb e) (by rw [← em]; exact hP3) I1.bare
    have hok2 : HOk X.prog X.w (upd H1 P (.tbl (ps ++ more))) h3 := J0.hok
    have mv : ∀ (v : V) (d : D), Rp T H1 Sx v d → Rp T (upd H1 P (.tbl (ps ++ more))) Sx v d := fun v d r => r.move (d := d) fun a o e n' => ⟨by rw [upd_ne fun z => n' (by rw [z]; exact hSP)]; exact e, n'⟩
    obtain ⟨m1, hn1, hl1⟩ := J0.loc
    refine ⟨Ia, fp, wr, n, Pf, St₀, (fun _ => true), (fun i y => i < n ∧ y = .bool (bs i)), eit, W, (W X.A hr.hd).frame _ _ _ hst fun b hb o e => hx b o (hfp b hb).2 e, fun b hb => Nat.lt_of_lt_of_le (hfp b hb).1 hsz, lim2.extBut hx hcP, (fun hb => by obtain ⟨o, e⟩ := hcl1; exact wr1 _ _ e hb), ?_, ?_⟩
    · intro href hhref
      refine ⟨fun A' E' i v s₂ m₂ hA hD hU hPv hn hm hk => ?_, fun A' E' i v s₂ m₂ hA hD hU hPv hp hn hm hk => ?_⟩
      · simp only [List.forIn_nil]
        exact wpAny_pure ⟨rfl, GxR.keeps_refl _⟩
      · obtain ⟨y, hin, ry, ty⟩ := hPf i v hPv
        have kpt : ∀ b, b < s1.heap.objs.size → ∀ u', h3.get? b = some u' → s₂.heap.get? b = some u' := fun b e u' e' => hk b (List.mem_range.mpr (Nat.lt_of_lt_of_le (Heap.lt_size e') (Nat.le_refl _))) (fun hb => Nat.lt_irrefl _ (Nat.lt_of_lt_of_le e (hwr b hb))) u' (hhref b u' e')
        have hokS : HOk X.prog X.w (upd H1 P (.tbl (ps ++ more))) s₂.heap := fun a o e => by
          have key : ∀ d v, (upd H1 P (.tbl (ps ++ more))) d ≠ none → h3.get? d = some v → s₂.heap.get? d = some v := fun d v hd q => by
            have a2 : d < s1.heap.objs.size := by
              by_cases z : d = P
              · rw [z]; exact hPlt
              · rw [upd_ne z] at hd
                cases q' : H1 d with
                | none => exact absurd q' hd
                | some o' => exact I1.hok.lt q'
            exact kpt d a2 v q
          refine (hok2 a o e).stay (fun d v hd q => key d v ?_ q) (fun _ q => q) fun _ _ q => q
          rcases hd with z | z
          · rw [z, e]; simp
          · rw [z]; simp
        have QXs : QX X.prog X.w X.mg T (upd H1 P (.tbl (ps ++ more))) Sx scope (x :: caps.map (·.1)) (dd i :: cs) (genEnv scope (cloFrom X.env.cells scope.names []) h3.objs.size code builtinsNs X.env) s₂ := by
          refine ⟨rfl, ⟨I1.ok.glob, rfl⟩, ?_, ?_, hokS, fun j y' d h4 h5 => ?_⟩
          · exact (I1.mod.glob.keeps I1.bk).at' fun o e => kpt _ (Heap.lt_size e) o (keep3 _ _ TB.gP e)
          · obtain ⟨mb, g1, g2⟩ := I1.mod.blt
            refine ⟨mb, (g1.keeps I1.bk).at' fun o e => kpt _ (Heap.lt_size e) o (keep3 _ _ (fun z => ?_) e), g2⟩
            rw [z, hPs] at e
            obtain ⟨o', es, ep, ho, hd, _⟩ := g1
            have e7 := I1.bk _ _ ho
            rw [z, hPs] at e7
            cases e7
            cases hd
          cases j with
          | zero =>
            have e4 : x = y' := Option.some.inj h4
            have e5 : dd i = d := Option.some.inj h5
            subst e4 e5
            exact ⟨v, y, ry, mv _ _ ty, .inl ⟨S.loc, m₂, hn, hm⟩⟩
          | succ j =>
            have h4' : (caps.map (·.1))[j]? = some y' := h4
            have h5' : cs[j]? = some d := h5
            rw [List.getElem?_map] at h4'
            cases hp : caps[j]? with
            | none => rw [hp] at h4'; cases h4'
            | some p =>
              rw [hp] at h4'
              have e6 : p.1 = y' := Option.some.inj h4'
              subst e6
              obtain ⟨v', hv', tv'⟩ := hcap j p d hp h5'
              obtain ⟨c1, c2, c3, c4⟩ := C.at_ p (List.mem_of_getElem? hp)
              obtain ⟨u, ru, lk⟩ := hl1 p.2 p.1 v' c1 hv' (.inr c2)
              refine ⟨u, v', ru, mv _ _ tv', .inr ⟨c4, ?_⟩⟩
              rcases lk with ⟨z, _⟩ | ⟨_, cc, z1, z2⟩
              · have z' : X.env.scope.names.lookup p.1 = some .local := z
                rcases c2 with c2 | c2 <;> (rw [c2] at z'; cases z')
              · refine ⟨cc, clo_at c3 z1, ?_⟩
                obtain ⟨oc, z3, z4⟩ := z2
                obtain ⟨v0, o0, z5, _⟩ := I1.cell _ _ z1
                exact ⟨oc, kpt cc (Heap.lt_size z5) oc z3, z4⟩
        exact hq.run X.prog X.w T _ Sx (dd i :: cs) _ s₂ A' E' _ _ ⟨hA, by have := hr.un; omega⟩ QXs (hf i hin) fun v3 u3 s3 k3 r3 t3 => by
          cases t3
          cases r3
          exact ⟨⟨hin, rfl⟩, k3⟩
    · intro g h5 tk5 gs hgb hag hsz5 hk5 W5 hat
      simp only [GxR.passing_true, List.length_range] at W5
      refine hQ g _ ⟨_, _, _, _, _, W5.in4_1, hat, ?_, fun s' hm => ?_⟩
      · intro j y sj Qj Ej hy hQj
        obtain ⟨i, hij, hin, rfl⟩ := hy
        obtain ⟨hj, ej⟩ := List.getElem?_eq_some_iff.mp hij
        rw [List.getElem_range] at ej
        subst ej
        exact wpAny_truthy_bool hQj
      · have nwr : ∀ b u, s1.heap.get? b = some u → b ∉ h3.objs.size :: wr := fun b u e hb => by
          have hl := Heap.lt_size e
          rcases List.mem_cons.mp hb with z | z
          · rw [z] at hl
            have h9 : h3.objs.size < s1.heap.objs.size := hl
            omega
          · exact wr1 b u e z
        have J := GxR.inv_tab (more := more) (h' := s'.heap) (g' := s'.gens) (d' := s'.drawn) (t' := s'.toks) I1 hP (fun b u hb e => hm.heap b u (nwr b u e) (hk5 b u (keep3 b u hb e)))
          (by rw [← em]; exact hm.heap P _ (nwr P _ hPs) (hk5 P _ hP3)) (AllBare.movedS (I1.bare.push hgb) hm)
        rw [GxR.sh_eta s1 s' hm.os] at J
        exact ⟨upd H1 P (.tbl (ps ++ more)), ⟨⟨ps ++ more, upd_same, by rw [← em]; exact ht3⟩, fun b hb => upd_ne hb⟩, J⟩
  refine ⟨lim2, ?_⟩
  cases hf : codeAmong gpos ps.toList with
  | none =>
    refine wpAny_genexprCodeX hcode (cd.code hP2 ht) (cd.tab hP2) hf fun c' h' tk hx hge hlt hco' _ htab' _ => ?_
    obtain ⟨o1, vs, f1, tf, fl, tg, inF, tx, tt, op, _, _, _, _, _, _, _, _, _, htr, _⟩ := hco'
    exact cont _ h' tk _ hx (Nat.le_trans hge (Nat.le_of_lt hlt)) htab'.2 ⟨_, rfl⟩ htr
  | some cv =>
    refine wpAny_genexprCode_hit hcode (cd.code hP2 ht) hf ?_
    exact cont cv h2 tk2 ps (Heap.ExtBut.refl _ _) (Nat.le_refl _) hP2 ⟨#[], by simp⟩ ht
end
/-- what is known of the def's code object -/
structure Cd (X : Cx) (c P : Addr) : Prop where
  tb : GxR.TabB X.base X.mg c P
  code : X.env.code = .ref c
  mem : P ∈ Tabs.tb
theorem tabbed_kp {W : Wd} {P : Addr} {H H' : Hp} (j : W.J H) (hP : P ∈ Tabs.tb) (t : GxR.Tabbed P H H') : KpJ W H H' := by
  obtain ⟨⟨ps, h1, h2⟩, h3⟩ := t
  have e : H' = upd H P (.tbl ps) := funext fun b => by
    by_cases z : b = P
    · rw [z, h1, upd_same]
    · rw [upd_ne z]; exact h3 b z
  refine ⟨fun a o ha n => ?_, ?_⟩
  · rw [h3 a (fun z => n (by rw [z]; exact W.tm P hP))]; exact ha
  · rw [e]
    exact (W.tj P hP H j).2 ps h2
/-- any (k), all of the test f over data, behind it the captured ones -/
def wAny (k : Bool) (f : QF) (is : List Nat) (w : WE) : WE := fun env Q => w env fun d => ∃ (ds cs : List D) (bs : List Bool), (d = .list ds ∨ d = .tuple ds) ∧ is.map env.at = cs.map .sh ∧ (ds.map fun d => f (d :: cs)) = bs.map (fun b => some (.bool b)) ∧
  Q (.bool (if k = true then bs.any id else bs.all id))
omit [Tabs] in
theorem monoAny {k : Bool} {f : QF} {is : List Nat} {w : WE} (h : Mono w) : Mono (wAny k f is w) := fun env Q Q' m q => h _ _ _ (fun d ⟨ds, cs, bs, a, b, c, e⟩ => ⟨ds, cs, bs, a, b, c, m _ e⟩) q
section
variable {X : Cx} {pins : List (Addr × Obj)} {σ : L2.St} {H : Hp} {s : Shared}
omit [Tabs] in
theorem any_range (bs : List Bool) : (List.range bs.length).any (fun i => bs.getD i false) = bs.any id := by
  rw [Bool.eq_iff_iff, List.any_eq_true, List.any_eq_true]
  constructor
  · intro ⟨j, hj, h⟩
    have hj' := List.mem_range.mp hj
    refine ⟨bs[j], List.getElem_mem hj', ?_⟩
    rw [List.getD_eq_getElem?_getD, List.getElem?_eq_getElem hj'] at h
    exact h
  · intro ⟨b, hb, h⟩
    obtain ⟨j, hj, e⟩ := List.getElem_of_mem hb
    refine ⟨j, List.mem_range.mpr hj, ?_⟩
    rw [List.getD_eq_getElem?_getD, List.getElem?_eq_getElem hj, e]
    exact h
omit [Tabs] in
theorem all_range (bs : List Bool) : (List.range bs.length).all (fun i => bs.getD i false) = bs.all id := by
  rw [Bool.eq_iff_iff, List.all_eq_true, List.all_eq_true]
  constructor
  · intro h b hb
    obtain ⟨j, hj, e⟩ := List.getElem_of_mem hb
    have := h j (List.mem_range.mpr hj)
    rw [List.getD_eq_getElem?_getD, List.getElem?_eq_getElem hj, e] at this
    exact this
  · intro h j hj
    have hj' := List.mem_range.mp hj
    rw [List.getD_eq_getElem?_getD, List.getElem?_eq_getElem hj']
    exact h _ (List.getElem_mem hj')
/-- the generator made, walked by what follows -/
theorem gen_lt {c P : Addr} {elt iter : Expr} {x : Str} {px gpos : Pos} {scope : Scope} {caps : List (Str × Nat)} {f : QF} {k : Nat} {wi : WE} {Q' : Value → Shared → Prop}
    (hr : Room k X.A) (C : Cd X c P) (S : GenZ X.env scope x) (Ca : Caps X scope caps) (hq : QE X.mg scope (x :: caps.map (·.1)) elt f) (hi : PP X iter wi)
    (hs : ∀ v, genFold iter X.env v = pure v) {W : Wd} {env : En} {Sx : Addr → Prop} (R : RlS W env Sx σ H) (I : Inv X pins σ H s) {Q : D → Prop}
    (h : wi env fun d => ∃ (ds cs : List D) (bs : List Bool), (d = .list ds ∨ d = .tuple ds) ∧ (caps.map (·.2)).map env.at = cs.map .sh ∧ (ds.map fun d => f (d :: cs)) = bs.map (fun b => some (.bool b)) ∧
      ∀ H1 g s5, KpJ W H H1 → Rdy X pins σ H1 P bs.length (fun i => bs.getD i false) g s5 → Q' (.ref g) s5) :
    wpAny (model X.prog X.w) X.A (eval (.GeneratorExp elt [⟨.Name x px, iter, [], 0⟩] scope gpos) X.env) Q' X.xe s := by
  refine gen_core (pins := pins) (σ := σ) hr C.tb C.code S (fun y hy e => I.ok.has _ (S.free y hy e)) Ca hq hs ?_
  refine thn (hi.pe.run pins s σ H (fun v H1 => ∃ (d : D) (ds cs : List D) (bs : List Bool), KpJ W H H1 ∧ Top W H1 Sx v d ∧ (d = .list ds ∨ d = .tuple ds) ∧ (caps.map (·.2)).map env.at = cs.map .sh ∧ (ds.map fun d => f (d :: cs)) = bs.map (fun b => some (.bool b)) ∧
      ∀ H1 g s5, KpJ W H H1 → Rdy X pins σ H1 P bs.length (fun i => bs.getD i false) g s5 → Q' (.ref g) s5) I ⟨W, env, Sx, R, hi.mono _ _ _ (fun d ⟨ds, cs, bs, e1, e2, e3, q⟩ v H1 k t => ⟨d, ds, cs, bs, k, t, e1, e2, e3, q⟩) h⟩) fun xv s1 ⟨v, H1, I1, r1, d, ds, cs, bs, k1, t1, ed, ec, ef, q⟩ => ?_
  have R1 := R.kept k1
  have fl : bs.length = ds.length := by
    have := congrArg List.length ef
    simpa using this.symm
  have fi : ∀ i, i < bs.length → f (ds.getD i .none :: cs) = some (.bool (bs.getD i false)) := fun i hi => by
    have := congrArg (fun l => l[i]?) ef
    simp only [List.getElem?_map] at this
    rw [List.getElem?_eq_getElem (by omega), List.getElem?_eq_getElem hi] at this
    rw [List.getD_eq_getElem?_getD, List.getElem?_eq_getElem (by omega), List.getD_eq_getElem?_getD, List.getElem?_eq_getElem hi]
    exact Option.some.inj this
  have cl : cs.length = caps.length := by
    have := congrArg List.length ec
    simpa using this.symm
  have hcap : ∀ (j : Nat) (p : Str × Nat) (d : D), caps[j]? = some p → cs[j]? = some d → ∃ v, σ[p.2]? = some (some v) ∧ Rp W.T H1 Sx v d := fun j p d h1 h2 => by
    have := congrArg (fun l => l[j]?) ec
    simp only [List.getElem?_map, h1, h2, Option.map_some] at this
    have e : env.at p.2 = .sh d := Option.some.inj this
    have sl := R1.sl p.2
    rw [e] at sl
    exact sl
  have hSP : Sx P := R.sm P (W.tm P C.mem)
  have hT : GxR.TabG H1 P := (W.tj P C.mem H1 k1.2).1
  have src : wpAny (model X.prog X.w) X.A (pyIter xv) (SrcAt X W.T H1 Sx P bs.length (fun i => ds.getD i .none) s1) X.xe s1 := by
    have pP : ∀ a o, H1 a = some o → (∀ ps, o ≠ .tbl ps) → a ≠ P := fun a o e n z => by
      obtain ⟨ps, e2, _⟩ := hT
      rw [z, e2] at e
      exact n ps (Option.some.inj e).symm
    have rel : ∀ (vs : List V) (its : List Value), Vals vs its → RpAll W.T H1 Sx vs ds → ∀ i u, its.toArray[i]? = some u → ∃ y, i < bs.length ∧ RelV y u ∧ Rp W.T H1 Sx y (ds.getD i .none) := fun vs its rv ra i u hu => by
      have hu2 : its[i]? = some u := by simpa using hu
      have hl := rv.length
      have hl2 := ra.length
      have hi2 : i < its.length := (List.getElem?_eq_some_iff.mp hu2).1
      have hd : ds[i]? = some (ds.getD i .none) := by
        rw [List.getD_eq_getElem?_getD, List.getElem?_eq_getElem (by omega)]; rfl
      obtain ⟨y, hy, ry⟩ := ra.get hd
      obtain ⟨u', hu', ru⟩ := rv.get hy
      rw [hu2] at hu'
      cases hu'
      exact ⟨y, by omega, ru, ry⟩
    rcases ed with rfl | rfl
    · obtain ⟨a, vs, rfl, ha, ra⟩ := t1.list
      cases r1
      obtain ⟨its, rv, hl, hz⟩ := I1.list (.inl (.inl ha) : SqL X.K H1 a vs)
      have hIL := hl.isList
      refine wpAny_pyIter_list hIL ?_
      have hylt : a < s1.heap.objs.size := by
        obtain ⟨_, e, _⟩ := _root_.id hIL
        exact Heap.lt_size e
      have hn : its.toArray.size = bs.length := by
        rw [List.size_toArray, ← rv.length, ra.length, fl]
      refine ⟨_, [s1.heap.objs.size, a], [s1.heap.objs.size], (fun i v => its.toArray[i]? = some v), (fun i h => h.IsListIter s1.heap.objs.size a i ∧ h.IsList a its.toArray), rfl, ⟨_, s1.toks, rfl, by rw [Heap.size_push]; omega, fun b o e => Heap.get?_push_of_some _ e, fun z => z.push _⟩,
        (fun A' hA => by rw [← hn]; exact Walks.list hA _ _ (Nat.ne_of_lt hylt) _), ⟨⟨_, Heap.get?_push_size _ rfl, rfl, rfl⟩, hIL.at fun o e => Heap.get?_push_of_some _ e⟩, fun b hb => ?_, fun b hb => ?_, rel vs its rv ra⟩
      · rcases List.mem_cons.mp hb with z | z
        · rw [z]
          exact ⟨by show s1.heap.objs.size < _; rw [Heap.size_push]; omega, fun z2 => by
            obtain ⟨ps, e2, _⟩ := hT
            have := I1.hok.lt e2
            rw [← z2] at this
            exact Nat.lt_irrefl _ this⟩
        · rw [List.mem_singleton.mp z]
          exact ⟨by show a < _; rw [Heap.size_push]; exact Nat.lt_succ_of_lt hylt, pP a _ ha fun ps z => nomatch z⟩
      · rw [List.mem_singleton.mp hb]; exact Nat.le_refl _
    · obtain ⟨a, vs, rfl, ha, _, ra⟩ := t1.tuple
      cases r1
      obtain ⟨its, rv, hl, hz⟩ := I1.tuple (.inl (.inl ha) : SqT X.K H1 a vs)
      have hIL : s1.heap.IsTuple a its.toArray := hl
      refine wpAny_pyIter_tuple hIL ?_
      have hylt : a < s1.heap.objs.size := by
        obtain ⟨_, e, _⟩ := _root_.id hIL
        exact Heap.lt_size e
      have hn : its.toArray.size = bs.length := by
        rw [List.size_toArray, ← rv.length, ra.length, fl]
      refine ⟨_, [s1.heap.objs.size, a], [s1.heap.objs.size], (fun i v => its.toArray[i]? = some v), (fun i h => h.IsTupleIter s1.heap.objs.size a i ∧ h.IsTuple a its.toArray), rfl, ⟨_, s1.toks, rfl, by rw [Heap.size_push]; omega, fun b o e => Heap.get?_push_of_some _ e, fun z => z.push _⟩,
        (fun A' hA => by rw [← hn]; exact Walks.tuple hA _ _ (Nat.ne_of_lt hylt) _), ⟨⟨_, Heap.get?_push_size _ rfl, rfl, rfl⟩, hIL.at fun o e => Heap.get?_push_of_some _ e⟩, fun b hb => ?_, fun b hb => ?_, rel vs its rv ra⟩
      · rcases List.mem_cons.mp hb with z | z
        · rw [z]
          exact ⟨by show s1.heap.objs.size < _; rw [Heap.size_push]; omega, fun z2 => by
            obtain ⟨ps, e2, _⟩ := hT
            have := I1.hok.lt e2
            rw [← z2] at this
            exact Nat.lt_irrefl _ this⟩
        · rw [List.mem_singleton.mp z]
          exact ⟨by show a < _; rw [Heap.size_push]; exact Nat.lt_succ_of_lt hylt, pP a _ ha fun ps z => nomatch z⟩
      · rw [List.mem_singleton.mp hb]; exact Nat.le_refl _
  exact ⟨H1, W.T, Sx, bs.length, fun i => ds.getD i .none, cs, fun i => bs.getD i false, I1, hT, hSP, cl, hcap, fi, src, fun g s5 r => q H1 g s5 k1 r⟩
variable {p pos : Pos}
theorem any_ {c P : Addr} {elt iter : Expr} {x : Str} {px gpos : Pos} {scope : Scope} (caps : List (Str × Nat)) {f : QF} {k : Nat} {wi : WE}
    (hr : Room k X.A) (hg : Gl X "any") (hm : X.mg "any" = none) (C : Cd X c P) (S : GenZ X.env scope x) (Ca : Caps X scope caps) (hq : QE X.mg scope (x :: caps.map (·.1)) elt f) (hi : PP X iter wi)
    (hs : ∀ v, genFold iter X.env v = pure v := by intro _; rfl)
    (he : starEach [.GeneratorExp elt [⟨.Name x px, iter, [], 0⟩] scope gpos] X.env = (false, eval (.GeneratorExp elt [⟨.Name x px, iter, [], 0⟩] scope gpos) X.env) :: starEach [] X.env := by rfl) :
    PV X (.Call (.Name "any" p) [.GeneratorExp elt [⟨.Name x px, iter, [], 0⟩] scope gpos] [] pos) (wAny true f (caps.map (·.2)) wi) := by
  refine ⟨⟨fun pins s σ H Q I ⟨W, env, Sx, R, h⟩ => ?_⟩, monoAny hi.mono⟩
  refine wpAny_Call_Name_kw (ld_blt I hg hm boot_any ?_)
  refine PyProof.Rows.callWith_builtin1 ?_ he (by rfl)
  rw [he]
  show wpAny _ _ (spliced ((false, eval (.GeneratorExp elt [⟨.Name x px, iter, [], 0⟩] scope gpos) X.env) :: backTo pos (starEach [] X.env))) _ _ s
  refine Calls.spliced_cons (gen_lt hr C S Ca hq hi hs R I (Q := fun _ => True) (hi.mono _ _ _ (fun d ⟨ds, cs, bs, e1, e2, e3, q⟩ => ⟨ds, cs, bs, e1, e2, e3, fun H1 g s5 k1 hG => ?_⟩) h))
  obtain ⟨fp, wr, G, F, St, WS, hst, htr, hI⟩ := hG
  refine Calls.spliced_nil ?_
  refine call_any_walkS (WS.self 0 _ _ _ hst ⟨g, fp, wr, G, _, F, St, _, rfl, WS, hst, htr, fun s' hmv => ?_⟩)
  obtain ⟨H2, hT, J⟩ := hI s' hmv
  refine ⟨.bl _, H2, J, rfl, ?_⟩
  rw [any_range]
  exact q _ H2 (k1.trans (tabbed_kp k1.2 C.mem hT)) (.bl _)
theorem all_ {c P : Addr} {elt iter : Expr} {x : Str} {px gpos : Pos} {scope : Scope} (caps : List (Str × Nat)) {f : QF} {k : Nat} {wi : WE}
    (hr : Room k X.A) (hg : Gl X "all") (hm : X.mg "all" = none) (C : Cd X c P) (S : GenZ X.env scope x) (Ca : Caps X scope caps) (hq : QE X.mg scope (x :: caps.map (·.1)) elt f) (hi : PP X iter wi)
    (hs : ∀ v, genFold iter X.env v = pure v := by intro _; rfl)
    (he : starEach [.GeneratorExp elt [⟨.Name x px, iter, [], 0⟩] scope gpos] X.env = (false, eval (.GeneratorExp elt [⟨.Name x px, iter, [], 0⟩] scope gpos) X.env) :: starEach [] X.env := by rfl) :
    PV X (.Call (.Name "all" p) [.GeneratorExp elt [⟨.Name x px, iter, [], 0⟩] scope gpos] [] pos) (wAny false f (caps.map (·.2)) wi) := by
  refine ⟨⟨fun pins s σ H Q I ⟨W, env, Sx, R, h⟩ => ?_⟩, monoAny hi.mono⟩
  refine wpAny_Call_Name_kw (ld_blt (u := .builtin "all") I hg hm (by decide +kernel) ?_)
  refine PyProof.Rows.callWith_builtin1 ?_ he (by rfl)
  rw [he]
  show wpAny _ _ (spliced ((false, eval (.GeneratorExp elt [⟨.Name x px, iter, [], 0⟩] scope gpos) X.env) :: backTo pos (starEach [] X.env))) _ _ s
  refine Calls.spliced_cons (gen_lt hr C S Ca hq hi hs R I (Q := fun _ => True) (hi.mono _ _ _ (fun d ⟨ds, cs, bs, e1, e2, e3, q⟩ => ⟨ds, cs, bs, e1, e2, e3, fun H1 g s5 k1 hG => ?_⟩) h))
  obtain ⟨fp, wr, G, F, St, WS, hst, htr, hI⟩ := hG
  refine Calls.spliced_nil ?_
  refine call_all_walkS (WS.self 0 _ _ _ hst ⟨g, fp, wr, G, _, F, St, _, rfl, WS, hst, htr, fun s' hmv => ?_⟩)
  obtain ⟨H2, hT, J⟩ := hI s' hmv
  refine ⟨.bl _, H2, J, rfl, ?_⟩
  rw [all_range]
  exact q _ H2 (k1.trans (tabbed_kp k1.2 C.mem hT)) (.bl _)
end
end Eg

/-! E22: more quiet expressions; what is checked of a generator's scope; defs with a table. -/
namespace Eg
open PySem PySem.Spec PyProof.Rows L2
section
variable {mg : Str → Option Value} {scope : Scope} {ns : List Str} {a b c : Expr} {f g h : QF} {pos : Pos}
theorem q_str {z : Str} {j : Nat} : QE mg scope ns (.Constant (.str z) j pos) fun _ => some (.str z) :=
  ⟨fun P w T H S ρ cenv s A E Q d hA x e k => by
    cases e
    exact Calls.Constant_str (k (.str z) _ _ (GxR.keeps_tok s _) ⟨_, rfl⟩ (.str z))⟩
theorem rel_bool {v : V} {u : Value} {T : Nat → V} {H : Hp} {S : Addr → Prop} {b : Bool} (r : RelV v u) (r2 : Rp T H S v (.bool b)) : u = .bool b := by
  cases r2
  exact r
/-- a chain of two comparisons of ints -/
def qCh (F G : Int → Int → Bool) (f g h : QF) : QF := fun ρ => match f ρ, g ρ, h ρ with
  | some (.int i), some (.int j), some (.int k) => some (.bool (F i j && G j k))
  | _, _, _ => none
theorem q_ch {op op' : CmpOp} {F G : Int → Int → Bool} (ho : OpI (compareOp op) fun i j => some (.bool (F i j))) (ho' : OpI (compareOp op') fun i j => some (.bool (G i j))) (ha : QE mg scope ns a f) (hb : QE mg scope ns b g) (hc : QE mg scope ns c h)
    (hm : lastMarks [op, op'] [b, c] = false := by with_unfolding_all rfl) : QE mg scope ns (.Compare a [op, op'] [b, c] pos) (qCh F G f g h) := by
  refine ⟨fun P w T H S ρ cenv s A E Q d hA x e k => ?_⟩
  unfold qCh at e
  split at e
  · rename_i i j l h1 h2 h3
    cases e
    refine Compare_chain (ha.run P w T H S ρ cenv s A E _ _ hA x h1 fun v u s1 k1 r1 t1 => chain_link (hb.run P w T H S ρ cenv s1 A E _ _ hA (x.keeps k1) h2 fun v2 u2 s2 k2 r2 t2 => ?_)) hm
    obtain ⟨_, rfl⟩ := rel_int r1 t1
    obtain ⟨_, rfl⟩ := rel_int r2 t2
    refine ho P w A E _ s2 i j _ _ _ rfl (fun _ _ _ => trivial) fun v3 y s3 k3 r3 t3 => ?_
    have e3 := rel_bool r3 (t3 T H S)
    subst e3
    refine wpAny_truthy_bool ?_
    have k123 := keeps_trans k1 (keeps_trans k2 k3)
    cases hF : F i j with
    | false => exact ite_ff (k (.bl false) _ _ k123 rfl (by rw [hF, Bool.false_and]; exact .bl _))
    | true =>
      refine ite_tt (chain_last (hc.run P w T H S ρ cenv s3 A E _ _ hA (x.keeps k123) h3 fun v4 u4 s4 k4 r4 t4 => ?_))
      obtain ⟨_, rfl⟩ := rel_int r4 t4
      exact ho' P w A E _ s4 j l _ _ _ rfl (fun _ _ _ => trivial) fun v5 y5 s5 k5 r5 t5 => k v5 y5 s5 (keeps_trans k123 (keeps_trans k4 k5)) r5 (by rw [hF, Bool.true_and]; exact t5 T H S)
  · cases e
/-- a and b, a or b of Bools -/
def qAnd (f g : QF) : QF := fun ρ => match f ρ with
  | some (.bool false) => some (.bool false)
  | some (.bool true) => g ρ
  | _ => none
def qOr (f g : QF) : QF := fun ρ => match f ρ with
  | some (.bool true) => some (.bool true)
  | some (.bool false) => g ρ
  | _ => none
def qNot (f : QF) : QF := fun ρ => match f ρ with
  | some (.bool b) => some (.bool (!b))
  | _ => none
theorem q_one {op : BoolOp} (ha : QE mg scope ns a f) : QE mg scope ns (.BoolOp op [a] pos) f := ⟨fun P w T H S ρ cenv s A E Q d hA x e k => BoolOp_one (ha.run P w T H S ρ cenv s A E Q d hA x e k)⟩
theorem q_and {rest : List Expr} (ha : QE mg scope ns a f) (hb : QE mg scope ns (.BoolOp .And (b :: rest) pos) g) : QE mg scope ns (.BoolOp .And (a :: b :: rest) pos) (qAnd f g) := by
  refine ⟨fun P w T H S ρ cenv s A E Q d hA x e k => ?_⟩
  unfold qAnd at e
  split at e
  · rename_i h1
    cases e
    refine BoolOp_and (ha.run P w T H S ρ cenv s A E _ _ hA x h1 fun v u s1 k1 r1 t1 => ?_)
    have e1 := rel_bool r1 t1
    subst e1
    exact wpAny_truthy_bool (k v _ s1 k1 r1 t1)
  · rename_i h1
    refine BoolOp_and (ha.run P w T H S ρ cenv s A E _ _ hA x h1 fun v u s1 k1 r1 t1 => ?_)
    have e1 := rel_bool r1 t1
    subst e1
    exact wpAny_truthy_bool (hb.run P w T H S ρ cenv s1 A E Q d hA (x.keeps k1) e fun v2 u2 s2 k2 r2 t2 => k v2 u2 s2 (keeps_trans k1 k2) r2 t2)
  · cases e
theorem q_or {rest : List Expr} (ha : QE mg scope ns a f) (hb : QE mg scope ns (.BoolOp .Or (b :: rest) pos) g) : QE mg scope ns (.BoolOp .Or (a :: b :: rest) pos) (qOr f g) := by
  refine ⟨fun P w T H S ρ cenv s A E Q d hA x e k => ?_⟩
  unfold qOr at e
  split at e
  · rename_i h1
    cases e
    refine BoolOp_or (ha.run P w T H S ρ cenv s A E _ _ hA x h1 fun v u s1 k1 r1 t1 => ?_)
    have e1 := rel_bool r1 t1
    subst e1
    exact wpAny_truthy_bool (k v _ s1 k1 r1 t1)
  · rename_i h1
    refine BoolOp_or (ha.run P w T H S ρ cenv s A E _ _ hA x h1 fun v u s1 k1 r1 t1 => ?_)
    have e1 := rel_bool r1 t1
    subst e1
    exact wpAny_truthy_bool (hb.run P w T H S ρ cenv s1 A E Q d hA (x.keeps k1) e fun v2 u2 s2 k2 r2 t2 => k v2 u2 s2 (keeps_trans k1 k2) r2 t2)
  · cases e
theorem q_not (ha : QE mg scope ns a f) : QE mg scope ns (.UnaryOp .Not a pos) (qNot f) := by
  refine ⟨fun P w T H S ρ cenv s A E Q d hA x e k => ?_⟩
  unfold qNot at e
  split at e
  · rename_i b h1
    cases e
    refine UnaryOp_ (ha.run P w T H S ρ cenv s A E _ _ hA x h1 fun v u s1 k1 r1 t1 => ?_)
    have e1 := rel_bool r1 t1
    subst e1
    exact not_of (wpAny_truthy_bool (k (.bl (!b)) _ s1 k1 rfl (.bl _)))
  · cases e
/-- a[b] of a list or a tuple -/
def qIx (f g : QF) : QF := fun ρ => match f ρ, g ρ with
  | some (.list ds), some (.int i) => atI ds i
  | some (.tuple ds), some (.int i) => atI ds i
  | _, _ => none
theorem q_ix (ha : QE mg scope ns a f) (hb : QE mg scope ns b g) (hs : PlainIx b := by exact fun _ _ => rfl) : QE mg scope ns (.Subscript a b pos) (qIx f g) := by
  refine ⟨fun P w T H S ρ cenv s A E Q d hA x e k => ?_⟩
  unfold qIx at e
  split at e
  · rename_i ds i h1 h2
    refine Subscript_ (ha.run P w T H S ρ cenv s A E _ _ hA x h1 fun v u s1 k1 r1 t1 => hb.run P w T H S ρ cenv s1 A E _ _ hA (x.keeps k1) h2 fun v2 u2 s2 k2 r2 t2 => ?_)
    obtain ⟨_, rfl⟩ := rel_int r2 t2
    have x2 := (x.keeps k1).keeps k2
    cases t1 with
    | lst hl hn ra =>
      rename_i p xs
      cases r1
      obtain ⟨hz, its, n, rv, eo⟩ : xs.length ≤ sizeLine ∧ ∃ (its : List Value) (n : Nat), Vals xs its ∧ s2.heap.get? p = some { cls := .type "list", data := .seq its.toArray n } := x2.ok p _ hl
      have pl : PlainL s2.heap p its.toArray := ⟨_, n, eo, rfl, rfl, rfl⟩
      obtain ⟨y, hy, ry⟩ : ∃ y, atI xs i = some y ∧ Rp T H S y d := by
        unfold atI at e ⊢
        rw [ra.length]
        cases q : ixN ds.length i with
        | none => rw [q] at e; cases e
        | some j => rw [q] at e; exact ra.get e
      obtain ⟨j, h1, h2, h3, h4, h5⟩ := atI_get hy
      obtain ⟨z, ez, rz⟩ := rv.get h2
      have hl' := rv.length
      have hln := line63
      have fin : Q z s2 := k y z s2 (keeps_trans k1 k2) rz ry
      by_cases h0 : 0 ≤ i
      · have hj : i.toNat = j := by
          rw [seqIndex_of h0 h5] at h1
          exact Option.some.inj h1
        exact item_listR pl.isList h0 (by omega) (by rw [hj]; simpa using ez) fin (hs _ _)
      · have hj : (i + (its.toArray.size : Int)).toNat = j := by
          rw [seqIndex_neg (by omega) h4] at h1
          rw [List.size_toArray, ← hl']
          exact Option.some.inj h1
        exact subscriptTail_builtinR (x := z) pl.isList.typeIs slot_list_getitem.lookup
          (wpAny_getItem_list_neg (Q := fun r s' => r = z ∧ Q r s') pl.isList (by omega) (by rw [List.size_toArray] <;> omega) (by omega) (by rw [hj]; simpa using ez) ⟨rfl, fin⟩) (hs _ _)
  · rename_i ds i h1 h2
    refine Subscript_ (ha.run P w T H S ρ cenv s A E _ _ hA x h1 fun v u s1 k1 r1 t1 => hb.run P w T H S ρ cenv s1 A E _ _ hA (x.keeps k1) h2 fun v2 u2 s2 k2 r2 t2 => ?_)
    obtain ⟨_, rfl⟩ := rel_int r2 t2
    have x2 := (x.keeps k1).keeps k2
    cases t1 with
    | tup hl hn ra =>
      rename_i p xs
      cases r1
      obtain ⟨hz, its, rv, pl⟩ : xs.length ≤ sizeLine ∧ ∃ its : List Value, Vals xs its ∧ IsTup s2.heap p its.toArray := x2.ok p _ hl
      obtain ⟨y, hy, ry⟩ : ∃ y, atI xs i = some y ∧ Rp T H S y d := by
        unfold atI at e ⊢
        rw [ra.length]
        cases q : ixN ds.length i with
        | none => rw [q] at e; cases e
        | some j => rw [q] at e; exact ra.get e
      obtain ⟨j, h1, h2, h3, h4, h5⟩ := atI_get hy
      obtain ⟨z, ez, rz⟩ := rv.get h2
      have hl' := rv.length
      have hln := line63
      have fin : Q z s2 := k y z s2 (keeps_trans k1 k2) rz ry
      refine subscriptTail_builtinR (x := z) pl.typeIs slot_tuple_getitem.lookup (getItem_tuple (j := j) (Q := fun r s' => r = z ∧ Q r s') pl (by omega) (by omega) (by rw [List.size_toArray, ← hl']; exact h1) (by simpa using ez) ⟨rfl, fin⟩) (hs _ _)
  · cases e
end
/-! ### what is checked -/
def genC (es gs : Scope) (x : Str) : Bool := decide (gs.kind = .function) && !gs.isCoroutine && gs.names.all (fun y => !decide (y.2 = .cell)) && decide (gs.names.lookup (".0" : Str) = some .local) && decide (gs.names.lookup x = some .local) &&
  gs.names.all (fun y => !decide (y.2 = .free) || (decide (es.names.lookup y.1 = some .cell) || decide (es.names.lookup y.1 = some .free)))
theorem genS_by {env : Env} {scope : Scope} {x : Str} (h : genC env.scope scope x = true) : GenZ env scope x := by
  unfold genC at h
  simp only [Bool.and_eq_true, decide_eq_true_eq, Bool.not_eq_true', List.all_eq_true, Bool.or_eq_true, decide_eq_false_iff_not] at h
  obtain ⟨⟨⟨⟨⟨h1, h2⟩, h3⟩, h4⟩, h5⟩, h6⟩ := h
  exact ⟨h1, h2, h3, h4, h5, fun y hy e => (h6 y hy).elim (fun n => absurd e n) id⟩
def capC (N : List Str) (es gs : Scope) (caps : List (Str × Nat)) : Bool := caps.all fun p => decide (N[p.2]? = some p.1) && (decide (es.names.lookup p.1 = some .cell) || decide (es.names.lookup p.1 = some .free)) && decide ((p.1, NameKind.free) ∈ gs.names) && decide (gs.names.lookup p.1 = some .free)
theorem caps_by {X : Cx} {scope : Scope} {caps : List (Str × Nat)} (h : capC X.N X.env.scope scope caps = true) : Caps X scope caps := by
  unfold capC at h
  simp only [List.all_eq_true, Bool.and_eq_true, decide_eq_true_eq, Bool.or_eq_true] at h
  exact ⟨fun p hp => ⟨(h p hp).1.1.1, (h p hp).1.1.2, (h p hp).1.2, (h p hp).2⟩⟩
/-! ### defs with a table -/
def codeF (K : PySem.W.Frag) (f : Addr) : Addr := match K.lookup f with
  | some ⟨_, _, .func fd, _⟩ => (match fd.code with
    | .ref c => c
    | _ => 0)
  | _ => 0
variable [Tabs]
section
variable {P : Program} {w : World} {K : PySem.W.Frag} {mg : Str → Option Value} {base : Heap}
theorem def_fdT {x qual : Str} {params : Arguments} {bodyS : List Stmt} {scope : Scope} {f : Addr} {fd : FuncData} {N ps : List Str} {k n np : Nat} {w0 : WS} (F : FunD K x qual params bodyS scope [] [] f fd) (hx : mg x = some (.ref f)) (Sc : FnScope N ps scope) (hps : ps.length ≤ N.length) (hn : N.length = n) (hp : ps.length = np)
    (hb : ∀ (kV doc pm : Value) (an : Option Addr) (cdv ct : Value) (us : List Value), us.length = ps.length → bindArgs (PySem.W.fnOf x qual params bodyS scope .none kV doc pm an cdv ct) ⟨us, []⟩ = pure (ps.zip us))
    (body : ∀ (A : Around) (outer : List Env) (s : Shared) (H : Hp) (E : XK), Room k (A.deeper (envOfC qual scope s.heap.objs.size f (.ref (codeF K f)))) →
      PSsv (cxOf CX0 P w K mg base N qual scope f (.ref (codeF K f)) A outer s H E).nox bodyS w0) : Fd P w K mg base x ps (k + 1) (phiC n np w0) := by
  subst hn
  subst hp
  refine ⟨⟨f, fd, ?_, hx, F.kp, F.bindsN hb⟩, monoC'⟩
  obtain ⟨oc, od, dV, kV, doc, pm, an, cdv, ct, osl, rfl, lk, hcd, _, _⟩ := F.ex
  obtain ⟨c, rfl⟩ := He.codeIn_ref hcd
  have ec : codeF K f = c := by
    unfold codeF
    rw [lk]
  rw [ec] at body
  refine fn_of lk hcd Sc (fun vs H Q E h => spOf_len h) fun A outer s H vs Q E hr h => ?_
  have b := body A outer s H E hr
  obtain ⟨W, S, ds, cc, r, R, g, q⟩ := h
  refine ⟨_, PSs.nox b.ps, ?_⟩
  have hl : vs.length = ps.length := r.length.trans q.1
  have q2 := q.2
  rw [← q.1] at q2
  refine ⟨_, _, S, rl_start (N := N) cc r (by omega), b.mono.ap q2 ⟨fun env' q σ' H' S' R' => ?_, fun d q v H' rt => ?_, fun _ q => q.elim, fun _ q => q.elim⟩⟩
  · exact g _ q _ H' ⟨fun a o h n => R'.h0 a o h n, R'.j⟩ .non
  · exact g _ q v H' ⟨fun a o h n => rt.h0 a o h n, rt.j⟩ (rt.r.less fun a s => .inl s)
end
end Eg

/-! E23: how any, all of a generator expression reads. -/
namespace Eg
open PySem PySem.Spec PyProof.Rows L2
def anyB (k : Bool) (f : QF) (is : List Nat) (env : En) (d : D) (Q : D → Prop) : Prop := ∃ (ds cs : List D) (bs : List Bool), (d = .list ds ∨ d = .tuple ds) ∧ is.map env.at = cs.map .sh ∧ (ds.map fun d => f (d :: cs)) = bs.map (fun b => some (.bool b)) ∧
  Q (.bool (if k = true then bs.any id else bs.all id))
@[simp] theorem s_wAny {k : Bool} {f : QF} {is : List Nat} {w : WE} {env : En} {Q : D → Prop} : wAny k f is w env Q = w env fun d => anyB k f is env d Q := id rfl
theorem anyB_i {α : Type} (en : α → D) (p : α → Bool) (cs : List D) {k : Bool} {f : QF} {is : List Nat} {env : En} {d : D} {Q : D → Prop} {xs : List α} (hd : d = .list (xs.map en) ∨ d = .tuple (xs.map en)) (hc : is.map env.at = cs.map .sh)
    (hf : ∀ x ∈ xs, f (en x :: cs) = some (.bool (p x))) (h : Q (.bool (if k = true then xs.any p else xs.all p))) : anyB k f is env d Q := by
  refine ⟨xs.map en, cs, xs.map p, hd, hc, ?_, ?_⟩
  · rw [List.map_map, List.map_map]
    exact List.map_congr_left hf
  · have e1 : (xs.map p).any id = xs.any p := by rw [List.any_map]; rfl
    have e2 : (xs.map p).all id = xs.all p := by rw [List.all_map]; rfl
    rw [e1, e2]; exact h
end Eg

/-! E24: sorted(set(..)) of ints, constants of the module, more quiet expressions. -/
namespace L2
open PySem PySem.Spec PyProof.Rows
section
variable {P : Program} {w : World} {A : Around} {E : Value → Shared → Prop} {s : Shared}
/-- set(xs) of a list of ints -/
theorem set_of_list {l : Addr} {items : Array Value} (ns : List Int) {Q : Value → Shared → Prop} (hh : A.handled = none) (hl : s.heap.IsList l items) (hit : IntsAre items.toList ns) (hb : ns.length + 1 < scanBound)
    (h : ∀ (h' : Heap) (tk c : Nat), SetR w h' s.heap.objs.size (fun j => decide (j ∈ ns)) c → c ≤ ns.length → (∀ b o, s.heap.get? b = some o → h'.get? b = some o) → Q (.ref s.heap.objs.size) { s with heap := h', toks := tk }) :
    wpAny (model P w) A (call (.type "set") [.ref l]) Q E s := by
  have hisz : items.size = ns.length := by
    have q := IntsAre.length hit
    rw [Array.length_toList] at q
    exact q
  obtain ⟨c, tl, hmro⟩ := F.called_set.mro
  have hmade := F.called_set.made
  have hsub := F.called_set.sub
  refine wpAny_call (codeAny_of_tree ?_)
  show wpAny _ _ (callAny (.type "set") _) _ _ _
  refine wpAny_pure ⟨Code.quiet_builtin _ (by decide +kernel), codeAny_builtin F.entry_type_call ?_⟩
  rw [Around.under_plain (weight_type_call_type "set" [.ref l] []) rfl]
  have h1 := F.called_set.notType
  have h2 := F.called_set.canCreate
  have hct := F.typeCall_set_1 (.ref l)
  repeat (any_goals (first | assumption | wp_step))

  refine codeAny_mono (code_set_led1 (.ref l) (E := E) (Q₁ := fun obj s₁ => obj = .ref s.heap.objs.size ∧ s₁ = { s with heap := s.heap.push { cls := .type "set", dict := none, data := .set #[] 0 (.fresh 0 0 (!w.params.followText "set-order")) } }) ⟨rfl, rfl⟩) fun r s₁ hr => ?_
  cases r with
  | error e => exact hr
  | ok fl =>
    cases fl with
    | ret obj =>
      obtain ⟨rfl, rfl⟩ := hr
      have hS : (s.heap.push { cls := .type "set", dict := none, data := .set #[] 0 (.fresh 0 0 (!w.params.followText "set-order")) }).get? s.heap.objs.size = some { cls := .type "set", dict := none, data := .set #[] 0 (.fresh 0 0 (!w.params.followText "set-order")) } := Heap.get?_push_size _ rfl
      have hT : Shared.TypeIs { s with heap := s.heap.push { cls := .type "set", dict := none, data := .set #[] 0 (.fresh 0 0 (!w.params.followText "set-order")) } } (.ref s.heap.objs.size) "set" := ⟨_, hS, rfl⟩
      have hli := F.called_set.init.lookup
      have hbi := F.called_set.init.bind (.ref s.heap.objs.size)
      repeat (any_goals (first | assumption | wp_step))

      refine codeAny_mono (codeAny_call_builtin (R := wants (fun r s₂ => r = .none ∧ ∃ h' tk c, s₂ = { s with heap := h', toks := tk } ∧ SetR w h' s.heap.objs.size (fun j => decide (j ∈ ns)) c ∧ c ≤ ns.length ∧
          (∀ b o, s.heap.get? b = some o → h'.get? b = some o)) E) F.called_set.init.plain F.entry_set_init (check_set_init_1 hT ?_)) fun r₂ s₂ hr₂ => ?_
      · obtain ⟨ol, hol, hcl, nl, hdl⟩ := hl
        obtain ⟨ocls, odict, odata, oslots⟩ := ol
        simp only at hcl hdl
        subst hcl; subst hdl
        have hol' : (s.heap.push { cls := .type "set", dict := none, data := .set #[] 0 (.fresh 0 0 (!w.params.followText "set-order")) }).get? l = some { cls := .type "list", dict := odict, data := .seq items nl, slots := oslots } := Heap.get?_push_of_some _ hol
        have hsls := F.sub_list_set
        have hslf := F.sub_list_frozenset
        have hne : (Value.type "list" == Value.type "dict") = false := by decide
        have hl1 : (s.heap.push { cls := .type "set", dict := none, data := .set #[] 0 (.fresh 0 0 (!w.params.followText "set-order")) }).IsList l items := ⟨_, hol', rfl, nl, rfl⟩
        unfold Builtin.«set.__init__» noKeywords Builtin.Frozenset.updateFrom
        generalize hPI : pyIter = PI
        wp_walk
        subst hPI

        refine wpAny_pyIter_list hl1 ?_
        refine wpAny_bind (wpAny_runValue ?_)
        have hlS : l < s.heap.objs.size := Heap.lt_size hol
        have hh3 : A.in1.in1.in1.handled = none := by simp [hh]
        have hz1 : (s.heap.push { cls := .type "set", dict := none, data := .set #[] 0 (.fresh 0 0 (!w.params.followText "set-order")) }).objs.size = s.heap.objs.size + 1 := Heap.size_push ..
        have hneI : l ≠ (s.heap.push { cls := .type "set", dict := none, data := .set #[] 0 (.fresh 0 0 (!w.params.followText "set-order")) }).objs.size := by
          rw [Heap.size_push]; exact Nat.ne_of_lt (Nat.lt_succ_of_lt hlS)
        have hSf : s.heap.objs.size ∉ [(s.heap.push { cls := .type "set", dict := none, data := .set #[] 0 (.fresh 0 0 (!w.params.followText "set-order")) }).objs.size, l] := by
          rw [Heap.size_push]; simp only [List.mem_cons, List.mem_singleton, List.not_mem_nil, or_false, not_or]
          exact ⟨Nat.ne_of_lt (Nat.lt_succ_self _), Nat.ne_of_gt hlS⟩
        have hval : ∀ (i : Nat) (v : Value), items[i]? = some v → ∃ k t, ns[i]? = some k ∧ v = .int k t := fun i v hv => by
          have hi : i < ns.length := by rw [← hisz]; exact (Array.getElem?_eq_some_iff.mp hv).1
          obtain ⟨t, e⟩ := PyProof.Rows.IntsAre.int_at hit i v (by rw [Array.getElem?_toList]; exact hv)
          refine ⟨ns[i], t, List.getElem?_eq_getElem hi, ?_⟩
          rw [e, List.getD_eq_getElem?_getD, List.getElem?_eq_getElem hi] <;> rfl
        refine set_update_ints ((Walks.list hh3 _ l hneI items).toS) s.heap.objs.size
          hSf ns hisz hb hval (items.size - 0) 0 _ (by omega) (Nat.zero_le _)
          ⟨⟨_, Heap.get?_push_size _ rfl, rfl, rfl⟩, (hl1.push _)⟩ ?hS0 ?hR
        case hS0 =>
          have hget : ((s.heap.push { cls := .type "set", dict := none, data := .set #[] 0 (.fresh 0 0 (!w.params.followText "set-order")) }).push { cls := .type "list_iterator", data := .fields #[.ref l, .int 0 0] }).get? s.heap.objs.size
              = some { cls := .type "set", dict := none, data := .set #[] 0 (.fresh 0 0 (!w.params.followText "set-order")) } := Heap.get?_push_of_some _ hS
          exact ⟨0, Nat.le_refl 0, setR_new_at hget⟩
        case hR =>
          intro s' c' hm hc' hS'
          obtain ⟨h', g2, d', tk', os'⟩ := s'
          have eg : g2 = s.gens := hm.gens
          have ed : d' = s.drawn := hm.drawn
          have eo : os' = s.os := hm.os
          subst eg; subst ed; subst eo
          show wpAny _ _ _ _ _ _
          refine wpAny_pure ?_
          show wpAny _ _ (ret Value.none) _ _ _
          rw [hisz] at hc'
          refine wpAny_pure ⟨rfl, h', tk', c', rfl, hS', hc', fun b o e => ?_⟩
          have hb0 : b < s.heap.objs.size := Heap.lt_size e
          have hb1 : b ≠ s.heap.objs.size := Nat.ne_of_lt hb0
          have hb2 : b ≠ (s.heap.push { cls := .type "set", dict := none, data := .set #[] 0 (.fresh 0 0 (!w.params.followText "set-order")) }).objs.size := by
            rw [Heap.size_push]; exact Nat.ne_of_lt (Nat.lt_succ_of_lt hb0)
          exact hm.heap b o (by simp only [List.mem_cons, List.mem_singleton, List.not_mem_nil, or_false, not_or]; exact ⟨hb1, hb2⟩) (Heap.get?_push_of_some _ (Heap.get?_push_of_some _ e))

      · cases r₂ with
        | error e => exact hr₂
        | ok fl₂ =>
          cases fl₂ with
          | ret r =>
            obtain ⟨rfl, h', tk, c', rfl, hS', hc', hk'⟩ := hr₂
            repeat (any_goals (first | assumption | wp_step))
            exact h _ _ _ hS' hc' hk'
          | _ => exact hr₂.elim
    | _ => exact hr.elim

end
end L2

/-! E25: sorted(set(..)) of ints, constants of the module, more quiet expressions. -/
namespace Eg
open PySem PySem.Spec PyProof.Rows L2
variable [Tabs]
/-! ### sorted(set(e)), len(set(e)) of a list of ints -/
def rSetLI (K : PySem.W.Frag) (w : World) : List V → Hp → VK → Prop := fun xs H Q => ∃ (l : Addr) (ns : List Int), xs = [V.ref l] ∧ SqL K H l (ns.map V.int) ∧ ns.length < 60 ∧
  ∀ (p : Addr) (n : Nat), n ≤ ns.length → H p = none → Q (.ref p) (upd H p (SetO w p (fun j => decide (j ∈ ns)) n))
omit [Tabs] in
theorem ints_vals : ∀ {ns : List Int} {us : List Value}, Vals (ns.map V.int) us → IntsAre us ns
  | [], _, .nil => .nil
  | n :: ns, _, .cons r t => by
    obtain ⟨k, rfl⟩ := r
    exact .cons n k (ints_vals t)
omit [Tabs] in
theorem cr_setLI {X : Cx} (hc : X.calm = true) : CallR X (.type "set") (rSetLI X.K X.w) := by
  intro pins s σ H vs us Q I r h
  obtain ⟨l, ns, rfl, hq, hl, q⟩ := h
  rw [Vals.ref1 r]
  obtain ⟨its, rv, pl, hz⟩ := I.list hq
  refine set_of_list ns (I.ok.hd hc) pl.isList (by simpa using ints_vals rv) (by unfold scanBound; omega) fun h' tk c R hcn hk => ?_
  have J : Inv X pins σ (upd H s.heap.objs.size (SetO X.w s.heap.objs.size (fun j => decide (j ∈ ns)) c)) { s with heap := h', toks := tk } :=
    I.laid (t' := tk) hk (Nat.le_refl _) (setO_new R)
  exact ⟨.ref _, _, J, rfl, q _ c hcn (I.hok.fresh (Nat.le_refl _))⟩
def wSS (w : WE) : WE := fun env Q => w env fun d => ∃ ns : List Int, d = .list (ns.map .int) ∧ ns.length < 60 ∧ ∀ out : List Int, out.Pairwise (· < ·) → (∀ k, k ∈ out ↔ k ∈ ns) → Q (.list (out.map .int))
omit [Tabs] in
theorem monoSS {w : WE} (h : Mono w) : Mono (wSS w) := fun env Q Q' f q => h _ _ _ (fun d ⟨ns, a, b, c⟩ => ⟨ns, a, b, fun out x y => f _ (c out x y)⟩) q
omit [Tabs] in
theorem rp_ints {T : Nat → V} {H : Hp} {S : Addr → Prop} : ∀ {ns : List Int} {vs : List V}, RpAll T H S vs (ns.map .int) → vs = ns.map V.int
  | [], _, .nil => rfl
  | n :: ns, _, .cons a t => by
    cases a
    rw [rp_ints t]
    rfl
omit [Tabs] in
theorem ints_rp2 {T : Nat → V} {H : Hp} {S : Addr → Prop} : ∀ (ns : List Int), RpAll T H S (ns.map V.int) (ns.map .int)
  | [] => .nil
  | n :: ns => .cons (.int n) (ints_rp2 ns)
section
variable {X : Cx} {a : Expr} {p p2 q pos : Pos} {w : WE}
theorem ss_ (hc : X.calm = true) (hg : Gl X "sorted") (hm : X.mg "sorted" = none) (hg2 : Gl X "set") (hm2 : X.mg "set" = none) (ha : PP X a w)
    (na : starEach [a] X.env = (false, eval a X.env) :: starEach [] X.env := by rfl) (nb : starEach [.Call (.Name "set" p2) [a] [] q] X.env = (false, eval (.Call (.Name "set" p2) [a] [] q) X.env) :: starEach [] X.env := by rfl) :
    PF X (.Call (.Name "sorted" p) [.Call (.Name "set" p2) [a] [] q] [] pos) (wSS w) := by
  refine ⟨⟨fun pins s σ H Q I ⟨W, env, S, R, h⟩ => ?_⟩, monoSS ha.mono⟩
  refine wpAny_Call_Name_kw (ld_blt (u := .builtin "sorted") I hg hm (by decide +kernel) ?_)
  refine PyProof.Rows.callWith_builtin1 (PyProof.Rows.args_cons ?_ nb) nb (by rfl)
  refine wpAny_Call_Name_kw (ld_blt I hg2 hm2 boot_set ?_)
  refine PyProof.Rows.callWith_type1 (PyProof.Rows.args_cons (thn (ha.pe.run pins s σ H (fun v H1 => ∃ d, KpJ W H H1 ∧ Top W H1 S v d ∧ ∃ ns : List Int, d = .list (ns.map .int) ∧ ns.length < 60 ∧ ∀ out : List Int, out.Pairwise (· < ·) → (∀ k, k ∈ out ↔ k ∈ ns) →
      ∀ p vs ds H', PyData.list (out.map .int) = .list ds → KpJ W H H' → H p = none → H' p = some (.lst vs) → RpAll W.T H' (plus S p) vs ds → Q (.ref p) H') I ⟨W, env, S, R, ha.mono _ _ _ (fun d ⟨ns, e1, e2, e3⟩ v H1 k1 t1 => ⟨d, k1, t1, ns, e1, e2, e3⟩) h⟩)
    fun v s1 ⟨x, H1, I1, r1, d, k1, t1, ns, ed, hl, q1⟩ => PyProof.Rows.args_nil ?_) na) na (by rfl)
  subst ed
  obtain ⟨l, vs, rfl, hv, rv⟩ := t1.list
  have ev := rp_ints rv
  subst ev
  refine thn (cr_setLI hc pins s1 σ H1 [.ref l] [v] (fun y H2 => ∃ (p : Addr) (n : Nat), y = .ref p ∧ n ≤ ns.length ∧ H1 p = none ∧ H2 = upd H1 p (SetO X.w p (fun j => decide (j ∈ ns)) n)) I1 (.cons r1 .nil) ⟨l, ns, rfl, .inl (.inl hv), hl, fun p n h1 h2 => ⟨p, n, rfl, h1, h2, rfl⟩⟩) fun u s2 ⟨y, H2, I2, r2, p, n, ey, hn, hp, eH⟩ => ?_
  subst ey eH
  refine PyProof.Rows.args_nil ?_
  refine cr_sortedSet hc pins s2 σ _ [.ref p] [u] Q I2 (.cons r2 .nil) ⟨p, _, n, rfl, upd_same, by omega, fun out p2 h1 h2 h3 h4 => ?_⟩
  have c1 := (R.kept k1).cn
  have kn : KpJ W H1 (upd (upd H1 p (SetO X.w p (fun j => decide (j ∈ ns)) n)) p2 (.lst (out.map V.int))) := (KpJ.new c1.j hp).trans (.new (KpJ.new c1.j hp).2 h4)
  have hp2 : H1 p2 = none := by
    by_cases z : p2 = p
    · rw [z]; exact hp
    · rw [upd_ne z] at h4; exact h4
  exact q1 out h1 (fun k => (h2 k).trans (by simp)) p2 _ _ _ rfl (k1.trans kn) (k1.none_of R.j hp2) upd_same (ints_rp2 out)
/-- a constant of the module -/
theorem gl_ {x : Str} {i : Int} (hg : Gl X x) (hm : ∃ t, X.mg x = some (.int i t)) (hd : (x == ("__debug__" : Str)) = false := by decide) : PV X (.Name x pos) (wC (.int i)) := by
  obtain ⟨t, hm⟩ := hm
  exact ⟨(pe_glob (v := .int i) hg hm ⟨t, rfl⟩ hd).imp fun σ H Q ⟨W, env, S, R, h⟩ => h _ H (.refl R.j) (.int i), fun env Q Q' f h => f _ h⟩
end
/-! ### more quiet expressions -/
section
variable {mg : Str → Option Value} {scope : Scope} {ns : List Str} {a b c : Expr} {f g h : QF} {pos : Pos}
omit [Tabs] in
theorem QX.lst {P : Program} {w : World} {T : Nat → V} {H : Hp} {S : Addr → Prop} {ρ : List D} {cenv : Env} {s : Shared} (x : QX P w mg T H S scope ns ρ cenv s) {v : V} {u : Value} {ds : List D} (r : RelV v u) (t : Rp T H S v (.list ds)) :
    ∃ (p : Addr) (xs : List V) (its : List Value), u = .ref p ∧ PlainL s.heap p its.toArray ∧ Vals xs its ∧ RpAll T H S xs ds ∧ xs.length ≤ sizeLine := by
  cases t with
  | lst hl hn ra =>
    rename_i p xs
    cases r
    obtain ⟨hz, its, n, rv, eo⟩ : xs.length ≤ sizeLine ∧ ∃ (its : List Value) (n : Nat), Vals xs its ∧ s.heap.get? p = some { cls := .type "list", data := .seq its.toArray n } := x.ok p _ hl
    exact ⟨p, xs, its, rfl, ⟨_, n, eo, rfl, rfl, rfl⟩, rv, ra, hz⟩
omit [Tabs] in
theorem QX.tup {P : Program} {w : World} {T : Nat → V} {H : Hp} {S : Addr → Prop} {ρ : List D} {cenv : Env} {s : Shared} (x : QX P w mg T H S scope ns ρ cenv s) {v : V} {u : Value} {ds : List D} (r : RelV v u) (t : Rp T H S v (.tuple ds)) :
    ∃ (p : Addr) (xs : List V) (its : List Value), u = .ref p ∧ IsTup s.heap p its.toArray ∧ Vals xs its ∧ RpAll T H S xs ds ∧ xs.length ≤ sizeLine := by
  cases t with
  | tup hl hn ra =>
    rename_i p xs
    cases r
    obtain ⟨hz, its, rv, pl⟩ : xs.length ≤ sizeLine ∧ ∃ its : List Value, Vals xs its ∧ IsTup s.heap p its.toArray := x.ok p _ hl
    exact ⟨p, xs, its, rfl, pl, rv, ra, hz⟩
def qLen (f : QF) : QF := fun ρ => match f ρ with
  | some (.list ds) => some (.int ds.length)
  | some (.tuple ds) => some (.int ds.length)
  | _ => none
omit [Tabs] in
theorem q_len {p : Pos} (ha : QE mg scope ns a f) (hm : mg "len" = none) (hg : scope.names.lookup ("len" : Str) = some .globalImplicit := by rfl) (hk : scope.kind = .function := by rfl)
    (he : ∀ cenv, starEach [a] cenv = (false, eval a cenv) :: starEach [] cenv := by intro _; rfl) : QE mg scope ns (.Call (.Name "len" p) [a] [] pos) (qLen f) := by
  refine ⟨fun P w T H S ρ cenv s A E Q d hA x e k => ?_⟩
  obtain ⟨mb, n1, n2⟩ := x.nb
  refine wpAny_Call_Name_kw (Calls.Name_function_global (by rw [x.sc]; exact hk) (show cenv.scope.names.lookup ("len" : Str) = some .globalImplicit by rw [x.sc]; exact hg)
    (Calls.loadGlobal_builtin (by rw [x.gl.1]; exact x.ng) hm (by rw [x.gl.2]; exact n1) ((n2 "len" (by decide)).trans boot_len) ?_) (by decide))
  refine PyProof.Rows.callWith_builtin1 (PyProof.Rows.args_cons ?_ (he cenv)) (he cenv) (by rfl)
  have hn := line63
  unfold qLen at e
  split at e
  · rename_i ds h1
    cases e
    refine ha.run P w T H S ρ cenv s A E _ _ hA x h1 fun v u s1 k1 r1 t1 => PyProof.Rows.args_nil ?_
    obtain ⟨q, xs, its, rfl, pl, rv, ra, hz⟩ := (x.keeps k1).lst r1 t1
    have hlen := rv.length
    have hlen2 := ra.length
    exact Calls.call_len_list pl.isList (by simp only [List.size_toArray] <;> omega) (k (.int _) _ _ (keeps_trans k1 (GxR.keeps_tok _ _)) ⟨_, by rw [List.size_toArray, ← hlen, hlen2]⟩ (.int _))
  · rename_i ds h1
    cases e
    refine ha.run P w T H S ρ cenv s A E _ _ hA x h1 fun v u s1 k1 r1 t1 => PyProof.Rows.args_nil ?_
    obtain ⟨q, xs, its, rfl, pl, rv, ra, hz⟩ := (x.keeps k1).tup r1 t1
    have hlen := rv.length
    have hlen2 := ra.length
    exact len_tuple pl (by simp only [List.size_toArray] <;> omega) (k (.int _) _ _ (keeps_trans k1 (GxR.keeps_tok _ _)) ⟨_, by rw [List.size_toArray, ← hlen, hlen2]⟩ (.int _))
  · cases e
/-- the int of a datum -/
def intD : D → Option Int
  | .int i => some i
  | _ => none
def intsD : List D → Option (List Int)
  | [] => some []
  | d :: ds => match intD d, intsD ds with
    | some i, some is => some (i :: is)
    | _, _ => none
omit [Tabs] in
@[simp] theorem intsD_map : ∀ ns : List Int, intsD (ns.map .int) = some ns
  | [] => rfl
  | n :: ns => by
    show (match intD (.int n), intsD (ns.map .int) with | some i, some is => some (i :: is) | _, _ => none) = _
    rw [intsD_map ns]; rfl
omit [Tabs] in
theorem intsD_eq : ∀ {ds : List D} {is : List Int}, intsD ds = some is → ds = is.map .int
  | [], is, e => by
    have e2 : ([] : List Int) = is := Option.some.inj e
    subst e2; rfl
  | d :: ds, is, e => by
    have e' : (match intD d, intsD ds with | some i, some is => some (i :: is) | _, _ => none) = some is := e
    split at e'
    · rename_i i js h1 h2
      cases e'
      have h3 := intsD_eq h2
      have h4 : d = .int i := by
        cases d <;> first | (cases h1; rfl) | cases h1
      rw [h3, h4]; rfl
    · cases e'
omit [Tabs] in
mutual
theorem rp_reads {P : Program} {w : World} {T : Nat → V} {H : Hp} {S : Addr → Prop} {h : Heap} (ok : HOk P w H h) : ∀ (d : D) (v : V) (u : Value), d.canLay0 = true → Rp T H S v d → RelV v u → ∃ as, Reads h u d as
  | .none, _, _, _, h, r => by
    cases h
    cases r
    exact ⟨_, Reads.none⟩
  | .bool b, _, _, _, h, r => by
    cases h
    cases r
    exact ⟨_, Reads.bool b⟩
  | .int i, _, _, _, h, r => by
    cases h
    obtain ⟨t, rfl⟩ := r
    exact ⟨_, Reads.int i t⟩
  | .str x, _, _, _, h, r => by
    cases h
    obtain ⟨t, rfl⟩ := r
    exact ⟨_, Reads.str x t⟩
  | .list ds, _, _, c, h, r => by
    cases h with
    | lst hl hn ra =>
      cases r
      obtain ⟨hz, its, n, rv, eo⟩ := (show ObjOk _ _ _ _ _ (.lst _) from ok _ _ hl)
      obtain ⟨as, q⟩ := rp_readsAll ok ds _ its (by simpa [PyData.canLay0] using c) ra rv
      exact ⟨_, Reads.list eo rfl rfl q⟩
  | .tuple ds, _, _, c, h, r => by
    cases h with
    | tup hl hn ra =>
      cases r
      obtain ⟨hz, its, rv, o, h1, h2, n, h3⟩ := (show ObjOk _ _ _ _ _ (.tup _) from ok _ _ hl)
      obtain ⟨as, q⟩ := rp_readsAll ok ds _ its (by simpa [PyData.canLay0] using c) ra rv
      exact ⟨_, Reads.tuple h1 h2 h3 q⟩
  | .dict _, _, _, c, h, _ => by
    cases h
    simp [PyData.canLay0] at c
theorem rp_readsAll {P : Program} {w : World} {T : Nat → V} {H : Hp} {S : Addr → Prop} {h : Heap} (ok : HOk P w H h) : ∀ (ds : List D) (vs : List V) (us : List Value), PyData.canLayAll0 ds = true → RpAll T H S vs ds → Vals vs us → ∃ as, ReadsAll h us ds as
  | [], _, _, _, h, r => by
    cases h
    cases r
    exact ⟨_, ReadsAll.nil⟩
  | d :: ds, _, _, c, h, r => by
    have c' : d.canLay0 = true ∧ PyData.canLayAll0 ds = true := by simpa [PyData.canLayAll0] using c
    cases h with
    | cons h1 h2 =>
      cases r with
      | cons r1 r2 =>
        obtain ⟨as, q1⟩ := rp_reads ok d _ _ c'.1 h1 r1
        obtain ⟨bs, q2⟩ := rp_readsAll ok ds _ _ c'.2 h2 r2
        exact ⟨_, ReadsAll.cons q1 q2⟩
end
def qIn (neg : Bool) (f g : QF) : QF := fun ρ => match f ρ, g ρ with
  | some x, some (.list ds) => if (SeqAt.shaped x && PyData.canLayAll0 ds) = true then some (.bool (if neg = true then !inD x ds else inD x ds)) else none
  | some x, some (.tuple ds) => if (SeqAt.shaped x && PyData.canLayAll0 ds) = true then some (.bool (if neg = true then !inD x ds else inD x ds)) else none
  | _, _ => none
omit [Tabs] in
theorem q_in (ha : QE mg scope ns a f) (hb : QE mg scope ns b g) (hm : behindInMarks .In b = false := by with_unfolding_all rfl) : QE mg scope ns (.Compare a [.In] [b] pos) (qIn false f g) := by
  refine ⟨fun P w T H S ρ cenv s A E Q d hA x e k => ?_⟩
  unfold qIn at e
  split at e
  · rename_i y ds h1 h2
    split at e
    · rename_i hc
      rw [Bool.and_eq_true] at hc
      cases e
      refine wpAny_Compare1 (ha.run P w T H S ρ cenv s A E _ _ hA x h1 fun v u s1 k1 r1 t1 => hb.run P w T H S ρ cenv s1 A E _ _ hA (x.keeps k1) h2 fun v2 u2 s2 k2 r2 t2 => ?_) hm
      have ok := ((x.keeps k1).keeps k2).ok
      obtain ⟨as, q1⟩ := rp_reads ok y v u (SeqAt.canLay_of_shaped hc.1) t1 r1
      obtain ⟨bs, q2⟩ := rp_reads ok _ v2 u2 (by simpa [PyData.canLay0] using hc.2) t2 r2
      refine SeqAt.in_list_reads q2 q1 hc.2 (SeqAt.canLay_of_shaped hc.1) ?_ (k (.bl _) _ _ (keeps_trans k1 k2) rfl (.bl _))
      have z1 := SeqAt.depth_of_shaped hc.1
      have z2 : min (PyData.depthAll ds) y.depth ≤ y.depth := Nat.min_le_right _ _
      have z3 := hA.un
      omega
    · cases e
  · rename_i y ds h1 h2
    split at e
    · rename_i hc
      rw [Bool.and_eq_true] at hc
      cases e
      refine wpAny_Compare1 (ha.run P w T H S ρ cenv s A E _ _ hA x h1 fun v u s1 k1 r1 t1 => hb.run P w T H S ρ cenv s1 A E _ _ hA (x.keeps k1) h2 fun v2 u2 s2 k2 r2 t2 => ?_) hm
      have ok := ((x.keeps k1).keeps k2).ok
      obtain ⟨as, q1⟩ := rp_reads ok y v u (SeqAt.canLay_of_shaped hc.1) t1 r1
      obtain ⟨bs, q2⟩ := rp_reads ok _ v2 u2 (by simpa [PyData.canLay0] using hc.2) t2 r2
      refine SeqAt.in_tuple_reads q2 q1 hc.2 (SeqAt.canLay_of_shaped hc.1) ?_ (k (.bl _) _ _ (keeps_trans k1 k2) rfl (.bl _))
      have z1 := SeqAt.depth_of_shaped hc.1
      have z2 : min (PyData.depthAll ds) y.depth ≤ y.depth := Nat.min_le_right _ _
      have z3 := hA.un
      omega
    · cases e
  · cases e
omit [Tabs] in
theorem q_notin (ha : QE mg scope ns a f) (hb : QE mg scope ns b g) (hm : behindInMarks .NotIn b = false := by with_unfolding_all rfl) : QE mg scope ns (.Compare a [.NotIn] [b] pos) (qIn true f g) := by
  refine ⟨fun P w T H S ρ cenv s A E Q d hA x e k => ?_⟩
  unfold qIn at e
  split at e
  · rename_i y ds h1 h2
    split at e
    · rename_i hc
      rw [Bool.and_eq_true] at hc
      cases e
      refine wpAny_Compare1 (ha.run P w T H S ρ cenv s A E _ _ hA x h1 fun v u s1 k1 r1 t1 => hb.run P w T H S ρ cenv s1 A E _ _ hA (x.keeps k1) h2 fun v2 u2 s2 k2 r2 t2 => ?_) hm
      have ok := ((x.keeps k1).keeps k2).ok
      obtain ⟨as, q1⟩ := rp_reads ok y v u (SeqAt.canLay_of_shaped hc.1) t1 r1
      obtain ⟨bs, q2⟩ := rp_reads ok _ v2 u2 (by simpa [PyData.canLay0] using hc.2) t2 r2
      refine SeqAt.notIn_list_reads q2 q1 hc.2 (SeqAt.canLay_of_shaped hc.1) ?_ (k (.bl _) _ _ (keeps_trans k1 k2) rfl (.bl _))
      have z1 := SeqAt.depth_of_shaped hc.1
      have z2 : min (PyData.depthAll ds) y.depth ≤ y.depth := Nat.min_le_right _ _
      have z3 := hA.un
      omega
    · cases e
  · rename_i y ds h1 h2
    split at e
    · rename_i hc
      rw [Bool.and_eq_true] at hc
      cases e
      refine wpAny_Compare1 (ha.run P w T H S ρ cenv s A E _ _ hA x h1 fun v u s1 k1 r1 t1 => hb.run P w T H S ρ cenv s1 A E _ _ hA (x.keeps k1) h2 fun v2 u2 s2 k2 r2 t2 => ?_) hm
      have ok := ((x.keeps k1).keeps k2).ok
      obtain ⟨as, q1⟩ := rp_reads ok y v u (SeqAt.canLay_of_shaped hc.1) t1 r1
      obtain ⟨bs, q2⟩ := rp_reads ok _ v2 u2 (by simpa [PyData.canLay0] using hc.2) t2 r2
      refine SeqAt.notIn_tuple_reads q2 q1 hc.2 (SeqAt.canLay_of_shaped hc.1) ?_ (k (.bl _) _ _ (keeps_trans k1 k2) rfl (.bl _))
      have z1 := SeqAt.depth_of_shaped hc.1
      have z2 : min (PyData.depthAll ds) y.depth ≤ y.depth := Nat.min_le_right _ _
      have z3 := hA.un
      omega
    · cases e
  · cases e
/-- a chain of three comparisons of ints -/
def qCh3 (F G K : Int → Int → Bool) (f g h l : QF) : QF := fun ρ => match f ρ, g ρ, h ρ, l ρ with
  | some (.int i), some (.int j), some (.int k), some (.int m) => some (.bool (F i j && (G j k && K k m)))
  | _, _, _, _ => none
omit [Tabs] in
theorem q_ch3 {e4 : Expr} {l : QF} {op op' op'' : CmpOp} {F G K : Int → Int → Bool} (ho : OpI (compareOp op) fun i j => some (.bool (F i j))) (ho' : OpI (compareOp op') fun i j => some (.bool (G i j))) (ho'' : OpI (compareOp op'') fun i j => some (.bool (K i j)))
    (ha : QE mg scope ns a f) (hb : QE mg scope ns b g) (hc : QE mg scope ns c h) (hd : QE mg scope ns e4 l)
    (hm : lastMarks [op, op', op''] [b, c, e4] = false := by with_unfolding_all rfl) : QE mg scope ns (.Compare a [op, op', op''] [b, c, e4] pos) (qCh3 F G K f g h l) := by
  refine ⟨fun P w T H S ρ cenv s A E Q d hA x e k => ?_⟩
  unfold qCh3 at e
  split at e
  · rename_i i j z m h1 h2 h3 h4
    cases e
    refine Compare_chain (ha.run P w T H S ρ cenv s A E _ _ hA x h1 fun v u s1 k1 r1 t1 => chain_link (hb.run P w T H S ρ cenv s1 A E _ _ hA (x.keeps k1) h2 fun v2 u2 s2 k2 r2 t2 => ?_)) hm
    obtain ⟨_, rfl⟩ := rel_int r1 t1
    obtain ⟨_, rfl⟩ := rel_int r2 t2
    refine ho P w A E _ s2 i j _ _ _ rfl (fun _ _ _ => trivial) fun v3 y s3 k3 r3 t3 => ?_
    have e3 := rel_bool r3 (t3 T H S)
    subst e3
    refine wpAny_truthy_bool ?_
    have k123 := keeps_trans k1 (keeps_trans k2 k3)
    cases hF : F i j with
    | false => exact ite_ff (k (.bl false) _ _ k123 rfl (by rw [hF, Bool.false_and]; exact .bl _))
    | true =>
      refine ite_tt (chain_link (hc.run P w T H S ρ cenv s3 A E _ _ hA (x.keeps k123) h3 fun v4 u4 s4 k4 r4 t4 => ?_))
      obtain ⟨_, rfl⟩ := rel_int r4 t4
      refine ho' P w A E _ s4 j z _ _ _ rfl (fun _ _ _ => trivial) fun v5 y5 s5 k5 r5 t5 => ?_
      have e5 := rel_bool r5 (t5 T H S)
      subst e5
      refine wpAny_truthy_bool ?_
      have k5' := keeps_trans k123 (keeps_trans k4 k5)
      cases hG : G j z with
      | false => exact ite_ff (k (.bl false) _ _ k5' rfl (by rw [hF, hG, Bool.true_and, Bool.false_and]; exact .bl _))
      | true =>
        refine ite_tt (chain_last (hd.run P w T H S ρ cenv s5 A E _ _ hA (x.keeps k5') h4 fun v6 u6 s6 k6 r6 t6 => ?_))
        obtain ⟨_, rfl⟩ := rel_int r6 t6
        exact ho'' P w A E _ s6 z m _ _ _ rfl (fun _ _ _ => trivial) fun v7 y7 s7 k7 r7 t7 => k v7 y7 s7 (keeps_trans k5' (keeps_trans k6 k7)) r7 (by rw [hF, hG, Bool.true_and, Bool.true_and]; exact t7 T H S)
  · cases e
end
end Eg

/-! E26: t[::-1] of a tuple. -/
namespace HT
open PySem PySem.Spec PyProof.Rows L2
section
variable {prog : Program} {w : World} {A : Around} {E : Value → Shared → Prop} {s : Shared}
theorem adjust_rev (n : Nat) : Builtin.Slice.sliceAdjust none none (-1) (n : Int) = ((n : Int) - 1, -1) := by
  unfold Builtin.Slice.sliceAdjust
  simp
theorem places_rev (n : Nat) : Builtin.Slice.slicePlaces ((n : Int) - 1) (-1) (-1) = n := by
  unfold Builtin.Slice.slicePlaces
  simp
  split <;> omega
theorem applied_rev {sl : Addr} {vs : Value} {n : Nat} {Q : Int × Int × Nat → Shared → Prop} (hs : s.heap.IsSliceOf sl .none .none vs) (ps : IsPart vs (some (-1)))
    (h : Q ((n : Int) - 1, -1, n) s) : wpAny (model prog w) A (Builtin.Slice.sliceApplied (.ref sl) (pure (n : Int))) Q E s := by
  obtain ⟨os, hos, hcs, hds⟩ := id hs
  unfold Builtin.Slice.sliceApplied Builtin.Slice.sliceFields
  refine wpAny_bind (wpAny_bind (wpAny_field hos hds (x := .none) rfl (wpAny_bind (wpAny_field hos hds (x := .none) rfl (wpAny_bind (wpAny_field hos hds (x := vs) rfl (wpAny_pure ?_)))))))
  refine wpAny_bind (slicePart_ ps ?_)
  show wpAny _ _ (if ((-1 : Int) == 0) = true then _ else _) _ _ s
  rw [if_neg (by decide)]
  refine wpAny_bind (slicePart_none (wpAny_bind (slicePart_none (wpAny_bind (wpAny_pure ?_)))))
  show wpAny _ _ (match Builtin.Slice.sliceAdjust none none (-1) (n : Int) with | (lo, hi) => pure (lo, (-1 : Int), Builtin.Slice.slicePlaces lo hi (-1))) _ _ s
  rw [adjust_rev n]
  show wpAny _ _ (pure ((n : Int) - 1, (-1 : Int), Builtin.Slice.slicePlaces ((n : Int) - 1) (-1) (-1))) _ _ s
  rw [places_rev]
  exact wpAny_pure h
theorem filterMap_same {α β : Type} {f g : α → Option β} : ∀ {l : List α}, (∀ x ∈ l, f x = g x) → l.filterMap f = l.filterMap g
  | [], _ => rfl
  | x :: l, h => by
    rw [List.filterMap_cons, List.filterMap_cons, h x List.mem_cons_self, filterMap_same fun y hy => h y (List.mem_cons_of_mem _ hy)]
theorem pick_rev (xs : Array Value) : ((List.range xs.size).filterMap fun (k : Nat) => xs[(((xs.size : Int) - 1) + (k : Int) * (-1)).toNat]?).toArray = xs.toList.reverse.toArray := by
  congr 1
  refine List.ext_getElem? fun i => ?_
  have e : (List.range xs.size).filterMap (fun (k : Nat) => xs[(((xs.size : Int) - 1) + (k : Int) * (-1)).toNat]?) = (List.range xs.size).map fun k => xs.getD (xs.size - 1 - k) .none := by
    rw [← List.filterMap_eq_map]
    refine filterMap_same fun k hk => ?_
    have hk' := List.mem_range.mp hk
    have e1 : (((xs.size : Int) - 1) + (k : Int) * (-1)).toNat = xs.size - 1 - k := by omega
    rw [e1]
    have h2 : xs.size - 1 - k < xs.size := by omega
    show xs[xs.size - 1 - k]? = some (xs.getD (xs.size - 1 - k) .none)
    rw [Array.getElem?_eq_getElem h2]
    simp [Array.getD, h2]
  rw [e]
  by_cases hi : i < xs.size
  · rw [List.getElem?_map, List.getElem?_range hi, List.getElem?_reverse (by simpa using hi)]
    have h2 : xs.size - 1 - i < xs.size := by omega
    simp [Array.getD, h2]
  · rw [List.getElem?_eq_none (by simp; omega), List.getElem?_eq_none (by simp; omega)]
theorem getItem_tuple_rev {t sl : Addr} {items : Array Value} {vs : Value} {Q : Value → Shared → Prop} (ht : IsTup s.heap t items) (hs : s.heap.IsSliceOf sl .none .none vs) (ps : IsPart vs (some (-1)))
    (h : Q (.ref s.heap.objs.size) { s with heap := s.heap.push { cls := .type "tuple", data := .seq items.toList.reverse.toArray } }) (hsz : items.size ≤ sizeLine) : wpAny (model prog w) A (getItem (.ref t) (.ref sl)) Q E s := by
  have hz : sizeOk (.seq items.toList.reverse.toArray) := by
    show items.toList.reverse.toArray.size ≤ sizeLine
    rw [List.size_toArray, List.length_reverse, Array.length_toList]; exact hsz
  obtain ⟨os, hos, hcs, hds⟩ := id hs
  have hTs : s.TypeIs (.ref sl) "slice" := ⟨os, hos, hcs⟩
  unfold getItem
  try with_reducible refine wpAny_holding ?_
  first | refine wpAny_bind (wpAny_pure ?_) | skip
  refine wpAny_bind (wpAny_sequenceKey ht.typeIs (by decide) ?_)
  refine wpAny_bind (wpAny_callSpecial?_slot (name := Str.ofString "__getitem__") ht.typeIs PyProof.Rows.slot_tuple_getitem
    (wpAny_call_entry PyProof.Rows.slot_tuple_getitem ht.typeIs entry_tuple_getitem ?_ (args_tuple_getitem _ _)))
  show wpAny _ _ (Builtin.Tuple.tupleItemsOf (.ref t) >>= _) _ _ s
  refine wpAny_bind (tupleItemsOf_ ht ?_)
  refine wpAny_bind (wpAny_typeOf hTs ?_)
  rw [if_pos (by decide)]
  refine wpAny_bind (applied_rev hs ps ?_)
  have hno : ¬ ((((items.size : Nat) : Int) - 1 == 0 && (-1 : Int) == 1 && items.size == items.size) = true) := by simp
  show wpAny _ _ (if (((items.size : Nat) : Int) - 1 == 0 && (-1 : Int) == 1 && items.size == items.size) = true then _ else _) _ _ s
  rw [if_neg hno, pick_rev]
  first
    | exact wpAny_bind (m := Builtin.Tuple.tupleExact _) (wpAny_newObj_type (wpAny_pure ⟨_, rfl, wpAny_pure h⟩) hz)
    | exact wpAny_bind (wpAny_bind (m := Builtin.Tuple.tupleExact _) (wpAny_newObj_type (wpAny_pure (wpAny_pure ⟨_, rfl, wpAny_pure h⟩)) hz))
    | exact wpAny_bind (wpAny_bind (m := Builtin.Tuple.tupleExact _) (wpAny_newObj_type (wpAny_pure ⟨_, rfl, wpAny_pure h⟩) hz))
end
end HT
namespace Eg
open PySem PySem.Spec PyProof.Rows L2
variable [Tabs]
def wRev (w : WE) : WE := fun env Q => w env fun d => match d with
  | .list ds => Q (.list ds.reverse)
  | .tuple ds => Q (.tuple ds.reverse)
  | _ => False
omit [Tabs] in
theorem monoRev {w : WE} (h : Mono w) : Mono (wRev w) := fun env Q Q' f q => h _ _ _ (fun d q => by cases d <;> first | exact q.elim | exact f _ q) q
omit [Tabs] in
theorem slot_of_list {X : Cx} : True := trivial
section
variable {X : Cx} {e : Expr} {k : Nat} {p1 p2 p3 pos : Pos} {w : WE}
theorem rev_ (he : PP X e w) : PV X (.Subscript e (.Slice none none (some (.UnaryOp .USub (.Constant (.int 1) k p1) p2)) p3) pos) (wRev w) := by
  refine ⟨⟨fun pins s σ H Q I ⟨W, env, S, R, h⟩ => ?_⟩, monoRev he.mono⟩
  refine Subscript_ (thn (he.pe.run pins s σ H (fun v H1 => ∃ d, KpJ W H H1 ∧ Top W H1 S v d ∧ (match d with
    | .list ds => ∀ v H', KpJ W H H' → Rp W.T H' S v (.list ds.reverse) → Q v H'
    | .tuple ds => ∀ v H', KpJ W H H' → Rp W.T H' S v (.tuple ds.reverse) → Q v H'
    | _ => False)) I ⟨W, env, S, R, he.mono _ _ _ (fun d q v H1 k1 t1 => ⟨d, k1, t1, by cases d <;> exact q⟩) h⟩) fun v s1 ⟨x, H1, I1, r1, d, k1, t1, q1⟩ => ?_)
  have hst : PO X (some (.UnaryOp .USub (.Constant (.int 1) k p1) p2)) (tPart (tUn (rU fun i => .int (-i)) (tC (.int 1)))) := po_some (pe_un un_neg pe_int)
  refine wpAny_Slice (thn (po_none.run pins s1 σ H1 (fun o H2 => o = none ∧ H2 = H1) I1 ⟨rfl, rfl⟩) fun vl s2 ⟨l, H2, I2, pl, el, e2⟩ => ?_)
  subst el e2
  refine thn (po_none.run pins s2 σ H2 (fun o H3 => o = none ∧ H3 = H2) I2 ⟨rfl, rfl⟩) fun vu s3 ⟨u, H3, I3, pu, eu, e3⟩ => ?_
  subst eu e3
  refine thn (hst.run pins s3 σ H3 (fun o H4 => o = some (-1) ∧ H4 = H3) I3 ⟨1, rfl, -1, rfl, rfl, rfl⟩) fun vs s4 ⟨o, H4, I4, ps, eo, e4⟩ => ?_
  subst eo e4
  cases pl
  cases pu
  have I5 : Inv X pins σ H4 { s4 with heap := s4.heap.push { cls := .type "slice", data := .fields #[.none, .none, vs] } } := I4.kept (t' := s4.toks) fun b ob q => Heap.get?_push_of_some _ q
  have c1 := (R.kept k1).cn
  cases d with
  | list ds =>
    obtain ⟨a, xs, rfl, ha, ra⟩ := t1.list
    cases r1
    obtain ⟨its, r, ht, hz⟩ := I5.list (.inl (.inl ha) : SqL X.K H4 a xs)
    have hlen := r.length
    refine tail_any (ops := [.ref a, .ref s4.heap.objs.size]) ht.isList.typeIs (PySem.slot_list_getitem.lookup) ?_ (by with_unfolding_all rfl)
    refine wpAny_getItem_list_slice ht.isList (Heap.IsSliceOf.new _ .none .none vs) .none .none ps (by decide) ?_ (by rw [List.size_toArray]; omega)
    rw [PySem.W.krv_pick]
    have hn := I5.hok.fresh (Nat.le_refl _)
    have J := I5.laid (t' := s4.toks) (o := .lst xs.reverse) (fun b ob q => Heap.get?_push_of_some _ q) (Nat.le_refl _) ⟨by rw [List.length_reverse]; exact hz, _, 0, r.reverse, Heap.get?_push_size _ rfl⟩
    exact ⟨.ref _, _, J, rfl, q1 _ _ (k1.trans (.new c1.j hn)) (.lst upd_same (c1.np hn) ((ra.rev.plus hn).less fun _ s => .inl s))⟩
  | tuple ds =>
    obtain ⟨a, xs, rfl, ha, na, ra⟩ := t1.tuple
    cases r1
    obtain ⟨its, r, ht, hz⟩ := I5.tuple (.inl (.inl ha) : SqT X.K H4 a xs)
    have hlen := r.length
    refine tail_any (ops := [.ref a, .ref s4.heap.objs.size]) ht.typeIs (PyProof.Rows.slot_tuple_getitem.lookup) ?_ (by with_unfolding_all rfl)
    refine HT.getItem_tuple_rev ht (Heap.IsSliceOf.new _ .none .none vs) ps ?_ (by rw [List.size_toArray]; omega)
    have hn := I5.hok.fresh (Nat.le_refl _)
    have J := I5.laid (t' := s4.toks) (o := .tup xs.reverse) (fun b ob q => Heap.get?_push_of_some _ q) (Nat.le_refl _) ⟨by rw [List.length_reverse]; exact hz, _, r.reverse, IsTup.new _ _⟩
    exact ⟨.ref _, _, J, rfl, q1 _ _ (k1.trans (.new c1.j hn)) (.tup upd_same (c1.np hn) ((ra.rev.plus hn).less fun _ s => .inl s))⟩
  | _ => exact q1.elim
end
end Eg

/-! E27: a chain of comparisons as a test. -/
namespace Eg
open PySem PySem.Spec PyProof.Rows L2
variable [Tabs]
section
variable {X : Cx} {e a b c : Expr} {w wa wb wc : WE} {pos : Pos}
theorem tchain_ {op op' : CmpOp} {r r' : R2} {g g' : G2} (ho : OpR X (compareOp op) r) (ho' : OpR X (compareOp op') r') (hg : Bop r g) (hg' : Bop r' g') (ha : PP X a wa) (hb : PP X b wb) (hc : PP X c wc)
    (hm : lastMarks [op, op'] [b, c] = false := by with_unfolding_all rfl) : PTv X (.Compare a [op, op'] [b, c] pos) (wTB (wCh g g' wa wb wc)) := by
  refine ⟨(pt_chain ho ho' ha.pe hb.pe hc.pe hm).imp fun σ H Q ⟨W, env, S, R, h⟩ => ?_, fun env Q Q' f q => monoCh hg.mono hg'.mono ha.mono hb.mono hc.mono _ _ _ (fun d g => by cases d <;> first | exact g.elim | exact f _ g) q⟩
  refine ⟨W, env, S, R, ha.mono _ _ _ (fun dx h1 x H1 k1 t1 => ?_) h⟩
  refine ⟨W, env, S, R.kept k1, hb.mono _ _ _ (fun dy h2 y H2 k2 t2 => ?_) h1⟩
  refine hg.to W S H2 x y dx dy _ _ ((R.cn.kept k1).kept k2) (t1.kept k2 R.sm) t2 h2 fun d v H3 hG k3 r3 => ?_
  cases d with
  | bool z =>
    cases r3
    refine ⟨z, rfl, ?_⟩
    cases z with
    | true =>
      refine ⟨W, env, S, (R.kept k1).kept (k2.trans k3), hc.mono _ _ _ (fun dw h4 u H4 k4 t4 => ?_) hG⟩
      refine hg'.to W S H4 y u dy dw _ _ (((R.cn.kept k1).kept k2).kept (k3.trans k4)) (t2.kept (k3.trans k4) R.sm) t4 h4 fun d v H' hG k5 r5 => ?_
      cases d with
      | bool z' => cases r5; exact ⟨z', rfl, hG H' ((((k1.trans k2).trans k3).trans k4).trans k5)⟩
      | _ => exact hG.elim
    | false => exact ⟨false, rfl, hG H3 ((k1.trans k2).trans k3)⟩
  | _ => exact hG.elim
end
end Eg

/-! E28: dicts that a slot alone holds. -/
namespace Eg
open PySem PySem.Spec PyProof.Rows L2
variable [Tabs]
def keyD : D → Option Key
  | .int i => some (.inl i)
  | .str x => some (.inr x)
  | _ => none
def valD (kvs : List (Key × D)) (k : Key) : Option D := (kvs.find? fun kv => decide (kv.1 = k)).map (·.2)
def putD (kvs : List (Key × D)) (k : Key) (v : D) : List (Key × D) :=
  if (kvs.any fun kv => decide (kv.1 = k)) = true then kvs.map (fun kv => if kv.1 = k then (kv.1, v) else kv) else kvs ++ [(k, v)]
theorem key_top {W : Wd} {H : Hp} {S : Addr → Prop} {v : V} {d : D} {k : Key} (t : Top W H S v d) (e : keyD d = some k) : v = kV k := by
  cases d <;> first | (cases e; first | exact t.int | exact t.str) | cases e
section
variable {T : Nat → V} {H : Hp} {S : Addr → Prop}
omit [Tabs] in
theorem val_rp : ∀ {vs : List (Key × V)} {ds : List (Key × D)} (k : Key), vs.map (·.1) = ds.map (·.1) → RpAll T H S (vs.map (·.2)) (ds.map (·.2)) →
    (∀ d, valD ds k = some d → ∃ v, valV vs k = some v ∧ Rp T H S v d) ∧ (valD ds k = none → valV vs k = none)
  | [], [], k, _, _ => ⟨(fun d e => by cases e), fun _ => rfl⟩
  | [], _ :: _, k, e, _ => nomatch e
  | _ :: _, [], k, e, _ => nomatch e
  | (a, v) :: vs, (b, d) :: ds, k, e, r => by
    rw [List.map_cons, List.map_cons] at e
    injection e with e1 e2
    have e1' : a = b := e1
    subst e1'
    rw [List.map_cons, List.map_cons] at r
    cases r with
    | cons r1 r2 =>
      have ih := val_rp k e2 r2
      unfold valD valV at ih ⊢
      by_cases h : a = k
      · subst h
        refine ⟨fun d' e => ?_, fun e => ?_⟩
        · simp at e
          subst e
          exact ⟨v, by simp, r1⟩
        · simp at e
      · simp [List.find?_cons, h] at ih ⊢
        exact ih
omit [Tabs] in
theorem any_key : ∀ {vs : List (Key × V)} {ds : List (Key × D)} (k : Key), vs.map (·.1) = ds.map (·.1) → (vs.any fun kv => decide (kv.1 = k)) = ds.any fun kv => decide (kv.1 = k)
  | [], [], k, _ => rfl
  | [], _ :: _, k, e => nomatch e
  | _ :: _, [], k, e => nomatch e
  | (a, v) :: vs, (b, d) :: ds, k, e => by
    rw [List.map_cons, List.map_cons] at e
    injection e with e1 e2
    have e1' : a = b := e1
    subst e1'
    rw [List.any_cons, List.any_cons, any_key k e2]
omit [Tabs] in
theorem put_map {v : V} {d : D} (k : Key) (r0 : Rp T H S v d) : ∀ {vs : List (Key × V)} {ds : List (Key × D)}, vs.map (·.1) = ds.map (·.1) → RpAll T H S (vs.map (·.2)) (ds.map (·.2)) →
    (vs.map fun kv => if kv.1 = k then (kv.1, v) else kv).map (·.1) = (ds.map fun kv => if kv.1 = k then (kv.1, d) else kv).map (·.1) ∧ RpAll T H S ((vs.map fun kv => if kv.1 = k then (kv.1, v) else kv).map (·.2)) ((ds.map fun kv => if kv.1 = k then (kv.1, d) else kv).map (·.2))
  | [], [], _, _ => ⟨rfl, .nil⟩
  | [], _ :: _, e, _ => nomatch e
  | _ :: _, [], e, _ => nomatch e
  | (a, u) :: vs, (b, c) :: ds, e, r => by
    rw [List.map_cons, List.map_cons] at e
    injection e with e1 e2
    have e1' : a = b := e1
    subst e1'
    rw [List.map_cons, List.map_cons] at r
    cases r with
    | cons r1 r2 =>
      obtain ⟨h1, h2⟩ := put_map k r0 e2 r2
      by_cases h : a = k
      · simp only [List.map_cons, h, if_true]
        exact ⟨by rw [h1], .cons r0 h2⟩
      · simp only [List.map_cons, h, if_false]
        exact ⟨by rw [h1], .cons r1 h2⟩
omit [Tabs] in
theorem put_rp {vs : List (Key × V)} {ds : List (Key × D)} {k : Key} {v : V} {d : D} (e : vs.map (·.1) = ds.map (·.1)) (r : RpAll T H S (vs.map (·.2)) (ds.map (·.2))) (r0 : Rp T H S v d) :
    (putK vs k v).map (·.1) = (putD ds k d).map (·.1) ∧ RpAll T H S ((putK vs k v).map (·.2)) ((putD ds k d).map (·.2)) := by
  unfold putK putD
  rw [any_key k e]
  split
  · exact put_map k r0 e r
  · rw [List.map_append, List.map_append, List.map_append, List.map_append]
    exact ⟨by rw [e]; rfl, r.append (.cons r0 .nil)⟩
end
theorem RlS.dict_at {W : Wd} {env : En} {S : Addr → Prop} {σ : L2.St} {H : Hp} (R : RlS W env S σ H) {i : Nat} {kvs : List (Key × D)} (e : env.at i = .od kvs) : ∃ a vs, σ[i]? = some (some (.ref a)) ∧ OwnD W S H a vs kvs := by
  have s := R.sl i
  rw [e] at s
  exact s
/-! ### name = {} -/
def wOwnD (i : Nat) : WS := fun env P => P.nx (env.set i (.od []))
section
variable {X : Cx} {e f a b : Expr} {wk wx : WE} {p1 p2 p3 pos pos' cpos : Pos}
theorem ownD_ (i : Nat) {x : Str} (hN : X.N.Nodup) (hi : X.N[i]? = some x := by rfl) (hx : Loc X.env.scope x := by first | exact Or.inl rfl | exact Or.inr rfl) (hs : swapsWith (.Dict [] [] p1) (some (.Name x pos')) pos.line X.env = pure false := by rfl)
    (hf : X.fn x = true ∨ X.env.scope.names.lookup x = some .local := by first | exact .inl rfl | exact .inr rfl | assumption) : PSv X (.Assign [.Name x pos'] (.Dict [] [] p1) pos) (wOwnD i) := by
  refine ⟨(ps_set hN hi hx pe_dnewK hs hf).imp fun D σ H ⟨W, env, S, R, q⟩ => ?_, fun env P P' l q => l.nx _ q⟩
  intro p hp
  have k := KpJ.new (o := HO.dK []) R.j hp
  exact q _ _ _ (R.setOd (vs := []) (ds := []) hp k upd_same rfl .nil)
/-! ### name[k] = e -/
def wDPut (i : Nat) (wk wx : WE) : WS := fun env P => match env.at i with
  | .od kvs => wx env fun x => wk env fun k => match keyD k with
    | some key => kvs.length < sizeLine ∧ P.nx (env.set i (.od (putD kvs key x)))
    | none => False
  | _ => False
theorem dput_ (i : Nat) {x : Str} (hu : X.A.units + 1 < cLine) (hk : PP X a wk) (hx : PV X e wx) (hN : X.N[i]? = some x := by rfl) (hv : Vis X.env.scope x := by first | exact Or.inl rfl | exact Or.inr (Or.inl rfl) | exact Or.inr (Or.inr rfl)) (hd : (x == ("__debug__" : Str)) = false := by decide)
    (hcd : (x == ("__classdict__" : Str)) = false := by decide) (hs : swapsWith e (some (.Subscript (.Name x p1) a p2)) pos.line X.env = pure false := by rfl) : PSv X (.Assign [.Subscript (.Name x p1) a p2] e pos) (wDPut i wk wx) := by
  refine ⟨(ps_dput hu (pe_var hN hv hd hcd) hk.pe hx.pe hs).imp fun D σ H ⟨W, env, S, R, q⟩ => ?_, fun env P P' l q => ?_⟩
  · unfold wDPut at q
    cases h : env.at i with
    | od kvs =>
      rw [h] at q
      refine ⟨W, env, S, R, hx.mono _ _ _ (fun d q v H1 k1 r1 => ?_) q⟩
      obtain ⟨p, vs, es, O⟩ := R.dict_at h
      refine ⟨.ref p, es, W, env, S, R.kept k1, hk.mono _ _ _ (fun kd q y H2 k2 t2 => ?_) q⟩
      cases hkd : keyD kd with
      | none => rw [hkd] at q; exact q.elim
      | some key =>
        rw [hkd] at q
        have ey := key_top t2 hkd
        subst ey
        have k12 := k1.trans k2
        have O2 := O.kept k12 R.sm
        have R2 := R.kept k12
        have hl : vs.length = kvs.length := by
          have := congrArg List.length O.k
          simpa using this
        refine ⟨p, _, rfl, DPut.k O2.h (by rw [hl]; exact q.1), ?_⟩
        obtain ⟨h1, h2⟩ := put_rp (k := key) O2.k O2.r (r1.kept k2 R.sm)
        have hil : i < env.length := by
          have := (List.getElem?_eq_some_iff.mp es).1
          rw [R.len]; exact this
        exact q.2 _ _ _ (R2.writeD h es hil h1 h2)
    | _ => rw [h] at q; exact q.elim
  · unfold wDPut at q ⊢
    cases h : env.at i with
    | od kvs =>
      rw [h] at q
      exact hx.mono _ _ _ (fun d q => hk.mono _ _ _ (fun kd q => by
        cases hkd : keyD kd with
        | none => rw [hkd] at q; exact q.elim
        | some key => rw [hkd] at q; exact ⟨q.1, l.nx _ q.2⟩) q) q
    | _ => rw [h] at q; exact q.elim
/-! ### name.get(k, e) -/
def wDGet2 (i : Nat) (wk wx : WE) : WE := fun env Q => match env.at i with
  | .od kvs => wk env fun k => wx env fun x => match keyD k with
    | some key => Q ((valD kvs key).getD x)
    | none => False
  | _ => False
theorem dget2_ (i : Nat) {x : Str} (hu : X.A.units + 1 < cLine) (hk : PP X a wk) (hx : PV X e wx) (m : M2 X (.Name x p1) "get" p2 a e cpos) (hN : X.N[i]? = some x := by rfl) (hv : Vis X.env.scope x := by first | exact Or.inl rfl | exact Or.inr (Or.inl rfl) | exact Or.inr (Or.inr rfl)) (hd : (x == ("__debug__" : Str)) = false := by decide)
    (hcd : (x == ("__classdict__" : Str)) = false := by decide) : PV X (.Call (.Attribute (.Name x p1) "get" p2) [a, e] [] cpos) (wDGet2 i wk wx) := by
  refine ⟨(pe_dget2 hu (pe_var hN hv hd hcd) hk.pe hx.pe m).imp fun σ H Q ⟨W, env, S, R, q⟩ => ?_, fun env Q Q' f q => ?_⟩
  · unfold wDGet2 at q
    cases h : env.at i with
    | od kvs =>
      rw [h] at q
      obtain ⟨p, vs, es, O⟩ := R.dict_at h
      refine ⟨.ref p, es, p, rfl, .inl ⟨vs, .inl O.h⟩, W, env, S, R, hk.mono _ _ _ (fun kd q y H2 k2 t2 => ?_) q⟩
      refine ⟨W, env, S, R.kept k2, hx.mono _ _ _ (fun d q v H3 k3 r3 => ?_) q⟩
      cases hkd : keyD kd with
      | none => rw [hkd] at q; exact q.elim
      | some key =>
        rw [hkd] at q
        have ey := key_top t2 hkd
        subst ey
        have O3 := O.kept (k2.trans k3) R.sm
        refine ⟨_, DGet.k O3.h, ?_⟩
        obtain ⟨h1, h2⟩ := val_rp key O3.k O3.r
        have q : ∀ v H', KpJ W H H' → Rp W.T H' S v ((valD kvs key).getD d) → Q v H' := q
        cases hv : valD kvs key with
        | some d' =>
          obtain ⟨v', e1, r1⟩ := h1 d' hv
          rw [hv] at q
          rw [e1]
          exact q v' H3 (k2.trans k3) r1
        | none =>
          rw [hv] at q
          rw [h2 hv]
          exact q v H3 (k2.trans k3) r3
    | _ => rw [h] at q; exact q.elim
  · unfold wDGet2 at q ⊢
    cases h : env.at i with
    | od kvs =>
      rw [h] at q
      exact hk.mono _ _ _ (fun kd q => hx.mono _ _ _ (fun d q => by
        cases hkd : keyD kd with
        | none => rw [hkd] at q; exact q.elim
        | some key => rw [hkd] at q; exact f _ q) q) q
    | _ => rw [h] at q; exact q.elim
end
end Eg

/-! E29: sorted of a dict, d[k], k in d. -/
namespace Eg
open PySem PySem.Spec PyProof.Rows L2
variable [Tabs]
omit [Tabs] in
theorem ints_eachT {h : Heap} : ∀ {us : List Value} {ks : List Int}, IntsAre us ks → PySem.W.EachIs (fun v b => ∃ t, v = Value.int b t) us ks ∧ ∀ a, PySem.W.EachIs (fun v b => ∃ as, Reads h v (PyData.int b) as ∧ a ∉ as) us ks
  | _, _, .nil => ⟨.nil, fun _ => .nil⟩
  | _, _, .cons n t r => ⟨.cons ⟨t, rfl⟩ (ints_eachT (h := h) r).1, fun a => .cons ⟨[], .int n t, by simp⟩ ((ints_eachT r).2 a)⟩
omit [Tabs] in
theorem eachT_vals : ∀ {us : List Value} {ks : List Int}, PySem.W.EachIs (fun v b => ∃ t, v = Value.int b t) us ks → Vals (ks.map V.int) us
  | _, _, .nil => .nil
  | _, _, .cons ⟨t, e⟩ r => by subst e; exact .cons ⟨t, rfl⟩ (eachT_vals r)
def rSortDI : List V → Hp → VK → Prop := fun xs H Q => ∃ (a : Addr) (kvs : List (Key × V)) (ks : List Int), xs = [.ref a] ∧ Rd H a (.dK kvs) ∧ kvs.map (·.1) = ks.map Sum.inl ∧ ∀ p, H p = none → Q (.ref p) (upd H p (.lst ((sortI ks).map V.int)))
omit [Tabs] in
theorem cr_sortDI {X : Cx} (hcalm : X.calm = true) (hu : X.A.units + 67 < cLine) : CallR X (.builtin "sorted") rSortDI := by
  intro pins s σ H xs us Q I r q
  obtain ⟨a, kvs, ks, ex, hd, hks, q⟩ := q
  subst ex
  rw [Vals.ref1 r]
  obtain ⟨z, lo, vs, rel, dd⟩ := dk_rd I.hok hd
  obtain ⟨ep, hat⟩ := dd.dictAt
  have hkeys : vs.map (·.1) = ks.map Sum.inl := rel.keys.symm.trans hks
  have hl : vs.length = ks.length := by
    have e := congrArg List.length hkeys
    rw [List.length_map, List.length_map] at e
    exact e
  have h16 : vs.length ≤ sizeLine := by rw [← rel.length]; exact z
  refine Calls.call_function_entry PyProof.Rows.kind_sorted PyProof.Rows.plain_sorted PyProof.Rows.entry_sorted (PyProof.Rows.args_sorted1 _) ?_
  unfold Builtin.«sorted»
  refine wpAny_bind (m := checkCount "sorted" 1 1 _) (wpAny_pure ?_)
  refine wpAny_bind (PySem.W.kdu_collect (A := X.A.in1) (PySem.W.kdl_dict (knd := mixKind X.prog X.w) (kvs := vs) (ep := ep) lo) (I.ok.hd hcalm) hat h16 fun h' tk acc hk hacc => ?_)
  have hal : acc.toList.length = ks.length := by rw [Array.length_toList, hacc.1, hl]
  have hS : IntsAre acc.toList ks := ints_each hal fun j v e => by
    obtain ⟨k, x, e1, e2⟩ := hacc.2 j v (by rw [← Array.getElem?_toList]; exact e)
    have e3 : (vs.map (·.1))[j]? = some k := by rw [List.getElem?_map, e1]; rfl
    rw [hkeys, List.getElem?_map] at e3
    cases e4 : ks[j]? with
    | none => rw [e4] at e3; cases e3
    | some y =>
      rw [e4] at e3
      have e5 : Sum.inl y = k := Option.some.inj e3
      subst e5
      rcases keyIs_shape (show keyIs (Sum.inl y) v = true from e2) with ⟨i, t, ek, ev⟩ | ⟨z, t, ek, ev⟩
      · cases ek
        exact ⟨y, t, rfl, ev⟩
      · cases ek
  have I1 : Inv X pins σ H { s with heap := h', toks := tk } := I.kept hk
  refine wpAny_bind (wpAny_newList ?_ (by rw [hal, ← hl]; exact h16))
  have hoL : (h'.push (seqObj "list" acc.toList.toArray 0)).get? h'.objs.size = some (seqObj "list" acc.toList.toArray 0) := Heap.get?_push_size _ rfl
  show wpAny _ _ _ _ _ { s with heap := h'.push (seqObj "list" acc.toList.toArray 0), toks := tk }
  obtain ⟨e1, e2⟩ := ints_eachT (h := h'.push (seqObj "list" acc.toList.toArray 0)) hS
  refine wpAny_bind (wpAny_holding (PySem.W.list_sort_data (enc := PyData.int) (s := { s with heap := h'.push (seqObj "list" acc.toList.toArray 0), toks := tk }) hoL e1 (e2 _) alike_ints sortable_intsW (by rw [← hl]; exact h16) (fun b hb => ?_) fun out ho eo => ?_))
  · show X.A.in1.units + 1 + (PyData.int b).depth < cLine
    have : X.A.in1.units ≤ X.A.units + 1 := by simp [Around.in1]
    simp [PyData.depth]
    omega
  have eo' : PySem.W.EachIs (fun v b => ∃ t, v = Value.int b t) out (sortI ks) := by
    have e : PySem.W.dataLe false PyData.int = fun (a b : Int) => decide (a ≤ b) := PySem.W.dataLe_int (fun b : Int => b)
    unfold sortI
    rw [← e]
    exact eo
  obtain ⟨e', he'⟩ := PyProof.Rows.sortedHeap_at (vs := acc.toList) (out := out.toArray) hoL
  have hlen : ((sortI ks).map V.int).length ≤ sizeLine := by
    have : (sortI ks).length = ks.length := (List.mergeSort_perm _ _).length_eq
    rw [List.length_map, this, ← hl]
    exact h16
  refine wpAny_pure ⟨_, rfl, .ref h'.objs.size, upd H h'.objs.size (.lst ((sortI ks).map V.int)), I1.laid (t' := tk) (fun b u e => ?_) (Nat.le_refl _)
    (show ObjOk X.prog X.w _ _ _ (.lst ((sortI ks).map V.int)) from ⟨hlen, out, e', eachT_vals eo', he'⟩), rfl, q _ (I1.hok.fresh (Nat.le_refl _))⟩
  have hb : b < h'.objs.size := Heap.lt_size e
  rw [PyProof.Rows.sortedHeap_old (Nat.ne_of_lt hb) (by rw [size_push']; exact Nat.lt_succ_of_lt hb)]
  exact Heap.get?_push_of_some _ e
def wSortD (i : Nat) : WE := fun env Q => match env.at i with
  | .od kvs => ∃ ks : List Int, kvs.map (·.1) = ks.map Sum.inl ∧ Q (.list ((sortI ks).map .int))
  | _ => False
def wDAt (i : Nat) (wk : WE) : WE := fun env Q => match env.at i with
  | .od kvs => wk env fun k => match keyD k with
    | some key => ∃ d, valD kvs key = some d ∧ Q d
    | none => False
  | _ => False
def wDIn (i : Nat) (neg : Bool) (wk : WE) : WE := fun env Q => match env.at i with
  | .od kvs => wk env fun k => match keyD k with
    | some key => Q (.bool ((valD kvs key).isSome != neg))
    | none => False
  | _ => False
section
variable {X : Cx} {a : Expr} {p p1 p2 q pos : Pos} {wk : WE}
theorem sortd_ (i : Nat) {x : Str} (hc : X.calm = true) (hu : X.A.units + 67 < cLine) (hg : Gl X "sorted") (hm : X.mg "sorted" = none) (hN : X.N[i]? = some x := by rfl) (hv : Vis X.env.scope x := by first | exact Or.inl rfl | exact Or.inr (Or.inl rfl) | exact Or.inr (Or.inr rfl)) (hd : (x == ("__debug__" : Str)) = false := by decide)
    (hcd : (x == ("__classdict__" : Str)) = false := by decide)
    (na : starEach [.Name x p1] X.env = (false, eval (.Name x p1) X.env) :: starEach [] X.env := by rfl) :
    PF X (.Call (.Name "sorted" p) [.Name x p1] [] pos) (wSortD i) := by
  refine ⟨⟨fun pins s σ H Q I ⟨W, env, S, R, h⟩ => ?_⟩, fun env Q Q' f q => ?_⟩
  · unfold wSortD at h
    cases he : env.at i with
    | od kvs =>
      rw [he] at h
      obtain ⟨ks, h1, h2⟩ := h
      obtain ⟨d, vs, es, O⟩ := R.dict_at he
      refine wpAny_Call_Name_kw (ld_blt (u := .builtin "sorted") I hg hm (by decide +kernel) ?_)
      refine PyProof.Rows.callWith_builtin1 (PyProof.Rows.args_cons (thn ((pe_var (x := x) (i := i) hN hv hd hcd).run pins s σ H (fun v H1 => v = .ref d ∧ H1 = H) I ⟨.ref d, es, rfl, rfl⟩) fun v s1 ⟨y, H1, I1, r1, ey, eH⟩ => PyProof.Rows.args_nil ?_) na) na (by rfl)
      subst ey eH
      exact cr_sortDI hc hu pins s1 σ _ [.ref d] [v] Q I1 (.cons r1 .nil) ⟨d, vs, ks, rfl, .inl O.h, O.k.trans h1, fun p2 h4 => h2 p2 _ _ _ rfl (.new R.j h4) h4 upd_same (ints_rp2 _)⟩
    | _ => rw [he] at h; exact h.elim
  · unfold wSortD at q ⊢
    cases h : env.at i with
    | od kvs => rw [h] at q; obtain ⟨ks, h1, h2⟩ := q; exact ⟨ks, h1, f _ h2⟩
    | _ => rw [h] at q; exact q.elim
theorem dat_ (i : Nat) {x : Str} (hu : X.A.units + 1 < cLine) (hk : PP X a wk) (hs : NoSl a := by exact fun _ _ => rfl) (hN : X.N[i]? = some x := by rfl) (hv : Vis X.env.scope x := by first | exact Or.inl rfl | exact Or.inr (Or.inl rfl) | exact Or.inr (Or.inr rfl)) (hd : (x == ("__debug__" : Str)) = false := by decide)
    (hcd : (x == ("__classdict__" : Str)) = false := by decide) : PV X (.Subscript (.Name x p1) a pos) (wDAt i wk) := by
  refine ⟨(pe_dget hu (pe_var hN hv hd hcd) hk.pe hs).imp fun σ H Q ⟨W, env, S, R, q⟩ => ?_, fun env Q Q' f q => ?_⟩
  · unfold wDAt at q
    cases h : env.at i with
    | od kvs =>
      rw [h] at q
      obtain ⟨p, vs, es, O⟩ := R.dict_at h
      refine ⟨.ref p, es, W, env, S, R, hk.mono _ _ _ (fun kd q y H2 k2 t2 => ?_) q⟩
      cases hkd : keyD kd with
      | none => rw [hkd] at q; exact q.elim
      | some key =>
        rw [hkd] at q
        have ey := key_top t2 hkd
        subst ey
        obtain ⟨d, e1, q⟩ := q
        have O2 := O.kept k2 R.sm
        obtain ⟨h1, h2⟩ := val_rp key O2.k O2.r
        obtain ⟨v, e2, r⟩ := h1 d e1
        exact ⟨p, v, rfl, by rw [← e2]; exact DGet.k O2.h, q v H2 k2 r⟩
    | _ => rw [h] at q; exact q.elim
  · unfold wDAt at q ⊢
    cases h : env.at i with
    | od kvs =>
      rw [h] at q
      exact hk.mono _ _ _ (fun kd q => by
        cases hkd : keyD kd with
        | none => rw [hkd] at q; exact q.elim
        | some key => rw [hkd] at q; obtain ⟨d, e1, q⟩ := q; exact ⟨d, e1, f _ q⟩) q
    | _ => rw [h] at q; exact q.elim
theorem din_ (i : Nat) {x : Str} (hu : X.A.units + 1 < cLine) (hk : PP X a wk) (hN : X.N[i]? = some x := by rfl) (hv : Vis X.env.scope x := by first | exact Or.inl rfl | exact Or.inr (Or.inl rfl) | exact Or.inr (Or.inr rfl)) (hd : (x == ("__debug__" : Str)) = false := by decide)
    (hcd : (x == ("__classdict__" : Str)) = false := by decide) (hm : behindInMarks .In (.Name x p1) = false := by with_unfolding_all rfl) : PV X (.Compare a [.In] [.Name x p1] pos) (wDIn i false wk) := by
  refine ⟨(pe_cmp (pc_din hu hk.pe (pe_var hN hv hd hcd)) hm).imp fun σ H Q ⟨W, env, S, R, q⟩ => ?_, fun env Q Q' f q => ?_⟩
  · unfold wDIn at q
    cases h : env.at i with
    | od kvs =>
      rw [h] at q
      obtain ⟨p, vs, es, O⟩ := R.dict_at h
      refine ⟨W, env, S, R, hk.mono _ _ _ (fun kd q y H2 k2 t2 => ?_) q⟩
      cases hkd : keyD kd with
      | none => rw [hkd] at q; exact q.elim
      | some key =>
        rw [hkd] at q
        have ey := key_top t2 hkd
        subst ey
        have O2 := O.kept k2 R.sm
        obtain ⟨h1, h2⟩ := val_rp key O2.k O2.r
        refine ⟨.ref p, es, p, _, rfl, DGet.k O2.h, ?_⟩
        have q : ∀ v H3, KpJ W H H3 → Rp W.T H3 S v (.bool ((valD kvs key).isSome != false)) → Q v H3 := q
        cases hv : valD kvs key with
        | some d => obtain ⟨v, e2, r⟩ := h1 d hv; rw [hv] at q; rw [e2]; exact q _ _ k2 (.bl _)
        | none => rw [hv] at q; rw [h2 hv]; exact q _ _ k2 (.bl _)
    | _ => rw [h] at q; exact q.elim
  · unfold wDIn at q ⊢
    cases h : env.at i with
    | od kvs =>
      rw [h] at q
      exact hk.mono _ _ _ (fun kd q => by
        cases hkd : keyD kd with
        | none => rw [hkd] at q; exact q.elim
        | some key => rw [hkd] at q; exact f _ q) q
    | _ => rw [h] at q; exact q.elim
end
end Eg

/-! E30: how dicts read. -/
namespace Eg
open PySem PySem.Spec PyProof.Rows L2
variable [Tabs]
section
variable {wk wx : WE} {env : En} {P : Po} {Q : D → Prop} {i : Nat}
omit [Tabs] in
@[simp] theorem s_wOwnD : wOwnD i env P = P.nx (env.set i (.od [])) := id rfl
omit [Tabs] in
@[simp] theorem s_wDPut : wDPut i wk wx env P = match env.at i with
  | .od kvs => wx env fun x => wk env fun k => match keyD k with
    | some key => kvs.length < sizeLine ∧ P.nx (env.set i (.od (putD kvs key x)))
    | none => False
  | _ => False := id rfl
omit [Tabs] in
@[simp] theorem s_wDGet2 : wDGet2 i wk wx env Q = match env.at i with
  | .od kvs => wk env fun k => wx env fun x => match keyD k with
    | some key => Q ((valD kvs key).getD x)
    | none => False
  | _ => False := id rfl
omit [Tabs] in
@[simp] theorem s_wDAt : wDAt i wk env Q = match env.at i with
  | .od kvs => wk env fun k => match keyD k with
    | some key => ∃ d, valD kvs key = some d ∧ Q d
    | none => False
  | _ => False := id rfl
omit [Tabs] in
@[simp] theorem s_wDIn {neg : Bool} : wDIn i neg wk env Q = match env.at i with
  | .od kvs => wk env fun k => match keyD k with
    | some key => Q (.bool ((valD kvs key).isSome != neg))
    | none => False
  | _ => False := id rfl
omit [Tabs] in
@[simp] theorem s_wSortD : wSortD i env Q = match env.at i with
  | .od kvs => ∃ ks : List Int, kvs.map (·.1) = ks.map Sum.inl ∧ Q (.list ((sortI ks).map .int))
  | _ => False := id rfl
omit [Tabs] in
@[simp] theorem s_keyI {k : Int} : keyD (.int k) = some (.inl k) := id rfl
end
omit [Tabs] in
theorem any_iff {kvs : List (Key × D)} {k : Key} : (kvs.any fun kv => decide (kv.1 = k)) = true ↔ k ∈ kvs.map (·.1) := by
  rw [List.any_eq_true, List.mem_map]
  constructor
  · rintro ⟨x, h1, h2⟩; exact ⟨x, h1, by simpa using h2⟩
  · rintro ⟨x, h1, h2⟩; exact ⟨x, h1, by simpa using h2⟩
omit [Tabs] in
theorem valD_nil {k : Key} : valD [] k = none := rfl
omit [Tabs] in
theorem valD_cons {kv : Key × D} {r : List (Key × D)} {k : Key} : valD (kv :: r) k = if kv.1 = k then some kv.2 else valD r k := by
  unfold valD
  rw [List.find?_cons]
  by_cases h : kv.1 = k
  · simp [h]
  · simp [h]
omit [Tabs] in
theorem valD_none {k : Key} : ∀ {kvs : List (Key × D)}, k ∉ kvs.map (·.1) → valD kvs k = none
  | [], _ => rfl
  | kv :: r, h => by
    rw [valD_cons, if_neg (fun e => h (by rw [← e]; simp))]
    exact valD_none fun hm => h (by simp at hm ⊢; exact .inr hm)
omit [Tabs] in
theorem valD_put {k k' : Key} {v : D} {kvs : List (Key × D)} : valD (putD kvs k v) k' = if k' = k then some v else valD kvs k' := by
  unfold putD
  split
  · rename_i h
    rw [any_iff] at h
    induction kvs with
    | nil => simp at h
    | cons kv r ih =>
      rw [List.map_cons, valD_cons, valD_cons]
      by_cases hk : kv.1 = k
      · simp only [hk, if_true]
        by_cases hk' : k = k'
        · subst hk'; simp
        · have : ¬ k' = k := fun z => hk' z.symm
          simp only [hk', this, if_false]
          clear ih h
          induction r with
          | nil => rfl
          | cons kw r ih2 =>
            rw [List.map_cons, valD_cons, valD_cons, ih2]
            by_cases h3 : kw.1 = k
            · simp [h3, hk']
            · simp [h3]
      · simp only [hk, if_false]
        have hr : k ∈ r.map (·.1) := by
          rw [List.map_cons] at h
          rcases List.mem_cons.mp h with e | h
          · exact absurd e.symm hk
          · exact h
        rw [ih hr]
        by_cases h3 : kv.1 = k'
        · have : ¬ k' = k := fun z => hk (h3.trans z)
          simp [h3, this]
        · simp [h3]
  · rename_i h
    have hn : k ∉ kvs.map (·.1) := fun z => h (any_iff.mpr z)
    clear h
    induction kvs with
    | nil => rw [List.nil_append, valD_cons, valD_nil]; by_cases e : k = k' <;> simp [e, eq_comm]
    | cons kv r ih =>
      rw [List.cons_append, valD_cons, valD_cons, ih fun z => hn (by simp at z ⊢; exact .inr z)]
      by_cases h3 : kv.1 = k'
      · have : ¬ k' = k := fun z => hn (by rw [← z, ← h3]; simp)
        simp [h3, this]
      · simp [h3]
omit [Tabs] in
theorem keys_put_in {k : Key} {v : D} {kvs : List (Key × D)} (h : k ∈ kvs.map (·.1)) : (putD kvs k v).map (·.1) = kvs.map (·.1) := by
  unfold putD
  rw [if_pos (any_iff.mpr h), List.map_map]
  refine List.map_congr_left fun kv _ => ?_
  show (if kv.1 = k then (kv.1, v) else kv).1 = kv.1
  split <;> rfl
omit [Tabs] in
theorem keys_put_new {k : Key} {v : D} {kvs : List (Key × D)} (h : k ∉ kvs.map (·.1)) : (putD kvs k v).map (·.1) = kvs.map (·.1) ++ [k] := by
  unfold putD
  rw [if_neg fun z => h (any_iff.mp z), List.map_append]; rfl
/-- a dict that counts -/
structure Cnt (kvs : List (Key × D)) (done : List Int) : Prop where
  ks : ∃ ks : List Int, kvs.map (·.1) = ks.map Sum.inl ∧ ks.length ≤ done.length ∧ ∀ k, k ∈ ks ↔ k ∈ done
  val : ∀ k : Int, valD kvs (.inl k) = if k ∈ done then some (.int (done.count k : Nat)) else none
omit [Tabs] in
theorem Cnt.nil : Cnt [] [] := ⟨⟨[], rfl, Nat.le_refl _, fun _ => Iff.rfl⟩, fun k => rfl⟩
omit [Tabs] in
theorem Cnt.len {kvs : List (Key × D)} {done : List Int} (c : Cnt kvs done) : kvs.length ≤ done.length := by
  obtain ⟨ks, e, l, _⟩ := c.ks
  have := congrArg List.length e
  simp at this
  omega
omit [Tabs] in
theorem Cnt.get {kvs : List (Key × D)} {done : List Int} (c : Cnt kvs done) (k : Int) : (valD kvs (.inl k)).getD (.int 0) = .int (done.count k : Nat) := by
  rw [c.val]
  split
  · rfl
  · rename_i h
    rw [List.count_eq_zero.mpr h]; rfl
omit [Tabs] in
theorem Cnt.step {kvs : List (Key × D)} {done : List Int} (c : Cnt kvs done) (s : Int) : Cnt (putD kvs (.inl s) (.int ((done.count s : Nat) + 1))) (done ++ [s]) := by
  obtain ⟨ks, e, l, hm⟩ := c.ks
  have hin : (Sum.inl s : Key) ∈ kvs.map (·.1) ↔ s ∈ ks := by
    rw [e, List.mem_map]
    constructor
    · rintro ⟨x, h1, h2⟩
      cases h2
      exact h1
    · exact fun h => ⟨s, h, rfl⟩
  refine ⟨?_, fun k => ?_⟩
  · by_cases h : s ∈ ks
    · refine ⟨ks, by rw [keys_put_in (hin.mpr h), e], by rw [List.length_append]; omega, fun k => ?_⟩
      rw [List.mem_append, List.mem_singleton, hm]
      constructor
      · exact .inl
      · rintro (h1 | h1)
        · exact h1
        · rw [h1]; exact (hm s).mp h
    · refine ⟨ks ++ [s], by rw [keys_put_new fun z => h (hin.mp z), e, List.map_append]; rfl, by rw [List.length_append, List.length_append]; simp; omega, fun k => ?_⟩
      rw [List.mem_append, List.mem_append, hm]
  · rw [valD_put, c.val, List.count_append, List.count_singleton]
    by_cases h : k = s
    · subst h; simp
    · have h' : ¬ (Sum.inl k : Key) = Sum.inl s := fun z => h (by cases z; rfl)
      have h2 : ¬ s = k := fun z => h z.symm
      simp [h', h, h2]
omit [Tabs] in
theorem rng_cons {lo : Int} {n : Nat} : rng lo (n + 1) = lo :: rng (lo + 1) n := by
  refine List.ext_getElem? fun k => ?_
  cases k with
  | zero => rw [rng_get (by omega)]; simp
  | succ k =>
    rw [List.getElem?_cons_succ]
    by_cases h : k < n
    · rw [rng_get (by omega), rng_get h]
      congr 1
      omega
    · rw [List.getElem?_eq_none (by rw [rng_length]; omega), List.getElem?_eq_none (by rw [rng_length]; omega)]
omit [Tabs] in
theorem enumGo_rng {f : Int → D} : ∀ (n m : Nat), enumGo m ((rng (m : Nat) n).map f) = (rng (m : Nat) n).map fun q => .tuple [.int q, f q]
  | 0, m => rfl
  | n + 1, m => by
    rw [rng_cons, List.map_cons, List.map_cons, enumGo]
    have := enumGo_rng (f := f) n (m + 1)
    have e : ((m + 1 : Nat) : Int) = (m : Int) + 1 := by omega
    rw [e] at this
    rw [this]
omit [Tabs] in
theorem enum_tab {n : Nat} {f : Int → Int} : enumGo 0 (tabD n f) = (rng 0 n).map fun q => .tuple [.int q, .int (f q)] := by
  have := enumGo_rng (f := fun q => .int (f q)) n 0
  unfold tabD
  rw [List.map_map]
  exact this
omit [Tabs] in
@[simp] theorem s_gMaxI {ns : List Int} {Q : D → Prop} : gMaxL [.list (ns.map .int)] Q = (0 < ns.length ∧ ∀ m, m ∈ ns → (∀ y, y ∈ ns → y ≤ m) → Q (.int m)) := by
  unfold gMaxL gInts
  simp only [intsOf_map]
omit [Tabs] in
@[simp] theorem s_gMaxT {ns : List Int} {Q : D → Prop} : gMaxL [.tuple (ns.map .int)] Q = (0 < ns.length ∧ ∀ m, m ∈ ns → (∀ y, y ∈ ns → y ≤ m) → Q (.int m)) := by
  unfold gMaxL gInts
  simp only [intsOf_map]
omit [Tabs] in
@[simp] theorem s_gSumI {ns : List Int} {Q : D → Prop} : gSum [.list (ns.map .int)] Q = Q (.int ns.sum) := by
  unfold gSum gInts
  simp only [intsOf_map]
omit [Tabs] in
@[simp] theorem s_gSumT {ns : List Int} {Q : D → Prop} : gSum [.tuple (ns.map .int)] Q = Q (.int ns.sum) := by
  unfold gSum gInts
  simp only [intsOf_map]
end Eg

/-! E31: any, all of a generator expression over pairs. -/
namespace Eg
open PySem PySem.Spec PyProof.Rows L2
variable [Tabs]
section
variable {X : Cx} {pins : List (Addr × Obj)} {σ : L2.St} {H : Hp} {s : Shared}
/-- pairs are walked -/
structure SrcAt2 (X : Cx) (T : Nat → V) (H1 : Hp) (Sx : Addr → Prop) (P : Addr) (n : Nat) (dd db : Nat → D) (s1 : Shared) (it : Value) (s2 : Shared) : Prop where
  ex : ∃ (Ia : Addr) (fp wr : List Addr) (Pf : Nat → Array Value → Prop) (St₀ : Nat → Heap → Prop) (Md : Nat → Addr → Heap → Prop), it = .ref Ia ∧ (∃ h tk, s2 = { s1 with heap := h, toks := tk } ∧ s1.heap.objs.size ≤ h.objs.size ∧ (∀ b o, s1.heap.get? b = some o → h.get? b = some o) ∧ (s1.heap.NoLimit → h.NoLimit)) ∧
    (∀ A' : Around, A'.handled = none → WalksU X.prog X.w A' Ia fp wr n Pf St₀ Md) ∧ St₀ 0 s2.heap ∧ (∀ b ∈ fp, b < s2.heap.objs.size ∧ b ≠ P) ∧ (∀ b ∈ wr, s1.heap.objs.size ≤ b) ∧
    ∀ i v, Pf i v → ∃ va vb y yb, v = #[va, vb] ∧ i < n ∧ RelV y va ∧ Rp T H1 Sx y (dd i) ∧ RelV yb vb ∧ Rp T H1 Sx yb (db i)
omit [Tabs] in
theorem gen_core2 {c P : Addr} {elt iter : Expr} {x xb : Str} {px pb pt gpos : Pos} {kt : Nat} {scope : Scope} {caps : List (Str × Nat)} {f : QF} {k : Nat} {Q' : Value → Shared → Prop}
    (hr : Room k X.A) (TB : GxR.TabB X.base X.mg c P) (hcode : X.env.code = .ref c) (S : GenZ X.env scope x) (hfree : ∀ y ∈ scope.names, y.2 = .free → ∃ c, X.env.cells.lookup y.1 = some c) (Sb : scope.names.lookup xb = some .local) (hab : x ≠ xb) (C : Caps X scope caps) (hq : QE X.mg scope (x :: xb :: caps.map (·.1)) elt f)
    (hs : ∀ v, genFold iter X.env v = pure v)
    (hit : wpAny (model X.prog X.w) X.A (eval iter X.env) (fun xv sM => ∃ (s1 : Shared) (H1 : Hp) (T : Nat → V) (Sx : Addr → Prop) (n : Nat) (dd db : Nat → D) (cs : List D) (bs : Nat → Bool), Inv X pins σ H1 s1 ∧ GxR.TabG H1 P ∧ Sx P ∧ cs.length = caps.length ∧
      (∀ (j : Nat) (p : Str × Nat) (d : D), caps[j]? = some p → cs[j]? = some d → ∃ v, σ[p.2]? = some (some v) ∧ Rp T H1 Sx v d) ∧ (∀ i, i < n → f (dd i :: db i :: cs) = some (.bool (bs i))) ∧
      wpAny (model X.prog X.w) X.A (pyIter xv) (SrcAt2 X T H1 Sx P n dd db s1) X.xe sM ∧ ∀ g s5, Rdy X pins σ H1 P n bs g s5 → Q' (.ref g) s5) X.xe s) :
    wpAny (model X.prog X.w) X.A (eval (.GeneratorExp elt [⟨.Tuple [.Name x px, .Name xb pb] kt pt, iter, [], 0⟩] scope gpos) X.env) Q' X.xe s := by
  refine wpAny_GeneratorExp_walksQTD hr.hd S.co (closure_ok hfree) S.cell S.dot S.loc Sb hab S.kind (by have := hr.dp; omega) ?_ hs
  refine thn hit fun xv sM ⟨s1, H1, T, Sx, n, dd, db, cs, bs, I1, ⟨ps, hP, ht⟩, hSP, hcl, hcap, hf, hpi, hQ⟩ => ?_
  refine wpAny_mono hpi (fun it s2 ⟨Ia, fp, wr, Pf, St₀, Md, eit, ⟨h2, tk2, es2, hsz2, hk2, hnl2⟩, W, hst, hfp, hwr, hPf⟩ => ?_) fun _ _ e => e
  subst es2
  have hPs : s1.heap.get? P = some { cls := .none, data := .fields ps } := I1.hok P _ hP
  have hPlt : P < s1.heap.objs.size := Heap.lt_size hPs
  have hP2 : h2.get? P = some { cls := .none, data := .fields ps } := hk2 _ _ hPs
  have cd : PySem.W.CodeHd h2 c P := TB.code.keeps fun b u e => hk2 b u (I1.bk b u e)
  have lim2 : h2.NoLimit := hnl2 I1.nolimit
  have cont : ∀ (code : Value) (h3 : Heap) (tk : Nat) (ps' : Array Value), Heap.ExtBut P h2 h3 → h2.objs.size ≤ h3.objs.size → h3.get? P = some { cls := .none, data := .fields ps' } → (∃ more, ps' = ps ++ more) → TriplesOk ps'.toList →
      wpAny (model X.prog X.w) X.A (builtinsFor X.env.globals X.env.builtins) (fun bi s₄ =>
        ∃ Ia fp wr n₀ Pf St₀ Md pz F, it = .ref Ia ∧ (∀ A' : Around, A'.handled = none → WalksU X.prog X.w A' Ia fp wr n₀ Pf St₀ Md) ∧ (∀ i vals, Pf i vals → ∃ va vb, vals = #[va, vb]) ∧ St₀ 0 s₄.heap ∧ (∀ b ∈ fp, b < s₄.heap.objs.size) ∧ s₄.heap.NoLimit ∧ cStatics ∉ wr ∧
          (∀ href : Heap, (∀ b o, s₄.heap.get? b = some o → href.get? b = some o) →
            QuietGenTD X.prog X.w (genEnv scope (cloFrom X.env.cells scope.names []) s₄.heap.objs.size code bi X.env) x xb [] elt (List.range s₄.heap.objs.size) wr Pf pz F href (X.A.depth + 1) (X.A.units + 8)) ∧
          (∀ a h₅ tk gs, gs.bare = true → s₄.heap.objs.size < a → h₅.objs.size = a + 1 → (∀ b o, s₄.heap.get? b = some o → h₅.get? b = some o) →
            WalksS X.prog X.w X.A.in4 a (a :: s₄.heap.objs.size :: List.range s₄.heap.objs.size) (s₄.heap.objs.size :: wr) (GenOnlyQ s₄.gens.size) (passing pz n₀ 0).length
              (fun j y => ∃ i, (passing pz n₀ 0)[j]? = some i ∧ F i y) (GenAt X.prog X.w X.A.in4 a s₄.gens.size s₄.heap.objs.size (List.range s₄.heap.objs.size) wr pz n₀ F) →
            GenAt X.prog X.w X.A.in4 a s₄.gens.size s₄.heap.objs.size (List.range s₄.heap.objs.size) wr pz n₀ F 0 { s₄ with gens := s₄.gens.push gs, toks := tk, heap := h₅ } →
            Q' (.ref a) { s₄ with gens := s₄.gens.push gs, toks := tk, heap := h₅ })) X.xe { s1 with heap := h3, toks := tk } := by
    intro code h3 tk ps' hx hsz hP3 hmore ht3
    obtain ⟨bm, ob, e1, e2, e3, e4, e5, e6, e7, e8⟩ := TB.bm
    have hcP : cStatics ≠ P := fun e => by
      obtain ⟨_, hns, _⟩ := I1.nolimit
      obtain ⟨o', es, ep, ho, hd, _⟩ := hns
      rw [e, hPs] at ho
      cases ho
      cases hd
    have hcl1 : ∃ o, s1.heap.get? cStatics = some o := by
      obtain ⟨_, hns, _⟩ := I1.nolimit
      obtain ⟨o', es, ep, ho, hd, _⟩ := hns
      exact ⟨o', ho⟩
    have keep3 : ∀ b u, b ≠ P → s1.heap.get? b = some u → h3.get? b = some u := fun b u hb e => hx b u hb (hk2 _ _ e)
    have wr1 : ∀ b u, s1.heap.get? b = some u → b ∉ wr := fun b u e hb => Nat.lt_irrefl _ (Nat.lt_of_lt_of_le (Heap.lt_size e) (hwr b hb))
    refine wpAny_builtinsFor (m := X.mg) (by rw [I1.ok.glob]; exact ((I1.mod.glob.keeps I1.bk).keeps hk2).extBut hx TB.gP) e1 e2 (keep3 _ _ e4 (I1.bk _ _ e5)) e6 e7 e8 ?_
    -- the table has grown
    obtain ⟨more, em⟩ := hmore
    have J0 := GxR.inv_tab (more := more) (h' := h3) (g' := s1.gens) (d' := s1.drawn) (t' := tk) I1 hP (fun b u hb e => keep3 b u hb e) (by rw [← em]; exact hP3) I1.bare
    have hok2 : HOk X.prog X.w (upd H1 P (.tbl (ps ++ more))) h3 := J0.hok
    have mv : ∀ (v : V) (d : D), Rp T H1 Sx v d → Rp T (upd H1 P (.tbl (ps ++ more))) Sx v d := fun v d r => r.move (d := d) fun a o e n' => ⟨by rw [upd_ne fun z => n' (by rw [z]; exact hSP)]; exact e, n'⟩
    obtain ⟨m1, hn1, hl1⟩ := J0.loc
    refine ⟨Ia, fp, wr, n, Pf, St₀, Md, (fun _ => true), (fun i y => i < n ∧ y = .bool (bs i)), eit, W, (fun i vals h => let ⟨va, vb, _, _, e, _⟩ := hPf i vals h; ⟨va, vb, e⟩), (W X.A hr.hd).frame _ _ _ hst fun b hb o e => hx b o (hfp b hb).2 e, fun b hb => Nat.lt_of_lt_of_le (hfp b hb).1 hsz, lim2.extBut hx hcP, (fun hb => by obtain ⟨o, e⟩ := hcl1; exact wr1 _ _ e hb), ?_, ?_⟩
    · intro href hhref
      refine ⟨fun A' E' i v vb s₂ m₂ hA hD hU hPv hn hm hmb hk => ?_, fun A' E' i v vb s₂ m₂ hA hD hU hPv hp hn hm hmb hk => ?_⟩
      · simp only [List.forIn_nil]
        exact wpAny_pure ⟨rfl, GxR.keeps_refl _⟩
      · obtain ⟨va', vb', y, yb, ev, hin, ry, ty, ryb, tyb⟩ := hPf i _ hPv
        have ev1 : v = va' := by have := congrArg (fun a => a[0]?) ev; simpa using this
        have ev2 : vb = vb' := by have := congrArg (fun a => a[1]?) ev; simpa using this
        subst ev1
        subst ev2
        have kpt : ∀ b, b < s1.heap.objs.size → ∀ u', h3.get? b = some u' → s₂.heap.get? b = some u' := fun b e u' e' => hk b (List.mem_range.mpr (Nat.lt_of_lt_of_le (Heap.lt_size e') (Nat.le_refl _))) (fun hb => Nat.lt_irrefl _ (Nat.lt_of_lt_of_le e (hwr b hb))) u' (hhref b u' e')
        have hokS : HOk X.prog X.w (upd H1 P (.tbl (ps ++ more))) s₂.heap := fun a o e => by
          have key : ∀ d v, (upd H1 P (.tbl (ps ++ more))) d ≠ none → h3.get? d = some v → s₂.heap.get? d = some v := fun d v hd q => by
            have a2 : d < s1.heap.objs.size := by
              by_cases z : d = P
              · rw [z]; exact hPlt
              · rw [upd_ne z] at hd
                cases q' : H1 d with
                | none => exact absurd q' hd
                | some o' => exact I1.hok.lt q'
            exact kpt d a2 v q
          refine (hok2 a o e).stay (fun d v hd q => key d v ?_ q) (fun _ q => q) fun _ _ q => q
          rcases hd with z | z
          · rw [z, e]; simp
          · rw [z]; simp
        have QXs : QX X.prog X.w X.mg T (upd H1 P (.tbl (ps ++ more))) Sx scope (x :: xb :: caps.map (·.1)) (dd i :: db i :: cs) (genEnv scope (cloFrom X.env.cells scope.names []) h3.objs.size code builtinsNs X.env) s₂ := by
          refine ⟨rfl, ⟨I1.ok.glob, rfl⟩, ?_, ?_, hokS, fun j y' d h4 h5 => ?_⟩
          · exact (I1.mod.glob.keeps I1.bk).at' fun o e => kpt _ (Heap.lt_size e) o (keep3 _ _ TB.gP e)
          · obtain ⟨mb, g1, g2⟩ := I1.mod.blt
            refine ⟨mb, (g1.keeps I1.bk).at' fun o e => kpt _ (Heap.lt_size e) o (keep3 _ _ (fun z => ?_) e), g2⟩
            rw [z, hPs] at e
            obtain ⟨o', es, ep, ho, hd, _⟩ := g1
            have e7 := I1.bk _ _ ho
            rw [z, hPs] at e7
            cases e7
            cases hd
          cases j with
          | zero =>
            have e4 : x = y' := Option.some.inj h4
            have e5 : dd i = d := Option.some.inj h5
            subst e4 e5
            exact ⟨v, y, ry, mv _ _ ty, .inl ⟨S.loc, m₂, hn, hm⟩⟩
          | succ j =>
          cases j with
          | zero =>
            have e4 : xb = y' := Option.some.inj h4
            have e5 : db i = d := Option.some.inj h5
            subst e4 e5
            exact ⟨vb, yb, ryb, mv _ _ tyb, .inl ⟨Sb, m₂, hn, hmb⟩⟩
          | succ j =>
            have h4' : (caps.map (·.1))[j]? = some y' := h4
            have h5' : cs[j]? = some d := h5
            rw [List.getElem?_map] at h4'
            cases hp : caps[j]? with
            | none => rw [hp] at h4'; cases h4'
            | some p =>
              rw [hp] at h4'
              have e6 : p.1 = y' := Option.some.inj h4'
              subst e6
              obtain ⟨v', hv', tv'⟩ := hcap j p d hp h5'
              obtain ⟨c1, c2, c3, c4⟩ := C.at_ p (List.mem_of_getElem? hp)
              obtain ⟨u, ru, lk⟩ := hl1 p.2 p.1 v' c1 hv' (.inr c2)
              refine ⟨u, v', ru, mv _ _ tv', .inr ⟨c4, ?_⟩⟩
              rcases lk with ⟨z, _⟩ | ⟨_, cc, z1, z2⟩
              · have z' : X.env.scope.names.lookup p.1 = some .local := z
                rcases c2 with c2 | c2 <;> (rw [c2] at z'; cases z')
              · refine ⟨cc, clo_at c3 z1, ?_⟩
                obtain ⟨oc, z3, z4⟩ := z2
                obtain ⟨v0, o0, z5, _⟩ := I1.cell _ _ z1
                exact ⟨oc, kpt cc (Heap.lt_size z5) oc z3, z4⟩
        exact hq.run X.prog X.w T _ Sx (dd i :: db i :: cs) _ s₂ A' E' _ _ ⟨hA, by have := hr.un; omega⟩ QXs (hf i hin) fun v3 u3 s3 k3 r3 t3 => by
          cases t3
          cases r3
          exact ⟨⟨hin, rfl⟩, k3⟩
    · intro g h5 tk5 gs hgb hag hsz5 hk5 W5 hat
      simp only [GxR.passing_true, List.length_range] at W5
      refine hQ g _ ⟨_, _, _, _, _, W5.in4_1, hat, ?_, fun s' hm => ?_⟩
      · intro j y sj Qj Ej hy hQj
        obtain ⟨i, hij, hin, rfl⟩ := hy
        obtain ⟨hj, ej⟩ := List.getElem?_eq_some_iff.mp hij
        rw [List.getElem_range] at ej
        subst ej
        exact wpAny_truthy_bool hQj
      · have nwr : ∀ b u, s1.heap.get? b = some u → b ∉ h3.objs.size :: wr := fun b u e hb => by
          have hl := Heap.lt_size e
          rcases List.mem_cons.mp hb with z | z
          · rw [z] at hl
            have h9 : h3.objs.size < s1.heap.objs.size := hl
            omega
          · exact wr1 b u e z
        have J := GxR.inv_tab (more := more) (h' := s'.heap) (g' := s'.gens) (d' := s'.drawn) (t' := s'.toks) I1 hP (fun b u hb e => hm.heap b u (nwr b u e) (hk5 b u (keep3 b u hb e)))
          (by rw [← em]; exact hm.heap P _ (nwr P _ hPs) (hk5 P _ hP3)) (AllBare.movedS (I1.bare.push hgb) hm)
        rw [GxR.sh_eta s1 s' hm.os] at J
        exact ⟨upd H1 P (.tbl (ps ++ more)), ⟨⟨ps ++ more, upd_same, by rw [← em]; exact ht3⟩, fun b hb => upd_ne hb⟩, J⟩
  refine ⟨lim2, ?_⟩
  cases hf : codeAmong gpos ps.toList with
  | none =>
    refine wpAny_genexprCodeX hcode (cd.code hP2 ht) (cd.tab hP2) hf fun c' h' tk hx hge hlt hco' _ htab' _ => ?_
    obtain ⟨o1, vs, f1, tf, fl, tg, inF, tx, tt, op, _, _, _, _, _, _, _, _, _, htr, _⟩ := hco'
    exact cont _ h' tk _ hx (Nat.le_trans hge (Nat.le_of_lt hlt)) htab'.2 ⟨_, rfl⟩ htr
  | some cv =>
    refine wpAny_genexprCode_hit hcode (cd.code hP2 ht) hf ?_
    exact cont cv h2 tk2 ps (Heap.ExtBut.refl _ _) (Nat.le_refl _) hP2 ⟨#[], by simp⟩ ht
def pairF (f : QF) (cs : List D) : D → Option D := fun p => match p with
  | .tuple [a, b] => f (a :: b :: cs)
  | _ => none
omit [Tabs] in
theorem enumGo_at : ∀ (n : Nat) (ds : List D) (i : Nat) {x : D}, ds[i]? = some x → (enumGo n ds)[i]? = some (.tuple [.int ((n + i : Nat) : Int), x])
  | _, [], _, _, h => by simp at h
  | n, d :: r, 0, x, h => by
    simp at h
    subst h
    rfl
  | n, d :: r, i + 1, x, h => by
    rw [enumGo, List.getElem?_cons_succ, enumGo_at (n + 1) r i (by simpa using h)]
    congr 3
    have : n + 1 + i = n + (i + 1) := by omega
    rw [this]
theorem gen_en {c P : Addr} {elt e : Expr} {x xb : Str} {px pb pt gpos pn pe : Pos} {kt : Nat} {scope : Scope} {caps : List (Str × Nat)} {f : QF} {k : Nat} {wi : WE} {Q' : Value → Shared → Prop}
    (hr : Room k X.A) (C : Cd X c P) (S : GenZ X.env scope x) (Sb : scope.names.lookup xb = some .local) (hab : x ≠ xb) (Ca : Caps X scope caps) (hq : QE X.mg scope (x :: xb :: caps.map (·.1)) elt f) (hi : PP X e wi)
    (hg : Gl X "enumerate") (hm : X.mg "enumerate" = none) (hs : ∀ v, genFold (.Call (.Name "enumerate" pn) [e] [] pe) X.env v = pure v) (na : starEach [e] X.env = (false, eval e X.env) :: starEach [] X.env)
    {W : Wd} {env : En} {Sx : Addr → Prop} (R : RlS W env Sx σ H) (I : Inv X pins σ H s) {Q : D → Prop}
    (h : wi env fun d => ∃ (ds cs : List D) (bs : List Bool), (d = .list ds ∨ d = .tuple ds) ∧ (caps.map (·.2)).map env.at = cs.map .sh ∧ (enumGo 0 ds).map (pairF f cs) = bs.map (fun b => some (.bool b)) ∧
      ∀ H1 g s5, KpJ W H H1 → Rdy X pins σ H1 P bs.length (fun i => bs.getD i false) g s5 → Q' (.ref g) s5) :
    wpAny (model X.prog X.w) X.A (eval (.GeneratorExp elt [⟨.Tuple [.Name x px, .Name xb pb] kt pt, .Call (.Name "enumerate" pn) [e] [] pe, [], 0⟩] scope gpos) X.env) Q' X.xe s := by
  refine gen_core2 (pins := pins) (σ := σ) hr C.tb C.code S (fun y hy e => I.ok.has _ (S.free y hy e)) Sb hab Ca hq hs ?_
  refine wpAny_Call_Name_kw (ld_blt I hg hm boot_enumerate ?_)
  refine PyProof.Rows.callWith_type1 (PyProof.Rows.args_cons (thn (hi.pe.run pins s σ H (fun v H1 => ∃ (d : D) (ds cs : List D) (bs : List Bool), KpJ W H H1 ∧ Top W H1 Sx v d ∧ (d = .list ds ∨ d = .tuple ds) ∧ (caps.map (·.2)).map env.at = cs.map .sh ∧ (enumGo 0 ds).map (pairF f cs) = bs.map (fun b => some (.bool b)) ∧
      ∀ H1 g s5, KpJ W H H1 → Rdy X pins σ H1 P bs.length (fun i => bs.getD i false) g s5 → Q' (.ref g) s5) I ⟨W, env, Sx, R, hi.mono _ _ _ (fun d ⟨ds, cs, bs, e1, e2, e3, q⟩ v H1 k t => ⟨d, ds, cs, bs, k, t, e1, e2, e3, q⟩) h⟩) fun xv s1 ⟨v, H1, I1, r1, d, ds, cs, bs, k1, t1, ed, ec, ef, q⟩ => PyProof.Rows.args_nil ?_) na) na (by rfl)
  have R1 := R.kept k1
  have fl : bs.length = ds.length := by
    have := congrArg List.length ef
    simpa [enumGo_length] using this.symm
  have fi : ∀ i, i < bs.length → f (.int (0 + (i : Int)) :: ds.getD i .none :: cs) = some (.bool (bs.getD i false)) := fun i hi => by
    have := congrArg (fun l => l[i]?) ef
    simp only [List.getElem?_map] at this
    have hd : ds[i]? = some (ds.getD i .none) := by
      rw [List.getD_eq_getElem?_getD, List.getElem?_eq_getElem (by omega)]; rfl
    rw [enumGo_at 0 ds i hd, List.getElem?_eq_getElem hi] at this
    have this := Option.some.inj this
    rw [List.getD_eq_getElem?_getD (l := bs), List.getElem?_eq_getElem hi]
    have e0 : ((0 + i : Nat) : Int) = 0 + (i : Int) := by omega
    rw [e0] at this
    exact this
  have cl : cs.length = caps.length := by
    have := congrArg List.length ec
    simpa using this.symm
  have hcap : ∀ (j : Nat) (p : Str × Nat) (d : D), caps[j]? = some p → cs[j]? = some d → ∃ v, σ[p.2]? = some (some v) ∧ Rp W.T H1 Sx v d := fun j p d h1 h2 => by
    have := congrArg (fun l => l[j]?) ec
    simp only [List.getElem?_map, h1, h2, Option.map_some] at this
    have e : env.at p.2 = .sh d := Option.some.inj this
    have sl := R1.sl p.2
    rw [e] at sl
    exact sl
  have hSP : Sx P := R.sm P (W.tm P C.mem)
  have hT : GxR.TabG H1 P := (W.tj P C.mem H1 k1.2).1
  have pP : ∀ a o, H1 a = some o → (∀ ps, o ≠ .tbl ps) → a ≠ P := fun a o e n z => by
    obtain ⟨ps, e2, _⟩ := hT
    rw [z, e2] at e
    exact n ps (Option.some.inj e).symm
  have hPl : P < s1.heap.objs.size := by
    obtain ⟨ps, e2, _⟩ := hT
    exact I1.hok.lt e2
  have rel : ∀ (vs : List V) (its : List Value), Vals vs its → RpAll W.T H1 Sx vs ds → ∀ i u, its.toArray[i]? = some u → ∃ y, i < bs.length ∧ RelV y u ∧ Rp W.T H1 Sx y (ds.getD i .none) := fun vs its rv ra i u hu => by
    have hu2 : its[i]? = some u := by simpa using hu
    have hl := rv.length
    have hl2 := ra.length
    have hi2 : i < its.length := (List.getElem?_eq_some_iff.mp hu2).1
    have hd : ds[i]? = some (ds.getD i .none) := by
      rw [List.getD_eq_getElem?_getD, List.getElem?_eq_getElem (by omega)]; rfl
    obtain ⟨y, hy, ry⟩ := ra.get hd
    obtain ⟨u', hu', ru⟩ := rv.get hy
    rw [hu2] at hu'
    cases hu'
    exact ⟨y, by omega, ru, ry⟩
  have pf : ∀ (vs : List V) (its : List Value), Vals vs its → RpAll W.T H1 Sx vs ds → ∀ (i : Nat) (v : Array Value), (∃ t x, its.toArray[i]? = some x ∧ v = #[.int ((0 : Int) + (i : Int)) t, x]) → ∃ va vb y yb, v = #[va, vb] ∧ i < bs.length ∧ RelV y va ∧ Rp W.T H1 Sx y (.int (0 + (i : Int))) ∧ RelV yb vb ∧ Rp W.T H1 Sx yb (ds.getD i .none) := fun vs its rv ra i v ⟨t, u, hu, ev⟩ => by
    obtain ⟨y, h1, h2, h3⟩ := rel vs its rv ra i u hu
    exact ⟨_, _, .int (0 + (i : Int)), y, ev, h1, ⟨t, rfl⟩, .int _, h2, h3⟩
  have e0 : ((0 : Nat) : Int) = 0 := rfl
  rcases ed with rfl | rfl
  · obtain ⟨a, vs, rfl, ha, ra⟩ := t1.list
    cases r1
    obtain ⟨its, rv, hl, hz⟩ := I1.list (.inl (.inl ha) : SqL X.K H1 a vs)
    have hIL := hl.isList
    have hylt : a < s1.heap.objs.size := by
      obtain ⟨_, e, _⟩ := _root_.id hIL
      exact Heap.lt_size e
    have hn : its.toArray.size = bs.length := by
      rw [List.size_toArray, ← rv.length, ra.length, fl]
    refine call_enumerate_list hIL fun h' he hit hsz hk => ?_
    refine ⟨s1, H1, W.T, Sx, bs.length, fun i => .int (0 + (i : Int)), fun i => ds.getD i .none, cs, fun i => bs.getD i false, I1, hT, hSP, cl, hcap, fi, wpAny_pyIter_enum he ?_, fun g s5 r => q H1 g s5 k1 r⟩
    refine ⟨s1.heap.objs.size + 1, [s1.heap.objs.size + 1, s1.heap.objs.size, a], [s1.heap.objs.size + 1, s1.heap.objs.size], (fun i vals => ∃ t x, its.toArray[i]? = some x ∧ vals = #[.int ((0 : Int) + (i : Int)) t, x]), (fun i h => (∃ old, IsEnum h (s1.heap.objs.size + 1) s1.heap.objs.size ((0 : Int) + (i : Int)) old) ∧ h.IsListIter s1.heap.objs.size a i ∧ h.IsList a its.toArray), _, rfl, ⟨h', s1.toks, rfl, by rw [hsz]; exact Nat.le_add_right _ _, hk, fun z => z.keeps hk⟩,
      (fun A' hA => by rw [← hn]; exact (WalksT.enumFrom 0 (Draws.list (A := A'.in1) hA _ a (Nat.ne_of_lt hylt) its.toArray) _ (Nat.succ_ne_self _) (by
        intro z
        rcases List.mem_cons.mp z with z | z
        · exact Nat.succ_ne_self _ z
        · have z' := List.mem_singleton.mp z
          rw [← z'] at hylt
          exact absurd hylt (Nat.not_lt.mpr (Nat.le_succ _))) (by simp)).toU), ⟨⟨.none, he⟩, hit, hIL.at fun o e => hk _ _ e⟩, fun b hb => ?_, fun b hb => ?_, pf vs its rv ra⟩
    · show b < h'.objs.size ∧ b ≠ P
      rw [hsz]
      rcases List.mem_cons.mp hb with z | z
      · rw [z]; exact ⟨Nat.lt_succ_self _, fun z2 => by
          rw [← z2] at hPl
          exact absurd hPl (Nat.not_lt.mpr (Nat.le_succ _))⟩
      · rcases List.mem_cons.mp z with z | z
        · rw [z]; exact ⟨Nat.lt_succ_of_lt (Nat.lt_succ_self _), fun z2 => by
            rw [← z2] at hPl
            exact absurd hPl (Nat.lt_irrefl _)⟩
        · rw [List.mem_singleton.mp z]
          exact ⟨Nat.lt_succ_of_lt (Nat.lt_succ_of_lt hylt), pP a _ ha fun ps z => nomatch z⟩
    · rcases List.mem_cons.mp hb with z | z
      · rw [z]; exact Nat.le_succ _
      · rw [List.mem_singleton.mp z]; exact Nat.le_refl _
  · obtain ⟨a, vs, rfl, ha, _, ra⟩ := t1.tuple
    cases r1
    obtain ⟨its, rv, hl, hz⟩ := I1.tuple (.inl (.inl ha) : SqT X.K H1 a vs)
    have hIL : s1.heap.IsTuple a its.toArray := hl
    have hylt : a < s1.heap.objs.size := by
      obtain ⟨_, e, _⟩ := _root_.id hIL
      exact Heap.lt_size e
    have hn : its.toArray.size = bs.length := by
      rw [List.size_toArray, ← rv.length, ra.length, fl]
    refine call_enumerate_tuple hIL fun h' he hit hsz hk => ?_
    refine ⟨s1, H1, W.T, Sx, bs.length, fun i => .int (0 + (i : Int)), fun i => ds.getD i .none, cs, fun i => bs.getD i false, I1, hT, hSP, cl, hcap, fi, wpAny_pyIter_enum he ?_, fun g s5 r => q H1 g s5 k1 r⟩
    refine ⟨s1.heap.objs.size + 1, [s1.heap.objs.size + 1, s1.heap.objs.size, a], [s1.heap.objs.size + 1, s1.heap.objs.size], (fun i vals => ∃ t x, its.toArray[i]? = some x ∧ vals = #[.int ((0 : Int) + (i : Int)) t, x]), (fun i h => (∃ old, IsEnum h (s1.heap.objs.size + 1) s1.heap.objs.size ((0 : Int) + (i : Int)) old) ∧ h.IsTupleIter s1.heap.objs.size a i ∧ h.IsTuple a its.toArray), _, rfl, ⟨h', s1.toks, rfl, by rw [hsz]; exact Nat.le_add_right _ _, hk, fun z => z.keeps hk⟩,
      (fun A' hA => by rw [← hn]; exact (WalksT.enumFrom 0 (Draws.tuple (A := A'.in1) hA _ a (Nat.ne_of_lt hylt) its.toArray) _ (Nat.succ_ne_self _) (by
        intro z
        rcases List.mem_cons.mp z with z | z
        · exact Nat.succ_ne_self _ z
        · have z' := List.mem_singleton.mp z
          rw [← z'] at hylt
          exact absurd hylt (Nat.not_lt.mpr (Nat.le_succ _))) (by simp)).toU), ⟨⟨.none, he⟩, hit, hIL.at fun o e => hk _ _ e⟩, fun b hb => ?_, fun b hb => ?_, pf vs its rv ra⟩
    · show b < h'.objs.size ∧ b ≠ P
      rw [hsz]
      rcases List.mem_cons.mp hb with z | z
      · rw [z]; exact ⟨Nat.lt_succ_self _, fun z2 => by
          rw [← z2] at hPl
          exact absurd hPl (Nat.not_lt.mpr (Nat.le_succ _))⟩
      · rcases List.mem_cons.mp z with z | z
        · rw [z]; exact ⟨Nat.lt_succ_of_lt (Nat.lt_succ_self _), fun z2 => by
            rw [← z2] at hPl
            exact absurd hPl (Nat.lt_irrefl _)⟩
        · rw [List.mem_singleton.mp z]
          exact ⟨Nat.lt_succ_of_lt (Nat.lt_succ_of_lt hylt), pP a _ ha fun ps z => nomatch z⟩
    · rcases List.mem_cons.mp hb with z | z
      · rw [z]; exact Nat.le_succ _
      · rw [List.mem_singleton.mp z]; exact Nat.le_refl _
/-- any (k), all of the test f over a count and a datum -/
def wAnyE (k : Bool) (f : QF) (is : List Nat) (w : WE) : WE := fun env Q => w env fun d => ∃ (ds cs : List D) (bs : List Bool), (d = .list ds ∨ d = .tuple ds) ∧ is.map env.at = cs.map .sh ∧ (enumGo 0 ds).map (pairF f cs) = bs.map (fun b => some (.bool b)) ∧
  Q (.bool (if k = true then bs.any id else bs.all id))
omit [Tabs] in
theorem monoAnyE {k : Bool} {f : QF} {is : List Nat} {w : WE} (h : Mono w) : Mono (wAnyE k f is w) := fun env Q Q' m q => h _ _ _ (fun d ⟨ds, cs, bs, a, b, c, e⟩ => ⟨ds, cs, bs, a, b, c, m _ e⟩) q
theorem anyE_ {c P : Addr} {elt e : Expr} {x xb : Str} {px pb pt gpos pn pe p pos : Pos} {kt : Nat} {scope : Scope} (caps : List (Str × Nat)) {f : QF} {k : Nat} {wi : WE}
    (hr : Room k X.A) (hg : Gl X "any") (hm : X.mg "any" = none) (hg2 : Gl X "enumerate") (hm2 : X.mg "enumerate" = none) (C : Cd X c P) (S : GenZ X.env scope x) (Sb : scope.names.lookup xb = some .local) (hab : x ≠ xb) (Ca : Caps X scope caps) (hq : QE X.mg scope (x :: xb :: caps.map (·.1)) elt f) (hi : PP X e wi)
    (hs : ∀ v, genFold (.Call (.Name "enumerate" pn) [e] [] pe) X.env v = pure v := by intro _; rfl) (na : starEach [e] X.env = (false, eval e X.env) :: starEach [] X.env := by rfl)
    (he : starEach [.GeneratorExp elt [⟨.Tuple [.Name x px, .Name xb pb] kt pt, .Call (.Name "enumerate" pn) [e] [] pe, [], 0⟩] scope gpos] X.env = (false, eval (.GeneratorExp elt [⟨.Tuple [.Name x px, .Name xb pb] kt pt, .Call (.Name "enumerate" pn) [e] [] pe, [], 0⟩] scope gpos) X.env) :: starEach [] X.env := by rfl) :
    PV X (.Call (.Name "any" p) [.GeneratorExp elt [⟨.Tuple [.Name x px, .Name xb pb] kt pt, .Call (.Name "enumerate" pn) [e] [] pe, [], 0⟩] scope gpos] [] pos) (wAnyE true f (caps.map (·.2)) wi) := by
  refine ⟨⟨fun pins s σ H Q I ⟨W, env, Sx, R, h⟩ => ?_⟩, monoAnyE hi.mono⟩
  refine wpAny_Call_Name_kw (ld_blt (u := .builtin "any") I hg hm (by decide +kernel) ?_)
  refine PyProof.Rows.callWith_builtin1 ?_ he (by rfl)
  rw [he]
  show wpAny _ _ (spliced ((false, eval (.GeneratorExp elt [⟨.Tuple [.Name x px, .Name xb pb] kt pt, .Call (.Name "enumerate" pn) [e] [] pe, [], 0⟩] scope gpos) X.env) :: backTo pos (starEach [] X.env))) _ _ s
  refine Calls.spliced_cons (gen_en hr C S Sb hab Ca hq hi hg2 hm2 hs na R I (Q := fun _ => True) (hi.mono _ _ _ (fun d ⟨ds, cs, bs, e1, e2, e3, q⟩ => ⟨ds, cs, bs, e1, e2, e3, fun H1 g s5 k1 hG => ?_⟩) h))
  obtain ⟨fp, wr, G, F, St, WS, hst, htr, hI⟩ := hG
  refine Calls.spliced_nil ?_
  refine call_any_walkS (WS.self 0 _ _ _ hst ⟨g, fp, wr, G, _, F, St, _, rfl, WS, hst, htr, fun s' hmv => ?_⟩)
  obtain ⟨H2, hT, J⟩ := hI s' hmv
  refine ⟨.bl _, H2, J, rfl, ?_⟩
  rw [any_range]
  exact q _ H2 (k1.trans (tabbed_kp k1.2 C.mem hT)) (.bl _)
theorem allE_ {c P : Addr} {elt e : Expr} {x xb : Str} {px pb pt gpos pn pe p pos : Pos} {kt : Nat} {scope : Scope} (caps : List (Str × Nat)) {f : QF} {k : Nat} {wi : WE}
    (hr : Room k X.A) (hg : Gl X "all") (hm : X.mg "all" = none) (hg2 : Gl X "enumerate") (hm2 : X.mg "enumerate" = none) (C : Cd X c P) (S : GenZ X.env scope x) (Sb : scope.names.lookup xb = some .local) (hab : x ≠ xb) (Ca : Caps X scope caps) (hq : QE X.mg scope (x :: xb :: caps.map (·.1)) elt f) (hi : PP X e wi)
    (hs : ∀ v, genFold (.Call (.Name "enumerate" pn) [e] [] pe) X.env v = pure v := by intro _; rfl) (na : starEach [e] X.env = (false, eval e X.env) :: starEach [] X.env := by rfl)
    (he : starEach [.GeneratorExp elt [⟨.Tuple [.Name x px, .Name xb pb] kt pt, .Call (.Name "enumerate" pn) [e] [] pe, [], 0⟩] scope gpos] X.env = (false, eval (.GeneratorExp elt [⟨.Tuple [.Name x px, .Name xb pb] kt pt, .Call (.Name "enumerate" pn) [e] [] pe, [], 0⟩] scope gpos) X.env) :: starEach [] X.env := by rfl) :
    PV X (.Call (.Name "all" p) [.GeneratorExp elt [⟨.Tuple [.Name x px, .Name xb pb] kt pt, .Call (.Name "enumerate" pn) [e] [] pe, [], 0⟩] scope gpos] [] pos) (wAnyE false f (caps.map (·.2)) wi) := by
  refine ⟨⟨fun pins s σ H Q I ⟨W, env, Sx, R, h⟩ => ?_⟩, monoAnyE hi.mono⟩
  refine wpAny_Call_Name_kw (ld_blt (u := .builtin "all") I hg hm (by decide +kernel) ?_)
  refine PyProof.Rows.callWith_builtin1 ?_ he (by rfl)
  rw [he]
  show wpAny _ _ (spliced ((false, eval (.GeneratorExp elt [⟨.Tuple [.Name x px, .Name xb pb] kt pt, .Call (.Name "enumerate" pn) [e] [] pe, [], 0⟩] scope gpos) X.env) :: backTo pos (starEach [] X.env))) _ _ s
  refine Calls.spliced_cons (gen_en hr C S Sb hab Ca hq hi hg2 hm2 hs na R I (Q := fun _ => True) (hi.mono _ _ _ (fun d ⟨ds, cs, bs, e1, e2, e3, q⟩ => ⟨ds, cs, bs, e1, e2, e3, fun H1 g s5 k1 hG => ?_⟩) h))
  obtain ⟨fp, wr, G, F, St, WS, hst, htr, hI⟩ := hG
  refine Calls.spliced_nil ?_
  refine call_all_walkS (WS.self 0 _ _ _ hst ⟨g, fp, wr, G, _, F, St, _, rfl, WS, hst, htr, fun s' hmv => ?_⟩)
  obtain ⟨H2, hT, J⟩ := hI s' hmv
  refine ⟨.bl _, H2, J, rfl, ?_⟩
  rw [all_range]
  exact q _ H2 (k1.trans (tabbed_kp k1.2 C.mem hT)) (.bl _)
end
omit [Tabs] in
@[simp] theorem s_wAnyE {k : Bool} {f : QF} {is : List Nat} {w : WE} {env : En} {Q : D → Prop} : wAnyE k f is w env Q = w env fun d => ∃ (ds cs : List D) (bs : List Bool), (d = .list ds ∨ d = .tuple ds) ∧ is.map env.at = cs.map .sh ∧ (enumGo 0 ds).map (pairF f cs) = bs.map (fun b => some (.bool b)) ∧
  Q (.bool (if k = true then bs.any id else bs.all id)) := id rfl
end Eg

/-! E32: list(range(..)), any and all over a list of pairs. -/
namespace Eg
open PySem PySem.Spec PyProof.Rows L2
variable [Tabs]
omit [Tabs] in
theorem rgV_eq {a b : Int} : rgV a b = (rng a (b - a).toNat).map V.int := by
  unfold rgV rng
  rw [List.map_map]; rfl
def wLR1 (w : WE) : WE := fun env Q => w env fun d => match d with
  | .int n => RgOk 0 n ∧ Q (.list ((rng 0 n.toNat).map .int))
  | _ => False
def wLR2 (w u : WE) : WE := fun env Q => w env fun d => u env fun e => match d, e with
  | .int a, .int b => RgOk a b ∧ Q (.list ((rng a (b - a).toNat).map .int))
  | _, _ => False
section
variable {X : Cx} {a b : Expr} {p p2 q pos : Pos} {w u : WE}
theorem lr1_ (hc : X.calm = true) (hg : Gl X "list") (hm : X.mg "list" = none) (hg2 : Gl X "range") (hm2 : X.mg "range" = none) (ha : PP X a w)
    (na : starEach [.Call (.Name "range" p2) [a] [] q] X.env = (false, eval (.Call (.Name "range" p2) [a] [] q) X.env) :: starEach [] X.env := by rfl) (nb : starEach [a] X.env = (false, eval a X.env) :: starEach [] X.env := by rfl) :
    PF X (.Call (.Name "list" p) [.Call (.Name "range" p2) [a] [] q] [] pos) (wLR1 w) := by
  refine ⟨(pe_listRg hc hg hm (prg_1 hg2 hm2 ha.pe nb) na).imp fun σ H Q ⟨W, env, S, R, h⟩ => ?_, fun env Q Q' f h => ha.mono _ _ _ (fun d h => ?_) h⟩
  · refine ⟨W, env, S, R, ha.mono _ _ _ (fun d h v H1 k1 t1 => ?_) h⟩
    cases d with
    | int n =>
      cases t1.int
      refine ⟨n, rfl, h.1, fun p2 h4 => ?_⟩
      rw [rgV_eq]
      have e : (n - 0).toNat = n.toNat := by omega
      rw [e]
      exact h.2 p2 _ _ _ rfl (k1.trans (.new k1.2 h4)) (k1.none_of R.j h4) upd_same (ints_rp2 _)
    | _ => exact h.elim
  · cases d with
    | int n => exact ⟨h.1, f _ h.2⟩
    | _ => exact h.elim
theorem lr2_ (hc : X.calm = true) (hg : Gl X "list") (hm : X.mg "list" = none) (hg2 : Gl X "range") (hm2 : X.mg "range" = none) (ha : PP X a w) (hb : PP X b u)
    (na : starEach [.Call (.Name "range" p2) [a, b] [] q] X.env = (false, eval (.Call (.Name "range" p2) [a, b] [] q) X.env) :: starEach [] X.env := by rfl) (nb : starEach [a, b] X.env = (false, eval a X.env) :: starEach [b] X.env := by rfl)
    (nc : starEach [b] X.env = (false, eval b X.env) :: starEach [] X.env := by rfl) (nd : (backTo q (starEach [b] X.env)).any (·.1) = false := by rfl) :
    PF X (.Call (.Name "list" p) [.Call (.Name "range" p2) [a, b] [] q] [] pos) (wLR2 w u) := by
  refine ⟨(pe_listRg hc hg hm (prg_2 hg2 hm2 ha.pe hb.pe nb nc nd) na).imp fun σ H Q ⟨W, env, S, R, h⟩ => ?_, fun env Q Q' f h => ha.mono _ _ _ (fun d h => hb.mono _ _ _ (fun e h => ?_) h) h⟩
  · refine ⟨W, env, S, R, ha.mono _ _ _ (fun d h v H1 k1 t1 => ⟨W, env, S, R.kept k1, hb.mono _ _ _ (fun e h v2 H2 k2 t2 => ?_) h⟩) h⟩
    cases d with
    | int i =>
      cases e with
      | int j =>
        cases t1.int
        cases t2.int
        refine ⟨i, j, rfl, rfl, h.1, fun p2 h4 => ?_⟩
        rw [rgV_eq]
        have k12 := k1.trans k2
        exact h.2 p2 _ _ _ rfl (k12.trans (.new k12.2 h4)) (k12.none_of R.j h4) upd_same (ints_rp2 _)
      | _ => exact h.elim
    | _ => exact h.elim
  · cases d with
    | int i =>
      cases e with
      | int j => exact ⟨h.1, f _ h.2⟩
      | _ => exact h.elim
    | _ => exact h.elim
end
section
variable {X : Cx} {pins : List (Addr × Obj)} {σ : L2.St} {H : Hp} {s : Shared}
omit [Tabs] in
theorem pairF_some {f : QF} {cs : List D} {d : D} {r : D} (h : pairF f cs d = some r) : ∃ a b, d = .tuple [a, b] ∧ f (a :: b :: cs) = some r := by
  unfold pairF at h
  split at h
  · rename_i a b
    exact ⟨a, b, rfl, h⟩
  · cases h
theorem gen_pr {c P : Addr} {elt e : Expr} {x xb : Str} {px pb pt gpos : Pos} {kt : Nat} {scope : Scope} {caps : List (Str × Nat)} {f : QF} {k : Nat} {wi : WE} {Q' : Value → Shared → Prop}
    (hr : Room k X.A) (C : Cd X c P) (S : GenZ X.env scope x) (Sb : scope.names.lookup xb = some .local) (hab : x ≠ xb) (Ca : Caps X scope caps) (hq : QE X.mg scope (x :: xb :: caps.map (·.1)) elt f) (hi : PP X e wi)
    (hs : ∀ v, genFold e X.env v = pure v)
    {W : Wd} {env : En} {Sx : Addr → Prop} (R : RlS W env Sx σ H) (I : Inv X pins σ H s) {Q : D → Prop}
    (h : wi env fun d => ∃ (ds cs : List D) (bs : List Bool), d = .list ds ∧ (caps.map (·.2)).map env.at = cs.map .sh ∧ ds.map (pairF f cs) = bs.map (fun b => some (.bool b)) ∧
      ∀ H1 g s5, KpJ W H H1 → Rdy X pins σ H1 P bs.length (fun i => bs.getD i false) g s5 → Q' (.ref g) s5) :
    wpAny (model X.prog X.w) X.A (eval (.GeneratorExp elt [⟨.Tuple [.Name x px, .Name xb pb] kt pt, e, [], 0⟩] scope gpos) X.env) Q' X.xe s := by
  refine gen_core2 (pins := pins) (σ := σ) hr C.tb C.code S (fun y hy e => I.ok.has _ (S.free y hy e)) Sb hab Ca hq hs ?_
  refine thn (hi.pe.run pins s σ H (fun v H1 => ∃ (d : D) (ds cs : List D) (bs : List Bool), KpJ W H H1 ∧ Top W H1 Sx v d ∧ d = .list ds ∧ (caps.map (·.2)).map env.at = cs.map .sh ∧ ds.map (pairF f cs) = bs.map (fun b => some (.bool b)) ∧
      ∀ H1 g s5, KpJ W H H1 → Rdy X pins σ H1 P bs.length (fun i => bs.getD i false) g s5 → Q' (.ref g) s5) I ⟨W, env, Sx, R, hi.mono _ _ _ (fun d ⟨ds, cs, bs, e1, e2, e3, q⟩ v H1 k t => ⟨d, ds, cs, bs, k, t, e1, e2, e3, q⟩) h⟩) fun xv s1 ⟨v, H1, I1, r1, d, ds, cs, bs, k1, t1, ed, ec, ef, q⟩ => ?_
  have R1 := R.kept k1
  have fl : bs.length = ds.length := by
    have := congrArg List.length ef
    simpa using this.symm
  have fi0 : ∀ i, i < bs.length → ∃ a b, ds[i]? = some (.tuple [a, b]) ∧ f (a :: b :: cs) = some (.bool (bs.getD i false)) := fun i hi => by
    have := congrArg (fun l => l[i]?) ef
    simp only [List.getElem?_map] at this
    rw [List.getElem?_eq_getElem (by omega), List.getElem?_eq_getElem hi] at this
    have this := Option.some.inj this
    obtain ⟨a, b, e1, e2⟩ := pairF_some this
    refine ⟨a, b, by rw [List.getElem?_eq_getElem (by omega), e1], ?_⟩
    rw [List.getD_eq_getElem?_getD (l := bs), List.getElem?_eq_getElem hi]
    exact e2
  have cl : cs.length = caps.length := by
    have := congrArg List.length ec
    simpa using this.symm
  have hcap : ∀ (j : Nat) (p : Str × Nat) (d : D), caps[j]? = some p → cs[j]? = some d → ∃ v, σ[p.2]? = some (some v) ∧ Rp W.T H1 Sx v d := fun j p d h1 h2 => by
    have := congrArg (fun l => l[j]?) ec
    simp only [List.getElem?_map, h1, h2, Option.map_some] at this
    have e : env.at p.2 = .sh d := Option.some.inj this
    have sl := R1.sl p.2
    rw [e] at sl
    exact sl
  have hSP : Sx P := R.sm P (W.tm P C.mem)
  have hT : GxR.TabG H1 P := (W.tj P C.mem H1 k1.2).1
  have pP : ∀ a o, H1 a = some o → (∀ ps, o ≠ .tbl ps) → a ≠ P := fun a o e n z => by
    obtain ⟨ps, e2, _⟩ := hT
    rw [z, e2] at e
    exact n ps (Option.some.inj e).symm
  subst ed
  obtain ⟨a, vs, rfl, ha, ra⟩ := t1.list
  cases r1
  obtain ⟨its, rv, hl, hz⟩ := I1.list (.inl (.inl ha) : SqL X.K H1 a vs)
  have hIL := hl.isList
  have hylt : a < s1.heap.objs.size := by
    obtain ⟨_, e, _⟩ := _root_.id hIL
    exact Heap.lt_size e
  have hn : its.toArray.size = bs.length := by
    rw [List.size_toArray, ← rv.length, ra.length, fl]
  have each : ∀ j, ∃ z : Addr × Value × Value × V × V × D × D, j < bs.length → its.toArray[j]? = some (.ref z.1) ∧ s1.heap.IsTuple z.1 #[z.2.1, z.2.2.1] ∧ H1 z.1 = some (.tup [z.2.2.2.1, z.2.2.2.2.1]) ∧
      ds[j]? = some (.tuple [z.2.2.2.2.2.1, z.2.2.2.2.2.2]) ∧ RelV z.2.2.2.1 z.2.1 ∧ Rp W.T H1 Sx z.2.2.2.1 z.2.2.2.2.2.1 ∧ RelV z.2.2.2.2.1 z.2.2.1 ∧ Rp W.T H1 Sx z.2.2.2.2.1 z.2.2.2.2.2.2 := fun j => by
    by_cases hj : j < bs.length
    · obtain ⟨da, db, hd, _⟩ := fi0 j hj
      obtain ⟨y, hy, ry⟩ := ra.get hd
      obtain ⟨u, hu, ru⟩ := rv.get hy
      cases ry with
      | tup h1 h2 h3 =>
        rename_i T xs
        cases ru
        obtain ⟨its2, rv2, hl2, hz2⟩ := I1.tuple (.inl (.inl h1) : SqT X.K H1 T xs)
        cases h3 with
        | cons ra1 t1 =>
          cases t1 with
          | cons ra2 t2 =>
            cases t2
            cases rv2 with
            | cons r1 t1 =>
              cases t1 with
              | cons r2 t2 =>
                cases t2
                exact ⟨⟨T, _, _, _, _, da, db⟩, fun _ => ⟨by simpa using hu, hl2, h1, hd, r1, ra1, r2, ra2⟩⟩
    · exact ⟨⟨0, .none, .none, .non, .non, .none, .none⟩, fun z => absurd z hj⟩
  obtain ⟨F, hF⟩ := Classical.axiomOfChoice each
  refine ⟨s1, H1, W.T, Sx, bs.length, fun i => (F i).2.2.2.2.2.1, fun i => (F i).2.2.2.2.2.2, cs, fun i => bs.getD i false, I1, hT, hSP, cl, hcap, fun i hi => ?_, wpAny_pyIter_list hIL ?_, fun g s5 r => q H1 g s5 k1 r⟩
  · obtain ⟨da, db, hd, hf⟩ := fi0 i hi
    have := (hF i hi).2.2.2.1
    rw [hd] at this
    have this := Option.some.inj this
    injection this with e1
    injection e1 with e2 e3
    injection e3 with e4 _
    show f ((F i).2.2.2.2.2.1 :: (F i).2.2.2.2.2.2 :: cs) = some (.bool (bs.getD i false))
    rw [← e2, ← e4]
    exact hf
  · have tne : ∀ j, j < its.toArray.size → (F j).1 ≠ s1.heap.objs.size := fun j hj => by
      obtain ⟨_, h2, _⟩ := hF j (by rw [← hn]; exact hj)
      obtain ⟨_, e, _⟩ := _root_.id h2
      exact Nat.ne_of_lt (Heap.lt_size e)
    refine ⟨_, s1.heap.objs.size :: a :: (List.range its.toArray.size).map fun j => (F j).1, [s1.heap.objs.size], (fun j v => j < its.toArray.size ∧ v = #[(F j).2.1, (F j).2.2.1]), (fun j h => h.IsListIter s1.heap.objs.size a j ∧ h.IsList a its.toArray ∧ ∀ k, k < its.toArray.size → h.IsTuple (F k).1 #[(F k).2.1, (F k).2.2.1]), _, rfl, ⟨_, s1.toks, rfl, by rw [Heap.size_push]; omega, fun b o e => Heap.get?_push_of_some _ e, fun z => z.push _⟩,
      (fun A' hA => by rw [← hn]; exact (WalksU.listOfTuples (A := A') hA s1.heap.objs.size a (Nat.ne_of_lt hylt) its.toArray (fun j => (F j).1) (fun j => #[(F j).2.1, (F j).2.2.1]) (fun j hj => (hF j (by rw [← hn]; exact hj)).1) tne).bound), ⟨⟨_, Heap.get?_push_size _ rfl, rfl, rfl⟩, hIL.at fun o e => Heap.get?_push_of_some _ e, fun k hk => (hF k (by rw [← hn]; exact hk)).2.1.at fun o e => Heap.get?_push_of_some _ e⟩, fun b hb => ?_, fun b hb => ?_, fun i v hv => ?_⟩
    · show b < (s1.heap.push _).objs.size ∧ b ≠ P
      rw [Heap.size_push]
      rcases List.mem_cons.mp hb with z | z
      · rw [z]
        exact ⟨Nat.lt_succ_self _, fun z2 => by
          obtain ⟨ps, e2, _⟩ := hT
          have := I1.hok.lt e2
          rw [← z2] at this
          exact Nat.lt_irrefl _ this⟩
      · rcases List.mem_cons.mp z with z | z
        · rw [z]
          exact ⟨Nat.lt_succ_of_lt hylt, pP a _ ha fun ps z => nomatch z⟩
        · obtain ⟨j, hj, rfl⟩ := List.mem_map.mp z
          have hj' := List.mem_range.mp hj
          obtain ⟨_, h2, h3, _⟩ := hF j (by rw [← hn]; exact hj')
          obtain ⟨_, e, _⟩ := _root_.id h2
          exact ⟨Nat.lt_succ_of_lt (Heap.lt_size e), pP _ _ h3 fun ps z => nomatch z⟩
    · rw [List.mem_singleton.mp hb]; exact Nat.le_refl _
    · obtain ⟨hi, ev⟩ := hv
      have hi' : i < bs.length := by rw [← hn]; exact hi
      obtain ⟨_, _, _, _, h5, h6, h7, h8⟩ := hF i hi'
      exact ⟨_, _, _, _, ev, hi', h5, h6, h7, h8⟩
/-- any (k), all of the test f over a list of pairs -/
def wAnyP (k : Bool) (f : QF) (is : List Nat) (w : WE) : WE := fun env Q => w env fun d => ∃ (ds cs : List D) (bs : List Bool), d = .list ds ∧ is.map env.at = cs.map .sh ∧ ds.map (pairF f cs) = bs.map (fun b => some (.bool b)) ∧
  Q (.bool (if k = true then bs.any id else bs.all id))
omit [Tabs] in
theorem monoAnyP {k : Bool} {f : QF} {is : List Nat} {w : WE} (h : Mono w) : Mono (wAnyP k f is w) := fun env Q Q' m q => h _ _ _ (fun d ⟨ds, cs, bs, a, b, c, e⟩ => ⟨ds, cs, bs, a, b, c, m _ e⟩) q
theorem anyP_ {c P : Addr} {elt e : Expr} {x xb : Str} {px pb pt gpos p pos : Pos} {kt : Nat} {scope : Scope} (caps : List (Str × Nat)) {f : QF} {k : Nat} {wi : WE}
    (hr : Room k X.A) (hg : Gl X "any") (hm : X.mg "any" = none) (C : Cd X c P) (S : GenZ X.env scope x) (Sb : scope.names.lookup xb = some .local) (hab : x ≠ xb) (Ca : Caps X scope caps) (hq : QE X.mg scope (x :: xb :: caps.map (·.1)) elt f) (hi : PP X e wi)
    (hs : ∀ v, genFold e X.env v = pure v := by intro _; rfl)
    (he : starEach [.GeneratorExp elt [⟨.Tuple [.Name x px, .Name xb pb] kt pt, e, [], 0⟩] scope gpos] X.env = (false, eval (.GeneratorExp elt [⟨.Tuple [.Name x px, .Name xb pb] kt pt, e, [], 0⟩] scope gpos) X.env) :: starEach [] X.env := by rfl) :
    PV X (.Call (.Name "any" p) [.GeneratorExp elt [⟨.Tuple [.Name x px, .Name xb pb] kt pt, e, [], 0⟩] scope gpos] [] pos) (wAnyP true f (caps.map (·.2)) wi) := by
  refine ⟨⟨fun pins s σ H Q I ⟨W, env, Sx, R, h⟩ => ?_⟩, monoAnyP hi.mono⟩
  refine wpAny_Call_Name_kw (ld_blt (u := .builtin "any") I hg hm (by decide +kernel) ?_)
  refine PyProof.Rows.callWith_builtin1 ?_ he (by rfl)
  rw [he]
  show wpAny _ _ (spliced ((false, eval (.GeneratorExp elt [⟨.Tuple [.Name x px, .Name xb pb] kt pt, e, [], 0⟩] scope gpos) X.env) :: backTo pos (starEach [] X.env))) _ _ s
  refine Calls.spliced_cons (gen_pr hr C S Sb hab Ca hq hi hs R I (Q := fun _ => True) (hi.mono _ _ _ (fun d ⟨ds, cs, bs, e1, e2, e3, q⟩ => ⟨ds, cs, bs, e1, e2, e3, fun H1 g s5 k1 hG => ?_⟩) h))
  obtain ⟨fp, wr, G, F, St, WS, hst, htr, hI⟩ := hG
  refine Calls.spliced_nil ?_
  refine call_any_walkS (WS.self 0 _ _ _ hst ⟨g, fp, wr, G, _, F, St, _, rfl, WS, hst, htr, fun s' hmv => ?_⟩)
  obtain ⟨H2, hT, J⟩ := hI s' hmv
  refine ⟨.bl _, H2, J, rfl, ?_⟩
  rw [any_range]
  exact q _ H2 (k1.trans (tabbed_kp k1.2 C.mem hT)) (.bl _)
theorem allP_ {c P : Addr} {elt e : Expr} {x xb : Str} {px pb pt gpos p pos : Pos} {kt : Nat} {scope : Scope} (caps : List (Str × Nat)) {f : QF} {k : Nat} {wi : WE}
    (hr : Room k X.A) (hg : Gl X "all") (hm : X.mg "all" = none) (C : Cd X c P) (S : GenZ X.env scope x) (Sb : scope.names.lookup xb = some .local) (hab : x ≠ xb) (Ca : Caps X scope caps) (hq : QE X.mg scope (x :: xb :: caps.map (·.1)) elt f) (hi : PP X e wi)
    (hs : ∀ v, genFold e X.env v = pure v := by intro _; rfl)
    (he : starEach [.GeneratorExp elt [⟨.Tuple [.Name x px, .Name xb pb] kt pt, e, [], 0⟩] scope gpos] X.env = (false, eval (.GeneratorExp elt [⟨.Tuple [.Name x px, .Name xb pb] kt pt, e, [], 0⟩] scope gpos) X.env) :: starEach [] X.env := by rfl) :
    PV X (.Call (.Name "all" p) [.GeneratorExp elt [⟨.Tuple [.Name x px, .Name xb pb] kt pt, e, [], 0⟩] scope gpos] [] pos) (wAnyP false f (caps.map (·.2)) wi) := by
  refine ⟨⟨fun pins s σ H Q I ⟨W, env, Sx, R, h⟩ => ?_⟩, monoAnyP hi.mono⟩
  refine wpAny_Call_Name_kw (ld_blt (u := .builtin "all") I hg hm (by decide +kernel) ?_)
  refine PyProof.Rows.callWith_builtin1 ?_ he (by rfl)
  rw [he]
  show wpAny _ _ (spliced ((false, eval (.GeneratorExp elt [⟨.Tuple [.Name x px, .Name xb pb] kt pt, e, [], 0⟩] scope gpos) X.env) :: backTo pos (starEach [] X.env))) _ _ s
  refine Calls.spliced_cons (gen_pr hr C S Sb hab Ca hq hi hs R I (Q := fun _ => True) (hi.mono _ _ _ (fun d ⟨ds, cs, bs, e1, e2, e3, q⟩ => ⟨ds, cs, bs, e1, e2, e3, fun H1 g s5 k1 hG => ?_⟩) h))
  obtain ⟨fp, wr, G, F, St, WS, hst, htr, hI⟩ := hG
  refine Calls.spliced_nil ?_
  refine call_all_walkS (WS.self 0 _ _ _ hst ⟨g, fp, wr, G, _, F, St, _, rfl, WS, hst, htr, fun s' hmv => ?_⟩)
  obtain ⟨H2, hT, J⟩ := hI s' hmv
  refine ⟨.bl _, H2, J, rfl, ?_⟩
  rw [all_range]
  exact q _ H2 (k1.trans (tabbed_kp k1.2 C.mem hT)) (.bl _)
end
omit [Tabs] in
@[simp] theorem s_wAnyP {k : Bool} {f : QF} {is : List Nat} {w : WE} {env : En} {Q : D → Prop} : wAnyP k f is w env Q = w env fun d => ∃ (ds cs : List D) (bs : List Bool), d = .list ds ∧ is.map env.at = cs.map .sh ∧ ds.map (pairF f cs) = bs.map (fun b => some (.bool b)) ∧
  Q (.bool (if k = true then bs.any id else bs.all id)) := id rfl
omit [Tabs] in
@[simp] theorem s_wLR1 {w : WE} {env : En} {Q : D → Prop} : wLR1 w env Q = w env fun d => match d with
  | .int n => RgOk 0 n ∧ Q (.list ((rng 0 n.toNat).map .int))
  | _ => False := id rfl
omit [Tabs] in
@[simp] theorem s_wLR2 {w u : WE} {env : En} {Q : D → Prop} : wLR2 w u env Q = w env fun d => u env fun e => match d, e with
  | .int a, .int b => RgOk a b ∧ Q (.list ((rng a (b - a).toNat).map .int))
  | _, _ => False := id rfl
end Eg

/-! E33: name = x.pop(e), x.pop(), x.insert(e, f), xs.index(v). -/
namespace Eg
open PySem PySem.Spec PyProof.Rows L2
variable [Tabs]
theorem RlS.ownAt {W : Wd} {env : En} {S : Addr → Prop} {σ : L2.St} {H : Hp} (R : RlS W env S σ H) {i : Nat} {ds : List D} (e : env.at i = .ow ds) : ∃ a vs, σ[i]? = some (some (.ref a)) ∧ S a ∧ ¬ W.M a ∧ H a = some (.lst vs) ∧ RpAll W.T H S vs ds := by
  have s := R.sl i
  rw [e] at s
  obtain ⟨a, vs, ea, O⟩ := s
  exact ⟨a, vs, ea, O.s, O.m, O.h, O.r⟩
theorem Rp.away {W : Wd} {S : Addr → Prop} {H : Hp} {a : Addr} {o : HO} (s : S a) {v : V} {d : D} (q : Rp W.T H S v d) : Rp W.T (upd H a o) S v d :=
  q.move (d := d) fun b o e n => ⟨by rw [upd_ne (fun z => n (by rw [z]; exact s))]; exact e, n⟩
/-! ### y = x.pop(e) -/
def wPopAt (j i : Nat) (w : WE) : WS := fun env P => match env.at i with
  | .ow ds => w env fun d => match d with
    | .int m => ∃ (k : Nat) (y : D), m = (k : Int) ∧ m < 2 ^ 63 ∧ ds[k]? = some y ∧ P.nx ((env.set i (.ow (ds.eraseIdx k))).set j (.sh y))
    | _ => False
  | _ => False
def wPop (j i : Nat) : WS := fun env P => match env.at i with
  | .ow ds => ∃ y : D, ds[ds.length - 1]? = some y ∧ P.nx ((env.set i (.ow ds.dropLast)).set j (.sh y))
  | _ => False
def wPopX (i : Nat) : WS := fun env P => match env.at i with
  | .ow ds => ds ≠ [] ∧ P.nx (env.set i (.ow ds.dropLast))
  | _ => False
theorem seqIx {k n : Nat} (h : k < n) : seqIndex? (k : Int) n = some k := by
  unfold seqIndex?
  simp
  omega
theorem RpAll.dropLast {T : Nat → V} {H : Hp} {S : Addr → Prop} : ∀ {vs : List V} {ds : List D}, RpAll T H S vs ds → RpAll T H S vs.dropLast ds.dropLast
  | _, _, .nil => .nil
  | _, _, .cons a .nil => .nil
  | _, _, .cons a (.cons b t) => .cons a (RpAll.dropLast (.cons b t))
section
variable {X : Cx} {e f a b : Expr} {w wk wx : WE} {p1 p2 p3 pos pos' cpos : Pos}
theorem popAt_ (j i : Nat) {y x : Str} (hNd : X.N.Nodup) (h : PV X e w) (hj : X.N[j]? = some y := by rfl) (hjl : Loc X.env.scope y := by first | exact Or.inl rfl | exact Or.inr rfl)
    (hN : X.N[i]? = some x := by rfl) (hv : Vis X.env.scope x := by first | exact Or.inl rfl | exact Or.inr (Or.inl rfl) | exact Or.inr (Or.inr rfl)) (hd : (x == ("__debug__" : Str)) = false := by decide)
    (hcd : (x == ("__classdict__" : Str)) = false := by decide)
    (hbase : attributeBase (.Name x p1) (Str.ofString "pop") X.env (eval (.Name x p1) X.env) = eval (.Name x p1) X.env := by rfl)
    (hfew : ((backTo p3 (starEach [e] X.env)).all (fun x => !x.1) && (backToKw p3 (keywordEach [] X.env)).all (fun x => x.1.isSome) && decide (([e] : List Expr).length + ([] : List Keyword).length + (if ([] : List Keyword).isEmpty then 0 else 1) < 30)) = true := by rfl)
    (hline : (p2.endLine == p3.line) = true := by rfl) (hs : starEach [e] X.env = (false, eval e X.env) :: starEach [] X.env := by rfl) (hplain : (backTo p3 (starEach [] X.env)).any (·.1) = false := by rfl)
    (hsw : swapsWith (.Call (.Attribute (.Name x p1) (Str.ofString "pop") p2) [e] [] p3) (some (.Name y pos')) pos.line X.env = pure false := by rfl)
    (hf : X.fn y = true ∨ X.env.scope.names.lookup y = some .local := by first | exact .inl rfl | exact .inr rfl | assumption) :
    PSv X (.Assign [.Name y pos'] (.Call (.Attribute (.Name x p1) (Str.ofString "pop") p2) [e] [] p3) pos) (wPopAt j i w) := by
  have pn : PA X [] tNil := pa_nil
  refine ⟨(ps_set hNd hj hjl (pe_bm PySem.F.plainAttrs_list PySem.F.slot_list_pop PySem.F.type_list_pop mt_popAt (pe_var hN hv hd hcd) (pa_cons h.pe pn hs) hbase hfew hline hs hplain) hsw hf).imp fun D σ H ⟨W, env, S, R, q⟩ => ?_, fun env P P' l q => ?_⟩
  · unfold wPopAt at q
    split at q
    · rename_i ds0 he
      obtain ⟨a, vs, ea, sa, ma, ha, ra⟩ := R.ownAt he
      refine ⟨.ref a, ea, .inl ⟨rfl, vs, .inl (.inl ha)⟩, W, env, S, R, h.mono _ _ _ (fun d q v H' k r => ?_) q⟩
      cases d with
      | int m =>
        obtain ⟨kk, z, rfl, hm, hz, q⟩ := q
        have ev : v = .int (kk : Int) := by cases r; rfl
        subst ev
        have hv' : H' a = some (.lst vs) := k.1 a _ ha ma
        have rv := ra.kept k R.sm
        obtain ⟨u, hu, ru⟩ := rv.get hz
        have hlt : kk < vs.length := (List.getElem?_eq_some_iff.mp hu).1
        refine ⟨a, vs, (kk : Int), kk, u, rfl, rfl, hv', by omega, hm, seqIx hlt, hu, ?_⟩
        exact q _ _ S (((R.kept k).write he ea (R.lt he) (rv.eraseIdx kk)).setSh (ru.away sa))
      | _ => exact q.elim
    · exact q.elim
  · unfold wPopAt at q ⊢
    split at q
    · rename_i ds0 he
      exact h.mono _ _ _ (fun d q => by
        cases d with
        | int m => obtain ⟨kk, z, e1, hm, hz, q⟩ := q; exact ⟨kk, z, e1, hm, hz, l.nx _ q⟩
        | _ => exact q.elim) q
    · exact q.elim
theorem pop_ (j i : Nat) {y x : Str} (hNd : X.N.Nodup) (hj : X.N[j]? = some y := by rfl) (hjl : Loc X.env.scope y := by first | exact Or.inl rfl | exact Or.inr rfl)
    (hN : X.N[i]? = some x := by rfl) (hv : Vis X.env.scope x := by first | exact Or.inl rfl | exact Or.inr (Or.inl rfl) | exact Or.inr (Or.inr rfl)) (hd : (x == ("__debug__" : Str)) = false := by decide)
    (hcd : (x == ("__classdict__" : Str)) = false := by decide)
    (hbase : attributeBase (.Name x p1) (Str.ofString "pop") X.env (eval (.Name x p1) X.env) = eval (.Name x p1) X.env := by rfl)
    (hline : (p2.endLine == p3.line) = true := by rfl)
    (hsw : swapsWith (.Call (.Attribute (.Name x p1) (Str.ofString "pop") p2) [] [] p3) (some (.Name y pos')) pos.line X.env = pure false := by rfl)
    (hf : X.fn y = true ∨ X.env.scope.names.lookup y = some .local := by first | exact .inl rfl | exact .inr rfl | assumption) :
    PSv X (.Assign [.Name y pos'] (.Call (.Attribute (.Name x p1) (Str.ofString "pop") p2) [] [] p3) pos) (wPop j i) := by
  refine ⟨(ps_set hNd hj hjl (pe_bm0 PySem.F.plainAttrs_list PySem.F.slot_list_pop PySem.F.type_list_pop mt_pop (pe_var hN hv hd hcd) hbase hline) hsw hf).imp fun D σ H ⟨W, env, S, R, q⟩ => ?_, fun env P P' l q => ?_⟩
  · unfold wPop at q
    split at q
    · rename_i ds0 he
      obtain ⟨a, vs, ea, sa, ma, ha, ra⟩ := R.ownAt he
      obtain ⟨z, hz, q⟩ := q
      obtain ⟨u, hu, ru⟩ := ra.get hz
      refine ⟨.ref a, ea, .inl ⟨rfl, vs, .inl (.inl ha)⟩, a, vs, u, rfl, rfl, ha, by rw [ra.length]; exact hu, ?_⟩
      exact q _ _ S ((R.write he ea (R.lt he) ra.dropLast).setSh (ru.away sa))
    · exact q.elim
  · unfold wPop at q ⊢
    split at q
    · rename_i ds0 he
      obtain ⟨z, hz, q⟩ := q
      exact ⟨z, hz, l.nx _ q⟩
    · exact q.elim
theorem popX_ (i : Nat) {x : Str}
    (hN : X.N[i]? = some x := by rfl) (hv : Vis X.env.scope x := by first | exact Or.inl rfl | exact Or.inr (Or.inl rfl) | exact Or.inr (Or.inr rfl)) (hd : (x == ("__debug__" : Str)) = false := by decide)
    (hcd : (x == ("__classdict__" : Str)) = false := by decide)
    (hbase : attributeBase (.Name x p1) (Str.ofString "pop") X.env (eval (.Name x p1) X.env) = eval (.Name x p1) X.env := by rfl)
    (hline : (p2.endLine == p3.line) = true := by rfl)
    (hsw : swapsWith (.Call (.Attribute (.Name x p1) (Str.ofString "pop") p2) [] [] p3) none pos.line X.env = pure false := by rfl) :
    PSv X (.Expr (.Call (.Attribute (.Name x p1) (Str.ofString "pop") p2) [] [] p3) pos) (wPopX i) := by
  refine ⟨(ps_expr (pe_bm0 PySem.F.plainAttrs_list PySem.F.slot_list_pop PySem.F.type_list_pop mt_pop (pe_var hN hv hd hcd) hbase hline) hsw).imp fun D σ H ⟨W, env, S, R, q⟩ => ?_, fun env P P' l q => ?_⟩
  · unfold wPopX at q
    split at q
    · rename_i ds0 he
      obtain ⟨a, vs, ea, sa, ma, ha, ra⟩ := R.ownAt he
      obtain ⟨hz, q⟩ := q
      have hl : 0 < ds0.length := List.length_pos_iff.mpr hz
      obtain ⟨u, hu, ru⟩ := ra.get (List.getElem?_eq_getElem (show ds0.length - 1 < ds0.length by omega))
      refine ⟨.ref a, ea, .inl ⟨rfl, vs, .inl (.inl ha)⟩, a, vs, u, rfl, rfl, ha, by rw [ra.length]; exact hu, ?_⟩
      exact q _ _ S (R.write he ea (R.lt he) ra.dropLast)
    · exact q.elim
  · unfold wPopX at q ⊢
    split at q
    · exact ⟨q.1, l.nx _ q.2⟩
    · exact q.elim
/-! ### x.insert(e, f) -/
def wIns (i : Nat) (wk wx : WE) : WS := fun env P => match env.at i with
  | .ow ds => wk env fun k => wx env fun d => match k with
    | .int m => 0 ≤ m ∧ m < 2 ^ 63 ∧ ds.length < sizeLine ∧ P.nx (env.set i (.ow (ds.take m.toNat ++ [d] ++ ds.drop m.toNat)))
    | _ => False
  | _ => False
theorem ins_ (i : Nat) {x : Str} (hk : PV X e wk) (hx : PV X f wx)
    (hN : X.N[i]? = some x := by rfl) (hv : Vis X.env.scope x := by first | exact Or.inl rfl | exact Or.inr (Or.inl rfl) | exact Or.inr (Or.inr rfl)) (hd : (x == ("__debug__" : Str)) = false := by decide)
    (hcd : (x == ("__classdict__" : Str)) = false := by decide)
    (hbase : attributeBase (.Name x p1) (Str.ofString "insert") X.env (eval (.Name x p1) X.env) = eval (.Name x p1) X.env := by rfl)
    (hfew : ((backTo p3 (starEach [e, f] X.env)).all (fun x => !x.1) && (backToKw p3 (keywordEach [] X.env)).all (fun x => x.1.isSome) && decide (([e, f] : List Expr).length + ([] : List Keyword).length + (if ([] : List Keyword).isEmpty then 0 else 1) < 30)) = true := by rfl)
    (hline : (p2.endLine == p3.line) = true := by rfl) (hs : starEach [e, f] X.env = (false, eval e X.env) :: starEach [f] X.env := by rfl) (hs2 : starEach [f] X.env = (false, eval f X.env) :: starEach [] X.env := by rfl) (hplain : (backTo p3 (starEach [f] X.env)).any (·.1) = false := by rfl)
    (hsw : swapsWith (.Call (.Attribute (.Name x p1) (Str.ofString "insert") p2) [e, f] [] p3) none pos.line X.env = pure false := by rfl) :
    PSv X (.Expr (.Call (.Attribute (.Name x p1) (Str.ofString "insert") p2) [e, f] [] p3) pos) (wIns i wk wx) := by
  have pn : PA X [] tNil := pa_nil
  refine ⟨(ps_expr (pe_bm PySem.F.plainAttrs_list PySem.F.slot_list_insert PySem.F.type_list_insert mt_insert (pe_var hN hv hd hcd) (pa_cons hk.pe (pa_cons hx.pe pn hs2) hs) hbase hfew hline hs hplain) hsw).imp fun D σ H ⟨W, env, S, R, q⟩ => ?_, fun env P P' l q => ?_⟩
  · unfold wIns at q
    split at q
    · rename_i ds0 he
      obtain ⟨a, vs, ea, sa, ma, ha, ra⟩ := R.ownAt he
      refine ⟨.ref a, ea, .inl ⟨rfl, vs, .inl (.inl ha)⟩, W, env, S, R, hk.mono _ _ _ (fun d q v H' k r => ?_) q⟩
      refine ⟨W, env, S, R.kept k, hx.mono _ _ _ (fun d2 q v2 H2 k2 r2 => ?_) q⟩
      cases d with
      | int m =>
        obtain ⟨h0, h1, hl, q⟩ := q
        have ev : v = .int m := by cases r; rfl
        subst ev
        have k12 := k.trans k2
        have rv := ra.kept k12 R.sm
        refine ⟨a, vs, m, v2, rfl, rfl, k12.1 a _ ha ma, by rw [rv.length]; exact hl, h0, h1, ?_⟩
        exact q _ _ S ((R.kept k12).write he ea (R.lt he) (((rv.take _).append (.cons r2 .nil)).append (rv.drop _)))
      | _ => exact q.elim
    · exact q.elim
  · unfold wIns at q ⊢
    split at q
    · rename_i ds0 he
      exact hk.mono _ _ _ (fun d q => hx.mono _ _ _ (fun d2 q => by
        cases d with
        | int m => obtain ⟨h0, h1, hl, q⟩ := q; exact ⟨h0, h1, hl, l.nx _ q⟩
        | _ => exact q.elim) q) q
    · exact q.elim
/-! ### xs.index(v) -/
def gIdx (ds : List D) : D → (D → Prop) → Prop := fun d Q => (SeqAt.shaped (.list ds) = true ∧ SeqAt.shaped d = true) ∧ ∃ j : Nat, (∃ z, ds[j]? = some z ∧ PyData.eqv z d = true) ∧ (∀ m z, m < j → ds[m]? = some z → PyData.eqv z d = false) ∧ Q (.int (j : Int))
def wIdx (wo wa : WE) : WE := fun env Q => wo env fun l => match l with
  | .list ds => wa env fun d => gIdx ds d Q
  | _ => False
theorem idx_ {o : Expr} (hu : X.A.units + 65 < cLine) (ho : PP X o wk) (h : PP X e wx)
    (hbase : attributeBase o (Str.ofString "index") X.env (eval o X.env) = eval o X.env := by rfl)
    (hfew : ((backTo cpos (starEach [e] X.env)).all (fun x => !x.1) && (backToKw cpos (keywordEach [] X.env)).all (fun x => x.1.isSome) && decide (([e] : List Expr).length + ([] : List Keyword).length + (if ([] : List Keyword).isEmpty then 0 else 1) < 30)) = true := by rfl)
    (hline : (p2.endLine == cpos.line) = true := by rfl) (hs : starEach [e] X.env = (false, eval e X.env) :: starEach [] X.env := by rfl) (hplain : (backTo cpos (starEach [] X.env)).any (·.1) = false := by rfl) :
    PV X (.Call (.Attribute o (Str.ofString "index") p2) [e] [] cpos) (wIdx wk wx) := by
  have pn : PA X [] tNil := pa_nil
  refine ⟨(pe_bm PySem.F.plainAttrs_list PySem.F.slot_list_index PySem.F.type_list_index (mt_indexD hu) ho.pe (pa_cons h.pe pn hs) hbase hfew hline hs hplain).imp fun σ H Q ⟨W, env, S, R, q⟩ => ?_, fun env Q Q' f q => ?_⟩
  · refine ⟨W, env, S, R, ho.mono _ _ _ (fun l q v H' k r => ?_) q⟩
    cases l with
    | list ds =>
      obtain ⟨a, vs, rfl, ha, ra⟩ := r.list
      refine ⟨.inl ⟨rfl, vs, .inl (.inl ha)⟩, W, env, S, R.kept k, h.mono _ _ _ (fun d q v2 H2 k2 r2 => ?_) q⟩
      obtain ⟨⟨c1, c2⟩, j, ⟨z, e1, e2⟩, no, q⟩ := q
      exact ⟨a, v2, d, ds, j, z, rfl, rfl, (r.kept k2 R.sm).dp _ (SeqAt.canLay_of_shaped c1), r2.dp _ (SeqAt.canLay_of_shaped c2), c1, c2, e1, e2, no, q _ H2 (k.trans k2) (.int _)⟩
    | _ => exact q.elim
  · exact ho.mono _ _ _ (fun l q => by
      cases l with
      | list ds => exact h.mono _ _ _ (fun d ⟨a, j, b, c, q⟩ => ⟨a, j, b, c, f _ q⟩) q
      | _ => exact q.elim) q
end
section
variable {X : Cx} {a b c d : Expr} {m : WM} {pos : Pos}
theorem parT4_ (i j l o : Nat) {x y z u : Str} {px py pz pu pt pt2 : Pos} {kt k2 : Nat} (hN : X.N.Nodup) (h : PMs X [a, b, c, d] m) (hc : X.calm = true := by rfl) (hi : X.N[i]? = some x := by rfl) (hj : X.N[j]? = some y := by rfl) (hk : X.N[l]? = some z := by rfl) (ho : X.N[o]? = some u := by rfl)
    (hx : Loc X.env.scope x := by first | exact Or.inl rfl | exact Or.inr rfl) (hy : Loc X.env.scope y := by first | exact Or.inl rfl | exact Or.inr rfl) (hz : Loc X.env.scope z := by first | exact Or.inl rfl | exact Or.inr rfl) (hu : Loc X.env.scope u := by first | exact Or.inl rfl | exact Or.inr rfl)
    (hfx : X.fn x = true ∨ X.env.scope.names.lookup x = some .local := by first | exact .inl rfl | exact .inr rfl) (hfy : X.fn y = true ∨ X.env.scope.names.lookup y = some .local := by first | exact .inl rfl | exact .inr rfl) (hfz : X.fn z = true ∨ X.env.scope.names.lookup z = some .local := by first | exact .inl rfl | exact .inr rfl) (hfu : X.fn u = true ∨ X.env.scope.names.lookup u = some .local := by first | exact .inl rfl | exact .inr rfl)
    (hs : swapsWithSole [.Tuple [.Name x px, .Name y py, .Name z pz, .Name u pu] kt pt] (.Tuple [a, b, c, d] k2 pt2) pos.line X.env = pure false := by rfl)
    (hw : swappedStores [.Tuple [.Name x px, .Name y py, .Name z pz, .Name u pu] kt pt] (.Tuple [a, b, c, d] k2 pt2) X.env = pure none := by kernel_rfl) : PSv X (.Assign [.Tuple [.Name x px, .Name y py, .Name z pz, .Name u pu] kt pt] (.Tuple [a, b, c, d] k2 pt2) pos) (wPar [i, j, l, o] m) := by
  refine ⟨(ps_asg (pe_tup h.pa) (pg_tup hc (pgs_cons (pg_name hN hi hx hfx) (pgs_cons (pg_name hN hj hy hfy) (pgs_cons (pg_name hN hk hz hfz) (pgs_cons (pg_name hN ho hu hfu) pgs_nil rfl) rfl) rfl) rfl) rfl rfl) hs hw rfl).imp fun D σ H ⟨W, env, S, R, q⟩ => ?_, monoPar h.mono⟩
  refine ⟨W, env, S, R, h.mono _ _ _ (fun ms q vs H' S' s1 s2 k R' M fr => ?_) q⟩
  have hl := M.length
  rw [q.1] at hl
  match vs, hl with
  | [v1, v2, v3, v4], _ =>
    refine ⟨by show 4 ≤ sizeLine; decide, fun p hp => ?_⟩
    have k2 := KpJ.new (o := .tup [v1, v2, v3, v4]) R'.j hp
    exact ⟨p, [v1, v2, v3, v4], rfl, .inl (.inl upd_same), rfl, _, _, rfl, _, _, rfl, _, _, rfl, _, _, rfl, rfl, q.2 _ _ _ ((R'.kept k2).sets (is := [i, j, l, o]) (M.kept R' k2))⟩
end
omit [Tabs] in
@[simp] theorem s_wPopAt {j i : Nat} {w : WE} {env : En} {P : Po} : wPopAt j i w env P = match env.at i with
  | .ow ds => w env fun d => match d with
    | .int m => ∃ (k : Nat) (y : D), m = (k : Int) ∧ m < 2 ^ 63 ∧ ds[k]? = some y ∧ P.nx ((env.set i (.ow (ds.eraseIdx k))).set j (.sh y))
    | _ => False
  | _ => False := id rfl
omit [Tabs] in
@[simp] theorem s_wPop {j i : Nat} {env : En} {P : Po} : wPop j i env P = match env.at i with
  | .ow ds => ∃ y : D, ds[ds.length - 1]? = some y ∧ P.nx ((env.set i (.ow ds.dropLast)).set j (.sh y))
  | _ => False := id rfl
omit [Tabs] in
@[simp] theorem s_wPopX {i : Nat} {env : En} {P : Po} : wPopX i env P = match env.at i with
  | .ow ds => ds ≠ [] ∧ P.nx (env.set i (.ow ds.dropLast))
  | _ => False := id rfl
omit [Tabs] in
@[simp] theorem s_wIns {i : Nat} {wk wx : WE} {env : En} {P : Po} : wIns i wk wx env P = match env.at i with
  | .ow ds => wk env fun k => wx env fun d => match k with
    | .int m => 0 ≤ m ∧ m < 2 ^ 63 ∧ ds.length < sizeLine ∧ P.nx (env.set i (.ow (ds.take m.toNat ++ [d] ++ ds.drop m.toNat)))
    | _ => False
  | _ => False := id rfl
omit [Tabs] in
@[simp] theorem s_wIdx {wo wa : WE} {env : En} {Q : D → Prop} : wIdx wo wa env Q = wo env fun l => match l with
  | .list ds => wa env fun d => gIdx ds d Q
  | _ => False := id rfl
end Eg

/-! E34: one slot's place in an environment. -/
namespace Eg
open PySem PySem.Spec PyProof.Rows L2
theorem ce0 { a b : Sl} {l : En} (h : a = b) : a :: l = b :: l := by subst h; rfl
theorem ce1 {x0 a b : Sl} {l : En} (h : a = b) : x0 :: a :: l = x0 :: b :: l := by subst h; rfl
theorem ce2 {x0 x1 a b : Sl} {l : En} (h : a = b) : x0 :: x1 :: a :: l = x0 :: x1 :: b :: l := by subst h; rfl
theorem ce3 {x0 x1 x2 a b : Sl} {l : En} (h : a = b) : x0 :: x1 :: x2 :: a :: l = x0 :: x1 :: x2 :: b :: l := by subst h; rfl
theorem ce4 {x0 x1 x2 x3 a b : Sl} {l : En} (h : a = b) : x0 :: x1 :: x2 :: x3 :: a :: l = x0 :: x1 :: x2 :: x3 :: b :: l := by subst h; rfl
theorem ce5 {x0 x1 x2 x3 x4 a b : Sl} {l : En} (h : a = b) : x0 :: x1 :: x2 :: x3 :: x4 :: a :: l = x0 :: x1 :: x2 :: x3 :: x4 :: b :: l := by subst h; rfl
theorem ce6 {x0 x1 x2 x3 x4 x5 a b : Sl} {l : En} (h : a = b) : x0 :: x1 :: x2 :: x3 :: x4 :: x5 :: a :: l = x0 :: x1 :: x2 :: x3 :: x4 :: x5 :: b :: l := by subst h; rfl
theorem ce7 {x0 x1 x2 x3 x4 x5 x6 a b : Sl} {l : En} (h : a = b) : x0 :: x1 :: x2 :: x3 :: x4 :: x5 :: x6 :: a :: l = x0 :: x1 :: x2 :: x3 :: x4 :: x5 :: x6 :: b :: l := by subst h; rfl
theorem ce8 {x0 x1 x2 x3 x4 x5 x6 x7 a b : Sl} {l : En} (h : a = b) : x0 :: x1 :: x2 :: x3 :: x4 :: x5 :: x6 :: x7 :: a :: l = x0 :: x1 :: x2 :: x3 :: x4 :: x5 :: x6 :: x7 :: b :: l := by subst h; rfl
theorem ce9 {x0 x1 x2 x3 x4 x5 x6 x7 x8 a b : Sl} {l : En} (h : a = b) : x0 :: x1 :: x2 :: x3 :: x4 :: x5 :: x6 :: x7 :: x8 :: a :: l = x0 :: x1 :: x2 :: x3 :: x4 :: x5 :: x6 :: x7 :: x8 :: b :: l := by subst h; rfl
theorem ce10 {x0 x1 x2 x3 x4 x5 x6 x7 x8 x9 a b : Sl} {l : En} (h : a = b) : x0 :: x1 :: x2 :: x3 :: x4 :: x5 :: x6 :: x7 :: x8 :: x9 :: a :: l = x0 :: x1 :: x2 :: x3 :: x4 :: x5 :: x6 :: x7 :: x8 :: x9 :: b :: l := by subst h; rfl
theorem ce11 {x0 x1 x2 x3 x4 x5 x6 x7 x8 x9 x10 a b : Sl} {l : En} (h : a = b) : x0 :: x1 :: x2 :: x3 :: x4 :: x5 :: x6 :: x7 :: x8 :: x9 :: x10 :: a :: l = x0 :: x1 :: x2 :: x3 :: x4 :: x5 :: x6 :: x7 :: x8 :: x9 :: x10 :: b :: l := by subst h; rfl
theorem ce12 {x0 x1 x2 x3 x4 x5 x6 x7 x8 x9 x10 x11 a b : Sl} {l : En} (h : a = b) : x0 :: x1 :: x2 :: x3 :: x4 :: x5 :: x6 :: x7 :: x8 :: x9 :: x10 :: x11 :: a :: l = x0 :: x1 :: x2 :: x3 :: x4 :: x5 :: x6 :: x7 :: x8 :: x9 :: x10 :: x11 :: b :: l := by subst h; rfl
theorem ce13 {x0 x1 x2 x3 x4 x5 x6 x7 x8 x9 x10 x11 x12 a b : Sl} {l : En} (h : a = b) : x0 :: x1 :: x2 :: x3 :: x4 :: x5 :: x6 :: x7 :: x8 :: x9 :: x10 :: x11 :: x12 :: a :: l = x0 :: x1 :: x2 :: x3 :: x4 :: x5 :: x6 :: x7 :: x8 :: x9 :: x10 :: x11 :: x12 :: b :: l := by subst h; rfl
theorem ce14 {x0 x1 x2 x3 x4 x5 x6 x7 x8 x9 x10 x11 x12 x13 a b : Sl} {l : En} (h : a = b) : x0 :: x1 :: x2 :: x3 :: x4 :: x5 :: x6 :: x7 :: x8 :: x9 :: x10 :: x11 :: x12 :: x13 :: a :: l = x0 :: x1 :: x2 :: x3 :: x4 :: x5 :: x6 :: x7 :: x8 :: x9 :: x10 :: x11 :: x12 :: x13 :: b :: l := by subst h; rfl
theorem ce15 {x0 x1 x2 x3 x4 x5 x6 x7 x8 x9 x10 x11 x12 x13 x14 a b : Sl} {l : En} (h : a = b) : x0 :: x1 :: x2 :: x3 :: x4 :: x5 :: x6 :: x7 :: x8 :: x9 :: x10 :: x11 :: x12 :: x13 :: x14 :: a :: l = x0 :: x1 :: x2 :: x3 :: x4 :: x5 :: x6 :: x7 :: x8 :: x9 :: x10 :: x11 :: x12 :: x13 :: x14 :: b :: l := by subst h; rfl
theorem ce16 {x0 x1 x2 x3 x4 x5 x6 x7 x8 x9 x10 x11 x12 x13 x14 x15 a b : Sl} {l : En} (h : a = b) : x0 :: x1 :: x2 :: x3 :: x4 :: x5 :: x6 :: x7 :: x8 :: x9 :: x10 :: x11 :: x12 :: x13 :: x14 :: x15 :: a :: l = x0 :: x1 :: x2 :: x3 :: x4 :: x5 :: x6 :: x7 :: x8 :: x9 :: x10 :: x11 :: x12 :: x13 :: x14 :: x15 :: b :: l := by subst h; rfl
theorem ce17 {x0 x1 x2 x3 x4 x5 x6 x7 x8 x9 x10 x11 x12 x13 x14 x15 x16 a b : Sl} {l : En} (h : a = b) : x0 :: x1 :: x2 :: x3 :: x4 :: x5 :: x6 :: x7 :: x8 :: x9 :: x10 :: x11 :: x12 :: x13 :: x14 :: x15 :: x16 :: a :: l = x0 :: x1 :: x2 :: x3 :: x4 :: x5 :: x6 :: x7 :: x8 :: x9 :: x10 :: x11 :: x12 :: x13 :: x14 :: x15 :: x16 :: b :: l := by subst h; rfl
theorem ce18 {x0 x1 x2 x3 x4 x5 x6 x7 x8 x9 x10 x11 x12 x13 x14 x15 x16 x17 a b : Sl} {l : En} (h : a = b) : x0 :: x1 :: x2 :: x3 :: x4 :: x5 :: x6 :: x7 :: x8 :: x9 :: x10 :: x11 :: x12 :: x13 :: x14 :: x15 :: x16 :: x17 :: a :: l = x0 :: x1 :: x2 :: x3 :: x4 :: x5 :: x6 :: x7 :: x8 :: x9 :: x10 :: x11 :: x12 :: x13 :: x14 :: x15 :: x16 :: x17 :: b :: l := by subst h; rfl
theorem ce19 {x0 x1 x2 x3 x4 x5 x6 x7 x8 x9 x10 x11 x12 x13 x14 x15 x16 x17 x18 a b : Sl} {l : En} (h : a = b) : x0 :: x1 :: x2 :: x3 :: x4 :: x5 :: x6 :: x7 :: x8 :: x9 :: x10 :: x11 :: x12 :: x13 :: x14 :: x15 :: x16 :: x17 :: x18 :: a :: l = x0 :: x1 :: x2 :: x3 :: x4 :: x5 :: x6 :: x7 :: x8 :: x9 :: x10 :: x11 :: x12 :: x13 :: x14 :: x15 :: x16 :: x17 :: x18 :: b :: l := by subst h; rfl
theorem owc {a b : List D} (h : a = b) : Sl.ow a = Sl.ow b := by subst h; rfl
theorem shc {a b : D} (h : a = b) : Sl.sh a = Sl.sh b := by subst h; rfl
end Eg

/-! E35: name op= e of ints. -/
namespace Eg
open PySem PySem.Spec PyProof.Rows L2
variable [Tabs]
def wAug (f : Int → Int → Int) (i : Nat) (w : WE) : WS := fun env P => match env.at i with
  | .sh (.int a) => w env fun d => match d with
    | .int b => P.nx (env.set i (.sh (.int (f a b))))
    | _ => False
  | _ => False
abbrev wAugAdd (i : Nat) (w : WE) : WS := wAug (fun a b => a + b) i w
abbrev wAugSub (i : Nat) (w : WE) : WS := wAug (fun a b => a - b) i w
section
variable {X : Cx} {e : Expr} {w : WE} {pos : Pos}
theorem aug_ {f : Int → Int → Int} {op : Operator} (ho : L2.PIp X op (ipI f)) (i : Nat) {x : Str} {pos' : Pos} (hN : X.N.Nodup) (h : PP X e w) (hi : X.N[i]? = some x := by rfl) (hx : Loc X.env.scope x := by first | exact Or.inl rfl | exact Or.inr rfl)
    (hf : X.fn x = true ∨ X.env.scope.names.lookup x = some .local := by first | exact .inl rfl | exact .inr rfl | assumption) : PSv X (.AugAssign (.Name x pos') op e pos) (wAug f i w) := by
  refine ⟨(ps_aug hN hi hx h.pe ho hf).imp fun D σ H ⟨W, env, S, R, q⟩ => ?_, fun env P P' l q => ?_⟩
  · unfold wAug at q
    split at q
    · rename_i a ea
      have sl := R.sl i
      rw [ea] at sl
      obtain ⟨v, ev, rv⟩ := sl
      cases rv
      refine ⟨.int a, ev, W, env, S, R, h.mono _ _ _ (fun d q v H' k t => ?_) q⟩
      cases d with
      | int b => exact ⟨a, b, rfl, t.int, q _ H' S ((R.kept k).setSh (.int _))⟩
      | _ => exact q.elim
    · exact q.elim
  · unfold wAug at q ⊢
    split at q
    · exact h.mono _ _ _ (fun d q => by
        cases d with
        | int b => exact l.nx _ q
        | _ => exact q.elim) q
    · exact q.elim
theorem augAdd_ (i : Nat) {x : Str} {pos' : Pos} (hN : X.N.Nodup) (h : PP X e w) (hi : X.N[i]? = some x := by rfl) (hx : Loc X.env.scope x := by first | exact Or.inl rfl | exact Or.inr rfl)
    (hf : X.fn x = true ∨ X.env.scope.names.lookup x = some .local := by first | exact .inl rfl | exact .inr rfl | assumption) : PSv X (.AugAssign (.Name x pos') .Add e pos) (wAugAdd i w) := aug_ ip_add i hN h hi hx hf
theorem augSub_ (i : Nat) {x : Str} {pos' : Pos} (hN : X.N.Nodup) (h : PP X e w) (hi : X.N[i]? = some x := by rfl) (hx : Loc X.env.scope x := by first | exact Or.inl rfl | exact Or.inr rfl)
    (hf : X.fn x = true ∨ X.env.scope.names.lookup x = some .local := by first | exact .inl rfl | exact .inr rfl | assumption) : PSv X (.AugAssign (.Name x pos') .Sub e pos) (wAugSub i w) := aug_ ip_sub i hN h hi hx hf
end
omit [Tabs] in
@[simp] theorem s_wAug {f : Int → Int → Int} {i : Nat} {w : WE} {env : En} {P : Po} : wAug f i w env P = match env.at i with
  | .sh (.int a) => w env fun d => match d with
    | .int b => P.nx (env.set i (.sh (.int (f a b))))
    | _ => False
  | _ => False := id rfl
end Eg
namespace Eg
open PySem PySem.Spec PyProof.Rows L2
/-- values drawn, by the items -/
theorem lcGo_funE {β : Type} (b0 : β) (en : Int → D) (oc : Int → β → D) {wg : WG} {wt : WT} {we : WE} {env : En} (R : Int → β → Prop) : ∀ (xs : List Int) (acc : List D) (K : List D → Prop), xs.Nodup →
    (∀ x ∈ xs, ∀ (Y : D → Prop) (N : Prop), (∀ v, R x v → Y (oc x v)) → wg (en x) env fun env' => wt env' fun b => if b = true then we env' Y else N) → acc.length + xs.length ≤ sizeLine →
    (∀ o : Int → β, (∀ x ∈ xs, R x (o x)) → K (acc ++ xs.map fun x => oc x (o x))) → lcGo wg wt we env (xs.map en) acc K
  | [], acc, K, _, _, _, h => by
    have := h (fun _ => b0) (by simp)
    simpa [lcGo] using this
  | x :: r, acc, K, nd, hs, hl, h => by
    have hl' : acc.length + (r.length + 1) ≤ sizeLine := by simpa using hl
    have nd' := List.pairwise_cons.mp nd
    rw [List.map_cons]
    refine hs x List.mem_cons_self _ _ fun v hv => ⟨by omega, ?_⟩
    refine lcGo_funE b0 en oc R r (acc ++ [oc x v]) K nd'.2 (fun y hy => hs y (List.mem_cons_of_mem _ hy)) (by rw [List.length_append, List.length_singleton]; omega) fun o ho => ?_
    have := h (fun y => if y = x then v else o y) (by
      intro y hy
      by_cases e : y = x
      · subst e; simpa using hv
      · rcases List.mem_cons.mp hy with hy | hy
        · exact absurd hy e
        · simpa [e] using ho y hy)
    have e : r.map (fun y => oc y (if y = x then v else o y)) = r.map fun y => oc y (o y) := List.map_congr_left fun y hy => by
      have : ¬ y = x := fun z => nd'.1 y hy z.symm
      rw [if_neg this]
    rw [List.map_cons, e, if_pos rfl] at this
    simpa using this
/-- a fold over what is only ordered otherwise -/
theorem fold_perm {α β : Type} {f : β → α → β} {P : β → Prop} {A : α → Prop} (hP : ∀ z x, P z → A x → P (f z x)) (comm : ∀ z x y, P z → A x → A y → f (f z x) y = f (f z y) x) {l l' : List α} (p : l.Perm l') : (∀ x ∈ l, A x) → ∀ z, P z → l.foldl f z = l'.foldl f z := by
  induction p with
  | nil => intro _ z _; rfl
  | cons x _ ih => intro h z hz; exact ih (fun y hy => h y (List.mem_cons_of_mem _ hy)) _ (hP z x hz (h x List.mem_cons_self))
  | swap x y l => intro h z hz; simp only [List.foldl_cons]; rw [comm z y x hz (h y List.mem_cons_self) (h x (by simp))]
  | trans p1 p2 i1 i2 => intro h z hz; rw [i1 h z hz, i2 (fun x hx => h x (p1.mem_iff.mpr hx)) z hz]
end Eg

/-! E36: tuple(range(..)), name = {k: v}. -/
namespace Eg
open PySem PySem.Spec PyProof.Rows L2
variable [Tabs]
def wTR1 (w : WE) : WE := fun env Q => w env fun d => match d with
  | .int n => RgOk 0 n ∧ Q (.tuple ((rng 0 n.toNat).map .int))
  | _ => False
def wOwnD1 (i : Nat) (wk wx : WE) : WS := fun env P => wk env fun k => match keyD k with
  | some key => wx env fun x => P.nx (env.set i (.od [(key, x)]))
  | none => False
section
variable {X : Cx} {a e : Expr} {p p1 p2 q pos pos' : Pos} {w wk wx : WE}
theorem tr1_ (hc : X.calm = true) (hg : Gl X "tuple") (hm : X.mg "tuple" = none) (hg2 : Gl X "range") (hm2 : X.mg "range" = none) (ha : PP X a w)
    (na : starEach [.Call (.Name "range" p2) [a] [] q] X.env = (false, eval (.Call (.Name "range" p2) [a] [] q) X.env) :: starEach [] X.env := by rfl) (nb : starEach [a] X.env = (false, eval a X.env) :: starEach [] X.env := by rfl) :
    PV X (.Call (.Name "tuple" p) [.Call (.Name "range" p2) [a] [] q] [] pos) (wTR1 w) := by
  refine ⟨(pe_tupRg hc hg hm (prg_1 hg2 hm2 ha.pe nb) na).imp fun σ H Q ⟨W, env, S, R, h⟩ => ?_, fun env Q Q' f h => ha.mono _ _ _ (fun d h => ?_) h⟩
  · refine ⟨W, env, S, R, ha.mono _ _ _ (fun d h v H1 k1 t1 => ?_) h⟩
    cases d with
    | int n =>
      cases t1.int
      refine ⟨n, rfl, h.1, fun p2 h4 => ?_⟩
      rw [rgV_eq]
      have e : (n - 0).toNat = n.toNat := by omega
      rw [e]
      have kn : KpJ W H1 (upd H1 p2 (.tup ((rng 0 n.toNat).map V.int))) := .new k1.2 h4
      exact h.2 _ _ (k1.trans kn) (.tup upd_same (fun s => R.sn p2 s (k1.none_of R.j h4)) (ints_rp2 _))
    | _ => exact h.elim
  · cases d with
    | int n => exact ⟨h.1, f _ h.2⟩
    | _ => exact h.elim
theorem ownD1_ (i : Nat) {x : Str} (hN : X.N.Nodup) (hk : PP X a wk) (hx : PV X e wx) (hi : X.N[i]? = some x := by rfl) (hxl : Loc X.env.scope x := by first | exact Or.inl rfl | exact Or.inr rfl) (hs : swapsWith (.Dict [some a] [e] p1) (some (.Name x pos')) pos.line X.env = pure false := by rfl)
    (hf : X.fn x = true ∨ X.env.scope.names.lookup x = some .local := by first | exact .inl rfl | exact .inr rfl | assumption) : PSv X (.Assign [.Name x pos'] (.Dict [some a] [e] p1) pos) (wOwnD1 i wk wx) := by
  refine ⟨(ps_set hN hi hxl (pe_disp (pps_cons hk.pe hx.pe pps_nil) rfl rfl (by simp) (by show 1 ≤ 15; decide)) hs hf).imp fun D σ H ⟨W, env, S, R, q⟩ => ?_, fun env P P' l q => hk.mono _ _ _ (fun k q => ?_) q⟩
  · intro p hp
    have kn : KpJ W H (upd H p (.dK [])) := .new R.j hp
    have R1 := R.plus hp kn (by rw [upd_same]; simp)
    have npM : ¬ W.M p := fun m => W.jm H R.j p m hp
    refine ⟨W, env, Eg.plus S p, R1, hk.mono _ _ _ (fun k q y H2 k2 t2 => ?_) q⟩
    cases hkd : keyD k with
    | none => rw [hkd] at q; exact q.elim
    | some key =>
      rw [hkd] at q
      have ey := key_top t2 hkd
      subst ey
      refine ⟨W, env, Eg.plus S p, R1.kept k2, hx.mono _ _ _ (fun d q v H3 k3 r3 => ?_) q⟩
      have k23 := k2.trans k3
      have e3 : H3 p = some (.dK []) := k23.1 p _ upd_same npM
      refine ⟨e3, [(key, v)], rfl, by show 1 ≤ 15; decide, ?_⟩
      show gName i (.ref p) σ (upd H3 p (.dK [(key, v)])) D.nx
      have kf : KpJ W H (upd H3 p (.dK [(key, v)])) := by
        have k0 := kn.trans k23
        refine ⟨fun b o hb nm => ?_, W.jk H3 _ (fun b m => ?_) k0.2⟩
        · have nb : b ≠ p := ne_of_none hb hp
          rw [upd_ne nb]
          exact k0.1 b o hb nm
        · have nb : b ≠ p := fun z => npM (z ▸ m)
          rw [upd_ne nb]
      exact q _ _ _ (R.setOd (vs := [(key, v)]) (ds := [(key, d)]) hp kf upd_same rfl (.cons (Rp.away (.inr rfl) r3) .nil))
  · cases hkd : keyD k with
    | none => rw [hkd] at q; exact q.elim
    | some key => rw [hkd] at q; exact hx.mono _ _ _ (fun d q => l.nx _ q) q
theorem dnin_ (i : Nat) {x : Str} (hu : X.A.units + 1 < cLine) (hk : PP X a wk) (hN : X.N[i]? = some x := by rfl) (hv : Vis X.env.scope x := by first | exact Or.inl rfl | exact Or.inr (Or.inl rfl) | exact Or.inr (Or.inr rfl)) (hd : (x == ("__debug__" : Str)) = false := by decide)
    (hcd : (x == ("__classdict__" : Str)) = false := by decide) (hm : behindInMarks .NotIn (.Name x p1) = false := by with_unfolding_all rfl) : PV X (.Compare a [.NotIn] [.Name x p1] pos) (wDIn i true wk) := by
  refine ⟨(pe_cmp (pc_dnotin hu hk.pe (pe_var hN hv hd hcd)) hm).imp fun σ H Q ⟨W, env, S, R, q⟩ => ?_, fun env Q Q' f q => ?_⟩
  · unfold wDIn at q
    cases h : env.at i with
    | od kvs =>
      rw [h] at q
      obtain ⟨p, vs, es, O⟩ := R.dict_at h
      refine ⟨W, env, S, R, hk.mono _ _ _ (fun kd q y H2 k2 t2 => ?_) q⟩
      cases hkd : keyD kd with
      | none => rw [hkd] at q; exact q.elim
      | some key =>
        rw [hkd] at q
        have ey := key_top t2 hkd
        subst ey
        have O2 := O.kept k2 R.sm
        obtain ⟨h1, h2⟩ := val_rp key O2.k O2.r
        refine ⟨.ref p, es, p, _, rfl, DGet.k O2.h, ?_⟩
        have q : ∀ v H3, KpJ W H H3 → Rp W.T H3 S v (.bool ((valD kvs key).isSome != true)) → Q v H3 := q
        cases hv : valD kvs key with
        | some d => obtain ⟨v, e2, r⟩ := h1 d hv; rw [hv] at q; rw [e2]; exact q _ _ k2 (.bl _)
        | none => rw [hv] at q; rw [h2 hv]; exact q _ _ k2 (.bl _)
    | _ => rw [h] at q; exact q.elim
  · unfold wDIn at q ⊢
    cases h : env.at i with
    | od kvs =>
      rw [h] at q
      exact hk.mono _ _ _ (fun kd q => by
        cases hkd : keyD kd with
        | none => rw [hkd] at q; exact q.elim
        | some key => rw [hkd] at q; exact f _ q) q
    | _ => rw [h] at q; exact q.elim
theorem tdin_ (i : Nat) {x : Str} (hu : X.A.units + 1 < cLine) (hk : PP X a wk) (hN : X.N[i]? = some x := by rfl) (hv : Vis X.env.scope x := by first | exact Or.inl rfl | exact Or.inr (Or.inl rfl) | exact Or.inr (Or.inr rfl)) (hd : (x == ("__debug__" : Str)) = false := by decide)
    (hcd : (x == ("__classdict__" : Str)) = false := by decide) (hm : behindInMarks .In (.Name x p1) = false := by with_unfolding_all rfl) : PTv X (.Compare a [.In] [.Name x p1] pos) (wTB (wDIn i false wk)) := by
  refine ⟨(pt_cmp (pc_din hu hk.pe (pe_var hN hv hd hcd)) hm).imp fun σ H Q ⟨W, env, S, R, q⟩ => ?_, fun env Q Q' f q => ?_⟩
  · have q : wDIn i false wk env fun d => gBool d fun b => ∀ H', KpJ W H H' → Q b H' := q
    unfold wDIn at q
    cases h : env.at i with
    | od kvs =>
      rw [h] at q
      obtain ⟨p, vs, es, O⟩ := R.dict_at h
      refine ⟨W, env, S, R, hk.mono _ _ _ (fun kd q y H2 k2 t2 => ?_) q⟩
      cases hkd : keyD kd with
      | none => rw [hkd] at q; exact q.elim
      | some key =>
        rw [hkd] at q
        have ey := key_top t2 hkd
        subst ey
        have O2 := O.kept k2 R.sm
        obtain ⟨h1, h2⟩ := val_rp key O2.k O2.r
        refine ⟨.ref p, es, p, _, rfl, DGet.k O2.h, ?_⟩
        have q : ∀ H3, KpJ W H H3 → Q ((valD kvs key).isSome != false) H3 := q
        cases hv : valD kvs key with
        | some d => obtain ⟨v, e2, r⟩ := h1 d hv; rw [hv] at q; rw [e2]; exact ⟨_, rfl, q _ k2⟩
        | none => rw [hv] at q; rw [h2 hv]; exact ⟨_, rfl, q _ k2⟩
    | _ => rw [h] at q; exact q.elim
  · have q : wDIn i false wk env fun d => gBool d Q := q
    show wDIn i false wk env fun d => gBool d Q'
    unfold wDIn at q ⊢
    cases h : env.at i with
    | od kvs =>
      rw [h] at q
      exact hk.mono _ _ _ (fun kd q => by
        cases hkd : keyD kd with
        | none => rw [hkd] at q; exact q.elim
        | some key => rw [hkd] at q; exact f _ q) q
    | _ => rw [h] at q; exact q.elim
theorem tdnin_ (i : Nat) {x : Str} (hu : X.A.units + 1 < cLine) (hk : PP X a wk) (hN : X.N[i]? = some x := by rfl) (hv : Vis X.env.scope x := by first | exact Or.inl rfl | exact Or.inr (Or.inl rfl) | exact Or.inr (Or.inr rfl)) (hd : (x == ("__debug__" : Str)) = false := by decide)
    (hcd : (x == ("__classdict__" : Str)) = false := by decide) (hm : behindInMarks .NotIn (.Name x p1) = false := by with_unfolding_all rfl) : PTv X (.Compare a [.NotIn] [.Name x p1] pos) (wTB (wDIn i true wk)) := by
  refine ⟨(pt_cmp (pc_dnotin hu hk.pe (pe_var hN hv hd hcd)) hm).imp fun σ H Q ⟨W, env, S, R, q⟩ => ?_, fun env Q Q' f q => ?_⟩
  · have q : wDIn i true wk env fun d => gBool d fun b => ∀ H', KpJ W H H' → Q b H' := q
    unfold wDIn at q
    cases h : env.at i with
    | od kvs =>
      rw [h] at q
      obtain ⟨p, vs, es, O⟩ := R.dict_at h
      refine ⟨W, env, S, R, hk.mono _ _ _ (fun kd q y H2 k2 t2 => ?_) q⟩
      cases hkd : keyD kd with
      | none => rw [hkd] at q; exact q.elim
      | some key =>
        rw [hkd] at q
        have ey := key_top t2 hkd
        subst ey
        have O2 := O.kept k2 R.sm
        obtain ⟨h1, h2⟩ := val_rp key O2.k O2.r
        refine ⟨.ref p, es, p, _, rfl, DGet.k O2.h, ?_⟩
        have q : ∀ H3, KpJ W H H3 → Q ((valD kvs key).isSome != true) H3 := q
        cases hv : valD kvs key with
        | some d => obtain ⟨v, e2, r⟩ := h1 d hv; rw [hv] at q; rw [e2]; exact ⟨_, rfl, q _ k2⟩
        | none => rw [hv] at q; rw [h2 hv]; exact ⟨_, rfl, q _ k2⟩
    | _ => rw [h] at q; exact q.elim
  · have q : wDIn i true wk env fun d => gBool d Q := q
    show wDIn i true wk env fun d => gBool d Q'
    unfold wDIn at q ⊢
    cases h : env.at i with
    | od kvs =>
      rw [h] at q
      exact hk.mono _ _ _ (fun kd q => by
        cases hkd : keyD kd with
        | none => rw [hkd] at q; exact q.elim
        | some key => rw [hkd] at q; exact f _ q) q
    | _ => rw [h] at q; exact q.elim

end
omit [Tabs] in
@[simp] theorem s_wTR1 {w : WE} {env : En} {Q : D → Prop} : wTR1 w env Q = w env fun d => match d with
  | .int n => RgOk 0 n ∧ Q (.tuple ((rng 0 n.toNat).map .int))
  | _ => False := id rfl
omit [Tabs] in
@[simp] theorem s_wOwnD1 {i : Nat} {wk wx : WE} {env : En} {P : Po} : wOwnD1 i wk wx env P = wk env fun k => match keyD k with
  | some key => wx env fun x => P.nx (env.set i (.od [(key, x)]))
  | none => False := id rfl
end Eg

/-! E37: len(set(xs)), xs a list of tuples of ints. -/
namespace Eg
open PySem PySem.Spec PyProof.Rows L2
variable [Tabs]
def tupI (r : List Int) : D := .tuple (r.map .int)
omit [Tabs] in
theorem rp_tups {T : Nat → V} {H : Hp} {S : Addr → Prop} : ∀ {ns : List (List Int)} {vs : List V}, RpAll T H S vs (ns.map tupI) → ∃ ks : List (Addr × List Int), vs = ks.map (fun p => V.ref p.1) ∧ ks.map (·.2) = ns ∧ ∀ p ∈ ks, H p.1 = some (.tup (p.2.map V.int))
  | [], _, .nil => ⟨[], rfl, rfl, fun p hp => (nomatch hp)⟩
  | r :: ns, _, .cons a t => by
    obtain ⟨ks, h1, h2, h3⟩ := rp_tups t
    unfold tupI at a
    cases a with
    | tup hl hn ra =>
      rename_i b xs
      have e := rp_ints ra
      subst e
      refine ⟨(b, r) :: ks, by rw [h1]; rfl, by rw [List.map_cons, h2], fun p hp => ?_⟩
      rcases List.mem_cons.mp hp with rfl | hp
      · exact hl
      · exact h3 p hp
def wLenSetT (w : WE) : WE := fun env Q => w env fun d => ∃ ns : List (List Int), d = .list (ns.map tupI) ∧ ns.length < 64 ∧ ∀ L : List (List Int), L.Nodup → (∀ x, x ∈ L ↔ x ∈ ns) → Q (.int L.length)
section
variable {X : Cx} {a : Expr} {p p2 q pos : Pos} {w : WE}
theorem lsT_ (hc : X.calm = true) (hu : X.A.units + 64 < cLine) (hg : Gl X "len") (hm : X.mg "len" = none) (hg2 : Gl X "set") (hm2 : X.mg "set" = none) (ha : PP X a w)
    (na : starEach [a] X.env = (false, eval a X.env) :: starEach [] X.env := by rfl) : PV X (.Call (.Name "len" p) [.Call (.Name "set" p2) [a] [] q] [] pos) (wLenSetT w) := by
  refine ⟨⟨fun pins s σ H Q I ⟨W, env, S, R, h⟩ => ?_⟩, fun env Q Q' f h => ha.mono _ _ _ (fun d ⟨ns, e1, e2, e3⟩ => ⟨ns, e1, e2, fun L h1 h2 => f _ (e3 L h1 h2)⟩) h⟩
  refine Call_ (ld_blt I hg hm PySem.boot_len ?_)
  refine PyProof.Rows.callWith_builtin1 (PyProof.Rows.args_cons ?_ rfl) rfl rfl
  refine Call_ (ld_blt I hg2 hm2 PyProof.Rows.boot_set ?_)
  refine PyProof.Rows.callWith_type1 (PyProof.Rows.args_cons (thn (ha.pe.run pins s σ H (fun v H1 => ∃ d, KpJ W H H1 ∧ Top W H1 S v d ∧ ∃ ns : List (List Int), d = .list (ns.map tupI) ∧ ns.length < 64 ∧ ∀ L : List (List Int), L.Nodup → (∀ x, x ∈ L ↔ x ∈ ns) →
      ∀ v H', KpJ W H H' → Rp W.T H' S v (.int L.length) → Q v H') I ⟨W, env, S, R, ha.mono _ _ _ (fun d ⟨ns, e1, e2, e3⟩ v H1 k1 t1 => ⟨d, k1, t1, ns, e1, e2, e3⟩) h⟩)
    fun v s1 ⟨x, H1, I1, r1, d, k1, t1, ns, ed, hl, q1⟩ => PyProof.Rows.args_nil ?_) na) na rfl
  subst ed
  obtain ⟨l, vs, rfl, hv, rv⟩ := t1.list
  obtain ⟨ks, h1, h2, h3⟩ := rp_tups rv
  subst h1
  cases r1
  obtain ⟨its, rr, pl, hz⟩ := I1.list (show SqL X.K H1 l (ks.map fun p => V.ref p.1) from .inl (.inl hv))
  have kl : ks.length = ns.length := by rw [← h2, List.length_map]
  refine call_set_tups (P := X.prog) (w := X.w) ks (I1.ok.hd hc) pl.isList (by simpa using refs_of_vals rr) (fun p hp => I1.isT (show SqT X.K H1 p.1 (p.2.map V.int) from .inl (.inl (h3 p hp)))) (by omega) (by omega) fun h' tk L es ep t R2 g hk => ?_
  have I2 : Inv X pins σ H1 { s1 with heap := h', toks := tk } := I1.kept hk
  refine PyProof.Rows.args_nil ?_
  obtain ⟨o, ho, hex, hd⟩ := R2.ob
  have hn : es.size = L.length := by
    have h := congrArg List.length R2.rows
    unfold rowsOf at h
    rw [Array.length_toList, List.length_map] at h
    exact h
  have hf : t.fits es.size = true := by
    have a1 := R2.tab.sz
    rw [List.length_map] at a1
    have a3 := R2.room
    unfold SetTable.fits SetTable.fill
    rw [R2.tab.dm, Bool.and_eq_true, beq_iff_eq, decide_eq_true_eq]
    show t.place.size = es.size ∧ t.place.size + 0 ≤ t.mask
    omega
  have few := R2.few
  refine call_len_set ho hex hd hf (by rw [hn] <;> omega) ⟨.int L.length, H1, I2.tok _, ⟨_, by rw [hn]⟩, ?_⟩
  have := q1 (L.map (·.2)) R2.nd fun x => by
    constructor
    · intro hx
      obtain ⟨p, hp, rfl⟩ := List.mem_map.mp hx
      rw [← h2]
      exact List.mem_map.mpr ⟨p, List.mem_of_mem_take (g.sub p hp), rfl⟩
    · intro hx
      rw [← h2] at hx
      obtain ⟨p, hp, rfl⟩ := List.mem_map.mp hx
      exact g.all p (by rw [List.take_length]; exact hp)
  rw [List.length_map] at this
  exact this _ H1 k1 (.int _)
end
omit [Tabs] in
@[simp] theorem s_wLenSetT {w : WE} {env : En} {Q : D → Prop} : wLenSetT w env Q = w env fun d => ∃ ns : List (List Int), d = .list (ns.map tupI) ∧ ns.length < 64 ∧ ∀ L : List (List Int), L.Nodup → (∀ x, x ∈ L ↔ x ∈ ns) → Q (.int L.length) := id rfl
end Eg

namespace Wk13
open PySem PySem.Spec PyProof.Rows L2 Eg
variable [Tabs]
def top (i : Nat) : Stmt := PySem.Challenge.pw_grainsfall_k13_whole_heaps_and_trees.main.body.getD i (.Pass ⟨0, 0, 0, 0⟩)
abbrev FnP (K : PySem.W.Frag) (x : Str) (st : Stmt) (f : Addr) (fd : FuncData) : Prop := FunD K x x (defArgs st) (defBody st) (defScope st) [] [] f fd
def bn : List Str := ["enumerate", "int", "len", "max", "min", "range", "set", "sorted", "tuple"]
abbrev N_f__law_draw : List Str := ["state", "many", "cells", "value", "mixed"]
theorem sc_f__law_draw : FnScope N_f__law_draw ["state", "many"] (defScope (top 21)) := ⟨rfl, rfl, rfl, by decide +kernel, rfl, by decide +kernel, by decide +kernel⟩
theorem ok_f__law_draw {P : Program} {w : World} {K : PySem.W.Frag} {mg : Str → Option Value} {base : Heap} {f : Addr} {fd : FuncData} (F : FnP K "_law_draw" (top 21) f fd) (gx : mg "_law_draw" = some (.ref f)) (gl : mg "len" = none) (gi : mg "int" = none) :
    Fd P w K mg base "_law_draw" ["state", "many"] 1 pDraw := by
  refine ⟨⟨f, fd, ?_, gx, F.kp, F.bindsN fun _ _ _ _ _ _ us hl => match us, hl with | [_, _], _ => rfl⟩, monoDraw⟩
  refine F.ok sc_f__law_draw (fun vs H Q E h => ?_) (fun cdv A outer s H vs Q E hr h => ?_)
  · obtain ⟨W, S, ds, c, r, m, rfl, _⟩ := h
    exact r.length
  · refine ⟨tDraw K, PSs.nox (pss_cons (ps_set (i := 2) sc_f__law_draw.nd rfl (by exact Or.inl rfl) (pe_ix ix_list (pv 0) pe_int (fun _ _ => rfl)))
      (pss_cons (ps_while PassesOwn.never (pw_and (pt_cmp (pc_gt (pe_callB call_len_seq (by rfl) gl (by decide +kernel) (pa_cons (pv 2) pa_nil)) pe_int)) (pw_and1 (pt_cmpR op_eq (pe_ix ix_list (pv 2) pe_int (fun _ _ => rfl)) pe_int (nomark _)))).pt
        (pss_one (ps_expr (pe_bm PySem.F.plainAttrs_list PySem.F.slot_list_pop PySem.F.type_list_pop mt_popAt (pv 2) (pa_cons pe_int pa_nil)))))
      (pss_cons (ps_if (pt_cmp (pc_gt (pe_callB call_len_seq (by rfl) gl (by decide +kernel) (pa_cons (pv 2) pa_nil)) pe_int))
        (pss_cons (ps_set (i := 3) sc_f__law_draw.nd rfl (by exact Or.inl rfl) (pe_ix ix_list (pv 2) pe_int (fun _ _ => rfl)))
          (pss_cons (ps_asg (pe_op op_fdivA (pv 3) (pv 1)) (pg_sub (pv 2) pe_int set_list))
            (pss_one (ps_ret (pe_op op_modN (pe_callTy call_int1 (by rfl) gi (by decide +kernel) (pa_cons (pv 3) pa_nil)) (pv 1)))))) pss_nil)
      (pss_cons (ps_set (i := 4) sc_f__law_draw.nd rfl (by exact Or.inl rfl) (pe_op op_modN (pe_callTy call_int1 (by rfl) gi (by decide +kernel) (pa_cons (pe_op op_add (pe_op op_mulA (pe_ix ix_list (pv 0) pe_int (fun _ _ => rfl)) pe_int) pe_int) pa_nil)) pe_int))
      (pss_cons (ps_asg (pv 4) (pg_sub (pv 0) pe_int set_list))
      (pss_one (ps_ret (pe_op op_modN (pe_callTy call_int1 (by rfl) gi (by decide +kernel) (pa_cons (pe_op op_fdivA (pv 4) pe_int) pa_nil)) (pv 1))))))))), draw_pure h⟩
abbrev N_f__law_state : List Str := ["script", "seed", "cell"]
theorem sc_f__law_state : FnScope N_f__law_state ["script"] (defScope (top 20)) := ⟨rfl, rfl, rfl, by decide +kernel, rfl, by decide +kernel, by decide +kernel⟩
theorem ok_f__law_state {P : Program} {w : World} {K : PySem.W.Frag} {mg : Str → Option Value} {base : Heap} {f : Addr} {fd : FuncData} (F : FnP K "_law_state" (top 20) f fd) (gi : mg "int" = none) (ga : mg "abs" = none) :
    FnOk P w K mg base CX0 1 f fd ["script"] (spState K) := by
  refine F.ok sc_f__law_state (fun vs H Q E h => ?_) (fun cdv A outer s H vs Q E hr h => ⟨tState K, PSs.nox ?_, state_pure h⟩)
  · obtain ⟨a, ns, rfl, _⟩ := h
    rfl
  · exact pss_cons (ps_set (i := 1) sc_f__law_state.nd rfl (by exact Or.inl rfl) pe_int)
      (pss_cons (ps_for PassesOwn.never rfl (pi_list (pv 0)) (pg_name (i := 2) sc_f__law_state.nd rfl (by exact Or.inl rfl))
        (pss_one (ps_set (i := 1) sc_f__law_state.nd rfl (by exact Or.inl rfl) (pe_op op_modN (pe_callTy call_int1 (by rfl) gi (by decide +kernel) (pa_cons (pe_op op_add (pe_op op_mulA (pv 1) pe_int) (pv 2)) pa_nil)) pe_int))))
      (pss_one (ps_ret (pe_lst (pa_cons (pe_lc (own := [("cell", 2)]) rfl sc_f__law_state.nd (pi_list (pv 0)) (blkOk_by (by kernel_rfl)) (fun _ _ _ _ _ => pg_name (i := 2) sc_f__law_state.nd rfl (by exact Or.inl rfl)) (fun _ _ _ _ _ => pts_nil) (fun _ _ _ _ _ => pe_callB call_abs (by rfl) ga (by decide +kernel) (pa_cons (pv 2) pa_nil)))
        (pa_cons (pe_op op_add (pv 1) pe_int) pa_nil))))))
/-! _law_web -/
abbrev N_f__law_web : List Str := ["state", "n", "extra", "lines", "place", "k", "a", "b"]
theorem sc_f__law_web : FnScope N_f__law_web ["state", "n", "extra"] (defScope (top 24)) := ⟨rfl, rfl, rfl, by decide +kernel, rfl, by decide +kernel, by decide +kernel⟩
def w_f__law_web : WS := wSeq (wOwn 3 (wLst (wN))) (wSeq (wFor (wRng2 (wK (wC (.int 1)) (wK (wV 1) (wN)))) (wGn 4) (wApp 3 (wTup (wK (wCl pDraw (wK (wV 0) (wK (wV 4) (wN)))) (wK (wV 4) (wN)))))) (wSeq (wFor (wRng1 (wK (wIf (wTB (wB gGt (wV 1) (wC (.int 1)))) (wV 2) (wC (.int 0))) (wN))) (wGn 5) (wSeq (wSet 6 (wCl pDraw (wK (wV 0) (wK (wV 1) (wN))))) (wSeq (wSet 7 (wB gMod (wCl gInt (wK (wB gAdd (wB gAdd (wV 6) (wC (.int 1))) (wCl pDraw (wK (wV 0) (wK (wB gSub (wV 1) (wC (.int 1))) (wN))))) (wN))) (wV 1))) (wApp 3 (wTup (wK (wCl gMin2 (wK (wV 6) (wK (wV 7) (wN)))) (wK (wCl gMax2 (wK (wV 6) (wK (wV 7) (wN)))) (wN)))))))) (wRet (wCl gTupOf (wK (wCl gSorted (wK (wO 3) (wN))) (wN))))))
def p_f__law_web : GN := phiC 8 3 w_f__law_web
theorem ok_f__law_web {P : Program} {w : World} {K : PySem.W.Frag} {mg : Str → Option Value} {base : Heap} {f : Addr} {fd : FuncData} (F : FnP K "_law_web" (top 24) f fd) (gx : mg "_law_web" = some (.ref f)) (G : ∀ x ∈ bn, mg x = none) (D_f__law_draw : Fd P w K mg base "_law_draw" ["state", "many"] 1 pDraw) : Fd P w K mg base "_law_web" ["state", "n", "extra"] 2 p_f__law_web :=
  def_fd (N := N_f__law_web) (k := 1) F gx sc_f__law_web (by decide) rfl rfl (fun _ _ _ _ _ _ us hl => match us, hl with | [_, _, _], _ => rfl) fun cdv A outer s H E hr =>
    sc_ (own_ 3 sc_f__law_web.nd (lst_ (an_))) (sc_ (for_ PassesOwn.never (by rfl) (range2_ (by rfl) (G "range" (by decide)) (pc_ ((int_).pp) (pc_ ((v_ 1).pp) (pn_)))) (gn_ 4 sc_f__law_web.nd) (s1_ (app_ 3 (tup_ (ac_ (fc_ D_f__law_draw (hr.mono (by decide)) (by rfl) (ac_ (v_ 0) (ac_ (v_ 4) (an_)))) (ac_ (v_ 4) (an_))))))) (sc_ (for_ PassesOwn.never (by rfl) (range1_ (by rfl) (G "range" (by decide)) (pc_ ((if_ (tcmp_ op_gt bopB0 ((v_ 1).pp) ((int_).pp)) (v_ 2) (int_)).pp) (pn_))) (gn_ 5 sc_f__law_web.nd) (sc_ (set_ 6 sc_f__law_web.nd (fc_ D_f__law_draw (hr.mono (by decide)) (by rfl) (ac_ (v_ 0) (ac_ (v_ 1) (an_))))) (sc_ (set_ 7 sc_f__law_web.nd (mod_ ((call_ (fun h => pe_callTy call_int1 (by rfl) (G "int" (by decide)) (by decide +kernel) h) copInt (pc_ ((add_ ((add_ ((v_ 6).pp) ((int_).pp)).pp) ((fc_ D_f__law_draw (hr.mono (by decide)) (by rfl) (ac_ (v_ 0) (ac_ (sub_ ((v_ 1).pp) ((int_).pp)) (an_)))).pp)).pp) (pn_))).pp) ((v_ 1).pp))) (s1_ (app_ 3 (tup_ (ac_ (call_ (fun h => pe_callB (call_min2 (by rfl)) (by rfl) (G "min" (by decide)) (by decide +kernel) h) copMin2 (pc_ ((v_ 6).pp) (pc_ ((v_ 7).pp) (pn_)))) (ac_ (call_ (fun h => pe_callB (call_max2 (by rfl)) (by rfl) (G "max" (by decide)) (by decide +kernel) h) copMax2 (pc_ ((v_ 6).pp) (pc_ ((v_ 7).pp) (pn_)))) (an_))))))))) (s1_ (ret_ (call_ (fun h => pe_callTy call_tuple_of (by rfl) (G "tuple" (by decide)) (by decide +kernel) h) (copTupOf _) (pc_ ((call_ (fun h => pe_callB (cr_sortD (ur hr)) (by rfl) (G "sorted" (by decide)) (by decide +kernel) h) (copSorted _).cop (pc_ (o_ 3) (pn_))).pp) (pn_)))))))
/-! degrees -/
abbrev N_f_degrees : List Str := ["n", "lines", "told", "a", "b"]
theorem sc_f_degrees : FnScope N_f_degrees ["n", "lines"] (defScope (top 2)) := ⟨rfl, rfl, rfl, by decide +kernel, rfl, by decide +kernel, by decide +kernel⟩
def w_f_degrees : WS := wSeq (wOwn 2 (wB gRep (wLst (wK (wC (.int 0)) (wN))) (wV 0))) (wSeq (wFor (wIt (wV 1)) (wGt 2 (wGcons (wGn 3) (wGcons (wGn 4) (wGnil)))) (wSeq (wStI 2 (wV 3) (wB gAdd (wB gIx (wO 2) (wV 3)) (wC (.int 1)))) (wStI 2 (wV 4) (wB gAdd (wB gIx (wO 2) (wV 4)) (wC (.int 1)))))) (wSh 2 (wRet (wV 2))))
def p_f_degrees : GN := phiC 5 2 w_f_degrees
theorem ok_f_degrees {P : Program} {w : World} {K : PySem.W.Frag} {mg : Str → Option Value} {base : Heap} {f : Addr} {fd : FuncData} (F : FnP K "degrees" (top 2) f fd) (gx : mg "degrees" = some (.ref f)) (G : ∀ x ∈ bn, mg x = none)  : Fd P w K mg base "degrees" ["n", "lines"] 1 p_f_degrees :=
  def_fd (N := N_f_degrees) (k := 0) F gx sc_f_degrees (by decide) rfl rfl (fun _ _ _ _ _ _ us hl => match us, hl with | [_, _], _ => rfl) fun cdv A outer s H E hr =>
    sc_ (own_ 2 sc_f_degrees.nd (rep_ (((lst_ (ac_ (int_) (an_))).pv).pp) ((v_ 0).pp))) (sc_ (for_ PassesOwn.never (by rfl) (it_ (v_ 1)) (gt_ (by rfl) (gcons_ (gn_ 3 sc_f_degrees.nd) (gcons_ (gn_ 4 sc_f_degrees.nd) (gnil_)))) (sc_ (sti_ 2 ((v_ 3).pp) (add_ ((ix_ (o_ 2) ((v_ 3).pp)).pp) ((int_).pp))) (s1_ (sti_ 2 ((v_ 4).pp) (add_ ((ix_ (o_ 2) ((v_ 4).pp)).pp) ((int_).pp)))))) (s1_ (sh_ 2 (ret_ (v_ 2)))))
/-! still_heaps -/
abbrev N_f_still_heaps : List Str := ["n", "lines", "told", "size", "longer", "heap", "many"]
theorem sc_f_still_heaps : FnScope N_f_still_heaps ["n", "lines"] (defScope (top 8)) := ⟨rfl, rfl, rfl, by decide +kernel, rfl, by decide +kernel, by decide +kernel⟩
def w_f_still_heaps : WS := wSeq (wSet 2 (wLst (wK (wTup (wK (wC (.int 0)) (wN))) (wN)))) (wSeq (wFor (wIt (wSl (wCl p_f_degrees (wK (wV 0) (wK (wV 1) (wN)))) (wSo (wC (.int 1))) (wNo))) (wGn 3) (wSeq (wSet 4 (wLst (wN))) (wSeq (wFor (wIt (wV 2)) (wGn 5) (wSet 4 (wB gAdd (wV 4) (wLc [6] (wRng1 (wK (wV 3) (wN))) (wGn 6) (wYes) (wB gAdd (wV 5) (wTup (wK (wV 6) (wN)))))))) (wSet 2 (wV 4))))) (wRet (wV 2)))
def p_f_still_heaps : GN := phiC 7 2 w_f_still_heaps
theorem ok_f_still_heaps {P : Program} {w : World} {K : PySem.W.Frag} {mg : Str → Option Value} {base : Heap} {f : Addr} {fd : FuncData} (F : FnP K "still_heaps" (top 8) f fd) (gx : mg "still_heaps" = some (.ref f)) (G : ∀ x ∈ bn, mg x = none) (D_f_degrees : Fd P w K mg base "degrees" ["n", "lines"] 1 p_f_degrees) : Fd P w K mg base "still_heaps" ["n", "lines"] 2 p_f_still_heaps :=
  def_fd (N := N_f_still_heaps) (k := 1) F gx sc_f_still_heaps (by decide) rfl rfl (fun _ _ _ _ _ _ us hl => match us, hl with | [_, _], _ => rfl) fun cdv A outer s H E hr =>
    sc_ (set_ 2 sc_f_still_heaps.nd ((lst_ (ac_ (tup_ (ac_ (int_) (an_))) (an_))).pv)) (sc_ (for_ PassesOwn.never (by rfl) (it_ (slice_ ((fc_ D_f_degrees (hr.mono (by decide)) (by rfl) (ac_ (v_ 0) (ac_ (v_ 1) (an_)))).pp) (os_ ((int_).pp)) (on_))) (gn_ 3 sc_f_still_heaps.nd) (sc_ (set_ 4 sc_f_still_heaps.nd ((lst_ (an_)).pv)) (sc_ (for_ PassesOwn.never (by rfl) (it_ (v_ 2)) (gn_ 5 sc_f_still_heaps.nd) (s1_ (set_ 4 sc_f_still_heaps.nd (add_ ((v_ 4).pp) (((lcv [("many", 6)] (by rfl) sc_f_still_heaps.nd ((range1_ (by rfl) (G "range" (by decide)) (pc_ ((v_ 3).pp) (pn_))).pp) (fun _ _ _ _ _ => gn_ 6 sc_f_still_heaps.nd) (fun _ _ _ _ _ => tn_) (fun _ _ _ _ _ => add_ ((v_ 5).pp) ((tup_ (ac_ (v_ 6) (an_))).pp))).pv).pp))))) (s1_ (set_ 2 sc_f_still_heaps.nd (v_ 4)))))) (s1_ (ret_ (v_ 2))))
/-! neighbours -/
abbrev N_f_neighbours : List Str := ["n", "lines", "place", "a", "b"]
theorem sc_f_neighbours : FnScope N_f_neighbours ["n", "lines", "place"] (defScope (top 1)) := ⟨rfl, rfl, rfl, by decide +kernel, rfl, by decide +kernel, by decide +kernel⟩
def w_f_neighbours : WS := wRet (wCl gSorted (wK (wLc [3, 4] (wIt (wV 1)) (wGt 2 (wGcons (wGn 3) (wGcons (wGn 4) (wGnil)))) (wTB (wB gIn (wV 2) (wTup (wK (wV 3) (wK (wV 4) (wN)))))) (wB gSub (wB gAdd (wV 3) (wV 4)) (wV 2))) (wN)))
def p_f_neighbours : GN := phiC 5 3 w_f_neighbours
theorem ok_f_neighbours {P : Program} {w : World} {K : PySem.W.Frag} {mg : Str → Option Value} {base : Heap} {f : Addr} {fd : FuncData} (F : FnP K "neighbours" (top 1) f fd) (gx : mg "neighbours" = some (.ref f)) (G : ∀ x ∈ bn, mg x = none)  : Fd P w K mg base "neighbours" ["n", "lines", "place"] 1 p_f_neighbours :=
  def_fd (N := N_f_neighbours) (k := 0) F gx sc_f_neighbours (by decide) rfl rfl (fun _ _ _ _ _ _ us hl => match us, hl with | [_, _, _], _ => rfl) fun cdv A outer s H E hr =>
    s1_ (ret_ (call_ (fun h => pe_callB (cr_sortD (ur hr)) (by rfl) (G "sorted" (by decide)) (by decide +kernel) h) (copSorted _).cop (pc_ (((lcv [("a", 3), ("b", 4)] (by rfl) sc_f_neighbours.nd (itp_ ((v_ 1).pp)) (fun _ _ _ _ _ => gt_ (by rfl) (gcons_ (gn_ 3 sc_f_neighbours.nd) (gcons_ (gn_ 4 sc_f_neighbours.nd) (gnil_)))) (fun _ _ _ _ _ => t1_ (tcmp_ (op_InT (ur hr)) (bopIn _ false) ((v_ 2).pp) ((tup_ (ac_ (v_ 3) (ac_ (v_ 4) (an_)))).pp))) (fun _ _ _ _ _ => sub_ ((add_ ((v_ 3).pp) ((v_ 4).pp)).pp) ((v_ 2).pp))).pv).pp) (pn_))))
/-! rounds -/
abbrev N_f_rounds : List Str := ["n", "lines", "heap", "burnt", "told", "found", "place", "open_lines", "other"]
theorem sc_f_rounds : FnScope N_f_rounds ["n", "lines", "heap"] (defScope (top 6)) := ⟨rfl, rfl, rfl, by decide +kernel, rfl, by decide +kernel, by decide +kernel⟩
def w_f_rounds : WS := wSeq (wSet 3 (wLst (wK (wC (.int 0)) (wN)))) (wSeq (wOwn 4 (wLst (wK (wLst (wK (wC (.int 0)) (wN))) (wN)))) (wSeq (wWh (wT (wB gIx (wO 4) (wU gNeg (wC (.int 1))))) (wSeq (wOwn 5 (wLst (wN))) (wSeq (wFor (wRng1 (wK (wV 0) (wN))) (wGn 6) (wIfS (wTB (wB gNotIn (wV 6) (wV 3))) (wSeq (wSet 7 (wCl gLen (wK (wLc [8] (wIt (wCl p_f_neighbours (wK (wV 0) (wK (wV 1) (wK (wV 6) (wN)))))) (wGn 8) (wTB (wB gNotIn (wV 8) (wV 3))) (wV 8)) (wN)))) (wIfS (wTB (wB gGe (wB gIx (wV 2) (wV 6)) (wV 7))) (wApp 5 (wV 6)) (wNx))) (wNx))) (wSeq (wSet 3 (wB gAdd (wV 3) (wO 5))) (wSh 5 (wApp 4 (wV 5))))))) (wRet (wSl (wO 4) (wNo) (wSo (wU gNeg (wC (.int 1))))))))
def p_f_rounds : GN := phiC 9 3 w_f_rounds
theorem ok_f_rounds {P : Program} {w : World} {K : PySem.W.Frag} {mg : Str → Option Value} {base : Heap} {f : Addr} {fd : FuncData} (F : FnP K "rounds" (top 6) f fd) (gx : mg "rounds" = some (.ref f)) (G : ∀ x ∈ bn, mg x = none) (D_f_neighbours : Fd P w K mg base "neighbours" ["n", "lines", "place"] 1 p_f_neighbours) : Fd P w K mg base "rounds" ["n", "lines", "heap"] 2 p_f_rounds :=
  def_fd (N := N_f_rounds) (k := 1) F gx sc_f_rounds (by decide) rfl rfl (fun _ _ _ _ _ _ us hl => match us, hl with | [_, _, _], _ => rfl) fun cdv A outer s H E hr =>
    sc_ (set_ 3 sc_f_rounds.nd ((lst_ (ac_ (int_) (an_))).pv)) (sc_ (own_ 4 sc_f_rounds.nd (lst_ (ac_ ((lst_ (ac_ (int_) (an_))).pv) (an_)))) (sc_ (while_ PassesOwn.never (t_ ((ix_ (o_ 4) ((neg_ ((int_).pp)).pp)).pp)) (sc_ (own_ 5 sc_f_rounds.nd (lst_ (an_))) (sc_ (for_ PassesOwn.never (by rfl) (range1_ (by rfl) (G "range" (by decide)) (pc_ ((v_ 0).pp) (pn_))) (gn_ 6 sc_f_rounds.nd) (s1_ (ifs_ (tcmp_ (op_NotInT (ur hr)) (bopIn _ true) ((v_ 6).pp) ((v_ 3).pp)) (sc_ (set_ 7 sc_f_rounds.nd (call_ (fun h => pe_callB call_len_seq (by rfl) (G "len" (by decide)) (by decide +kernel) h) (copLen _) (pc_ (((lcv [("other", 8)] (by rfl) sc_f_rounds.nd (itp_ ((fc_ D_f_neighbours (hr.mono (by decide)) (by rfl) (ac_ (v_ 0) (ac_ (v_ 1) (ac_ (v_ 6) (an_))))).pp)) (fun _ _ _ _ _ => gn_ 8 sc_f_rounds.nd) (fun _ _ _ _ _ => t1_ (tcmp_ (op_NotInT (ur hr)) (bopIn _ true) ((v_ 8).pp) ((v_ 3).pp))) (fun _ _ _ _ _ => v_ 8)).pv).pp) (pn_)))) (s1_ (ifs_ (tcmp_ op_ge bopB0 ((ix_ ((v_ 2).pp) ((v_ 6).pp)).pp) ((v_ 7).pp)) (s1_ (app_ 5 (v_ 6))) (sn_)))) (sn_)))) (sc_ (set_ 3 sc_f_rounds.nd (add_ ((v_ 3).pp) (o_ 5))) (s1_ (sh_ 5 (app_ 4 (v_ 5)))))))) (s1_ (ret_ (slice_ (o_ 4) (on_) (os_ ((neg_ ((int_).pp)).pp)))))))
/-! stays -/
abbrev N_f_stays : List Str := ["n", "lines", "heap", "burnt", "row", "place"]
theorem sc_f_stays : FnScope N_f_stays ["n", "lines", "heap"] (defScope (top 7)) := ⟨rfl, rfl, rfl, by decide +kernel, rfl, by decide +kernel, by decide +kernel⟩
def w_f_stays : WS := wSeq (wSet 3 (wLc2 [4, 5] [5] (wIt (wCl p_f_rounds (wK (wV 0) (wK (wV 1) (wK (wV 2) (wN)))))) (wGn 4) (wYes) (wIt (wV 4)) (wGn 5) (wYes) (wV 5))) (wRet (wLc [5] (wRng1 (wK (wV 0) (wN))) (wGn 5) (wTB (wB gNotIn (wV 5) (wV 3))) (wV 5)))
def p_f_stays : GN := phiC 6 3 w_f_stays
theorem ok_f_stays {P : Program} {w : World} {K : PySem.W.Frag} {mg : Str → Option Value} {base : Heap} {f : Addr} {fd : FuncData} (F : FnP K "stays" (top 7) f fd) (gx : mg "stays" = some (.ref f)) (G : ∀ x ∈ bn, mg x = none) (D_f_rounds : Fd P w K mg base "rounds" ["n", "lines", "heap"] 2 p_f_rounds) : Fd P w K mg base "stays" ["n", "lines", "heap"] 3 p_f_stays :=
  def_fd (N := N_f_stays) (k := 2) F gx sc_f_stays (by decide) rfl rfl (fun _ _ _ _ _ _ us hl => match us, hl with | [_, _, _], _ => rfl) fun cdv A outer s H E hr =>
    sc_ (set_ 3 sc_f_stays.nd ((lcv2 [("row", 4), ("place", 5)] [5] (by rfl) sc_f_stays.nd (it_ (fc_ D_f_rounds (hr.mono (by decide)) (by rfl) (ac_ (v_ 0) (ac_ (v_ 1) (ac_ (v_ 2) (an_)))))) (fun _ _ _ _ _ => gn_ 4 sc_f_stays.nd) (fun _ _ _ _ _ => tn_) (fun _ _ _ _ _ => it_ (v_ 4)) (fun _ _ _ _ _ => gn_ 5 sc_f_stays.nd) (fun _ _ _ _ _ => tn_) (fun _ _ _ _ _ => v_ 5)).pv)) (s1_ (ret_ ((lcv [("place", 5)] (by rfl) sc_f_stays.nd ((range1_ (by rfl) (G "range" (by decide)) (pc_ ((v_ 0).pp) (pn_))).pp) (fun _ _ _ _ _ => gn_ 5 sc_f_stays.nd) (fun _ _ _ _ _ => t1_ (tcmp_ (op_NotInT (ur hr)) (bopIn _ true) ((v_ 5).pp) ((v_ 3).pp))) (fun _ _ _ _ _ => v_ 5)).pv)))
/-! all_again -/
abbrev N_f_all_again : List Str := ["n", "lines", "heap"]
theorem sc_f_all_again : FnScope N_f_all_again ["n", "lines"] (defScope (top 9)) := ⟨rfl, rfl, rfl, by decide +kernel, rfl, by decide +kernel, by decide +kernel⟩
def w_f_all_again : WS := wRet (wLc [2] (wIt (wCl p_f_still_heaps (wK (wV 0) (wK (wV 1) (wN))))) (wGn 2) (wNotT (wT (wCl p_f_stays (wK (wV 0) (wK (wV 1) (wK (wV 2) (wN))))))) (wV 2))
def p_f_all_again : GN := phiC 3 2 w_f_all_again
theorem ok_f_all_again {P : Program} {w : World} {K : PySem.W.Frag} {mg : Str → Option Value} {base : Heap} {f : Addr} {fd : FuncData} (F : FnP K "all_again" (top 9) f fd) (gx : mg "all_again" = some (.ref f)) (G : ∀ x ∈ bn, mg x = none) (D_f_stays : Fd P w K mg base "stays" ["n", "lines", "heap"] 3 p_f_stays) (D_f_still_heaps : Fd P w K mg base "still_heaps" ["n", "lines"] 2 p_f_still_heaps) : Fd P w K mg base "all_again" ["n", "lines"] 4 p_f_all_again :=
  def_fd (N := N_f_all_again) (k := 3) F gx sc_f_all_again (by decide) rfl rfl (fun _ _ _ _ _ _ us hl => match us, hl with | [_, _], _ => rfl) fun cdv A outer s H E hr =>
    s1_ (ret_ ((lcv [("heap", 2)] (by rfl) sc_f_all_again.nd (itp_ ((fc_ D_f_still_heaps (hr.mono (by decide)) (by rfl) (ac_ (v_ 0) (ac_ (v_ 1) (an_)))).pp)) (fun _ _ _ _ _ => gn_ 2 sc_f_all_again.nd) (fun _ _ _ _ _ => t1_ (tnot_ (t_ ((fc_ D_f_stays (hr.mono (by decide)) (by rfl) (ac_ (v_ 0) (ac_ (v_ 1) (ac_ (v_ 2) (an_))))).pp)))) (fun _ _ _ _ _ => v_ 2)).pv))
/-! reached -/
abbrev N_f_reached : List Str := ["n", "lines", "place", "told", "at", "other"]
theorem sc_f_reached : FnScope N_f_reached ["n", "lines", "place"] (defScope (top 3)) := ⟨rfl, rfl, rfl, by decide +kernel, rfl, by decide +kernel, by decide +kernel⟩
def w_f_reached : WS := wSeq (wOwn 3 (wLst (wK (wV 2) (wN)))) (wSeq (wSet 4 (wC (.int 0))) (wSeq (wWh (wTB (wB gLt (wV 4) (wCl gLen (wK (wO 3) (wN))))) (wSeq (wFor (wIt (wCl p_f_neighbours (wK (wV 0) (wK (wV 1) (wK (wB gIx (wO 3) (wV 4)) (wN)))))) (wGn 5) (wIfS (wTB (wB gNotIn (wV 5) (wO 3))) (wApp 3 (wV 5)) (wNx))) (wSet 4 (wB gAdd (wV 4) (wC (.int 1)))))) (wRet (wCl gSorted (wK (wO 3) (wN))))))
def p_f_reached : GN := phiC 6 3 w_f_reached
theorem ok_f_reached {P : Program} {w : World} {K : PySem.W.Frag} {mg : Str → Option Value} {base : Heap} {f : Addr} {fd : FuncData} (F : FnP K "reached" (top 3) f fd) (gx : mg "reached" = some (.ref f)) (G : ∀ x ∈ bn, mg x = none) (D_f_neighbours : Fd P w K mg base "neighbours" ["n", "lines", "place"] 1 p_f_neighbours) : Fd P w K mg base "reached" ["n", "lines", "place"] 2 p_f_reached :=
  def_fd (N := N_f_reached) (k := 1) F gx sc_f_reached (by decide) rfl rfl (fun _ _ _ _ _ _ us hl => match us, hl with | [_, _, _], _ => rfl) fun cdv A outer s H E hr =>
    sc_ (own_ 3 sc_f_reached.nd (lst_ (ac_ (v_ 2) (an_)))) (sc_ (set_ 4 sc_f_reached.nd (int_)) (sc_ (while_ PassesOwn.never (tcmp_ op_lt bopB0 ((v_ 4).pp) ((call_ (fun h => pe_callB call_len_seq (by rfl) (G "len" (by decide)) (by decide +kernel) h) (copLen _) (pc_ (o_ 3) (pn_))).pp)) (sc_ (for_ PassesOwn.never (by rfl) (it_ (fc_ D_f_neighbours (hr.mono (by decide)) (by rfl) (ac_ (v_ 0) (ac_ (v_ 1) (ac_ (ix_ (o_ 3) ((v_ 4).pp)) (an_)))))) (gn_ 5 sc_f_reached.nd) (s1_ (ifs_ (tcmp_ (op_NotInT (ur hr)) (bopIn _ true) ((v_ 5).pp) (o_ 3)) (s1_ (app_ 3 (v_ 5))) (sn_)))) (s1_ (set_ 4 sc_f_reached.nd (add_ ((v_ 4).pp) ((int_).pp)))))) (s1_ (ret_ (call_ (fun h => pe_callB (cr_sortD (ur hr)) (by rfl) (G "sorted" (by decide)) (by decide +kernel) h) (copSorted _).cop (pc_ (o_ 3) (pn_)))))))
/-! trees_of -/
abbrev N_f_trees_of : List Str := ["n", "lines", "found", "at", "a", "b", "more", "tree", "one"]
theorem sc_f_trees_of : FnScope N_f_trees_of ["n", "lines"] (defScope (top 4)) := ⟨rfl, rfl, rfl, by decide +kernel, rfl, by decide +kernel, by decide +kernel⟩
def w_f_trees_of : WS := wSeq (wSet 2 (wLst (wK (wTup (wN)) (wN)))) (wSeq (wFor (wEnum (wK (wV 1) (wN))) (wGt 2 (wGcons (wGn 3) (wGcons (wGt 2 (wGcons (wGn 4) (wGcons (wGn 5) (wGnil)))) (wGnil)))) (wSeq (wOwn 6 (wLst (wN))) (wSeq (wFor (wIt (wV 2)) (wGn 7) (wIfS (wAndT (wTB (wB gLt (wCl gLen (wK (wV 7) (wN))) (wB gSub (wV 0) (wC (.int 1))))) (wTB (wB gNotIn (wV 5) (wCl p_f_reached (wK (wV 0) (wK (wLc [8] (wIt (wV 7)) (wGn 8) (wYes) (wB gIx (wV 1) (wV 8))) (wK (wV 4) (wN)))))))) (wApp 6 (wB gAdd (wV 7) (wTup (wK (wV 3) (wN))))) (wNx))) (wSet 2 (wB gAdd (wV 2) (wO 6)))))) (wRet (wCl gSorted (wK (wLc [7] (wIt (wV 2)) (wGn 7) (wTB (wB gEq (wCl gLen (wK (wV 7) (wN))) (wB gSub (wV 0) (wC (.int 1))))) (wV 7)) (wN)))))
def p_f_trees_of : GN := phiC 9 2 w_f_trees_of
theorem ok_f_trees_of {P : Program} {w : World} {K : PySem.W.Frag} {mg : Str → Option Value} {base : Heap} {f : Addr} {fd : FuncData} (F : FnP K "trees_of" (top 4) f fd) (gx : mg "trees_of" = some (.ref f)) (G : ∀ x ∈ bn, mg x = none) (D_f_reached : Fd P w K mg base "reached" ["n", "lines", "place"] 2 p_f_reached) : Fd P w K mg base "trees_of" ["n", "lines"] 3 p_f_trees_of :=
  def_fd (N := N_f_trees_of) (k := 2) F gx sc_f_trees_of (by decide) rfl rfl (fun _ _ _ _ _ _ us hl => match us, hl with | [_, _], _ => rfl) fun cdv A outer s H E hr =>
    sc_ (set_ 2 sc_f_trees_of.nd ((lst_ (ac_ (tup_ (an_)) (an_))).pv)) (sc_ (for_ PassesOwn.never (by rfl) (enum_ (by rfl) (G "enumerate" (by decide)) (ac_ (v_ 1) (an_))) (gt_ (by rfl) (gcons_ (gn_ 3 sc_f_trees_of.nd) (gcons_ (gt_ (by rfl) (gcons_ (gn_ 4 sc_f_trees_of.nd) (gcons_ (gn_ 5 sc_f_trees_of.nd) (gnil_)))) (gnil_)))) (sc_ (own_ 6 sc_f_trees_of.nd (lst_ (an_))) (sc_ (for_ PassesOwn.never (by rfl) (it_ (v_ 2)) (gn_ 7 sc_f_trees_of.nd) (s1_ (ifs_ (tw_ (wand_ (tcmp_ op_lt bopB0 ((call_ (fun h => pe_callB call_len_seq (by rfl) (G "len" (by decide)) (by decide +kernel) h) (copLen _) (pc_ ((v_ 7).pp) (pn_))).pp) ((sub_ ((v_ 0).pp) ((int_).pp)).pp)) (wand1_ (tcmp_ (op_NotInT (ur hr)) (bopIn _ true) ((v_ 5).pp) ((fc_ D_f_reached (hr.mono (by decide)) (by rfl) (ac_ (v_ 0) (ac_ ((lcv [("one", 8)] (by rfl) sc_f_trees_of.nd (itp_ ((v_ 7).pp)) (fun _ _ _ _ _ => gn_ 8 sc_f_trees_of.nd) (fun _ _ _ _ _ => tn_) (fun _ _ _ _ _ => ix_ ((v_ 1).pp) ((v_ 8).pp))).pv) (ac_ (v_ 4) (an_))))).pp))))) (s1_ (app_ 6 (add_ ((v_ 7).pp) ((tup_ (ac_ (v_ 3) (an_))).pp)))) (sn_)))) (s1_ (set_ 2 sc_f_trees_of.nd (add_ ((v_ 2).pp) (o_ 6))))))) (s1_ (ret_ (call_ (fun h => pe_callB (cr_sortD (ur hr)) (by rfl) (G "sorted" (by decide)) (by decide +kernel) h) (copSorted _).cop (pc_ (((lcv [("tree", 7)] (by rfl) sc_f_trees_of.nd (itp_ ((v_ 2).pp)) (fun _ _ _ _ _ => gn_ 7 sc_f_trees_of.nd) (fun _ _ _ _ _ => t1_ (tcmp_ (op_eqD (ur hr)) (bopEq _) ((call_ (fun h => pe_callB call_len_seq (by rfl) (G "len" (by decide)) (by decide +kernel) h) (copLen _) (pc_ ((v_ 7).pp) (pn_))).pp) ((sub_ ((v_ 0).pp) ((int_).pp)).pp))) (fun _ _ _ _ _ => v_ 7)).pv).pp) (pn_))))))
/-! lines_at -/
abbrev N_f_lines_at : List Str := ["lines", "place", "at", "line"]
theorem sc_f_lines_at : FnScope N_f_lines_at ["lines", "place"] (defScope (top 11)) := ⟨rfl, rfl, rfl, by decide +kernel, rfl, by decide +kernel, by decide +kernel⟩
def w_f_lines_at : WS := wRet (wLc [2, 3] (wEnum (wK (wV 0) (wN))) (wGt 2 (wGcons (wGn 2) (wGcons (wGn 3) (wGnil)))) (wTB (wB gIn (wV 1) (wV 3))) (wV 2))
def p_f_lines_at : GN := phiC 4 2 w_f_lines_at
theorem ok_f_lines_at {P : Program} {w : World} {K : PySem.W.Frag} {mg : Str → Option Value} {base : Heap} {f : Addr} {fd : FuncData} (F : FnP K "lines_at" (top 11) f fd) (gx : mg "lines_at" = some (.ref f)) (G : ∀ x ∈ bn, mg x = none)  : Fd P w K mg base "lines_at" ["lines", "place"] 1 p_f_lines_at :=
  def_fd (N := N_f_lines_at) (k := 0) F gx sc_f_lines_at (by decide) rfl rfl (fun _ _ _ _ _ _ us hl => match us, hl with | [_, _], _ => rfl) fun cdv A outer s H E hr =>
    s1_ (ret_ ((lcv [("at", 2), ("line", 3)] (by rfl) sc_f_lines_at.nd (enump_ (by rfl) (G "enumerate" (by decide)) (pc_ ((v_ 0).pp) (pn_))) (fun _ _ _ _ _ => gt_ (by rfl) (gcons_ (gn_ 2 sc_f_lines_at.nd) (gcons_ (gn_ 3 sc_f_lines_at.nd) (gnil_)))) (fun _ _ _ _ _ => t1_ (tcmp_ (op_InT (ur hr)) (bopIn _ false) ((v_ 1).pp) ((v_ 3).pp))) (fun _ _ _ _ _ => v_ 2)).pv))
/-! other_end -/
abbrev N_f_other_end : List Str := ["lines", "at", "place"]
theorem sc_f_other_end : FnScope N_f_other_end ["lines", "at", "place"] (defScope (top 12)) := ⟨rfl, rfl, rfl, by decide +kernel, rfl, by decide +kernel, by decide +kernel⟩
def w_f_other_end : WS := wRet (wB gSub (wB gAdd (wB gIx (wB gIx (wV 0) (wV 1)) (wC (.int 0))) (wB gIx (wB gIx (wV 0) (wV 1)) (wC (.int 1)))) (wV 2))
def p_f_other_end : GN := phiC 3 3 w_f_other_end
theorem ok_f_other_end {P : Program} {w : World} {K : PySem.W.Frag} {mg : Str → Option Value} {base : Heap} {f : Addr} {fd : FuncData} (F : FnP K "other_end" (top 12) f fd) (gx : mg "other_end" = some (.ref f)) (G : ∀ x ∈ bn, mg x = none)  : Fd P w K mg base "other_end" ["lines", "at", "place"] 1 p_f_other_end :=
  def_fd (N := N_f_other_end) (k := 0) F gx sc_f_other_end (by decide) rfl rfl (fun _ _ _ _ _ _ us hl => match us, hl with | [_, _, _], _ => rfl) fun cdv A outer s H E hr =>
    s1_ (ret_ (sub_ ((add_ ((ix_ ((ix_ ((v_ 0).pp) ((v_ 1).pp)).pp) ((int_).pp)).pp) ((ix_ ((ix_ ((v_ 0).pp) ((v_ 1).pp)).pp) ((int_).pp)).pp)).pp) ((v_ 2).pp)))
/-! choices -/
abbrev N_f_choices : List Str := ["lines", "book", "place", "mine", "later", "at", "near"]
theorem sc_f_choices : FnScope N_f_choices ["lines", "book", "place"] (defScope (top 13)) := ⟨rfl, rfl, rfl, by decide +kernel, rfl, by decide +kernel, by decide +kernel⟩
def w_f_choices : WS := wSeq (wSet 3 (wCl p_f_lines_at (wK (wV 0) (wK (wV 2) (wN))))) (wSeq (wSet 4 (wLc [5] (wIt (wV 3)) (wGn 5) (wTB (wB gGe (wB gIx (wV 1) (wCl p_f_other_end (wK (wV 0) (wK (wV 5) (wK (wV 2) (wN)))))) (wB gIx (wV 1) (wV 2)))) (wV 5))) (wSeq (wSet 6 (wLc [5] (wIt (wV 3)) (wGn 5) (wTB (wB gEq (wB gIx (wV 1) (wCl p_f_other_end (wK (wV 0) (wK (wV 5) (wK (wV 2) (wN)))))) (wB gSub (wB gIx (wV 1) (wV 2)) (wC (.int 1))))) (wV 5))) (wRet (wTup (wK (wCl gLen (wK (wV 4) (wN))) (wK (wV 6) (wN)))))))
def p_f_choices : GN := phiC 7 3 w_f_choices
theorem ok_f_choices {P : Program} {w : World} {K : PySem.W.Frag} {mg : Str → Option Value} {base : Heap} {f : Addr} {fd : FuncData} (F : FnP K "choices" (top 13) f fd) (gx : mg "choices" = some (.ref f)) (G : ∀ x ∈ bn, mg x = none) (D_f_lines_at : Fd P w K mg base "lines_at" ["lines", "place"] 1 p_f_lines_at) (D_f_other_end : Fd P w K mg base "other_end" ["lines", "at", "place"] 1 p_f_other_end) : Fd P w K mg base "choices" ["lines", "book", "place"] 2 p_f_choices :=
  def_fd (N := N_f_choices) (k := 1) F gx sc_f_choices (by decide) rfl rfl (fun _ _ _ _ _ _ us hl => match us, hl with | [_, _, _], _ => rfl) fun cdv A outer s H E hr =>
    sc_ (set_ 3 sc_f_choices.nd (fc_ D_f_lines_at (hr.mono (by decide)) (by rfl) (ac_ (v_ 0) (ac_ (v_ 2) (an_))))) (sc_ (laSet (lav 4 [("at", 5)] (by rfl) sc_f_choices.nd (itp_ ((v_ 3).pp)) (fun _ _ _ _ _ => gn_ 5 sc_f_choices.nd) (fun _ _ _ _ _ => t1_ (tcmp_ op_ge bopB0 ((ix_ ((v_ 1).pp) ((fc_ D_f_other_end (hr.mono (by decide)) (by rfl) (ac_ (v_ 0) (ac_ (v_ 5) (ac_ (v_ 2) (an_))))).pp)).pp) ((ix_ ((v_ 1).pp) ((v_ 2).pp)).pp))) (fun _ _ _ _ _ => v_ 5))) (sc_ (laSet (lav 6 [("at", 5)] (by rfl) sc_f_choices.nd (itp_ ((v_ 3).pp)) (fun _ _ _ _ _ => gn_ 5 sc_f_choices.nd) (fun _ _ _ _ _ => t1_ (tcmp_ (op_eqD (ur hr)) (bopEq _) ((ix_ ((v_ 1).pp) ((fc_ D_f_other_end (hr.mono (by decide)) (by rfl) (ac_ (v_ 0) (ac_ (v_ 5) (ac_ (v_ 2) (an_))))).pp)).pp) ((sub_ ((ix_ ((v_ 1).pp) ((v_ 2).pp)).pp) ((int_).pp)).pp))) (fun _ _ _ _ _ => v_ 5))) (s1_ (ret_ (tup_ (ac_ (call_ (fun h => pe_callB call_len_seq (by rfl) (G "len" (by decide)) (by decide +kernel) h) (copLen _) (pc_ ((v_ 4).pp) (pn_))) (ac_ (v_ 6) (an_))))))))
/-! tree_of -/
abbrev N_f_tree_of : List Str := ["n", "lines", "heap", "book", "many", "row", "place", "told", "later", "near"]
theorem sc_f_tree_of : FnScope N_f_tree_of ["n", "lines", "heap"] (defScope (top 14)) := ⟨rfl, rfl, rfl, by decide +kernel, rfl, by decide +kernel, by decide +kernel⟩
def w_f_tree_of : WS := wSeq (wOwn 3 (wB gRep (wLst (wK (wC (.int 0)) (wN))) (wV 0))) (wSeq (wFor (wEnum (wK (wCl p_f_rounds (wK (wV 0) (wK (wV 1) (wK (wV 2) (wN))))) (wN))) (wGt 2 (wGcons (wGn 4) (wGcons (wGn 5) (wGnil)))) (wFor (wIt (wV 5)) (wGn 6) (wStI 3 (wV 6) (wV 4)))) (wSeq (wOwn 7 (wLst (wN))) (wSeq (wSh 3 (wFor (wRng2 (wK (wC (.int 1)) (wK (wV 0) (wN)))) (wGn 6) (wSeq (wAsg (wCl p_f_choices (wK (wV 1) (wK (wV 3) (wK (wV 6) (wN))))) (wGt 2 (wGcons (wGn 8) (wGcons (wGn 9) (wGnil))))) (wApp 7 (wB gIx (wV 9) (wB gSub (wB gIx (wV 2) (wV 6)) (wV 8))))))) (wRet (wCl gTupOf (wK (wCl gSorted (wK (wO 7) (wN))) (wN)))))))
def p_f_tree_of : GN := phiC 10 3 w_f_tree_of
theorem ok_f_tree_of {P : Program} {w : World} {K : PySem.W.Frag} {mg : Str → Option Value} {base : Heap} {f : Addr} {fd : FuncData} (F : FnP K "tree_of" (top 14) f fd) (gx : mg "tree_of" = some (.ref f)) (G : ∀ x ∈ bn, mg x = none) (D_f_choices : Fd P w K mg base "choices" ["lines", "book", "place"] 2 p_f_choices) (D_f_rounds : Fd P w K mg base "rounds" ["n", "lines", "heap"] 2 p_f_rounds) : Fd P w K mg base "tree_of" ["n", "lines", "heap"] 3 p_f_tree_of :=
  def_fd (N := N_f_tree_of) (k := 2) F gx sc_f_tree_of (by decide) rfl rfl (fun _ _ _ _ _ _ us hl => match us, hl with | [_, _, _], _ => rfl) fun cdv A outer s H E hr =>
    sc_ (own_ 3 sc_f_tree_of.nd (rep_ (((lst_ (ac_ (int_) (an_))).pv).pp) ((v_ 0).pp))) (sc_ (for_ PassesOwn.never (by rfl) (enum_ (by rfl) (G "enumerate" (by decide)) (ac_ (fc_ D_f_rounds (hr.mono (by decide)) (by rfl) (ac_ (v_ 0) (ac_ (v_ 1) (ac_ (v_ 2) (an_))))) (an_))) (gt_ (by rfl) (gcons_ (gn_ 4 sc_f_tree_of.nd) (gcons_ (gn_ 5 sc_f_tree_of.nd) (gnil_)))) (s1_ (for_ PassesOwn.never (by rfl) (it_ (v_ 5)) (gn_ 6 sc_f_tree_of.nd) (s1_ (sti_ 3 ((v_ 6).pp) (v_ 4)))))) (sc_ (own_ 7 sc_f_tree_of.nd (lst_ (an_))) (sc_ (sh_ 3 (for_ PassesOwn.never (by rfl) (range2_ (by rfl) (G "range" (by decide)) (pc_ ((int_).pp) (pc_ ((v_ 0).pp) (pn_)))) (gn_ 6 sc_f_tree_of.nd) (sc_ (asg_ (fc_ D_f_choices (hr.mono (by decide)) (by rfl) (ac_ (v_ 1) (ac_ (v_ 3) (ac_ (v_ 6) (an_))))) (gt_ (by rfl) (gcons_ (gn_ 8 sc_f_tree_of.nd) (gcons_ (gn_ 9 sc_f_tree_of.nd) (gnil_))))) (s1_ (app_ 7 (ix_ ((v_ 9).pp) ((sub_ ((ix_ ((v_ 2).pp) ((v_ 6).pp)).pp) ((v_ 8).pp)).pp))))))) (s1_ (ret_ (call_ (fun h => pe_callTy call_tuple_of (by rfl) (G "tuple" (by decide)) (by decide +kernel) h) (copTupOf _) (pc_ ((call_ (fun h => pe_callB (cr_sortD (ur hr)) (by rfl) (G "sorted" (by decide)) (by decide +kernel) h) (copSorted _).cop (pc_ (o_ 7) (pn_))).pp) (pn_))))))))
/-! parents -/
abbrev N_f_parents : List Str := ["n", "lines", "tree", "told", "order", "at", "one", "goal"]
theorem sc_f_parents : FnScope N_f_parents ["n", "lines", "tree"] (defScope (top 15)) := ⟨rfl, rfl, rfl, by decide +kernel, rfl, by decide +kernel, by decide +kernel⟩
def w_f_parents : WS := wSeq (wOwn 3 (wB gRep (wLst (wK (wU gNeg (wC (.int 1))) (wN))) (wV 0))) (wSeq (wOwn 4 (wLst (wK (wC (.int 0)) (wN)))) (wSeq (wSet 5 (wC (.int 0))) (wSeq (wWh (wTB (wB gLt (wV 5) (wCl gLen (wK (wO 4) (wN))))) (wSeq (wFor (wIt (wV 2)) (wGn 6) (wIfS (wTB (wB gIn (wB gIx (wO 4) (wV 5)) (wB gIx (wV 1) (wV 6)))) (wSeq (wSet 7 (wCl p_f_other_end (wK (wV 1) (wK (wV 6) (wK (wB gIx (wO 4) (wV 5)) (wN)))))) (wIfS (wAndT (wTB (wB gNe (wV 7) (wC (.int 0)))) (wTB (wB gEq (wB gIx (wO 3) (wV 7)) (wU gNeg (wC (.int 1)))))) (wSeq (wStI 3 (wV 7) (wB gIx (wO 4) (wV 5))) (wApp 4 (wV 7))) (wNx))) (wNx))) (wSet 5 (wB gAdd (wV 5) (wC (.int 1)))))) (wSh 3 (wRet (wV 3))))))
def p_f_parents : GN := phiC 8 3 w_f_parents
theorem ok_f_parents {P : Program} {w : World} {K : PySem.W.Frag} {mg : Str → Option Value} {base : Heap} {f : Addr} {fd : FuncData} (F : FnP K "parents" (top 15) f fd) (gx : mg "parents" = some (.ref f)) (G : ∀ x ∈ bn, mg x = none) (D_f_other_end : Fd P w K mg base "other_end" ["lines", "at", "place"] 1 p_f_other_end) : Fd P w K mg base "parents" ["n", "lines", "tree"] 2 p_f_parents :=
  def_fd (N := N_f_parents) (k := 1) F gx sc_f_parents (by decide) rfl rfl (fun _ _ _ _ _ _ us hl => match us, hl with | [_, _, _], _ => rfl) fun cdv A outer s H E hr =>
    sc_ (own_ 3 sc_f_parents.nd (rep_ (((lst_ (ac_ (neg_ ((int_).pp)) (an_))).pv).pp) ((v_ 0).pp))) (sc_ (own_ 4 sc_f_parents.nd (lst_ (ac_ (int_) (an_)))) (sc_ (set_ 5 sc_f_parents.nd (int_)) (sc_ (while_ PassesOwn.never (tcmp_ op_lt bopB0 ((v_ 5).pp) ((call_ (fun h => pe_callB call_len_seq (by rfl) (G "len" (by decide)) (by decide +kernel) h) (copLen _) (pc_ (o_ 4) (pn_))).pp)) (sc_ (for_ PassesOwn.never (by rfl) (it_ (v_ 2)) (gn_ 6 sc_f_parents.nd) (s1_ (ifs_ (tcmp_ (op_InT (ur hr)) (bopIn _ false) ((ix_ (o_ 4) ((v_ 5).pp)).pp) ((ix_ ((v_ 1).pp) ((v_ 6).pp)).pp)) (sc_ (set_ 7 sc_f_parents.nd (fc_ D_f_other_end (hr.mono (by decide)) (by rfl) (ac_ (v_ 1) (ac_ (v_ 6) (ac_ (ix_ (o_ 4) ((v_ 5).pp)) (an_)))))) (s1_ (ifs_ (tw_ (wand_ (tcmp_ (op_neD (ur hr)) (bopNe _) ((v_ 7).pp) ((int_).pp)) (wand1_ (tcmp_ (op_eqD (ur hr)) (bopEq _) ((ix_ (o_ 3) ((v_ 7).pp)).pp) ((neg_ ((int_).pp)).pp))))) (sc_ (sti_ 3 ((v_ 7).pp) (ix_ (o_ 4) ((v_ 5).pp))) (s1_ (app_ 4 (v_ 7)))) (sn_)))) (sn_)))) (s1_ (set_ 5 sc_f_parents.nd (add_ ((v_ 5).pp) ((int_).pp)))))) (s1_ (sh_ 3 (ret_ (v_ 3)))))))
/-! way_down -/
abbrev N_f_way_down : List Str := ["n", "lines", "tree", "place", "before", "told"]
theorem sc_f_way_down : FnScope N_f_way_down ["n", "lines", "tree", "place"] (defScope (top 16)) := ⟨rfl, rfl, rfl, by decide +kernel, rfl, by decide +kernel, by decide +kernel⟩
def w_f_way_down : WS := wSeq (wSet 4 (wCl p_f_parents (wK (wV 0) (wK (wV 1) (wK (wV 2) (wN)))))) (wSeq (wOwn 5 (wLst (wK (wV 3) (wN)))) (wSeq (wWh (wTB (wB gNe (wB gIx (wO 5) (wU gNeg (wC (.int 1)))) (wC (.int 0)))) (wApp 5 (wB gIx (wV 4) (wB gIx (wO 5) (wU gNeg (wC (.int 1))))))) (wSh 5 (wRet (wV 5)))))
def p_f_way_down : GN := phiC 6 4 w_f_way_down
theorem ok_f_way_down {P : Program} {w : World} {K : PySem.W.Frag} {mg : Str → Option Value} {base : Heap} {f : Addr} {fd : FuncData} (F : FnP K "way_down" (top 16) f fd) (gx : mg "way_down" = some (.ref f)) (G : ∀ x ∈ bn, mg x = none) (D_f_parents : Fd P w K mg base "parents" ["n", "lines", "tree"] 2 p_f_parents) : Fd P w K mg base "way_down" ["n", "lines", "tree", "place"] 3 p_f_way_down :=
  def_fd (N := N_f_way_down) (k := 2) F gx sc_f_way_down (by decide) rfl rfl (fun _ _ _ _ _ _ us hl => match us, hl with | [_, _, _, _], _ => rfl) fun cdv A outer s H E hr =>
    sc_ (set_ 4 sc_f_way_down.nd (fc_ D_f_parents (hr.mono (by decide)) (by rfl) (ac_ (v_ 0) (ac_ (v_ 1) (ac_ (v_ 2) (an_)))))) (sc_ (own_ 5 sc_f_way_down.nd (lst_ (ac_ (v_ 3) (an_)))) (sc_ (while_ PassesOwn.never (tcmp_ (op_neD (ur hr)) (bopNe _) ((ix_ (o_ 5) ((neg_ ((int_).pp)).pp)).pp) ((int_).pp)) (s1_ (app_ 5 (ix_ ((v_ 4).pp) ((ix_ (o_ 5) ((neg_ ((int_).pp)).pp)).pp))))) (s1_ (sh_ 5 (ret_ (v_ 5))))))
/-! tree_rounds -/
abbrev N_f_tree_rounds : List Str := ["n", "lines", "tree", "place"]
theorem sc_f_tree_rounds : FnScope N_f_tree_rounds ["n", "lines", "tree"] (defScope (top 17)) := ⟨rfl, rfl, rfl, by decide +kernel, rfl, by decide +kernel, by decide +kernel⟩
def w_f_tree_rounds : WS := wRet (wLc [3] (wRng1 (wK (wV 0) (wN))) (wGn 3) (wYes) (wB gSub (wCl gLen (wK (wCl p_f_way_down (wK (wV 0) (wK (wV 1) (wK (wV 2) (wK (wV 3) (wN)))))) (wN))) (wC (.int 1))))
def p_f_tree_rounds : GN := phiC 4 3 w_f_tree_rounds
theorem ok_f_tree_rounds {P : Program} {w : World} {K : PySem.W.Frag} {mg : Str → Option Value} {base : Heap} {f : Addr} {fd : FuncData} (F : FnP K "tree_rounds" (top 17) f fd) (gx : mg "tree_rounds" = some (.ref f)) (G : ∀ x ∈ bn, mg x = none) (D_f_way_down : Fd P w K mg base "way_down" ["n", "lines", "tree", "place"] 3 p_f_way_down) : Fd P w K mg base "tree_rounds" ["n", "lines", "tree"] 4 p_f_tree_rounds :=
  def_fd (N := N_f_tree_rounds) (k := 3) F gx sc_f_tree_rounds (by decide) rfl rfl (fun _ _ _ _ _ _ us hl => match us, hl with | [_, _, _], _ => rfl) fun cdv A outer s H E hr =>
    s1_ (ret_ ((lcv [("place", 3)] (by rfl) sc_f_tree_rounds.nd ((range1_ (by rfl) (G "range" (by decide)) (pc_ ((v_ 0).pp) (pn_))).pp) (fun _ _ _ _ _ => gn_ 3 sc_f_tree_rounds.nd) (fun _ _ _ _ _ => tn_) (fun _ _ _ _ _ => sub_ ((call_ (fun h => pe_callB call_len_seq (by rfl) (G "len" (by decide)) (by decide +kernel) h) (copLen _) (pc_ ((fc_ D_f_way_down (hr.mono (by decide)) (by rfl) (ac_ (v_ 0) (ac_ (v_ 1) (ac_ (v_ 2) (ac_ (v_ 3) (an_)))))).pp) (pn_))).pp) ((int_).pp))).pv))
/-! heap_of -/
abbrev N_f_heap_of : List Str := ["n", "lines", "tree", "book", "told", "place", "later", "near", "mine", "at"]
theorem sc_f_heap_of : FnScope N_f_heap_of ["n", "lines", "tree"] (defScope (top 18)) := ⟨rfl, rfl, rfl, by decide +kernel, rfl, by decide +kernel, by decide +kernel⟩
def w_f_heap_of : WS := wSeq (wSet 3 (wCl p_f_tree_rounds (wK (wV 0) (wK (wV 1) (wK (wV 2) (wN)))))) (wSeq (wOwn 4 (wLst (wK (wC (.int 0)) (wN)))) (wSeq (wFor (wRng2 (wK (wC (.int 1)) (wK (wV 0) (wN)))) (wGn 5) (wSeq (wAsg (wCl p_f_choices (wK (wV 1) (wK (wV 3) (wK (wV 5) (wN))))) (wGt 2 (wGcons (wGn 6) (wGcons (wGn 7) (wGnil))))) (wSeq (wSet 8 (wB gIx (wLc [9] (wIt (wV 7)) (wGn 9) (wTB (wB gIn (wV 9) (wV 2))) (wV 9)) (wC (.int 0)))) (wApp 4 (wB gAdd (wV 6) (wIdx (wV 7) (wV 8))))))) (wRet (wCl gTupOf (wK (wO 4) (wN))))))
def p_f_heap_of : GN := phiC 10 3 w_f_heap_of
theorem ok_f_heap_of {P : Program} {w : World} {K : PySem.W.Frag} {mg : Str → Option Value} {base : Heap} {f : Addr} {fd : FuncData} (F : FnP K "heap_of" (top 18) f fd) (gx : mg "heap_of" = some (.ref f)) (G : ∀ x ∈ bn, mg x = none) (D_f_choices : Fd P w K mg base "choices" ["lines", "book", "place"] 2 p_f_choices) (D_f_tree_rounds : Fd P w K mg base "tree_rounds" ["n", "lines", "tree"] 4 p_f_tree_rounds) : Fd P w K mg base "heap_of" ["n", "lines", "tree"] 5 p_f_heap_of :=
  def_fd (N := N_f_heap_of) (k := 4) F gx sc_f_heap_of (by decide) rfl rfl (fun _ _ _ _ _ _ us hl => match us, hl with | [_, _, _], _ => rfl) fun cdv A outer s H E hr =>
    sc_ (set_ 3 sc_f_heap_of.nd (fc_ D_f_tree_rounds (hr.mono (by decide)) (by rfl) (ac_ (v_ 0) (ac_ (v_ 1) (ac_ (v_ 2) (an_)))))) (sc_ (own_ 4 sc_f_heap_of.nd (lst_ (ac_ (int_) (an_)))) (sc_ (for_ PassesOwn.never (by rfl) (range2_ (by rfl) (G "range" (by decide)) (pc_ ((int_).pp) (pc_ ((v_ 0).pp) (pn_)))) (gn_ 5 sc_f_heap_of.nd) (sc_ (asg_ (fc_ D_f_choices (hr.mono (by decide)) (by rfl) (ac_ (v_ 1) (ac_ (v_ 3) (ac_ (v_ 5) (an_))))) (gt_ (by rfl) (gcons_ (gn_ 6 sc_f_heap_of.nd) (gcons_ (gn_ 7 sc_f_heap_of.nd) (gnil_))))) (sc_ (set_ 8 sc_f_heap_of.nd (ix_ (((lcv [("at", 9)] (by rfl) sc_f_heap_of.nd (itp_ ((v_ 7).pp)) (fun _ _ _ _ _ => gn_ 9 sc_f_heap_of.nd) (fun _ _ _ _ _ => t1_ (tcmp_ (op_InT (ur hr)) (bopIn _ false) ((v_ 9).pp) ((v_ 2).pp))) (fun _ _ _ _ _ => v_ 9)).pv).pp) ((int_).pp))) (s1_ (app_ 4 (add_ ((v_ 6).pp) ((idx_ (ur hr) ((v_ 7).pp) ((v_ 8).pp)).pp))))))) (s1_ (ret_ (call_ (fun h => pe_callTy call_tuple_of (by rfl) (G "tuple" (by decide)) (by decide +kernel) h) (copTupOf _) (pc_ (o_ 4) (pn_)))))))
/-! _law_neighbours -/
abbrev N_f__law_neighbours : List Str := ["lines", "place", "a", "b"]
theorem sc_f__law_neighbours : FnScope N_f__law_neighbours ["lines", "place"] (defScope (top 22)) := ⟨rfl, rfl, rfl, by decide +kernel, rfl, by decide +kernel, by decide +kernel⟩
def w_f__law_neighbours : WS := wRet (wLc [2, 3] (wIt (wV 0)) (wGt 2 (wGcons (wGn 2) (wGcons (wGn 3) (wGnil)))) (wTB (wB gIn (wV 1) (wTup (wK (wV 2) (wK (wV 3) (wN)))))) (wB gSub (wB gAdd (wV 2) (wV 3)) (wV 1)))
def p_f__law_neighbours : GN := phiC 4 2 w_f__law_neighbours
theorem ok_f__law_neighbours {P : Program} {w : World} {K : PySem.W.Frag} {mg : Str → Option Value} {base : Heap} {f : Addr} {fd : FuncData} (F : FnP K "_law_neighbours" (top 22) f fd) (gx : mg "_law_neighbours" = some (.ref f)) (G : ∀ x ∈ bn, mg x = none)  : Fd P w K mg base "_law_neighbours" ["lines", "place"] 1 p_f__law_neighbours :=
  def_fd (N := N_f__law_neighbours) (k := 0) F gx sc_f__law_neighbours (by decide) rfl rfl (fun _ _ _ _ _ _ us hl => match us, hl with | [_, _], _ => rfl) fun cdv A outer s H E hr =>
    s1_ (ret_ ((lcv [("a", 2), ("b", 3)] (by rfl) sc_f__law_neighbours.nd (itp_ ((v_ 0).pp)) (fun _ _ _ _ _ => gt_ (by rfl) (gcons_ (gn_ 2 sc_f__law_neighbours.nd) (gcons_ (gn_ 3 sc_f__law_neighbours.nd) (gnil_)))) (fun _ _ _ _ _ => t1_ (tcmp_ (op_InT (ur hr)) (bopIn _ false) ((v_ 1).pp) ((tup_ (ac_ (v_ 2) (ac_ (v_ 3) (an_)))).pp))) (fun _ _ _ _ _ => sub_ ((add_ ((v_ 2).pp) ((v_ 3).pp)).pp) ((v_ 1).pp))).pv))
/-! _law_rounds -/
abbrev N_f__law_rounds : List Str := ["n", "lines", "heap", "burnt", "told", "found", "place", "x"]
theorem sc_f__law_rounds : FnScope N_f__law_rounds ["n", "lines", "heap"] (defScope (top 31)) := ⟨rfl, rfl, rfl, by decide +kernel, rfl, by decide +kernel, by decide +kernel⟩
def w_f__law_rounds : WS := wSeq (wPar [3, 4] (wMs (wLst (wK (wC (.int 0)) (wN))) (wMf (wLst (wK (wLst (wK (wC (.int 0)) (wN))) (wN))) (wMn)))) (wWh (wT (wC (.bool true))) (wSeq (wOwn 5 (wLst (wN))) (wSeq (wFor (wRng1 (wK (wV 0) (wN))) (wGn 6) (wIfS (wAndT (wTB (wB gNotIn (wV 6) (wV 3))) (wTB (wB gGe (wB gIx (wV 2) (wV 6)) (wCl gLen (wK (wLc [7] (wIt (wCl p_f__law_neighbours (wK (wV 1) (wK (wV 6) (wN))))) (wGn 7) (wTB (wB gNotIn (wV 7) (wV 3))) (wV 7)) (wN)))))) (wApp 5 (wV 6)) (wNx))) (wSeq (wIfS (wTB (wB gEq (wCl gLen (wK (wO 5) (wN))) (wC (.int 0)))) (wSh 4 (wRet (wV 4))) (wNx)) (wSeq (wSet 3 (wB gAdd (wV 3) (wO 5))) (wSh 5 (wApp 4 (wV 5))))))))
def p_f__law_rounds : GN := phiC 8 3 w_f__law_rounds
theorem ok_f__law_rounds {P : Program} {w : World} {K : PySem.W.Frag} {mg : Str → Option Value} {base : Heap} {f : Addr} {fd : FuncData} (F : FnP K "_law_rounds" (top 31) f fd) (gx : mg "_law_rounds" = some (.ref f)) (G : ∀ x ∈ bn, mg x = none) (D_f__law_neighbours : Fd P w K mg base "_law_neighbours" ["lines", "place"] 1 p_f__law_neighbours) : Fd P w K mg base "_law_rounds" ["n", "lines", "heap"] 2 p_f__law_rounds :=
  def_fd (N := N_f__law_rounds) (k := 1) F gx sc_f__law_rounds (by decide) rfl rfl (fun _ _ _ _ _ _ us hl => match us, hl with | [_, _, _], _ => rfl) fun cdv A outer s H E hr =>
    sc_ (parT2_ 3 4 sc_f__law_rounds.nd (ms_ ((lst_ (ac_ (int_) (an_))).pv) (mf_ (lst_ (ac_ ((lst_ (ac_ (int_) (an_))).pv) (an_))) (mn_)))) (s1_ (while_ PassesOwn.never (t_ ((bl_).pp)) (sc_ (own_ 5 sc_f__law_rounds.nd (lst_ (an_))) (sc_ (for_ PassesOwn.never (by rfl) (range1_ (by rfl) (G "range" (by decide)) (pc_ ((v_ 0).pp) (pn_))) (gn_ 6 sc_f__law_rounds.nd) (s1_ (ifs_ (tw_ (wand_ (tcmp_ (op_NotInT (ur hr)) (bopIn _ true) ((v_ 6).pp) ((v_ 3).pp)) (wand1_ (tcmp_ op_ge bopB0 ((ix_ ((v_ 2).pp) ((v_ 6).pp)).pp) ((call_ (fun h => pe_callB call_len_seq (by rfl) (G "len" (by decide)) (by decide +kernel) h) (copLen _) (pc_ (((lcv [("x", 7)] (by rfl) sc_f__law_rounds.nd (itp_ ((fc_ D_f__law_neighbours (hr.mono (by decide)) (by rfl) (ac_ (v_ 1) (ac_ (v_ 6) (an_)))).pp)) (fun _ _ _ _ _ => gn_ 7 sc_f__law_rounds.nd) (fun _ _ _ _ _ => t1_ (tcmp_ (op_NotInT (ur hr)) (bopIn _ true) ((v_ 7).pp) ((v_ 3).pp))) (fun _ _ _ _ _ => v_ 7)).pv).pp) (pn_))).pp))))) (s1_ (app_ 5 (v_ 6))) (sn_)))) (sc_ (ifs_ (tcmp_ (op_eqD (ur hr)) (bopEq _) ((call_ (fun h => pe_callB call_len_seq (by rfl) (G "len" (by decide)) (by decide +kernel) h) (copLen _) (pc_ (o_ 5) (pn_))).pp) ((int_).pp)) (s1_ (sh_ 4 (ret_ (v_ 4)))) (sn_)) (sc_ (set_ 3 sc_f__law_rounds.nd (add_ ((v_ 3).pp) (o_ 5))) (s1_ (sh_ 5 (app_ 4 (v_ 5))))))))))
/-! _law_choice -/
abbrev N_f__law_choice : List Str := ["lines", "book", "place", "mine", "k", "ends", "later", "x"]
theorem sc_f__law_choice : FnScope N_f__law_choice ["lines", "book", "place"] (defScope (top 33)) := ⟨rfl, rfl, rfl, by decide +kernel, rfl, by decide +kernel, by decide +kernel⟩
def w_f__law_choice : WS := wSeq (wSet 3 (wLc [4] (wRng1 (wK (wCl gLen (wK (wV 0) (wN))) (wN))) (wGn 4) (wTB (wB gIn (wV 2) (wB gIx (wV 0) (wV 4)))) (wV 4))) (wSeq (wSet 5 (wLc [4] (wIt (wV 3)) (wGn 4) (wYes) (wB gSub (wB gAdd (wB gIx (wB gIx (wV 0) (wV 4)) (wC (.int 0))) (wB gIx (wB gIx (wV 0) (wV 4)) (wC (.int 1)))) (wV 2)))) (wSeq (wSet 6 (wCl gLen (wK (wLc [7] (wIt (wV 5)) (wGn 7) (wTB (wB gGe (wB gIx (wV 1) (wV 7)) (wB gIx (wV 1) (wV 2)))) (wC (.int 1))) (wN)))) (wRet (wLst (wK (wV 6) (wK (wLc [4] (wRng1 (wK (wCl gLen (wK (wV 3) (wN))) (wN))) (wGn 4) (wTB (wB gEq (wB gIx (wV 1) (wB gIx (wV 5) (wV 4))) (wB gSub (wB gIx (wV 1) (wV 2)) (wC (.int 1))))) (wB gIx (wV 3) (wV 4))) (wN)))))))
def p_f__law_choice : GN := phiC 8 3 w_f__law_choice
theorem ok_f__law_choice {P : Program} {w : World} {K : PySem.W.Frag} {mg : Str → Option Value} {base : Heap} {f : Addr} {fd : FuncData} (F : FnP K "_law_choice" (top 33) f fd) (gx : mg "_law_choice" = some (.ref f)) (G : ∀ x ∈ bn, mg x = none)  : Fd P w K mg base "_law_choice" ["lines", "book", "place"] 1 p_f__law_choice :=
  def_fd (N := N_f__law_choice) (k := 0) F gx sc_f__law_choice (by decide) rfl rfl (fun _ _ _ _ _ _ us hl => match us, hl with | [_, _, _], _ => rfl) fun cdv A outer s H E hr =>
    sc_ (set_ 3 sc_f__law_choice.nd ((lcv [("k", 4)] (by rfl) sc_f__law_choice.nd ((range1_ (by rfl) (G "range" (by decide)) (pc_ ((call_ (fun h => pe_callB call_len_seq (by rfl) (G "len" (by decide)) (by decide +kernel) h) (copLen _) (pc_ ((v_ 0).pp) (pn_))).pp) (pn_))).pp) (fun _ _ _ _ _ => gn_ 4 sc_f__law_choice.nd) (fun _ _ _ _ _ => t1_ (tcmp_ (op_InT (ur hr)) (bopIn _ false) ((v_ 2).pp) ((ix_ ((v_ 0).pp) ((v_ 4).pp)).pp))) (fun _ _ _ _ _ => v_ 4)).pv)) (sc_ (set_ 5 sc_f__law_choice.nd ((lcv [("k", 4)] (by rfl) sc_f__law_choice.nd (itp_ ((v_ 3).pp)) (fun _ _ _ _ _ => gn_ 4 sc_f__law_choice.nd) (fun _ _ _ _ _ => tn_) (fun _ _ _ _ _ => sub_ ((add_ ((ix_ ((ix_ ((v_ 0).pp) ((v_ 4).pp)).pp) ((int_).pp)).pp) ((ix_ ((ix_ ((v_ 0).pp) ((v_ 4).pp)).pp) ((int_).pp)).pp)).pp) ((v_ 2).pp))).pv)) (sc_ (set_ 6 sc_f__law_choice.nd (call_ (fun h => pe_callB call_len_seq (by rfl) (G "len" (by decide)) (by decide +kernel) h) (copLen _) (pc_ (((lcv [("x", 7)] (by rfl) sc_f__law_choice.nd (itp_ ((v_ 5).pp)) (fun _ _ _ _ _ => gn_ 7 sc_f__law_choice.nd) (fun _ _ _ _ _ => t1_ (tcmp_ op_ge bopB0 ((ix_ ((v_ 1).pp) ((v_ 7).pp)).pp) ((ix_ ((v_ 1).pp) ((v_ 2).pp)).pp))) (fun _ _ _ _ _ => int_)).pv).pp) (pn_)))) (s1_ (ret_ ((lst_ (ac_ (v_ 6) (ac_ ((lcv [("k", 4)] (by rfl) sc_f__law_choice.nd ((range1_ (by rfl) (G "range" (by decide)) (pc_ ((call_ (fun h => pe_callB call_len_seq (by rfl) (G "len" (by decide)) (by decide +kernel) h) (copLen _) (pc_ ((v_ 3).pp) (pn_))).pp) (pn_))).pp) (fun _ _ _ _ _ => gn_ 4 sc_f__law_choice.nd) (fun _ _ _ _ _ => t1_ (tcmp_ (op_eqD (ur hr)) (bopEq _) ((ix_ ((v_ 1).pp) ((ix_ ((v_ 5).pp) ((v_ 4).pp)).pp)).pp) ((sub_ ((ix_ ((v_ 1).pp) ((v_ 2).pp)).pp) ((int_).pp)).pp))) (fun _ _ _ _ _ => ix_ ((v_ 3).pp) ((v_ 4).pp))).pv) (an_)))).pv)))))
/-! _law_tree_of -/
abbrev N_f__law_tree_of : List Str := ["n", "lines", "heap", "book", "rows", "many", "place", "told", "later", "near"]
theorem sc_f__law_tree_of : FnScope N_f__law_tree_of ["n", "lines", "heap"] (defScope (top 34)) := ⟨rfl, rfl, rfl, by decide +kernel, rfl, by decide +kernel, by decide +kernel⟩
def w_f__law_tree_of : WS := wSeq (wOwn 3 (wB gRep (wLst (wK (wC (.int 0)) (wN))) (wV 0))) (wSeq (wSet 4 (wCl p_f__law_rounds (wK (wV 0) (wK (wV 1) (wK (wV 2) (wN)))))) (wSeq (wFor (wRng1 (wK (wCl gLen (wK (wV 4) (wN))) (wN))) (wGn 5) (wFor (wIt (wB gIx (wV 4) (wV 5))) (wGn 6) (wStI 3 (wV 6) (wV 5)))) (wSeq (wOwn 7 (wLst (wN))) (wSeq (wSh 3 (wFor (wRng2 (wK (wC (.int 1)) (wK (wV 0) (wN)))) (wGn 6) (wSeq (wAsg (wCl p_f__law_choice (wK (wV 1) (wK (wV 3) (wK (wV 6) (wN))))) (wGt 2 (wGcons (wGn 8) (wGcons (wGn 9) (wGnil))))) (wApp 7 (wB gIx (wV 9) (wB gSub (wB gIx (wV 2) (wV 6)) (wV 8))))))) (wRet (wCl gTupOf (wK (wCl gSorted (wK (wO 7) (wN))) (wN))))))))
def p_f__law_tree_of : GN := phiC 10 3 w_f__law_tree_of
theorem ok_f__law_tree_of {P : Program} {w : World} {K : PySem.W.Frag} {mg : Str → Option Value} {base : Heap} {f : Addr} {fd : FuncData} (F : FnP K "_law_tree_of" (top 34) f fd) (gx : mg "_law_tree_of" = some (.ref f)) (G : ∀ x ∈ bn, mg x = none) (D_f__law_choice : Fd P w K mg base "_law_choice" ["lines", "book", "place"] 1 p_f__law_choice) (D_f__law_rounds : Fd P w K mg base "_law_rounds" ["n", "lines", "heap"] 2 p_f__law_rounds) : Fd P w K mg base "_law_tree_of" ["n", "lines", "heap"] 3 p_f__law_tree_of :=
  def_fd (N := N_f__law_tree_of) (k := 2) F gx sc_f__law_tree_of (by decide) rfl rfl (fun _ _ _ _ _ _ us hl => match us, hl with | [_, _, _], _ => rfl) fun cdv A outer s H E hr =>
    sc_ (own_ 3 sc_f__law_tree_of.nd (rep_ (((lst_ (ac_ (int_) (an_))).pv).pp) ((v_ 0).pp))) (sc_ (set_ 4 sc_f__law_tree_of.nd (fc_ D_f__law_rounds (hr.mono (by decide)) (by rfl) (ac_ (v_ 0) (ac_ (v_ 1) (ac_ (v_ 2) (an_)))))) (sc_ (for_ PassesOwn.never (by rfl) (range1_ (by rfl) (G "range" (by decide)) (pc_ ((call_ (fun h => pe_callB call_len_seq (by rfl) (G "len" (by decide)) (by decide +kernel) h) (copLen _) (pc_ ((v_ 4).pp) (pn_))).pp) (pn_))) (gn_ 5 sc_f__law_tree_of.nd) (s1_ (for_ PassesOwn.never (by rfl) (it_ (ix_ ((v_ 4).pp) ((v_ 5).pp))) (gn_ 6 sc_f__law_tree_of.nd) (s1_ (sti_ 3 ((v_ 6).pp) (v_ 5)))))) (sc_ (own_ 7 sc_f__law_tree_of.nd (lst_ (an_))) (sc_ (sh_ 3 (for_ PassesOwn.never (by rfl) (range2_ (by rfl) (G "range" (by decide)) (pc_ ((int_).pp) (pc_ ((v_ 0).pp) (pn_)))) (gn_ 6 sc_f__law_tree_of.nd) (sc_ (asg_ (fc_ D_f__law_choice (hr.mono (by decide)) (by rfl) (ac_ (v_ 1) (ac_ (v_ 3) (ac_ (v_ 6) (an_))))) (gt_ (by rfl) (gcons_ (gn_ 8 sc_f__law_tree_of.nd) (gcons_ (gn_ 9 sc_f__law_tree_of.nd) (gnil_))))) (s1_ (app_ 7 (ix_ ((v_ 9).pp) ((sub_ ((ix_ ((v_ 2).pp) ((v_ 6).pp)).pp) ((v_ 8).pp)).pp))))))) (s1_ (ret_ (call_ (fun h => pe_callTy call_tuple_of (by rfl) (G "tuple" (by decide)) (by decide +kernel) h) (copTupOf _) (pc_ ((call_ (fun h => pe_callB (cr_sortD (ur hr)) (by rfl) (G "sorted" (by decide)) (by decide +kernel) h) (copSorted _).cop (pc_ (o_ 7) (pn_))).pp) (pn_)))))))))
/-! _law_heap_of -/
abbrev N_f__law_heap_of : List Str := ["n", "lines", "tree", "book", "order", "at", "k", "goal", "told", "place", "later", "near"]
theorem sc_f__law_heap_of : FnScope N_f__law_heap_of ["n", "lines", "tree"] (defScope (top 35)) := ⟨rfl, rfl, rfl, by decide +kernel, rfl, by decide +kernel, by decide +kernel⟩
def w_f__law_heap_of : WS := wSeq (wPar [3, 4, 5] (wMf (wB gRep (wLst (wK (wC (.int 0)) (wN))) (wV 0)) (wMf (wLst (wK (wC (.int 0)) (wN))) (wMs (wC (.int 0)) (wMn))))) (wSeq (wWh (wTB (wB gLt (wV 5) (wCl gLen (wK (wO 4) (wN))))) (wSeq (wFor (wIt (wV 2)) (wGn 6) (wIfS (wTB (wB gIn (wB gIx (wO 4) (wV 5)) (wB gIx (wV 1) (wV 6)))) (wSeq (wSet 7 (wB gSub (wB gAdd (wB gIx (wB gIx (wV 1) (wV 6)) (wC (.int 0))) (wB gIx (wB gIx (wV 1) (wV 6)) (wC (.int 1)))) (wB gIx (wO 4) (wV 5)))) (wIfS (wTB (wB gNotIn (wV 7) (wO 4))) (wSeq (wApp 4 (wV 7)) (wStI 3 (wV 7) (wB gAdd (wB gIx (wO 3) (wB gIx (wO 4) (wV 5))) (wC (.int 1))))) (wNx))) (wNx))) (wSet 5 (wB gAdd (wV 5) (wC (.int 1)))))) (wSeq (wOwn 8 (wLst (wK (wC (.int 0)) (wN)))) (wSeq (wSh 3 (wFor (wRng2 (wK (wC (.int 1)) (wK (wV 0) (wN)))) (wGn 9) (wSeq (wAsg (wCl p_f__law_choice (wK (wV 1) (wK (wV 3) (wK (wV 9) (wN))))) (wGt 2 (wGcons (wGn 10) (wGcons (wGn 11) (wGnil))))) (wApp 8 (wB gAdd (wV 10) (wIdx (wV 11) (wB gIx (wLc [6] (wIt (wV 11)) (wGn 6) (wTB (wB gIn (wV 6) (wV 2))) (wV 6)) (wC (.int 0))))))))) (wRet (wCl gTupOf (wK (wO 8) (wN)))))))
def p_f__law_heap_of : GN := phiC 12 3 w_f__law_heap_of
theorem ok_f__law_heap_of {P : Program} {w : World} {K : PySem.W.Frag} {mg : Str → Option Value} {base : Heap} {f : Addr} {fd : FuncData} (F : FnP K "_law_heap_of" (top 35) f fd) (gx : mg "_law_heap_of" = some (.ref f)) (G : ∀ x ∈ bn, mg x = none) (D_f__law_choice : Fd P w K mg base "_law_choice" ["lines", "book", "place"] 1 p_f__law_choice) : Fd P w K mg base "_law_heap_of" ["n", "lines", "tree"] 2 p_f__law_heap_of :=
  def_fd (N := N_f__law_heap_of) (k := 1) F gx sc_f__law_heap_of (by decide) rfl rfl (fun _ _ _ _ _ _ us hl => match us, hl with | [_, _, _], _ => rfl) fun cdv A outer s H E hr =>
    sc_ (par3_ 3 4 5 sc_f__law_heap_of.nd (mf_ (rep_ (((lst_ (ac_ (int_) (an_))).pv).pp) ((v_ 0).pp)) (mf_ (lst_ (ac_ (int_) (an_))) (ms_ (int_) (mn_))))) (sc_ (while_ PassesOwn.never (tcmp_ op_lt bopB0 ((v_ 5).pp) ((call_ (fun h => pe_callB call_len_seq (by rfl) (G "len" (by decide)) (by decide +kernel) h) (copLen _) (pc_ (o_ 4) (pn_))).pp)) (sc_ (for_ PassesOwn.never (by rfl) (it_ (v_ 2)) (gn_ 6 sc_f__law_heap_of.nd) (s1_ (ifs_ (tcmp_ (op_InT (ur hr)) (bopIn _ false) ((ix_ (o_ 4) ((v_ 5).pp)).pp) ((ix_ ((v_ 1).pp) ((v_ 6).pp)).pp)) (sc_ (set_ 7 sc_f__law_heap_of.nd (sub_ ((add_ ((ix_ ((ix_ ((v_ 1).pp) ((v_ 6).pp)).pp) ((int_).pp)).pp) ((ix_ ((ix_ ((v_ 1).pp) ((v_ 6).pp)).pp) ((int_).pp)).pp)).pp) ((ix_ (o_ 4) ((v_ 5).pp)).pp))) (s1_ (ifs_ (tcmp_ (op_NotInT (ur hr)) (bopIn _ true) ((v_ 7).pp) (o_ 4)) (sc_ (app_ 4 (v_ 7)) (s1_ (sti_ 3 ((v_ 7).pp) (add_ ((ix_ (o_ 3) ((ix_ (o_ 4) ((v_ 5).pp)).pp)).pp) ((int_).pp))))) (sn_)))) (sn_)))) (s1_ (set_ 5 sc_f__law_heap_of.nd (add_ ((v_ 5).pp) ((int_).pp)))))) (sc_ (own_ 8 sc_f__law_heap_of.nd (lst_ (ac_ (int_) (an_)))) (sc_ (sh_ 3 (for_ PassesOwn.never (by rfl) (range2_ (by rfl) (G "range" (by decide)) (pc_ ((int_).pp) (pc_ ((v_ 0).pp) (pn_)))) (gn_ 9 sc_f__law_heap_of.nd) (sc_ (asg_ (fc_ D_f__law_choice (hr.mono (by decide)) (by rfl) (ac_ (v_ 1) (ac_ (v_ 3) (ac_ (v_ 9) (an_))))) (gt_ (by rfl) (gcons_ (gn_ 10 sc_f__law_heap_of.nd) (gcons_ (gn_ 11 sc_f__law_heap_of.nd) (gnil_))))) (s1_ (app_ 8 (add_ ((v_ 10).pp) ((idx_ (ur hr) ((v_ 11).pp) ((ix_ (((lcv [("k", 6)] (by rfl) sc_f__law_heap_of.nd (itp_ ((v_ 11).pp)) (fun _ _ _ _ _ => gn_ 6 sc_f__law_heap_of.nd) (fun _ _ _ _ _ => t1_ (tcmp_ (op_InT (ur hr)) (bopIn _ false) ((v_ 6).pp) ((v_ 2).pp))) (fun _ _ _ _ _ => v_ 6)).pv).pp) ((int_).pp)).pp)).pp))))))) (s1_ (ret_ (call_ (fun h => pe_callTy call_tuple_of (by rfl) (G "tuple" (by decide)) (by decide +kernel) h) (copTupOf _) (pc_ (o_ 8) (pn_))))))))
/-! law -/
abbrev N_f_law : List Str := ["script", "state", "n", "lines", "again", "trees", "images", "heap", "told", "tree"]
theorem sc_f_law : FnScope N_f_law ["script"] (defScope (top 36)) := ⟨rfl, rfl, rfl, by decide +kernel, rfl, by decide +kernel, by decide +kernel⟩
def w_f_law : WS := wSeq (wSet 2 (wB gAdd (wC (.int 1)) (wCl pDraw (wK (wV 1) (wK (wC (.int 5)) (wN)))))) (wSeq (wSet 3 (wCl p_f__law_web (wK (wV 1) (wK (wV 2) (wK (wCl pDraw (wK (wV 1) (wK (wC (.int 5)) (wN)))) (wN)))))) (wSeq (wPar [4, 5] (wMs (wCl p_f_all_again (wK (wV 2) (wK (wV 3) (wN)))) (wMs (wCl p_f_trees_of (wK (wV 2) (wK (wV 3) (wN)))) (wMn)))) (wSeq (wIfS (wTB (wB gGt (wCl gLen (wK (wV 4) (wN))) (wC (.int 200)))) (wSet 4 (wSl (wV 4) (wNo) (wSo (wC (.int 200))))) (wNx)) (wSeq (wOwn 6 (wLst (wN))) (wSeq (wFor (wIt (wV 4)) (wGn 7) (wSeq (wSet 8 (wCl p_f_tree_of (wK (wV 2) (wK (wV 3) (wK (wV 7) (wN)))))) (wSeq (wIfS (wOrT (wTB (wB gNe (wV 8) (wCl p_f__law_tree_of (wK (wV 2) (wK (wV 3) (wK (wV 7) (wN))))))) (wOrT (wTB (wB gNotIn (wV 8) (wV 5))) (wTB (wB gNe (wCl p_f_heap_of (wK (wV 2) (wK (wV 3) (wK (wV 8) (wN))))) (wV 7))))) (wRet (wC (.bool false))) (wNx)) (wApp 6 (wV 8))))) (wSeq (wIfS (wTB (wB gNe (wLenSetT (wO 6)) (wCl gLen (wK (wO 6) (wN))))) (wRet (wC (.bool false))) (wNx)) (wSeq (wFor (wIt (wSl (wV 5) (wNo) (wSo (wC (.int 100))))) (wGn 9) (wSeq (wSet 8 (wCl p_f_heap_of (wK (wV 2) (wK (wV 3) (wK (wV 9) (wN)))))) (wIfS (wOrT (wTB (wB gNe (wV 8) (wCl p_f__law_heap_of (wK (wV 2) (wK (wV 3) (wK (wV 9) (wN))))))) (wTB (wB gNe (wCl p_f_tree_of (wK (wV 2) (wK (wV 3) (wK (wV 8) (wN))))) (wV 9)))) (wRet (wC (.bool false))) (wNx)))) (wRet (wAndV (wB gEq (wCl p_f_tree_of (wK (wC (.int 1)) (wK (wTup (wN)) (wK (wTup (wK (wC (.int 0)) (wN))) (wN))))) (wTup (wN))) (wB gEq (wCl p_f_heap_of (wK (wC (.int 2)) (wK (wTup (wK (wTup (wK (wC (.int 0)) (wK (wC (.int 1)) (wN)))) (wK (wTup (wK (wC (.int 0)) (wK (wC (.int 1)) (wN)))) (wN)))) (wK (wTup (wK (wC (.int 1)) (wN))) (wN))))) (wTup (wK (wC (.int 0)) (wK (wC (.int 1)) (wN))))))))))))))
theorem ok_law {P : Program} {w : World} {K : PySem.W.Frag} {mg : Str → Option Value} {base : Heap} {cdv : Value} {A : Around} {outer : List Env} {s : Shared} {H : Hp} {E : XK} {f : Addr} (G : ∀ x ∈ bn, mg x = none) (D_f__law_draw : Fd P w K mg base "_law_draw" ["state", "many"] 1 pDraw) (D_f__law_heap_of : Fd P w K mg base "_law_heap_of" ["n", "lines", "tree"] 2 p_f__law_heap_of) (D_f__law_tree_of : Fd P w K mg base "_law_tree_of" ["n", "lines", "heap"] 3 p_f__law_tree_of) (D_f__law_web : Fd P w K mg base "_law_web" ["state", "n", "extra"] 2 p_f__law_web) (D_f_all_again : Fd P w K mg base "all_again" ["n", "lines"] 4 p_f_all_again) (D_f_heap_of : Fd P w K mg base "heap_of" ["n", "lines", "tree"] 5 p_f_heap_of) (D_f_tree_of : Fd P w K mg base "tree_of" ["n", "lines", "heap"] 3 p_f_tree_of) (D_f_trees_of : Fd P w K mg base "trees_of" ["n", "lines"] 3 p_f_trees_of) (hr : Room 5 (A.deeper (envOfC "law" (defScope (top 36)) s.heap.objs.size f cdv))) :
    PSsv (cxOf CX0 P w K mg base N_f_law "law" (defScope (top 36)) f cdv A outer s H E).nox ((defBody (top 36)).drop 1) w_f_law :=
  sc_ (set_ 2 sc_f_law.nd (add_ ((int_).pp) ((fc_ D_f__law_draw (hr.mono (by decide)) (by rfl) (ac_ (v_ 1) (ac_ (int_) (an_)))).pp))) (sc_ (set_ 3 sc_f_law.nd (fc_ D_f__law_web (hr.mono (by decide)) (by rfl) (ac_ (v_ 1) (ac_ (v_ 2) (ac_ (fc_ D_f__law_draw (hr.mono (by decide)) (by rfl) (ac_ (v_ 1) (ac_ (int_) (an_)))) (an_)))))) (sc_ (par2_ 4 5 sc_f_law.nd (ms_ (fc_ D_f_all_again (hr.mono (by decide)) (by rfl) (ac_ (v_ 2) (ac_ (v_ 3) (an_)))) (ms_ (fc_ D_f_trees_of (hr.mono (by decide)) (by rfl) (ac_ (v_ 2) (ac_ (v_ 3) (an_)))) (mn_)))) (sc_ (ifs_ (tcmp_ op_gt bopB0 ((call_ (fun h => pe_callB call_len_seq (by rfl) (G "len" (by decide)) (by decide +kernel) h) (copLen _) (pc_ ((v_ 4).pp) (pn_))).pp) ((int_).pp)) (s1_ (set_ 4 sc_f_law.nd (slice_ ((v_ 4).pp) (on_) (os_ ((int_).pp))))) (sn_)) (sc_ (own_ 6 sc_f_law.nd (lst_ (an_))) (sc_ (for_ PassesOwn.never (by rfl) (it_ (v_ 4)) (gn_ 7 sc_f_law.nd) (sc_ (set_ 8 sc_f_law.nd (fc_ D_f_tree_of (hr.mono (by decide)) (by rfl) (ac_ (v_ 2) (ac_ (v_ 3) (ac_ (v_ 7) (an_)))))) (sc_ (ifs_ (tw_ (wor_ (tcmp_ (op_neD (ur hr)) (bopNe _) ((v_ 8).pp) ((fc_ D_f__law_tree_of (hr.mono (by decide)) (by rfl) (ac_ (v_ 2) (ac_ (v_ 3) (ac_ (v_ 7) (an_))))).pp)) (wor_ (tcmp_ (op_NotInT (ur hr)) (bopIn _ true) ((v_ 8).pp) ((v_ 5).pp)) (wor1_ (tcmp_ (op_neD (ur hr)) (bopNe _) ((fc_ D_f_heap_of (hr.mono (by decide)) (by rfl) (ac_ (v_ 2) (ac_ (v_ 3) (ac_ (v_ 8) (an_))))).pp) ((v_ 7).pp)))))) (s1_ (ret_ (bl_))) (sn_)) (s1_ (app_ 6 (v_ 8)))))) (sc_ (ifs_ (tcmp_ (op_neD (ur hr)) (bopNe _) ((lsT_ (by rfl) (ur hr) (by rfl) (G "len" (by decide)) (by rfl) (G "set" (by decide)) (o_ 6)).pp) ((call_ (fun h => pe_callB call_len_seq (by rfl) (G "len" (by decide)) (by decide +kernel) h) (copLen _) (pc_ (o_ 6) (pn_))).pp)) (s1_ (ret_ (bl_))) (sn_)) (sc_ (for_ PassesOwn.never (by rfl) (it_ (slice_ ((v_ 5).pp) (on_) (os_ ((int_).pp)))) (gn_ 9 sc_f_law.nd) (sc_ (set_ 8 sc_f_law.nd (fc_ D_f_heap_of (hr.mono (by decide)) (by rfl) (ac_ (v_ 2) (ac_ (v_ 3) (ac_ (v_ 9) (an_)))))) (s1_ (ifs_ (tw_ (wor_ (tcmp_ (op_neD (ur hr)) (bopNe _) ((v_ 8).pp) ((fc_ D_f__law_heap_of (hr.mono (by decide)) (by rfl) (ac_ (v_ 2) (ac_ (v_ 3) (ac_ (v_ 9) (an_))))).pp)) (wor1_ (tcmp_ (op_neD (ur hr)) (bopNe _) ((fc_ D_f_tree_of (hr.mono (by decide)) (by rfl) (ac_ (v_ 2) (ac_ (v_ 3) (ac_ (v_ 8) (an_))))).pp) ((v_ 9).pp))))) (s1_ (ret_ (bl_))) (sn_))))) (s1_ (ret_ (and_ (cmp_ (op_eqD (ur hr)) (bopEq _) ((fc_ D_f_tree_of (hr.mono (by decide)) (by rfl) (ac_ (int_) (ac_ (tup_ (an_)) (ac_ (tup_ (ac_ (int_) (an_))) (an_))))).pp) ((tup_ (an_)).pp)) (one_ (cmp_ (op_eqD (ur hr)) (bopEq _) ((fc_ D_f_heap_of (hr.mono (by decide)) (by rfl) (ac_ (int_) (ac_ (tup_ (ac_ (tup_ (ac_ (int_) (ac_ (int_) (an_)))) (ac_ (tup_ (ac_ (int_) (ac_ (int_) (an_)))) (an_)))) (ac_ (tup_ (ac_ (int_) (an_))) (an_))))).pp) ((tup_ (ac_ (int_) (ac_ (int_) (an_)))).pp)))))))))))))
end Wk13

namespace Wk13
open PySem PySem.Spec PyProof.Rows L2 Eg
theorem full_law [Tabs] {P : Program} {w : World} {K : PySem.W.Frag} {mg : Str → Option Value} {base : Heap} {f fS : Addr} {fd fdS : FuncData} (F : FnP K "law" (top 36) f fd) (FS : FnP K "_law_state" (top 20) fS fdS) (gS : mg "_law_state" = some (.ref fS)) (G : ∀ x ∈ bn, mg x = none) (gi : mg "int" = none) (ga : mg "abs" = none) (D_f__law_draw : Fd P w K mg base "_law_draw" ["state", "many"] 1 pDraw) (D_f__law_heap_of : Fd P w K mg base "_law_heap_of" ["n", "lines", "tree"] 2 p_f__law_heap_of) (D_f__law_tree_of : Fd P w K mg base "_law_tree_of" ["n", "lines", "heap"] 3 p_f__law_tree_of) (D_f__law_web : Fd P w K mg base "_law_web" ["state", "n", "extra"] 2 p_f__law_web) (D_f_all_again : Fd P w K mg base "all_again" ["n", "lines"] 4 p_f_all_again) (D_f_heap_of : Fd P w K mg base "heap_of" ["n", "lines", "tree"] 5 p_f_heap_of) (D_f_tree_of : Fd P w K mg base "tree_of" ["n", "lines", "heap"] 3 p_f_tree_of) (D_f_trees_of : Fd P w K mg base "trees_of" ["n", "lines"] 3 p_f_trees_of) (plain : w_f_law (lawEnv 10) yes) :
    FnOk P w K mg base CX0 6 f fd ["script"] (spLaw K) := by
  have GS : FnOk P w K mg base CX0 1 fS fdS ["script"] (spState K) := ok_f__law_state FS gi ga
  have bS : Binds K fdS ["script"] [] := FS.bindsN fun _ _ _ _ _ _ us hl => match us, hl with | [_], _ => rfl
  refine law_ok1 (N := N_f_law) (k := 5) (st0 := (defBody (top 36)).headD (.Pass ⟨0, 0, 0, 0⟩)) (rest := (defBody (top 36)).drop 1) F sc_f_law (by decide) (fun cdv A outer s H E hr => ?_) (fun cdv A outer s H E hr => ?_) plain
  · exact ps_set (i := 1) sc_f_law.nd rfl (by first | exact Or.inl rfl | exact Or.inr rfl) (pe_call GS (hr.mono (by decide)) rfl gS FS.kp bS .nil pass0 (pa_cons (pv 0) pa_nil))
  · exact ok_law G D_f__law_draw D_f__law_heap_of D_f__law_tree_of D_f__law_web D_f_all_again D_f_heap_of D_f_tree_of D_f_trees_of (hr.mono (by decide))
def dd_f__law_state : He.DefD := ⟨("_law_state", none), "_law_state", "_law_state", defArgs (top 20), defBody (top 20), defScope (top 20), [], []⟩
def dd_f__law_draw : He.DefD := ⟨("_law_draw", none), "_law_draw", "_law_draw", defArgs (top 21), defBody (top 21), defScope (top 21), [], []⟩
def dd_f__law_web : He.DefD := ⟨("_law_web", none), "_law_web", "_law_web", defArgs (top 24), defBody (top 24), defScope (top 24), [], []⟩
def dd_f_degrees : He.DefD := ⟨("degrees", none), "degrees", "degrees", defArgs (top 2), defBody (top 2), defScope (top 2), [], []⟩
def dd_f_still_heaps : He.DefD := ⟨("still_heaps", none), "still_heaps", "still_heaps", defArgs (top 8), defBody (top 8), defScope (top 8), [], []⟩
def dd_f_neighbours : He.DefD := ⟨("neighbours", none), "neighbours", "neighbours", defArgs (top 1), defBody (top 1), defScope (top 1), [], []⟩
def dd_f_rounds : He.DefD := ⟨("rounds", none), "rounds", "rounds", defArgs (top 6), defBody (top 6), defScope (top 6), [], []⟩
def dd_f_stays : He.DefD := ⟨("stays", none), "stays", "stays", defArgs (top 7), defBody (top 7), defScope (top 7), [], []⟩
def dd_f_all_again : He.DefD := ⟨("all_again", none), "all_again", "all_again", defArgs (top 9), defBody (top 9), defScope (top 9), [], []⟩
def dd_f_reached : He.DefD := ⟨("reached", none), "reached", "reached", defArgs (top 3), defBody (top 3), defScope (top 3), [], []⟩
def dd_f_trees_of : He.DefD := ⟨("trees_of", none), "trees_of", "trees_of", defArgs (top 4), defBody (top 4), defScope (top 4), [], []⟩
def dd_f_lines_at : He.DefD := ⟨("lines_at", none), "lines_at", "lines_at", defArgs (top 11), defBody (top 11), defScope (top 11), [], []⟩
def dd_f_other_end : He.DefD := ⟨("other_end", none), "other_end", "other_end", defArgs (top 12), defBody (top 12), defScope (top 12), [], []⟩
def dd_f_choices : He.DefD := ⟨("choices", none), "choices", "choices", defArgs (top 13), defBody (top 13), defScope (top 13), [], []⟩
def dd_f_tree_of : He.DefD := ⟨("tree_of", none), "tree_of", "tree_of", defArgs (top 14), defBody (top 14), defScope (top 14), [], []⟩
def dd_f_parents : He.DefD := ⟨("parents", none), "parents", "parents", defArgs (top 15), defBody (top 15), defScope (top 15), [], []⟩
def dd_f_way_down : He.DefD := ⟨("way_down", none), "way_down", "way_down", defArgs (top 16), defBody (top 16), defScope (top 16), [], []⟩
def dd_f_tree_rounds : He.DefD := ⟨("tree_rounds", none), "tree_rounds", "tree_rounds", defArgs (top 17), defBody (top 17), defScope (top 17), [], []⟩
def dd_f_heap_of : He.DefD := ⟨("heap_of", none), "heap_of", "heap_of", defArgs (top 18), defBody (top 18), defScope (top 18), [], []⟩
def dd_f__law_neighbours : He.DefD := ⟨("_law_neighbours", none), "_law_neighbours", "_law_neighbours", defArgs (top 22), defBody (top 22), defScope (top 22), [], []⟩
def dd_f__law_rounds : He.DefD := ⟨("_law_rounds", none), "_law_rounds", "_law_rounds", defArgs (top 31), defBody (top 31), defScope (top 31), [], []⟩
def dd_f__law_choice : He.DefD := ⟨("_law_choice", none), "_law_choice", "_law_choice", defArgs (top 33), defBody (top 33), defScope (top 33), [], []⟩
def dd_f__law_tree_of : He.DefD := ⟨("_law_tree_of", none), "_law_tree_of", "_law_tree_of", defArgs (top 34), defBody (top 34), defScope (top 34), [], []⟩
def dd_f__law_heap_of : He.DefD := ⟨("_law_heap_of", none), "_law_heap_of", "_law_heap_of", defArgs (top 35), defBody (top 35), defScope (top 35), [], []⟩
def dd_f_law : He.DefD := ⟨("law", none), "law", "law", defArgs (top 36), defBody (top 36), defScope (top 36), [], []⟩
def fn : List He.DefD := [dd_f__law_state, dd_f__law_draw, dd_f__law_web, dd_f_degrees, dd_f_still_heaps, dd_f_neighbours, dd_f_rounds, dd_f_stays, dd_f_all_again, dd_f_reached, dd_f_trees_of, dd_f_lines_at, dd_f_other_end, dd_f_choices, dd_f_tree_of, dd_f_parents, dd_f_way_down, dd_f_tree_rounds, dd_f_heap_of, dd_f__law_neighbours, dd_f__law_rounds, dd_f__law_choice, dd_f__law_tree_of, dd_f__law_heap_of, dd_f_law]
def fa : List He.Fa := [.glo "_law_state", .glo "_law_draw", .glo "_law_web", .glo "degrees", .glo "still_heaps", .glo "neighbours", .glo "rounds", .glo "stays", .glo "all_again", .glo "reached", .glo "trees_of", .glo "lines_at", .glo "other_end", .glo "choices", .glo "tree_of", .glo "parents", .glo "way_down", .glo "tree_rounds", .glo "heap_of", .glo "_law_neighbours", .glo "_law_rounds", .glo "_law_choice", .glo "_law_tree_of", .glo "_law_heap_of", .glo "law", .free "abs", .free "enumerate", .free "int", .free "len", .free "max", .free "min", .free "range", .free "set", .free "sorted", .free "tuple"]
def loose : List PySem.Str := (["neighbours", "degrees", "reached", "trees_of", "rounds", "stays", "still_heaps", "all_again", "lines_at", "other_end", "choices", "tree_of", "parents", "way_down", "tree_rounds", "heap_of", "_law_state", "_law_draw", "_law_neighbours", "_law_reach", "_law_web", "_law_table", "_law_trees", "_law_heap", "_law_toppled", "_law_may", "_law_still_heaps", "_law_rounds", "_law_stilled", "_law_choice"] : List PySem.Str) ++ (["_law_tree_of", "_law_heap_of"] : List PySem.Str)
abbrev Rw : PySem.W.OpenRow := PySem.W.OpenLaw.row PySem.Challenge.rw_grainsfall_k13_whole_heaps_and_trees
abbrev tf : List He.Defn := []
abbrev hk : PySem.W.Hook := He.hookX 4 fa fn [] tf (fun _ => true)
abbrev tbs (K : PySem.W.Frag) : Tabs := ⟨(tf.map (He.cT K)).map (·.2)⟩
def ob (s : PySem.W.SharedT) : He.AlX := He.obsX 4 fa fn [] tf (fun _ => true) (HandSHeadRun.getT s)
theorem ob_eq (s : PySem.W.SharedT) : ob s = hk.obs s.abs := He.obsX_eq (HandSHeadRun.getT_eq s)
theorem run (w : World) : HandSHeadRun.RunEq Rw (PySem.W.view Rw.prog [36]) hk ob 6000 loose w := by
  intro os
  kernel_rfl
theorem facts {w : World} {K : PySem.W.Frag} {h : Heap} {mg : Str → Option Value} {f : Addr} (X : K.In h) (G : h.Ns mainGlobals mg) (hfa : mg ("law" : Str) = some (.ref f)) (c : He.SaysX fa fn [] tf (fun _ => true) w h K) (plain : w_f_law (lawEnv 10) yes) :
    LamX.LawAtS PySem.Challenge.rw_grainsfall_k13_whole_heaps_and_trees w K CX0 6 63 "script" mg f h := by
  letI : Tabs := tbs K
  obtain ⟨fd_f__law_state, F_f__law_state⟩ := c.t.d.def_ 0 (d := dd_f__law_state) rfl
  obtain ⟨fd_f__law_draw, F_f__law_draw⟩ := c.t.d.def_ 1 (d := dd_f__law_draw) rfl
  obtain ⟨fd_f__law_web, F_f__law_web⟩ := c.t.d.def_ 2 (d := dd_f__law_web) rfl
  obtain ⟨fd_f_degrees, F_f_degrees⟩ := c.t.d.def_ 3 (d := dd_f_degrees) rfl
  obtain ⟨fd_f_still_heaps, F_f_still_heaps⟩ := c.t.d.def_ 4 (d := dd_f_still_heaps) rfl
  obtain ⟨fd_f_neighbours, F_f_neighbours⟩ := c.t.d.def_ 5 (d := dd_f_neighbours) rfl
  obtain ⟨fd_f_rounds, F_f_rounds⟩ := c.t.d.def_ 6 (d := dd_f_rounds) rfl
  obtain ⟨fd_f_stays, F_f_stays⟩ := c.t.d.def_ 7 (d := dd_f_stays) rfl
  obtain ⟨fd_f_all_again, F_f_all_again⟩ := c.t.d.def_ 8 (d := dd_f_all_again) rfl
  obtain ⟨fd_f_reached, F_f_reached⟩ := c.t.d.def_ 9 (d := dd_f_reached) rfl
  obtain ⟨fd_f_trees_of, F_f_trees_of⟩ := c.t.d.def_ 10 (d := dd_f_trees_of) rfl
  obtain ⟨fd_f_lines_at, F_f_lines_at⟩ := c.t.d.def_ 11 (d := dd_f_lines_at) rfl
  obtain ⟨fd_f_other_end, F_f_other_end⟩ := c.t.d.def_ 12 (d := dd_f_other_end) rfl
  obtain ⟨fd_f_choices, F_f_choices⟩ := c.t.d.def_ 13 (d := dd_f_choices) rfl
  obtain ⟨fd_f_tree_of, F_f_tree_of⟩ := c.t.d.def_ 14 (d := dd_f_tree_of) rfl
  obtain ⟨fd_f_parents, F_f_parents⟩ := c.t.d.def_ 15 (d := dd_f_parents) rfl
  obtain ⟨fd_f_way_down, F_f_way_down⟩ := c.t.d.def_ 16 (d := dd_f_way_down) rfl
  obtain ⟨fd_f_tree_rounds, F_f_tree_rounds⟩ := c.t.d.def_ 17 (d := dd_f_tree_rounds) rfl
  obtain ⟨fd_f_heap_of, F_f_heap_of⟩ := c.t.d.def_ 18 (d := dd_f_heap_of) rfl
  obtain ⟨fd_f__law_neighbours, F_f__law_neighbours⟩ := c.t.d.def_ 19 (d := dd_f__law_neighbours) rfl
  obtain ⟨fd_f__law_rounds, F_f__law_rounds⟩ := c.t.d.def_ 20 (d := dd_f__law_rounds) rfl
  obtain ⟨fd_f__law_choice, F_f__law_choice⟩ := c.t.d.def_ 21 (d := dd_f__law_choice) rfl
  obtain ⟨fd_f__law_tree_of, F_f__law_tree_of⟩ := c.t.d.def_ 22 (d := dd_f__law_tree_of) rfl
  obtain ⟨fd_f__law_heap_of, F_f__law_heap_of⟩ := c.t.d.def_ 23 (d := dd_f__law_heap_of) rfl
  obtain ⟨fd_f_law, F_f_law⟩ := c.t.d.def_ 24 (d := dd_f_law) rfl
  have g_f__law_state := He.glo_ok X G (c.t.d.fact 0 (f := .glo "_law_state") rfl)
  have g_f__law_draw := He.glo_ok X G (c.t.d.fact 1 (f := .glo "_law_draw") rfl)
  have g_f__law_web := He.glo_ok X G (c.t.d.fact 2 (f := .glo "_law_web") rfl)
  have g_f_degrees := He.glo_ok X G (c.t.d.fact 3 (f := .glo "degrees") rfl)
  have g_f_still_heaps := He.glo_ok X G (c.t.d.fact 4 (f := .glo "still_heaps") rfl)
  have g_f_neighbours := He.glo_ok X G (c.t.d.fact 5 (f := .glo "neighbours") rfl)
  have g_f_rounds := He.glo_ok X G (c.t.d.fact 6 (f := .glo "rounds") rfl)
  have g_f_stays := He.glo_ok X G (c.t.d.fact 7 (f := .glo "stays") rfl)
  have g_f_all_again := He.glo_ok X G (c.t.d.fact 8 (f := .glo "all_again") rfl)
  have g_f_reached := He.glo_ok X G (c.t.d.fact 9 (f := .glo "reached") rfl)
  have g_f_trees_of := He.glo_ok X G (c.t.d.fact 10 (f := .glo "trees_of") rfl)
  have g_f_lines_at := He.glo_ok X G (c.t.d.fact 11 (f := .glo "lines_at") rfl)
  have g_f_other_end := He.glo_ok X G (c.t.d.fact 12 (f := .glo "other_end") rfl)
  have g_f_choices := He.glo_ok X G (c.t.d.fact 13 (f := .glo "choices") rfl)
  have g_f_tree_of := He.glo_ok X G (c.t.d.fact 14 (f := .glo "tree_of") rfl)
  have g_f_parents := He.glo_ok X G (c.t.d.fact 15 (f := .glo "parents") rfl)
  have g_f_way_down := He.glo_ok X G (c.t.d.fact 16 (f := .glo "way_down") rfl)
  have g_f_tree_rounds := He.glo_ok X G (c.t.d.fact 17 (f := .glo "tree_rounds") rfl)
  have g_f_heap_of := He.glo_ok X G (c.t.d.fact 18 (f := .glo "heap_of") rfl)
  have g_f__law_neighbours := He.glo_ok X G (c.t.d.fact 19 (f := .glo "_law_neighbours") rfl)
  have g_f__law_rounds := He.glo_ok X G (c.t.d.fact 20 (f := .glo "_law_rounds") rfl)
  have g_f__law_choice := He.glo_ok X G (c.t.d.fact 21 (f := .glo "_law_choice") rfl)
  have g_f__law_tree_of := He.glo_ok X G (c.t.d.fact 22 (f := .glo "_law_tree_of") rfl)
  have g_f__law_heap_of := He.glo_ok X G (c.t.d.fact 23 (f := .glo "_law_heap_of") rfl)
  have b_abs := He.free_ok X G (c.t.d.fact 25 (f := .free "abs") rfl)
  have b_enumerate := He.free_ok X G (c.t.d.fact 26 (f := .free "enumerate") rfl)
  have b_int := He.free_ok X G (c.t.d.fact 27 (f := .free "int") rfl)
  have b_len := He.free_ok X G (c.t.d.fact 28 (f := .free "len") rfl)
  have b_max := He.free_ok X G (c.t.d.fact 29 (f := .free "max") rfl)
  have b_min := He.free_ok X G (c.t.d.fact 30 (f := .free "min") rfl)
  have b_range := He.free_ok X G (c.t.d.fact 31 (f := .free "range") rfl)
  have b_set := He.free_ok X G (c.t.d.fact 32 (f := .free "set") rfl)
  have b_sorted := He.free_ok X G (c.t.d.fact 33 (f := .free "sorted") rfl)
  have b_tuple := He.free_ok X G (c.t.d.fact 34 (f := .free "tuple") rfl)
  have e := hfa.symm.trans (He.glo_ok X G (c.t.d.fact 24 (f := .glo "law") rfl))
  cases e
  have b := FunD.bindsA (ps := ["script"]) F_f_law fun _ _ _ _ _ _ us hl => match us, hl with | [_], _ => rfl
  refine ⟨fd_f_law, tf.map (He.cT K), @spLaw (tbs K) K, fun p hp => ?_, fun p hp => ?_, fun p hp => ?_, fun s v => b s [v] rfl, fun H a ns hl _ hT hS => ⟨a, ns, rfl, hS, hl, fun P hP => ?_, fun _ => rfl⟩, fun base _ _ TBs => ?_⟩
  · obtain ⟨q, hq, rfl⟩ := List.mem_map.mp hp
    exact c.empty q hq
  · obtain ⟨q, hq, rfl⟩ := List.mem_map.mp hp
    exact c.out q hq
  · obtain ⟨q, hq, rfl⟩ := List.mem_map.mp hp
    exact PySem.W.codeHd_of_K X (c.hd q hq)
  · obtain ⟨q, hq, rfl⟩ := List.mem_map.mp hP
    exact ⟨#[], hT q hq, by first | trivial | exact rfl | simp [TriplesOk]⟩
  have Gb : ∀ x ∈ bn, mg x = none := by
    intro x hx
    simp only [bn, List.mem_cons, List.not_mem_nil, or_false] at hx
    rcases hx with rfl | rfl | rfl | rfl | rfl | rfl | rfl | rfl | rfl
    · exact b_enumerate
    · exact b_int
    · exact b_len
    · exact b_max
    · exact b_min
    · exact b_range
    · exact b_set
    · exact b_sorted
    · exact b_tuple
  have D_f__law_draw : Fd (PySem.Challenge.rw_grainsfall_k13_whole_heaps_and_trees).prog w K mg base "_law_draw" ["state", "many"] 1 pDraw := ok_f__law_draw F_f__law_draw g_f__law_draw b_len b_int
  have D_f__law_web := ok_f__law_web (P := (PySem.Challenge.rw_grainsfall_k13_whole_heaps_and_trees).prog) (w := w) (base := base) F_f__law_web g_f__law_web Gb D_f__law_draw
  have D_f_degrees := ok_f_degrees (P := (PySem.Challenge.rw_grainsfall_k13_whole_heaps_and_trees).prog) (w := w) (base := base) F_f_degrees g_f_degrees Gb 
  have D_f_still_heaps := ok_f_still_heaps (P := (PySem.Challenge.rw_grainsfall_k13_whole_heaps_and_trees).prog) (w := w) (base := base) F_f_still_heaps g_f_still_heaps Gb D_f_degrees
  have D_f_neighbours := ok_f_neighbours (P := (PySem.Challenge.rw_grainsfall_k13_whole_heaps_and_trees).prog) (w := w) (base := base) F_f_neighbours g_f_neighbours Gb 
  have D_f_rounds := ok_f_rounds (P := (PySem.Challenge.rw_grainsfall_k13_whole_heaps_and_trees).prog) (w := w) (base := base) F_f_rounds g_f_rounds Gb D_f_neighbours
  have D_f_stays := ok_f_stays (P := (PySem.Challenge.rw_grainsfall_k13_whole_heaps_and_trees).prog) (w := w) (base := base) F_f_stays g_f_stays Gb D_f_rounds
  have D_f_all_again := ok_f_all_again (P := (PySem.Challenge.rw_grainsfall_k13_whole_heaps_and_trees).prog) (w := w) (base := base) F_f_all_again g_f_all_again Gb D_f_stays D_f_still_heaps
  have D_f_reached := ok_f_reached (P := (PySem.Challenge.rw_grainsfall_k13_whole_heaps_and_trees).prog) (w := w) (base := base) F_f_reached g_f_reached Gb D_f_neighbours
  have D_f_trees_of := ok_f_trees_of (P := (PySem.Challenge.rw_grainsfall_k13_whole_heaps_and_trees).prog) (w := w) (base := base) F_f_trees_of g_f_trees_of Gb D_f_reached
  have D_f_lines_at := ok_f_lines_at (P := (PySem.Challenge.rw_grainsfall_k13_whole_heaps_and_trees).prog) (w := w) (base := base) F_f_lines_at g_f_lines_at Gb 
  have D_f_other_end := ok_f_other_end (P := (PySem.Challenge.rw_grainsfall_k13_whole_heaps_and_trees).prog) (w := w) (base := base) F_f_other_end g_f_other_end Gb 
  have D_f_choices := ok_f_choices (P := (PySem.Challenge.rw_grainsfall_k13_whole_heaps_and_trees).prog) (w := w) (base := base) F_f_choices g_f_choices Gb D_f_lines_at D_f_other_end
  have D_f_tree_of := ok_f_tree_of (P := (PySem.Challenge.rw_grainsfall_k13_whole_heaps_and_trees).prog) (w := w) (base := base) F_f_tree_of g_f_tree_of Gb D_f_choices D_f_rounds
  have D_f_parents := ok_f_parents (P := (PySem.Challenge.rw_grainsfall_k13_whole_heaps_and_trees).prog) (w := w) (base := base) F_f_parents g_f_parents Gb D_f_other_end
  have D_f_way_down := ok_f_way_down (P := (PySem.Challenge.rw_grainsfall_k13_whole_heaps_and_trees).prog) (w := w) (base := base) F_f_way_down g_f_way_down Gb D_f_parents
  have D_f_tree_rounds := ok_f_tree_rounds (P := (PySem.Challenge.rw_grainsfall_k13_whole_heaps_and_trees).prog) (w := w) (base := base) F_f_tree_rounds g_f_tree_rounds Gb D_f_way_down
  have D_f_heap_of := ok_f_heap_of (P := (PySem.Challenge.rw_grainsfall_k13_whole_heaps_and_trees).prog) (w := w) (base := base) F_f_heap_of g_f_heap_of Gb D_f_choices D_f_tree_rounds
  have D_f__law_neighbours := ok_f__law_neighbours (P := (PySem.Challenge.rw_grainsfall_k13_whole_heaps_and_trees).prog) (w := w) (base := base) F_f__law_neighbours g_f__law_neighbours Gb 
  have D_f__law_rounds := ok_f__law_rounds (P := (PySem.Challenge.rw_grainsfall_k13_whole_heaps_and_trees).prog) (w := w) (base := base) F_f__law_rounds g_f__law_rounds Gb D_f__law_neighbours
  have D_f__law_choice := ok_f__law_choice (P := (PySem.Challenge.rw_grainsfall_k13_whole_heaps_and_trees).prog) (w := w) (base := base) F_f__law_choice g_f__law_choice Gb 
  have D_f__law_tree_of := ok_f__law_tree_of (P := (PySem.Challenge.rw_grainsfall_k13_whole_heaps_and_trees).prog) (w := w) (base := base) F_f__law_tree_of g_f__law_tree_of Gb D_f__law_choice D_f__law_rounds
  have D_f__law_heap_of := ok_f__law_heap_of (P := (PySem.Challenge.rw_grainsfall_k13_whole_heaps_and_trees).prog) (w := w) (base := base) F_f__law_heap_of g_f__law_heap_of Gb D_f__law_choice
  exact full_law F_f_law F_f__law_state g_f__law_state Gb b_int b_abs D_f__law_draw D_f__law_heap_of D_f__law_tree_of D_f__law_web D_f_all_again D_f_heap_of D_f_tree_of D_f_trees_of plain
end Wk13

/-! M1: webs, trees, fire: plain facts that every law may use. -/
namespace Mw
open PySem PySem.Spec PyProof.Rows L2 Eg
abbrev Pr := Int × Int
def pr (l : Pr) : D := .tuple [.int l.1, .int l.2]
def Ln (ls : List Pr) : D := .tuple (ls.map pr)
def touch (p : Int) (l : Pr) : Bool := decide (p = l.1 ∨ p = l.2)
def nb (ls : List Pr) (p : Int) : List Int := (ls.filter (touch p)).map fun l => l.1 + l.2 - p
theorem nb_len {ls : List Pr} {p : Int} : (nb ls p).length ≤ ls.length := by
  unfold nb
  rw [List.length_map]
  exact List.length_filter_le _ _
def opens (ls : List Pr) (p : Int) (b : List Int) : Nat := ((nb ls p).filter fun x => decide (x ∉ b)).length
def cond (ls : List Pr) (hs : List Int) (b : List Int) (p : Int) : Bool := decide (p ∉ b) && decide ((opens ls p b : Int) ≤ gi hs p)
def found (n : Nat) (ls : List Pr) (hs : List Int) (b : List Int) : List Int := (rng 0 n).filter (cond ls hs b)
def fire (n : Nat) (ls : List Pr) (hs : List Int) : Nat → List Int → List (List Int)
  | 0, _ => []
  | k + 1, b => if found n ls hs b = [] then [] else found n ls hs b :: fire n ls hs k (b ++ found n ls hs b)
def unb (n : Nat) (b : List Int) : List Int := (rng 0 n).filter fun x => decide (x ∉ b)
theorem unb_lt {n : Nat} {ls : List Pr} {hs b : List Int} (h : found n ls hs b ≠ []) : (unb n (b ++ found n ls hs b)).length < (unb n b).length := by
  obtain ⟨x, hx⟩ := List.exists_mem_of_ne_nil _ h
  have hx' := List.mem_filter.mp hx
  have hb : x ∉ b := by
    have := hx'.2
    unfold cond at this
    simp at this
    exact this.1
  have e : unb n (b ++ found n ls hs b) = (unb n b).filter fun y => decide (y ∉ found n ls hs b) := by
    unfold unb
    rw [List.filter_filter]
    congr 1
    funext y
    simp [List.mem_append, not_or, Bool.and_comm]
  rw [e]
  refine List.length_filter_lt_length_iff_exists.mpr ⟨x, List.mem_filter.mpr ⟨hx'.1, by simpa using hb⟩, by simpa using hx⟩
theorem found_nil {n : Nat} {ls : List Pr} {hs b : List Int} (h : unb n b = []) : found n ls hs b = [] := by
  refine List.filter_eq_nil_iff.mpr fun x hx => ?_
  have := List.filter_eq_nil_iff.mp h x hx
  unfold cond
  simp at this ⊢
  intro q; exact absurd this q
theorem fire_nil {n : Nat} {ls : List Pr} {hs b : List Int} {k : Nat} (h : found n ls hs b = []) : fire n ls hs k b = [] := by
  cases k with
  | zero => rfl
  | succ k => unfold fire; rw [if_pos h]
theorem fire_cons {n : Nat} {ls : List Pr} {hs b : List Int} {k : Nat} (h : found n ls hs b ≠ []) (hk : (unb n b).length ≤ k) : fire n ls hs k b = found n ls hs b :: fire n ls hs (k - 1) (b ++ found n ls hs b) := by
  cases k with
  | zero => exact absurd (found_nil (List.length_eq_zero_iff.mp (by omega))) h
  | succ k => show (if _ then _ else _) = _; rw [if_neg h]; rfl
def due (n : Nat) (ls : List Pr) (hs : List Int) : List (List Int) := [0] :: fire n ls hs n [0]
theorem found_len {n : Nat} {ls : List Pr} {hs b : List Int} : (found n ls hs b).length ≤ n := by
  have := List.length_filter_le (cond ls hs b) (rng 0 n)
  rw [rng_length] at this; exact this
def Hp' (hs : List Int) : D := .tuple (hs.map .int)
def Ll (t : List (List Int)) : D := .list (t.map Il)
theorem len_lt {n : Nat} {d : List Int} {x : Int} {r : List Int} {p : Int → Bool} (e : rng 0 n = d ++ x :: r) : (d.filter p).length < n := by
  have h1 := List.length_filter_le p d
  have h2 : (rng 0 n).length = n := rng_length
  rw [e] at h2
  simp at h2
  omega
theorem in_rng {n : Nat} {d : List Int} {x : Int} {r : List Int} (e : rng 0 n = d ++ x :: r) : 0 ≤ x ∧ x < n := by
  have : x ∈ rng 0 n := by rw [e]; simp
  have := mem_rng.mp this
  omega
theorem small_of {n : Nat} (h : n ≤ 101) : n < sizeLine := by
  have : (101 : Nat) < sizeLine := by decide
  omega
theorem small {n : Nat} (h : n ≤ 100) : n < sizeLine := by
  have : (100 : Nat) < sizeLine := by decide
  omega
theorem opens_perm {ls : List Pr} {p : Int} {b c : List Int} (h : c.Perm (nb ls p)) : (c.filter fun x => decide (x ∉ b)).length = opens ls p b := (h.filter _).length_eq
theorem fire_len {n : Nat} {ls : List Pr} {hs : List Int} : ∀ (k : Nat) (b : List Int), (fire n ls hs k b).length ≤ k ∧ (fire n ls hs k b).flatten.length ≤ n * k
  | 0, b => by simp [fire]
  | k + 1, b => by
    unfold fire
    split
    · simp
    · obtain ⟨h1, h2⟩ := fire_len (n := n) (ls := ls) (hs := hs) k (b ++ found n ls hs b)
      have h3 : (found n ls hs b).length ≤ n := found_len
      have h4 : n * (k + 1) = n * k + n := Nat.mul_succ n k
      simp only [List.length_cons, List.flatten_cons, List.length_append]
      omega
def left (n : Nat) (ls : List Pr) (hs : List Int) : List Int := (rng 0 n).filter fun x => decide (x ∉ (due n ls hs).flatten)
theorem due_len {n : Nat} {ls : List Pr} {hs : List Int} (hn : n ≤ 100) : (due n ls hs).length ≤ 101 ∧ (due n ls hs).flatten.length ≤ 10001 := by
  obtain ⟨h1, h2⟩ := fire_len (n := n) (ls := ls) (hs := hs) n [0]
  have nn : n * n ≤ 100 * 100 := Nat.mul_le_mul hn hn
  unfold due
  simp only [List.length_cons, List.flatten_cons, List.length_append, List.length_nil]
  omega
theorem rng_small {n : Nat} (hn : n ≤ 100) {p : Int → Bool} : ((rng 0 n).filter p).length ≤ 100 := by
  have := List.length_filter_le p (rng 0 n)
  rw [rng_length] at this; omega
structure Web (n : Nat) (ls : List Pr) : Prop where
  ends : ∀ l ∈ ls, (0 ≤ l.1 ∧ l.1 < n) ∧ 0 ≤ l.2 ∧ l.2 < n
  tree : ∀ p : Int, 1 ≤ p → p < n → ∃ l ∈ ls, touch p l = true
  lt : ∀ l ∈ ls, l.1 < l.2
  dn : ∀ p : Int, 1 ≤ p → p < n → ∃ l ∈ ls, l.2 = p
theorem alike_pairs {a : List Pr} : PySem.W.AllAlike (a.map pr) := fun d hd d' hd' => by
  obtain ⟨x, _, rfl⟩ := List.mem_map.mp hd
  obtain ⟨y, _, rfl⟩ := List.mem_map.mp hd'
  rfl
theorem sortable_pairs {a : List Pr} : PySem.W.SortableX (a.map pr) := .inl fun d hd => by
  obtain ⟨x, _, rfl⟩ := List.mem_map.mp hd
  exact ⟨_, _, rfl⟩
theorem pl_pr {l : Pr} : Pl 2 (pr l) := .tuple fun d hd => by
  simp at hd
  rcases hd with rfl | rfl <;> exact .int
def Lt' (t : List (List Int)) : D := .list (t.map Hp')
theorem fire_end {n : Nat} {ls : List Pr} {hs : List Int} : ∀ (k : Nat) (b : List Int), (unb n b).length ≤ k → found n ls hs (b ++ (fire n ls hs k b).flatten) = []
  | 0, b, h => by
    simp [fire]
    exact found_nil (List.length_eq_zero_iff.mp (by omega))
  | k + 1, b, h => by
    unfold fire
    split
    · rename_i h0
      simpa using h0
    · rename_i h0
      have lu := unb_lt h0
      have := fire_end (n := n) (ls := ls) (hs := hs) k (b ++ found n ls hs b) (by omega)
      simpa [List.append_assoc] using this
theorem due_end {n : Nat} {ls : List Pr} {hs : List Int} : found n ls hs (due n ls hs).flatten = [] := by
  have h : (unb n [0]).length ≤ n := by
    have := List.length_filter_le (fun x => decide (x ∉ [(0 : Int)])) (rng 0 n)
    rw [rng_length] at this; exact this
  have := fire_end (n := n) (ls := ls) (hs := hs) n [0] h
  simpa [due] using this
theorem nb_in {n : Nat} {ls : List Pr} (w : Web n ls) {p x : Int} (h : x ∈ nb ls p) : 0 ≤ x ∧ x < n := by
  obtain ⟨l, hl, rfl⟩ := List.mem_map.mp h
  obtain ⟨h1, h2⟩ := List.mem_filter.mp hl
  obtain ⟨e1, e2⟩ := w.ends l h1
  unfold touch at h2
  rw [decide_eq_true_eq] at h2
  rcases h2 with h2 | h2 <;> constructor <;> omega
theorem mem_left {n : Nat} {ls : List Pr} {hs : List Int} {x : Int} : x ∈ left n ls hs ↔ (0 ≤ x ∧ x < n) ∧ x ∉ (due n ls hs).flatten := by
  unfold left
  rw [List.mem_filter, mem_rng, decide_eq_true_eq]
  constructor
  · rintro ⟨⟨h1, h2⟩, h3⟩; exact ⟨⟨h1, by omega⟩, h3⟩
  · rintro ⟨⟨h1, h2⟩, h3⟩; exact ⟨⟨h1, by omega⟩, h3⟩
def dg (ls : List Pr) (p : Int) : Int := ((nb ls p).length : Nat)
theorem dg_snoc {ls : List Pr} {l : Pr} {p : Int} : dg (ls ++ [l]) p = dg ls p + if touch p l = true then 1 else 0 := by
  unfold dg nb
  rw [List.filter_append]
  by_cases h : touch p l = true
  · rw [if_pos h, List.filter_cons_of_pos h]; simp
  · rw [if_neg h, List.filter_cons_of_neg h]; simp
def dgs (n : Nat) (ls : List Pr) : List Int := (rng 0 n).map (dg ls)
theorem dgs_drop {n : Nat} {ls : List Pr} (hn : 1 ≤ n) : (dgs n ls).drop 1 = (rng 1 (n - 1)).map (dg ls) := by
  obtain ⟨m, rfl⟩ : ∃ m, n = m + 1 := ⟨n - 1, by omega⟩
  unfold dgs
  rw [rng0]; rfl
theorem cut1 {xs : List D} : cutD xs (some 1) none = xs.drop 1 := cut_from (by decide)
theorem gi_cons_pos {a : Int} {r : List Int} {p : Int} (h : 1 ≤ p) : gi (a :: r) p = gi r (p - 1) := by
  unfold gi
  obtain ⟨k, hk⟩ : ∃ k : Nat, p = (k : Int) + 1 := ⟨(p - 1).toNat, by omega⟩
  subst hk
  have e1 : ((k : Int) + 1).toNat = k + 1 := by omega
  have e2 : ((k : Int) + 1 - 1).toNat = k := by omega
  rw [e1, e2]; rfl
def stillB (n : Nat) (ls : List Pr) (hs : List Int) : Bool := (rng 1 (n - 1)).all fun p => decide (gi hs p < dg ls p)
theorem gi_app_lt {g : List Int} {m : Int} {j : Int} (h0 : 0 ≤ j) (h : j < g.length) : gi (g ++ [m]) j = gi g j := by
  unfold gi
  rw [List.getD_eq_getElem?_getD, List.getD_eq_getElem?_getD, List.getElem?_append_left (by omega)]
theorem gi_app_eq {g : List Int} {m : Int} {j : Int} (h : j = g.length) : gi (g ++ [m]) j = m := by
  unfold gi
  rw [List.getD_eq_getElem?_getD, List.getElem?_append_right (by omega)]
  have : j.toNat - g.length = 0 := by omega
  rw [this]; rfl
theorem rng_nodup {lo : Int} {n : Nat} : (rng lo n).Nodup := by
  unfold rng
  refine List.pairwise_map.mpr ?_
  refine List.Pairwise.imp (fun {a b} (h : a < b) => ?_) (List.pairwise_lt_range)
  omega
theorem same_by {a b : List Int} {n : Nat} (ha : a.length = n) (hb : b.length = n) (h : ∀ p : Int, 0 ≤ p → p < n → gi a p = gi b p) : a = b := by
  rw [list_tab ha, list_tab hb]
  refine List.map_congr_left fun p hp => ?_
  have := mem_rng.mp hp
  exact h p this.1 (by omega)
def lv (n : Nat) (ls : List Pr) (hs : List Int) (x : Int) : Nat := (due n ls hs).findIdx fun r => decide (x ∈ r)
theorem fire_row {n : Nat} {ls : List Pr} {hs : List Int} : ∀ (k : Nat) (b : List Int) (i : Nat) (r : List Int), (fire n ls hs k b)[i]? = some r → r = found n ls hs (b ++ ((fire n ls hs k b).take i).flatten)
  | 0, b, i, r, h => by simp [fire] at h
  | k + 1, b, i, r, h => by
    unfold fire at h ⊢
    split at h
    · simp at h
    · rename_i hne
      rw [if_neg hne]
      cases i with
      | zero => simp at h; simp [h.symm]
      | succ i =>
        rw [List.getElem?_cons_succ] at h
        have := fire_row k _ i r h
        rw [List.take_succ_cons, List.flatten_cons, ← List.append_assoc]
        exact this
theorem due_row {n : Nat} {ls : List Pr} {hs : List Int} {i : Nat} {r : List Int} (h : (due n ls hs)[i + 1]? = some r) : r = found n ls hs (((due n ls hs).take (i + 1)).flatten) := by
  unfold due at h ⊢
  rw [List.getElem?_cons_succ] at h
  rw [List.take_succ_cons, List.flatten_cons]
  exact fire_row n [0] i r h
theorem lv_lt {n : Nat} {ls : List Pr} {hs : List Int} {x : Int} {i : Nat} : x ∈ ((due n ls hs).take i).flatten ↔ lv n ls hs x < i ∧ x ∈ (due n ls hs).flatten := by
  unfold lv
  constructor
  · intro h
    obtain ⟨r, hr, hx⟩ := List.mem_flatten.mp h
    obtain ⟨j, hj, e⟩ := List.getElem_of_mem hr
    rw [List.length_take] at hj
    rw [List.getElem_take] at e
    have hj' : j < (due n ls hs).length := by omega
    refine ⟨?_, List.mem_flatten.mpr ⟨r, by rw [← e]; exact List.getElem_mem _, hx⟩⟩
    apply Classical.byContradiction
    intro hn
    have := List.not_of_lt_findIdx (xs := due n ls hs) (p := fun r => decide (x ∈ r)) (i := j) (by omega)
    rw [e] at this
    simp [hx] at this
  · rintro ⟨h1, h2⟩
    have hl : (due n ls hs).findIdx (fun r => decide (x ∈ r)) < (due n ls hs).length := by
      refine List.findIdx_lt_length_of_exists ?_
      obtain ⟨r, hr, hx⟩ := List.mem_flatten.mp h2
      exact ⟨r, hr, by simpa using hx⟩
    have h3 := List.findIdx_getElem (w := hl)
    refine List.mem_flatten.mpr ⟨_, ?_, by simpa using h3⟩
    refine List.mem_iff_getElem.mpr ⟨(due n ls hs).findIdx fun r => decide (x ∈ r), by rw [List.length_take]; omega, ?_⟩
    rw [List.getElem_take]
structure Lev (n : Nat) (ls : List Pr) (hs : List Int) (L : Int → Nat) : Prop where
  z : L 0 = 0
  up : ∀ v : Int, 1 ≤ v → v < n → 1 ≤ L v
  le : ∀ v : Int, 1 ≤ v → v < n → (((nb ls v).filter fun x => decide (L v ≤ L x)).length : Int) ≤ gi hs v
theorem all_due {n : Nat} {ls : List Pr} {hs : List Int} (hl : left n ls hs = []) {x : Int} (x0 : 0 ≤ x) (x1 : x < n) : x ∈ (due n ls hs).flatten := by
  apply Classical.byContradiction
  intro hn
  have : x ∈ left n ls hs := mem_left.mpr ⟨⟨x0, x1⟩, hn⟩
  rw [hl] at this
  cases this
theorem lev {n : Nat} {ls : List Pr} {hs : List Int} (w : Web n ls) (hl : left n ls hs = []) : Lev n ls hs (lv n ls hs) := by
  have key : ∀ v : Int, 1 ≤ v → v < n → 1 ≤ lv n ls hs v ∧ (((nb ls v).filter fun x => decide (lv n ls hs v ≤ lv n ls hs x)).length : Int) ≤ gi hs v := fun v v1 v2 => by
    have hv := all_due hl (show 0 ≤ v by omega) v2
    have h1 : 1 ≤ lv n ls hs v := by
      apply Classical.byContradiction
      intro hn
      have : v ∈ ((due n ls hs).take 1).flatten := lv_lt.mpr ⟨by omega, hv⟩
      unfold due at this
      simp at this
      omega
    refine ⟨h1, ?_⟩
    obtain ⟨i, ei⟩ : ∃ i, lv n ls hs v = i + 1 := ⟨lv n ls hs v - 1, by omega⟩
    have hlen : lv n ls hs v < (due n ls hs).length := by
      unfold lv
      refine List.findIdx_lt_length_of_exists ?_
      obtain ⟨r, hr, hx⟩ := List.mem_flatten.mp hv
      exact ⟨r, hr, by simpa using hx⟩
    have h3 := List.findIdx_getElem (xs := due n ls hs) (p := fun r => decide (v ∈ r)) (w := hlen)
    have hr : (due n ls hs)[i + 1]? = some ((due n ls hs)[lv n ls hs v]) := by
      rw [← ei, List.getElem?_eq_getElem hlen]
    have er := due_row hr
    have hv2 : v ∈ (due n ls hs)[lv n ls hs v] := of_decide_eq_true h3
    rw [er] at hv2
    have hc := (List.mem_filter.mp hv2).2
    unfold cond at hc
    rw [Bool.and_eq_true, decide_eq_true_eq, decide_eq_true_eq] at hc
    have eo : opens ls v (((due n ls hs).take (i + 1)).flatten) = ((nb ls v).filter fun x => decide (lv n ls hs v ≤ lv n ls hs x)).length := by
      unfold opens
      congr 1
      refine List.filter_congr fun x hx => ?_
      obtain ⟨x0, x1⟩ := nb_in w hx
      rw [decide_eq_decide]
      have := all_due hl x0 x1
      constructor
      · intro h
        apply Classical.byContradiction
        intro h2
        exact h (lv_lt.mpr ⟨by omega, this⟩)
      · intro h h2
        have := (lv_lt.mp h2).1
        omega
    rw [← eo]; exact hc.2
  refine ⟨?_, fun v v1 v2 => (key v v1 v2).1, fun v v1 v2 => (key v v1 v2).2⟩
  unfold lv due
  simp [List.findIdx_cons]
theorem lv_row {n : Nat} {ls : List Pr} {hs : List Int} {i : Nat} {r : List Int} (hr : (due n ls hs)[i]? = some r) {x : Int} (hx : x ∈ r) : lv n ls hs x = i := by
  have hi : i < (due n ls hs).length := (List.getElem?_eq_some_iff.mp hr).1
  have hrr : (due n ls hs)[i] = r := (List.getElem?_eq_some_iff.mp hr).2
  have hle : lv n ls hs x ≤ i := by
    apply Classical.byContradiction
    intro hn
    have := List.not_of_lt_findIdx (xs := due n ls hs) (p := fun r => decide (x ∈ r)) (i := i) (show i < lv n ls hs x by omega)
    rw [hrr] at this
    simp [hx] at this
  by_cases h0 : i = 0
  · omega
  · obtain ⟨j, rfl⟩ : ∃ j, i = j + 1 := ⟨i - 1, by omega⟩
    have er := due_row hr
    rw [er] at hx
    have hc := (List.mem_filter.mp hx).2
    unfold cond at hc
    rw [Bool.and_eq_true, decide_eq_true_eq] at hc
    apply Classical.byContradiction
    intro hn
    refine hc.1 (lv_lt.mpr ⟨by omega, ?_⟩)
    refine List.mem_flatten.mpr ⟨_, List.mem_of_getElem? hr, ?_⟩
    rw [er]; exact hx
structure Web0 (n : Nat) (ls : List Pr) : Prop where
  ends : ∀ l ∈ ls, (0 ≤ l.1 ∧ l.1 < n) ∧ 0 ≤ l.2 ∧ l.2 < n
theorem nb_in0 {n : Nat} {ls : List Pr} (w : Web0 n ls) {p x : Int} (h : x ∈ nb ls p) : 0 ≤ x ∧ x < n := by
  obtain ⟨l, hl, rfl⟩ := List.mem_map.mp h
  obtain ⟨h1, h2⟩ := List.mem_filter.mp hl
  obtain ⟨e1, e2⟩ := w.ends l h1
  unfold touch at h2
  rw [decide_eq_true_eq] at h2
  rcases h2 with h2 | h2 <;> constructor <;> omega
theorem sortI_mem {xs : List Int} {a : Int} : a ∈ sortI xs ↔ a ∈ xs := (List.mergeSort_perm xs _).mem_iff
theorem sortI_len {xs : List Int} : (sortI xs).length = xs.length := (List.mergeSort_perm xs _).length_eq
theorem sortI_pw (xs : List Int) : (sortI xs).Pairwise (· ≤ ·) := by
  have h := List.pairwise_mergeSort (le := fun a b : Int => decide (a ≤ b)) (fun a b c h1 h2 => by simp at *; omega) (fun a b => by simp; omega) xs
  exact h.imp fun z => by simpa using z
def ext : List Int → List Int → List Int
  | t, [] => t
  | t, x :: l => if x ∈ t then ext t l else ext (t ++ [x]) l
theorem ext_snoc : ∀ (l t : List Int) (x : Int), ext t (l ++ [x]) = if x ∈ ext t l then ext t l else ext t l ++ [x]
  | [], t, x => by
    show (if x ∈ t then t else t ++ [x]) = if x ∈ t then t else t ++ [x]
    rfl
  | y :: l, t, x => by
    show (if y ∈ t then ext t (l ++ [x]) else ext (t ++ [y]) (l ++ [x])) = _
    by_cases h : y ∈ t
    · rw [if_pos h, ext_snoc l t x]
      have e : ext t (y :: l) = ext t l := if_pos h
      rw [e]
    · rw [if_neg h, ext_snoc l _ x]
      have e : ext t (y :: l) = ext (t ++ [y]) l := if_neg h
      rw [e]
theorem ext_out : ∀ (l t r : List Int), l.Pairwise (· ≤ ·) → r.Pairwise (· < ·) → (∀ a ∈ r, ∀ b ∈ l, a ≤ b) → (∀ a ∈ r, a ∉ t) → ∃ r' : List Int, ext (t ++ r) l = t ++ r' ∧ r'.Pairwise (· < ·) ∧ (∀ x, x ∈ r' ↔ x ∈ r ∨ (x ∈ l ∧ x ∉ t))
  | [], t, r, _, hr, _, _ => ⟨r, rfl, hr, fun x => by simp⟩
  | y :: l, t, r, hl, hr, hrl, hrt => by
    obtain ⟨h1, h2⟩ := List.pairwise_cons.mp hl
    by_cases h : y ∈ t ++ r
    · have e : ext (t ++ r) (y :: l) = ext (t ++ r) l := if_pos h
      obtain ⟨r', e1, e2, e3⟩ := ext_out l t r h2 hr (fun a ha b hb => hrl a ha b (List.mem_cons_of_mem _ hb)) hrt
      refine ⟨r', e.trans e1, e2, fun x => ?_⟩
      rw [e3]
      constructor
      · rintro (z | ⟨z1, z2⟩)
        · exact .inl z
        · exact .inr ⟨List.mem_cons_of_mem _ z1, z2⟩
      · rintro (z | ⟨z1, z2⟩)
        · exact .inl z
        · rcases List.mem_cons.mp z1 with rfl | z1
          · rcases List.mem_append.mp h with h | h
            · exact absurd h z2
            · exact .inl h
          · exact .inr ⟨z1, z2⟩
    · have e : ext (t ++ r) (y :: l) = ext (t ++ (r ++ [y])) l := by
        rw [← List.append_assoc]; exact if_neg h
      have hyt : y ∉ t := fun z => h (List.mem_append_left _ z)
      have hyr : y ∉ r := fun z => h (List.mem_append_right _ z)
      obtain ⟨r', e1, e2, e3⟩ := ext_out l t (r ++ [y]) h2 (List.pairwise_append.mpr ⟨hr, List.pairwise_singleton _ _, fun a ha b hb => by
        rw [List.mem_singleton.mp hb]
        have := hrl a ha y List.mem_cons_self
        have : a ≠ y := fun z => hyr (z ▸ ha)
        omega⟩) (fun a ha b hb => by
        rcases List.mem_append.mp ha with ha | ha
        · exact hrl a ha b (List.mem_cons_of_mem _ hb)
        · rw [List.mem_singleton.mp ha]; exact h1 b hb) (fun a ha => by
        rcases List.mem_append.mp ha with ha | ha
        · exact hrt a ha
        · rw [List.mem_singleton.mp ha]; exact hyt)
      refine ⟨r', e.trans e1, e2, fun x => ?_⟩
      rw [e3, List.mem_append, List.mem_singleton, List.mem_cons]
      constructor
      · rintro ((z | rfl) | ⟨z1, z2⟩)
        · exact .inl z
        · exact .inr ⟨.inl rfl, hyt⟩
        · exact .inr ⟨.inr z1, z2⟩
      · rintro (z | ⟨rfl | z1, z2⟩)
        · exact .inl (.inl z)
        · exact .inl (.inr rfl)
        · exact .inr ⟨z1, z2⟩
theorem lt_nodup {l : List Int} (h : l.Pairwise (· < ·)) : l.Nodup := h.imp fun z => by omega
theorem inc_eq {a b : List Int} (ha : a.Pairwise (· < ·)) (hb : b.Pairwise (· < ·)) (h : ∀ x, x ∈ a ↔ x ∈ b) : a = b :=
  List.Perm.eq_of_pairwise (le := (· < ·)) (fun x y _ _ h1 h2 => by omega) ha hb ((List.perm_ext_iff_of_nodup (lt_nodup ha) (lt_nodup hb)).mpr h)
theorem ext_eq {l t out : List Int} (hl : l.Pairwise (· ≤ ·)) (ho : out.Pairwise (· < ·)) (hm : ∀ k, k ∈ out ↔ k ∈ l) : ext t l = t ++ out.filter fun x => decide (x ∉ t) := by
  obtain ⟨r', e1, e2, e3⟩ := ext_out l t [] hl .nil (fun a ha => nomatch ha) (fun a ha => nomatch ha)
  rw [List.append_nil] at e1
  rw [e1]
  congr 1
  refine inc_eq e2 (ho.filter _) fun x => ?_
  rw [e3, List.mem_filter, hm]
  simp
theorem ext_mem : ∀ (l t : List Int) (x : Int), x ∈ ext t l ↔ x ∈ t ∨ x ∈ l
  | [], t, x => by simp [ext]
  | y :: l, t, x => by
    by_cases h : y ∈ t
    · have e : ext t (y :: l) = ext t l := if_pos h
      rw [e, ext_mem l t x, List.mem_cons]
      constructor
      · rintro (z | z)
        · exact .inl z
        · exact .inr (.inr z)
      · rintro (z | rfl | z)
        · exact .inl z
        · exact .inl h
        · exact .inr z
    · have e : ext t (y :: l) = ext (t ++ [y]) l := if_neg h
      rw [e, ext_mem l _ x, List.mem_append, List.mem_singleton, List.mem_cons, or_assoc]
theorem ext_nodup : ∀ (l t : List Int), t.Nodup → (ext t l).Nodup
  | [], t, h => h
  | y :: l, t, h => by
    by_cases hy : y ∈ t
    · have e : ext t (y :: l) = ext t l := if_pos hy
      rw [e]; exact ext_nodup l t h
    · have e : ext t (y :: l) = ext (t ++ [y]) l := if_neg hy
      rw [e]
      refine ext_nodup l _ (List.nodup_append.mpr ⟨h, by simp, fun a ha b hb => ?_⟩)
      rw [List.mem_singleton.mp hb]
      exact fun z => hy (z ▸ ha)
def bfs (ls : List Pr) : Nat → List Int → Nat → List Int
  | 0, t, _ => t
  | k + 1, t, i => if i < t.length then bfs ls k (ext t (sortI (nb ls (gi t i)))) (i + 1) else t
def reachL (n : Nat) (ls : List Pr) (p : Int) : List Int := sortI (bfs ls n [p] 0)
structure Lot (n : Nat) (t : List Int) : Prop where
  nd : t.Nodup
  sub : ∀ x ∈ t, 0 ≤ x ∧ x < n
theorem Lot.len {n : Nat} {t : List Int} (h : Lot n t) : t.length ≤ n := by
  have := List.Nodup.length_le_of_subset h.nd (l₂ := rng 0 n) fun x hx => mem_rng.mpr (by have := h.sub x hx; omega)
  rw [rng_length] at this; exact this
theorem Lot.ext {n : Nat} {ls : List Pr} {t : List Int} (w : Web0 n ls) (h : Lot n t) (p : Int) : Lot n (ext t (sortI (nb ls p))) :=
  ⟨ext_nodup _ _ h.nd, fun x hx => (ext_mem _ _ _).mp hx |>.elim (h.sub x) fun z => nb_in0 w (sortI_mem.mp z)⟩
theorem bfs_step {ls : List Pr} {k i : Nat} {t : List Int} (h : i < t.length) : bfs ls (k + 1) t i = bfs ls k (Mw.ext t (sortI (nb ls (gi t i)))) (i + 1) := if_pos h
theorem bfs_end {ls : List Pr} {k i : Nat} {t : List Int} (h : ¬ i < t.length) : bfs ls k t i = t := by
  cases k with
  | zero => rfl
  | succ k => exact if_neg h
theorem bfs_lot {n : Nat} {ls : List Pr} (w : Web0 n ls) : ∀ (k i : Nat) (t : List Int), Lot n t → Lot n (bfs ls k t i)
  | 0, i, t, h => h
  | k + 1, i, t, h => by
    by_cases hi : i < t.length
    · rw [bfs_step hi]; exact bfs_lot w k _ _ (h.ext w _)
    · rw [bfs_end hi]; exact h
theorem one_lot {n : Nat} {p : Int} (p0 : 0 ≤ p) (p1 : p < n) : Lot n [p] := ⟨by simp, fun x hx => by rw [List.mem_singleton.mp hx]; exact ⟨p0, p1⟩⟩
theorem reach_lot {n : Nat} {ls : List Pr} (w : Web0 n ls) {p : Int} (p0 : 0 ≤ p) (p1 : p < n) : (reachL n ls p).length ≤ n := by
  unfold reachL
  rw [sortI_len]
  exact (bfs_lot w n 0 [p] (one_lot p0 p1)).len
def Lm (As : List Pr) : D := .list (As.map pr)
def la (ls : List Pr) (k : Int) : Pr := ls.getD k.toNat (0, 0)
theorem gi_app_lt0 {g h : List Int} {i : Nat} (hi : i < g.length) : gi (g ++ h) i = gi g i := by
  unfold gi
  rw [List.getD_eq_getElem?_getD, List.getD_eq_getElem?_getD]
  have : ((i : Nat) : Int).toNat = i := by omega
  rw [this, List.getElem?_append_left hi]
theorem la_at {ls : List Pr} {k : Int} (h0 : 0 ≤ k) (h1 : k < ls.length) : atI (ls.map pr) k = some (pr (la ls k)) := by
  refine atI_ok h0 (by simpa using h1) ?_
  unfold la
  rw [List.getElem?_map, List.getD_eq_getElem?_getD]
  have : k.toNat < ls.length := by omega
  rw [List.getElem?_eq_getElem this]; rfl
theorem la_mem {ls : List Pr} {k : Int} (h0 : 0 ≤ k) (h1 : k < ls.length) : la ls k ∈ ls := by
  unfold la
  rw [List.getD_eq_getElem?_getD]
  have : k.toNat < ls.length := by omega
  rw [List.getElem?_eq_getElem this]
  exact List.getElem_mem _
theorem la_tab (ls : List Pr) : ls = (rng 0 ls.length).map (la ls) := by
  refine List.ext_getElem? fun i => ?_
  rw [List.getElem?_map]
  by_cases hi : i < ls.length
  · rw [rng_get hi, List.getElem?_eq_getElem hi]
    show _ = some (la ls (0 + (i : Int)))
    unfold la
    rw [List.getD_eq_getElem?_getD]
    have : (0 + (i : Int)).toNat = i := by omega
    rw [this, List.getElem?_eq_getElem hi]; rfl
  · rw [List.getElem?_eq_none (by omega), List.getElem?_eq_none (by rw [rng_length]; omega)]; rfl
theorem la_ex {ls : List Pr} {l : Pr} (h : l ∈ ls) : ∃ k : Int, 0 ≤ k ∧ k < ls.length ∧ la ls k = l := by
  rw [la_tab ls] at h
  obtain ⟨k, hk, e⟩ := List.mem_map.mp h
  have := mem_rng.mp hk
  exact ⟨k, by omega, by omega, e⟩
def oe (ls : List Pr) (p k : Int) : Int := (la ls k).1 + (la ls k).2 - p
def mn (ls : List Pr) (p : Int) : List Int := (rng 0 ls.length).filter fun k => touch p (la ls k)
theorem mn_nb {ls : List Pr} {p : Int} : (mn ls p).map (oe ls p) = nb ls p := by
  have h : nb ((rng 0 ls.length).map (la ls)) p = (mn ls p).map (oe ls p) := by
    unfold nb mn oe
    rw [List.filter_map, List.map_map]; rfl
  rw [← la_tab ls] at h
  exact h.symm
theorem mem_mn {ls : List Pr} {p k : Int} : k ∈ mn ls p ↔ (0 ≤ k ∧ k < ls.length) ∧ touch p (la ls k) = true := by
  unfold mn
  rw [List.mem_filter, mem_rng]
  constructor
  · rintro ⟨⟨a, b⟩, c⟩; exact ⟨⟨a, by omega⟩, c⟩
  · rintro ⟨⟨a, b⟩, c⟩; exact ⟨⟨a, by omega⟩, c⟩
theorem mn_cnt {ls : List Pr} {p : Int} (P : Int → Bool) : ((mn ls p).filter fun k => P (oe ls p k)).length = ((nb ls p).filter P).length := by
  rw [← mn_nb, List.filter_map, List.length_map]; rfl
theorem mn_len {ls : List Pr} {p : Int} : (mn ls p).length ≤ ls.length := by
  have := List.length_filter_le (fun k => touch p (la ls k)) (rng 0 ls.length)
  rw [rng_length] at this; exact this
theorem touch_oe {ls : List Pr} {p k : Int} (h : touch p (la ls k) = true) : touch (oe ls p k) (la ls k) = true ∧ oe ls (oe ls p k) k = p ∧ ((la ls k).1 = p ∧ (la ls k).2 = oe ls p k ∨ (la ls k).2 = p ∧ (la ls k).1 = oe ls p k) := by
  unfold touch oe at *
  rw [decide_eq_true_eq] at *
  refine ⟨by omega, by omega, by omega⟩
theorem oe_in {n : Nat} {ls : List Pr} (w : Web n ls) {p k : Int} (h0 : 0 ≤ k) (h1 : k < ls.length) (h : touch p (la ls k) = true) : (0 ≤ oe ls p k ∧ oe ls p k < n) ∧ 0 ≤ p ∧ p < n := by
  obtain ⟨⟨a, b⟩, c, d⟩ := w.ends _ (la_mem h0 h1)
  unfold touch oe at *
  rw [decide_eq_true_eq] at *
  omega
structure B where
  bf : Int → Int
  bk : Int → Int
  od : List Int
def up (f : Int → Int) (k v : Int) : Int → Int := fun p => if p = k then v else f p
def bst (ls : List Pr) (p : Int) (s : B) (k : Int) : B :=
  if touch p (la ls k) = true ∧ oe ls p k ∉ s.od then ⟨up s.bf (oe ls p k) p, up s.bk (oe ls p k) (s.bk p + 1), s.od ++ [oe ls p k]⟩ else s
def bgo (ls : List Pr) (ts : List Int) : Nat → Nat → B → B
  | 0, _, s => s
  | f + 1, i, s => if i < s.od.length then bgo ls ts f (i + 1) (ts.foldl (bst ls (gi s.od i)) s) else s
def b0 : B := ⟨fun _ => -1, fun _ => 0, [0]⟩
def bres (n : Nat) (ls : List Pr) (ts : List Int) : B := bgo ls ts n 0 b0
structure BI (n : Nat) (ls : List Pr) (ts : List Int) (s : B) : Prop where
  lot : Lot n s.od
  z : 0 ∈ s.od
  z2 : s.bf 0 = -1
  zk : s.bk 0 = 0
  out : ∀ g, g ∉ s.od → s.bf g = -1
  inn : ∀ g ∈ s.od, g ≠ 0 → s.bf g ∈ s.od ∧ s.bk g = s.bk (s.bf g) + 1 ∧ ∃ k ∈ ts, touch g (la ls k) = true ∧ oe ls g k = s.bf g
  kn : ∀ g, 0 ≤ s.bk g
def TsOk (ls : List Pr) (ts : List Int) : Prop := ∀ k ∈ ts, 0 ≤ k ∧ k < ls.length
theorem b0_inv {n : Nat} {ls : List Pr} {ts : List Int} (hn : 1 ≤ n) : BI n ls ts b0 :=
  ⟨one_lot (by decide) (by omega), by simp [b0], rfl, rfl, fun _ _ => rfl, fun g hg h => absurd (List.mem_singleton.mp hg) h, fun _ => Int.le_refl 0⟩
theorem bst_inv {n : Nat} {ls : List Pr} {ts : List Int} (w : Web n ls) (tk : TsOk ls ts) {p k : Int} {s : B} (h : BI n ls ts s) (hp : p ∈ s.od) (hk : k ∈ ts) : BI n ls ts (bst ls p s k) := by
  unfold bst
  by_cases c : touch p (la ls k) = true ∧ oe ls p k ∉ s.od
  · rw [if_pos c]
    obtain ⟨c1, c2⟩ := c
    obtain ⟨k0, k1⟩ := tk k hk
    obtain ⟨⟨g0, g1⟩, _⟩ := oe_in w k0 k1 c1
    obtain ⟨t1, t2, _⟩ := touch_oe c1
    have gz : oe ls p k ≠ 0 := fun e => c2 (e ▸ h.z)
    have ne : ∀ g ∈ s.od, g ≠ oe ls p k := fun g hg e => c2 (e ▸ hg)
    refine ⟨⟨List.nodup_append.mpr ⟨h.lot.nd, by simp, fun a ha b hb => ?_⟩, fun x hx => ?_⟩, List.mem_append_left _ h.z, ?_, ?_, fun g hg => ?_, fun g hg g0 => ?_, fun g => ?_⟩
    · rw [List.mem_singleton.mp hb]; exact ne a ha
    · rcases List.mem_append.mp hx with hx | hx
      · exact h.lot.sub x hx
      · rw [List.mem_singleton.mp hx]; exact ⟨g0, g1⟩
    · show up s.bf _ p 0 = -1
      unfold up
      rw [if_neg (Ne.symm gz)]; exact h.z2
    · show up s.bk _ _ 0 = 0
      unfold up
      rw [if_neg (Ne.symm gz)]; exact h.zk
    · show up s.bf _ p g = -1
      unfold up
      have : g ≠ oe ls p k := fun e => hg (List.mem_append_right _ (List.mem_singleton.mpr e))
      rw [if_neg this]
      exact h.out g fun z => hg (List.mem_append_left _ z)
    · show up s.bf _ p g ∈ s.od ++ [_] ∧ up s.bk _ _ g = up s.bk _ _ (up s.bf _ p g) + 1 ∧ ∃ k ∈ ts, touch g (la ls k) = true ∧ oe ls g k = up s.bf _ p g
      rcases List.mem_append.mp hg with hg | hg
      · obtain ⟨i1, i2, i3⟩ := h.inn g hg g0
        have e1 : up s.bf (oe ls p k) p g = s.bf g := if_neg (ne g hg)
        rw [e1]
        refine ⟨List.mem_append_left _ i1, ?_, i3⟩
        unfold up
        rw [if_neg (ne g hg), if_neg (ne _ i1)]; exact i2
      · have eg := List.mem_singleton.mp hg
        subst eg
        have e1 : up s.bf (oe ls p k) p (oe ls p k) = p := if_pos rfl
        rw [e1]
        refine ⟨List.mem_append_left _ hp, ?_, k, hk, t1, t2⟩
        unfold up
        rw [if_pos rfl, if_neg (ne p hp)]
    · show 0 ≤ up s.bk _ _ g
      unfold up
      have := h.kn p
      have := h.kn g
      split <;> omega
  · rw [if_neg c]; exact h
theorem bst_app {ls : List Pr} {p k : Int} {s : B} : ∃ e, (bst ls p s k).od = s.od ++ e := by
  unfold bst
  split
  · exact ⟨_, rfl⟩
  · exact ⟨[], by simp⟩
theorem fold_inv {n : Nat} {ls : List Pr} {ts : List Int} (w : Web n ls) (tk : TsOk ls ts) {p : Int} : ∀ (l : List Int) (s : B), (∀ k ∈ l, k ∈ ts) → BI n ls ts s → p ∈ s.od →
    BI n ls ts (l.foldl (bst ls p) s) ∧ (∃ e, (l.foldl (bst ls p) s).od = s.od ++ e) ∧ ∀ k ∈ l, touch p (la ls k) = true → oe ls p k ∈ (l.foldl (bst ls p) s).od
  | [], s, _, h, hp => ⟨h, ⟨[], by simp⟩, fun k hk => by cases hk⟩
  | k :: l, s, hl, h, hp => by
    obtain ⟨e, he⟩ := bst_app (ls := ls) (p := p) (k := k) (s := s)
    have h1 := bst_inv w tk h hp (hl k List.mem_cons_self)
    obtain ⟨i1, ⟨e2, i2⟩, i3⟩ := fold_inv w tk l (bst ls p s k) (fun x hx => hl x (List.mem_cons_of_mem _ hx)) h1 (by rw [he]; exact List.mem_append_left _ hp)
    rw [List.foldl_cons]
    refine ⟨i1, ⟨e ++ e2, by rw [i2, he, List.append_assoc]⟩, fun x hx ht => ?_⟩
    rcases List.mem_cons.mp hx with rfl | hx
    · have : oe ls p x ∈ (bst ls p s x).od := by
        unfold bst
        by_cases c : oe ls p x ∈ s.od
        · rw [if_neg (fun z => z.2 c)]; exact c
        · rw [if_pos ⟨ht, c⟩]; simp
      rw [i2]; exact List.mem_append_left _ this
    · exact i3 x hx ht
theorem bgo_inv {n : Nat} {ls : List Pr} {ts : List Int} (w : Web n ls) (tk : TsOk ls ts) : ∀ (f i : Nat) (s : B), BI n ls ts s → i ≤ s.od.length → n ≤ f + i → (∀ x ∈ s.od.take i, ∀ k ∈ ts, touch x (la ls k) = true → oe ls x k ∈ s.od) →
    BI n ls ts (bgo ls ts f i s) ∧ ∀ x ∈ (bgo ls ts f i s).od, ∀ k ∈ ts, touch x (la ls k) = true → oe ls x k ∈ (bgo ls ts f i s).od
  | 0, i, s, h, hi, hf, hc => by
    have := h.lot.len
    refine ⟨h, fun x hx => hc x ?_⟩
    rw [List.take_of_length_le (by omega)]; exact hx
  | f + 1, i, s, h, hi, hf, hc => by
    by_cases c : i < s.od.length
    · have e : bgo ls ts (f + 1) i s = bgo ls ts f (i + 1) (ts.foldl (bst ls (gi s.od i)) s) := if_pos c
      rw [e]
      have hm : gi s.od i ∈ s.od := by
        unfold gi
        rw [List.getD_eq_getElem?_getD]
        have : ((i : Nat) : Int).toNat = i := by omega
        rw [this, List.getElem?_eq_getElem c]
        exact List.getElem_mem _
      obtain ⟨i1, ⟨e2, i2⟩, i3⟩ := fold_inv w tk ts s (fun _ h => h) h hm
      refine bgo_inv w tk f (i + 1) _ i1 (by rw [i2, List.length_append]; omega) (by omega) fun x hx k hk ht => ?_
      rw [i2, List.take_append_of_le_length (by omega), List.take_succ] at hx
      rcases List.mem_append.mp hx with hx | hx
      · rw [i2]; exact List.mem_append_left _ (hc x hx k hk ht)
      · rw [List.getElem?_eq_getElem c] at hx
        have ex : x = gi s.od i := by
          have hx2 : x = s.od[i] := by simpa using hx
          rw [hx2]
          unfold gi
          rw [List.getD_eq_getElem?_getD]
          have : ((i : Nat) : Int).toNat = i := by omega
          rw [this, List.getElem?_eq_getElem c]; rfl
        subst ex
        exact i3 k hk ht
    · have e : bgo ls ts (f + 1) i s = s := if_neg c
      rw [e]
      refine ⟨h, fun x hx => hc x ?_⟩
      rw [List.take_of_length_le (by omega)]; exact hx
structure Tr (n : Nat) (ls : List Pr) (ts : List Int) : Prop where
  ok : TsOk ls ts
  nd : ts.Nodup
  len : ts.length = n - 1
  con : ∀ x : Int, 0 ≤ x → x < n → ∀ S : Int → Prop, (∀ k ∈ ts, S (la ls k).1 ↔ S (la ls k).2) → S 0 → S x
theorem bres_inv {n : Nat} {ls : List Pr} {ts : List Int} (hn : 1 ≤ n) (w : Web n ls) (tk : TsOk ls ts) : BI n ls ts (bres n ls ts) ∧ ∀ x ∈ (bres n ls ts).od, ∀ k ∈ ts, touch x (la ls k) = true → oe ls x k ∈ (bres n ls ts).od :=
  bgo_inv w tk n 0 b0 (b0_inv hn) (by simp) (by omega) (fun x hx => by simp at hx)
theorem Tr.all {n : Nat} {ls : List Pr} {ts : List Int} (hn : 1 ≤ n) (w : Web n ls) (T : Tr n ls ts) {x : Int} (x0 : 0 ≤ x) (x1 : x < n) : x ∈ (bres n ls ts).od := by
  obtain ⟨h1, h2⟩ := bres_inv hn w T.ok
  refine T.con x x0 x1 (fun y => y ∈ (bres n ls ts).od) (fun k hk => ?_) h1.z
  have ta : touch (la ls k).1 (la ls k) = true := by unfold touch; simp
  have tb : touch (la ls k).2 (la ls k) = true := by unfold touch; simp
  constructor
  · intro h
    have := h2 _ h k hk ta
    unfold oe at this
    have e : (la ls k).1 + (la ls k).2 - (la ls k).1 = (la ls k).2 := by omega
    rw [e] at this; exact this
  · intro h
    have := h2 _ h k hk tb
    unfold oe at this
    have e : (la ls k).1 + (la ls k).2 - (la ls k).2 = (la ls k).1 := by omega
    rw [e] at this; exact this
structure Lab (n : Nat) (ls : List Pr) (ts : List Int) (L : Int → Int) : Prop where
  inr : ∀ x : Int, 0 ≤ x → x < n → 0 ≤ L x ∧ L x < n
  idem : ∀ x : Int, 0 ≤ x → x < n → L (L x) = L x
  tl : ∀ k ∈ ts, L (la ls k).1 = L (la ls k).2
  cl : ∀ x y : Int, 0 ≤ x → x < n → 0 ≤ y → y < n → L x = L y → ∀ S : Int → Prop, (∀ k ∈ ts, S (la ls k).1 ↔ S (la ls k).2) → (S x ↔ S y)
  cnt : ((rng 0 n).filter fun x => decide (L x = x)).length + ts.length = n
theorem Lab.nil {n : Nat} {ls : List Pr} : Lab n ls [] id :=
  ⟨fun x a b => ⟨a, b⟩, fun _ _ _ => rfl, fun k hk => (nomatch hk), fun x y _ _ _ _ e S _ => by
    have e' : x = y := e
    subst e'
    exact Iff.rfl, by simp; rw [List.filter_eq_self.mpr (fun _ _ => rfl), rng_length]⟩
def mrg (L : Int → Int) (a b : Int) : Int → Int := fun x => if L x = L b then L a else L x
theorem Lab.step {n : Nat} {ls : List Pr} {ts : List Int} {L : Int → Int} (w : ∀ l ∈ ls, (0 ≤ l.1 ∧ l.1 < (n : Int)) ∧ 0 ≤ l.2 ∧ l.2 < (n : Int)) (tk : TsOk ls ts) (h : Lab n ls ts L) {k : Int} (k0 : 0 ≤ k) (k1 : k < ls.length) (hne : L (la ls k).1 ≠ L (la ls k).2) :
    Lab n ls (ts ++ [k]) (mrg L (la ls k).1 (la ls k).2) := by
  obtain ⟨⟨a0, a1⟩, c0, c1⟩ := w _ (la_mem k0 k1)
  have ia := h.inr _ a0 a1
  have ic := h.inr _ c0 c1
  refine ⟨fun x x0 x1 => ?_, fun x x0 x1 => ?_, fun j hj => ?_, fun x y x0 x1 y0 y1 e S hS => ?_, ?_⟩
  · unfold mrg
    split
    · exact ia
    · exact h.inr x x0 x1
  · by_cases e : L x = L (la ls k).2
    · have e1 : mrg L (la ls k).1 (la ls k).2 x = L (la ls k).1 := if_pos e
      rw [e1]
      unfold mrg
      rw [h.idem _ a0 a1, if_neg hne]
    · have e1 : mrg L (la ls k).1 (la ls k).2 x = L x := if_neg e
      rw [e1]
      unfold mrg
      rw [h.idem _ x0 x1, if_neg e]
  · rcases List.mem_append.mp hj with hj | hj
    · have := h.tl j hj
      unfold mrg
      rw [this]
    · rw [List.mem_singleton.mp hj]
      unfold mrg
      rw [if_neg hne, if_pos rfl]
  · have hS1 : ∀ k ∈ ts, S (la ls k).1 ↔ S (la ls k).2 := fun j hj => hS j (List.mem_append_left _ hj)
    have hS2 := hS k (by simp)
    unfold mrg at e
    have C := h.cl
    by_cases ex : L x = L (la ls k).2 <;> by_cases ey : L y = L (la ls k).2
    · exact C x y x0 x1 y0 y1 (ex.trans ey.symm) S hS1
    · rw [if_pos ex, if_neg ey] at e
      exact (C x _ x0 x1 c0 c1 ex S hS1).trans (hS2.symm.trans (C _ y a0 a1 y0 y1 e S hS1))
    · rw [if_neg ex, if_pos ey] at e
      exact (C x _ x0 x1 a0 a1 e S hS1).trans (hS2.trans (C _ y c0 c1 y0 y1 ey.symm S hS1))
    · rw [if_neg ex, if_neg ey] at e
      exact C x y x0 x1 y0 y1 e S hS1
  · have key : ((rng 0 n).filter fun x => decide (mrg L (la ls k).1 (la ls k).2 x = x)).length + 1 = ((rng 0 n).filter fun x => decide (L x = x)).length := by
      have e1 : ((rng 0 n).filter fun x => decide (mrg L (la ls k).1 (la ls k).2 x = x)) = ((rng 0 n).filter fun x => decide (L x = x)).filter fun x => decide (x ≠ L (la ls k).2) := by
        rw [List.filter_filter]
        refine List.filter_congr fun x hx => ?_
        have hx' := mem_rng.mp hx
        rw [Bool.eq_iff_iff]
        simp only [Bool.and_eq_true, decide_eq_true_eq]
        unfold mrg
        constructor
        · intro e
          split at e
          · rename_i c
            exfalso
            apply hne
            have : L (L (la ls k).1) = L x := by rw [e]
            rw [h.idem _ a0 a1] at this
            rw [this, c]
          · rename_i c
            exact ⟨fun z => c (by rw [z, h.idem _ c0 c1]), e⟩
        · rintro ⟨e1, e2⟩
          rw [if_neg (fun z => e1 (by rw [← e2, z]))]; exact e2
      rw [e1]
      have hm : L (la ls k).2 ∈ (rng 0 n).filter fun x => decide (L x = x) := List.mem_filter.mpr ⟨mem_rng.mpr ⟨ic.1, by omega⟩, by rw [decide_eq_true_eq]; exact h.idem _ c0 c1⟩
      have hnd : ((rng 0 n).filter fun x => decide (L x = x)).Nodup := rng_nodup.filter _
      have e2 : (((rng 0 n).filter fun x => decide (L x = x)).filter fun x => decide (x ≠ L (la ls k).2)) = ((rng 0 n).filter fun x => decide (L x = x)).erase (L (la ls k).2) := by
        rw [hnd.erase_eq_filter]
        refine List.filter_congr fun x _ => ?_
        by_cases e : x = L (la ls k).2 <;> simp [e]
      rw [e2, List.length_erase_of_mem hm]
      have := List.length_pos_of_mem hm
      omega
    have := h.cnt
    rw [List.length_append, List.length_singleton]
    omega
theorem Lab.done {n : Nat} {ls : List Pr} {ts : List Int} {L : Int → Int} (hn : 1 ≤ n) (w : Web n ls) (tk : TsOk ls ts) (nd : ts.Nodup) (h : Lab n ls ts L) (ha : ∀ k : Int, 0 ≤ k → k < ls.length → L (la ls k).1 = L (la ls k).2) : Tr n ls ts := by
  have all : ∀ m : Nat, (m : Int) < n → L m = L 0 := by
    intro m
    induction m using Nat.strongRecOn with
    | _ m ih =>
      intro hm
      by_cases z : m = 0
      · rw [z]; rfl
      · obtain ⟨l, hl, e⟩ := w.dn m (by omega) hm
        obtain ⟨k, k0, k1, ek⟩ := la_ex hl
        have h1 := ha k k0 k1
        rw [ek, e] at h1
        have lt := w.lt l hl
        have en := (w.ends l hl).1
        obtain ⟨j, ej⟩ : ∃ j : Nat, l.1 = (j : Int) := ⟨l.1.toNat, by omega⟩
        rw [← h1, ej]
        exact ih j (by omega) (by omega)
  have all' : ∀ x : Int, 0 ≤ x → x < n → L x = L 0 := fun x x0 x1 => by
    obtain ⟨j, ej⟩ : ∃ j : Nat, x = (j : Int) := ⟨x.toNat, by omega⟩
    rw [ej]; exact all j (by omega)
  refine ⟨tk, nd, ?_, fun x x0 x1 S hS s0 => (h.cl x 0 x0 x1 (by decide) (by omega) (all' x x0 x1) S hS).mpr s0⟩
  have e : ((rng 0 n).filter fun x => decide (L x = x)) = [L 0] := by
    have i0 := h.inr 0 (by decide) (by omega)
    have hnd : ((rng 0 n).filter fun x => decide (L x = x)).Nodup := rng_nodup.filter _
    have hm : ∀ x, x ∈ ((rng 0 n).filter fun x => decide (L x = x)) ↔ x ∈ [L 0] := fun x => by
      rw [List.mem_filter, mem_rng, decide_eq_true_eq, List.mem_singleton]
      constructor
      · rintro ⟨⟨x0, x1⟩, e⟩
        rw [← e]; exact all' x x0 (by omega)
      · rintro rfl
        exact ⟨⟨i0.1, by omega⟩, h.idem 0 (by decide) (by omega)⟩
    have := (List.perm_ext_iff_of_nodup hnd (by simp)).mpr hm
    exact List.perm_singleton.mp this
  have := h.cnt
  rw [e, List.length_singleton] at this
  omega
structure Bkd (n : Nat) (ls : List Pr) (hs : List Int) (b : Int → Int) : Prop where
  z : b 0 = 0
  up : ∀ v : Int, 1 ≤ v → v < n → 1 ≤ b v
  lo : ∀ v : Int, 1 ≤ v → v < n → (((nb ls v).filter fun x => decide (b v ≤ b x)).length : Int) ≤ gi hs v
  hi : ∀ v : Int, 1 ≤ v → v < n → gi hs v < (((nb ls v).filter fun x => decide (b v ≤ b x)).length : Int) + (((nb ls v).filter fun x => decide (b x = b v - 1)).length : Int)
theorem cnt_le {α : Type} {l : List α} {p q : α → Bool} (h : ∀ x ∈ l, p x = true → q x = true) : (l.filter p).length ≤ (l.filter q).length := by
  have e : l.filter p = (l.filter q).filter p := by
    rw [List.filter_filter]
    refine List.filter_congr fun x hx => ?_
    by_cases hp : p x = true
    · rw [hp, h x hx hp]; rfl
    · rw [Bool.not_eq_true] at hp; rw [hp]; rfl
  rw [e]; exact List.length_filter_le _ _
theorem cnt_add {α : Type} {l : List α} {p q r : α → Bool} (h : ∀ x ∈ l, p x = true → r x = true ∧ q x = false) (h2 : ∀ x ∈ l, q x = true → r x = true) : (l.filter p).length + (l.filter q).length ≤ (l.filter r).length := by
  induction l with
  | nil => simp
  | cons a t ih =>
    have i := ih (fun x hx => h x (List.mem_cons_of_mem _ hx)) (fun x hx => h2 x (List.mem_cons_of_mem _ hx))
    have h1 := h a List.mem_cons_self
    have h3 := h2 a List.mem_cons_self
    rw [List.filter_cons, List.filter_cons, List.filter_cons]
    cases hp : p a <;> cases hq : q a <;> cases hr : r a <;> simp_all <;> omega
theorem Bkd.cond {n : Nat} {ls : List Pr} {hs : List Int} {b : Int → Int} (w : Web n ls) (K : Bkd n ls hs b) {bt : List Int} {i : Nat} (hb : ∀ x : Int, 0 ≤ x → x < n → (x ∈ bt ↔ b x < i)) {x : Int} (x1 : 1 ≤ x) (x2 : x < n) : cond ls hs bt x = true ↔ b x = i := by
  unfold Mw.cond
  rw [Bool.and_eq_true, decide_eq_true_eq, decide_eq_true_eq, hb x (by omega) x2]
  have eo : opens ls x bt = ((nb ls x).filter fun y => decide ((i : Int) ≤ b y)).length := by
    unfold opens
    congr 1
    refine List.filter_congr fun y hy => ?_
    obtain ⟨y0, y1⟩ := nb_in w hy
    rw [decide_eq_decide, hb y y0 y1]; omega
  rw [eo]
  have l1 := K.lo x x1 x2
  have l2 := K.hi x x1 x2
  constructor
  · rintro ⟨h1, h2⟩
    apply Classical.byContradiction
    intro hne
    have := cnt_add (l := nb ls x) (p := fun y => decide (b x ≤ b y)) (q := fun y => decide (b y = b x - 1)) (r := fun y => decide ((i : Int) ≤ b y)) (fun y _ h => by
      simp at h; simp; omega) (fun y _ h => by simp at h; simp; omega)
    omega
  · intro e
    rw [e] at l1
    exact ⟨by omega, l1⟩
theorem Bkd.rows {n : Nat} {ls : List Pr} {hs : List Int} {b : Int → Int} (w : Web n ls) (hn : 1 ≤ n) (K : Bkd n ls hs b) : ∀ i : Nat, 1 ≤ i → i ≤ (due n ls hs).length → ∀ x : Int, 0 ≤ x → x < n → (x ∈ ((due n ls hs).take i).flatten ↔ b x < i)
  | 0, h, _, _, _, _ => by omega
  | 1, _, _, x, x0, x1 => by
    unfold due
    simp
    by_cases e : x = 0
    · rw [e, K.z]; simp
    · have := K.up x (by omega) x1
      constructor
      · intro z; exact absurd z e
      · intro z; omega
  | i + 2, _, hl, x, x0, x1 => by
    have ih := Bkd.rows w hn K (i + 1) (by omega) (by omega)
    have hg : (due n ls hs)[i + 1]? = some ((due n ls hs)[i + 1]'(by omega)) := List.getElem?_eq_getElem (by omega)
    have er := due_row hg
    rw [List.take_succ, List.flatten_append, List.mem_append, ih x x0 x1, hg]
    have e1 : x ∈ (List.flatten (some ((due n ls hs)[i + 1]'(by omega))).toList) ↔ x ∈ found n ls hs ((due n ls hs).take (i + 1)).flatten := by
      rw [er]; simp
    rw [e1]
    unfold found
    rw [List.mem_filter, mem_rng]
    by_cases z : x = 0
    · rw [z, K.z]
      constructor
      · intro _; omega
      · intro _; left; omega
    · rw [K.cond w ih (by omega) x1]
      constructor
      · rintro (h | ⟨_, h⟩) <;> omega
      · intro h
        by_cases q : b x = ((i + 1 : Nat) : Int)
        · right; exact ⟨⟨x0, by omega⟩, q⟩
        · left; omega
theorem Bkd.all {n : Nat} {ls : List Pr} {hs : List Int} {b : Int → Int} (w : Web n ls) (hn : 1 ≤ n) (K : Bkd n ls hs b) (x : Int) (x0 : 0 ≤ x) (x1 : x < n) : b x < (due n ls hs).length := by
  have hl : 1 ≤ (due n ls hs).length := by unfold due; simp
  have R := K.rows w hn (due n ls hs).length hl (Nat.le_refl _)
  rw [List.take_length] at R
  have hend := due_end (n := n) (ls := ls) (hs := hs)
  have none : ∀ y : Int, 0 ≤ y → y < n → b y ≠ (due n ls hs).length := fun y y0 y1 e => by
    by_cases z : y = 0
    · rw [z, K.z] at e; omega
    · have hc := (K.cond w R (by omega) y1).mpr e
      have : y ∈ found n ls hs (due n ls hs).flatten := List.mem_filter.mpr ⟨mem_rng.mpr ⟨y0, by omega⟩, hc⟩
      rw [hend] at this; cases this
  -- a place of a higher round has a neighbour one round lower
  have down : ∀ m : Nat, ∀ y : Int, 0 ≤ y → y < n → b y = ((due n ls hs).length : Int) + m → False := by
    intro m
    induction m with
    | zero => intro y y0 y1 e; exact none y y0 y1 (by omega)
    | succ m ih =>
      intro y y0 y1 e
      have yz : y ≠ 0 := fun z => by rw [z, K.z] at e; omega
      have l1 := K.lo y (by omega) y1
      have l2 := K.hi y (by omega) y1
      have hp : 0 < ((nb ls y).filter fun x => decide (b x = b y - 1)).length := by omega
      obtain ⟨u, hu⟩ := List.exists_mem_of_length_pos hp
      obtain ⟨u1, u2⟩ := List.mem_filter.mp hu
      obtain ⟨v0, v1⟩ := nb_in w u1
      rw [decide_eq_true_eq] at u2
      exact ih u v0 v1 (by omega)
  apply Classical.byContradiction
  intro h
  exact down (b x - (due n ls hs).length).toNat x x0 x1 (by omega)
theorem Bkd.left {n : Nat} {ls : List Pr} {hs : List Int} {b : Int → Int} (w : Web n ls) (hn : 1 ≤ n) (K : Bkd n ls hs b) : left n ls hs = [] := by
  have hl : 1 ≤ (due n ls hs).length := by unfold due; simp
  have R := K.rows w hn (due n ls hs).length hl (Nat.le_refl _)
  rw [List.take_length] at R
  refine List.eq_nil_iff_forall_not_mem.mpr fun x hx => ?_
  obtain ⟨⟨x0, x1⟩, h⟩ := mem_left.mp hx
  exact h ((R x x0 x1).mpr (K.all w hn x x0 x1))
theorem Bkd.lv {n : Nat} {ls : List Pr} {hs : List Int} {b : Int → Int} (w : Web n ls) (hn : 1 ≤ n) (K : Bkd n ls hs b) (hb : ∀ x : Int, 0 ≤ x → x < n → 0 ≤ b x) {x : Int} (x0 : 0 ≤ x) (x1 : x < n) : (lv n ls hs x : Int) = b x := by
  have ha := K.all w hn x x0 x1
  have b0 := hb x x0 x1
  have hd := all_due (K.left w hn) x0 x1
  have h1 := (K.rows w hn ((b x).toNat + 1) (by omega) (by omega) x x0 x1).mpr (by omega)
  have h2 := (lv_lt.mp h1).1
  apply Classical.byContradiction
  intro hne
  have h3 : x ∈ ((due n ls hs).take (b x).toNat).flatten := lv_lt.mpr ⟨by omega, hd⟩
  by_cases z : (b x).toNat = 0
  · rw [z] at h3; simp at h3
  · have := (K.rows w hn (b x).toNat (by omega) (by omega) x x0 x1).mp h3
    omega
theorem Bkd.still {n : Nat} {ls : List Pr} {hs : List Int} {b : Int → Int} (K : Bkd n ls hs b) : stillB n ls hs = true := by
  unfold stillB
  rw [List.all_eq_true]
  intro p hp
  have hp' := mem_rng.mp hp
  rw [decide_eq_true_eq]
  have l2 := K.hi p hp'.1 (by omega)
  have := cnt_add (l := nb ls p) (p := fun y => decide (b p ≤ b y)) (q := fun y => decide (b y = b p - 1)) (r := fun _ => true) (fun y _ h => by
      simp at h; simp; omega) (fun y _ h => rfl)
  rw [List.filter_eq_self.mpr (fun _ _ => rfl)] at this
  unfold dg
  omega
def nr (ls : List Pr) (b : Int → Int) (v : Int) : List Int := (mn ls v).filter fun k => decide (b (oe ls v k) = b v - 1)
def lt (ls : List Pr) (b : Int → Int) (v : Int) : List Int := (mn ls v).filter fun k => decide (b v ≤ b (oe ls v k))
def mi (ls : List Pr) (ts : List Int) (b : Int → Int) (v : Int) : Int := ((nr ls b v).filter fun k => decide (k ∈ ts)).headD 0
def hv (ls : List Pr) (ts : List Int) (b : Int → Int) (v : Int) : Int := ((lt ls b v).length : Nat) + ((nr ls b v).findIdx fun k => decide (k = mi ls ts b v) : Nat)
def heapT (n : Nat) (ls : List Pr) (ts : List Int) (b : Int → Int) : List Int := 0 :: (rng 1 (n - 1)).map (hv ls ts b)
theorem gi_heapT {n : Nat} {ls : List Pr} {ts : List Int} {b : Int → Int} {v : Int} (h1 : 1 ≤ v) (h2 : v < n) : gi (heapT n ls ts b) v = hv ls ts b v := by
  unfold heapT
  rw [gi_cons_pos h1]
  have e : ((rng 1 (n - 1)).map (hv ls ts b)) = (rng 0 (n - 1)).map fun q => hv ls ts b (q + 1) := by
    unfold rng
    rw [List.map_map, List.map_map]
    refine List.map_congr_left fun k _ => ?_
    simp [Function.comp]; congr 1; omega
  rw [e, gi_map (by omega) (by omega)]
  congr 1; omega
theorem heapT_len {n : Nat} {ls : List Pr} {ts : List Int} {b : Int → Int} (hn : 1 ≤ n) : (heapT n ls ts b).length = n := by
  unfold heapT
  rw [List.length_cons, List.length_map, rng_length]; omega
structure Dn (n : Nat) (ls : List Pr) (ts : List Int) (b : Int → Int) : Prop where
  z : b 0 = 0
  nn : ∀ v, 0 ≤ b v
  dn : ∀ v : Int, 1 ≤ v → v < n → ∃ k ∈ ts, k ∈ nr ls b v
theorem Dn.mi {n : Nat} {ls : List Pr} {ts : List Int} {b : Int → Int} (h : Dn n ls ts b) {v : Int} (h1 : 1 ≤ v) (h2 : v < n) : mi ls ts b v ∈ nr ls b v ∧ mi ls ts b v ∈ ts ∧ ∃ r, (nr ls b v).filter (fun k => decide (k ∈ ts)) = mi ls ts b v :: r := by
  obtain ⟨k, hk, hm⟩ := h.dn v h1 h2
  have hmem : k ∈ (nr ls b v).filter fun k => decide (k ∈ ts) := List.mem_filter.mpr ⟨hm, by simpa using hk⟩
  unfold Mw.mi
  cases e : (nr ls b v).filter fun k => decide (k ∈ ts) with
  | nil => rw [e] at hmem; cases hmem
  | cons a r =>
    have : a ∈ (nr ls b v).filter fun k => decide (k ∈ ts) := by rw [e]; simp
    obtain ⟨a1, a2⟩ := List.mem_filter.mp this
    exact ⟨a1, by simpa using a2, r, rfl⟩
theorem Dn.idx {n : Nat} {ls : List Pr} {ts : List Int} {b : Int → Int} (h : Dn n ls ts b) {v : Int} (h1 : 1 ≤ v) (h2 : v < n) : (nr ls b v).findIdx (fun k => decide (k = Mw.mi ls ts b v)) < (nr ls b v).length :=
  List.findIdx_lt_length_of_exists ⟨_, (h.mi h1 h2).1, by simp⟩
theorem Dn.at {n : Nat} {ls : List Pr} {ts : List Int} {b : Int → Int} (h : Dn n ls ts b) {v : Int} (h1 : 1 ≤ v) (h2 : v < n) : (nr ls b v)[(nr ls b v).findIdx (fun k => decide (k = Mw.mi ls ts b v))]? = some (Mw.mi ls ts b v) := by
  have hl := h.idx h1 h2
  rw [List.getElem?_eq_getElem hl]
  have := List.findIdx_getElem (xs := nr ls b v) (p := fun k => decide (k = Mw.mi ls ts b v)) (w := hl)
  rw [decide_eq_true_eq] at this
  rw [this]
theorem Dn.bkd {n : Nat} {ls : List Pr} {ts : List Int} {b : Int → Int} (h : Dn n ls ts b) : Bkd n ls (heapT n ls ts b) b := by
  have el : ∀ v, (lt ls b v).length = ((nb ls v).filter fun x => decide (b v ≤ b x)).length := fun v => mn_cnt (ls := ls) (p := v) fun x => decide (b v ≤ b x)
  have en : ∀ v, (nr ls b v).length = ((nb ls v).filter fun x => decide (b x = b v - 1)).length := fun v => mn_cnt (ls := ls) (p := v) fun x => decide (b x = b v - 1)
  refine ⟨h.z, fun v h1 h2 => ?_, fun v h1 h2 => ?_, fun v h1 h2 => ?_⟩
  · obtain ⟨k, hk, hm⟩ := h.dn v h1 h2
    have := (List.mem_filter.mp hm).2
    rw [decide_eq_true_eq] at this
    have := h.nn (oe ls v k)
    omega
  · rw [gi_heapT h1 h2, ← el]
    unfold hv; omega
  · rw [gi_heapT h1 h2, ← el, ← en]
    have := h.idx h1 h2
    unfold hv; omega
theorem Dn.inj {n : Nat} {ls : List Pr} {ts : List Int} {b : Int → Int} (h : Dn n ls ts b) {v u : Int} (h1 : 1 ≤ v) (h2 : v < n) (h3 : 1 ≤ u) (h4 : u < n) (e : Mw.mi ls ts b v = Mw.mi ls ts b u) : v = u := by
  have a := (h.mi h1 h2).1
  have c := (h.mi h3 h4).1
  rw [← e] at c
  obtain ⟨a1, a2⟩ := List.mem_filter.mp a
  obtain ⟨c1, c2⟩ := List.mem_filter.mp c
  rw [decide_eq_true_eq] at a2 c2
  obtain ⟨_, _, a3⟩ := touch_oe (mem_mn.mp a1).2
  obtain ⟨_, _, c3⟩ := touch_oe (mem_mn.mp c1).2
  rcases a3 with ⟨a3, a4⟩ | ⟨a3, a4⟩ <;> rcases c3 with ⟨c3, c4⟩ | ⟨c3, c4⟩
  · omega
  · exfalso; rw [← a4, c3] at a2; rw [← c4, a3] at c2; omega
  · exfalso; rw [← a4, c3] at a2; rw [← c4, a3] at c2; omega
  · omega
theorem Dn.back {n : Nat} {ls : List Pr} {ts : List Int} {b : Int → Int} (h : Dn n ls ts b) (nd : ts.Nodup) (len : ts.length = n - 1) : ((rng 1 (n - 1)).map (Mw.mi ls ts b)).Perm ts := by
  have hin : ∀ v ∈ rng 1 (n - 1), 1 ≤ v ∧ v < n := fun v hv => by have := mem_rng.mp hv; omega
  have nd1 : ((rng 1 (n - 1)).map (Mw.mi ls ts b)).Nodup := by
    unfold List.Nodup
    rw [List.pairwise_map]
    refine List.Pairwise.imp_of_mem (fun {a c} ha hc hne e => hne ?_) (rng_nodup (lo := 1) (n := n - 1))
    exact h.inj (hin a ha).1 (hin a ha).2 (hin c hc).1 (hin c hc).2 e
  have sub : ∀ k ∈ (rng 1 (n - 1)).map (Mw.mi ls ts b), k ∈ ts := fun k hk => by
    obtain ⟨v, hv, rfl⟩ := List.mem_map.mp hk
    exact (h.mi (hin v hv).1 (hin v hv).2).2.1
  refine (List.perm_ext_iff_of_nodup nd1 nd).mpr fun k => ⟨sub k, fun hk => ?_⟩
  apply Classical.byContradiction
  intro hn
  have : (k :: (rng 1 (n - 1)).map (Mw.mi ls ts b)).length ≤ ts.length := List.Nodup.length_le_of_subset (List.nodup_cons.mpr ⟨hn, nd1⟩) fun x hx => by
    rcases List.mem_cons.mp hx with rfl | hx
    · exact hk
    · exact sub x hx
  rw [List.length_cons, List.length_map, rng_length] at this
  omega
theorem Tr.dn {n : Nat} {ls : List Pr} {ts : List Int} (hn : 1 ≤ n) (w : Web n ls) (T : Tr n ls ts) : Dn n ls ts (bres n ls ts).bk := by
  obtain ⟨h1, h2⟩ := bres_inv hn w T.ok
  refine ⟨h1.zk, h1.kn, fun v v1 v2 => ?_⟩
  obtain ⟨i1, i2, k, hk, i3, i4⟩ := h1.inn v (T.all hn w (by omega) v2) (by omega)
  refine ⟨k, hk, List.mem_filter.mpr ⟨mem_mn.mpr ⟨T.ok k hk, i3⟩, ?_⟩⟩
  rw [decide_eq_true_eq, i4]; omega
@[simp] theorem at0 {a : D} {r : List D} : atI (a :: r) 0 = some a := by
  refine atI_ok (by decide) (by simp) rfl
@[simp] theorem at1 {a b : D} {r : List D} : atI (a :: b :: r) 1 = some b := by
  refine atI_ok (by decide) (by simp; omega) rfl
theorem inD_pr {p : Int} {l : Pr} : inD (.int p) [.int l.1, .int l.2] = touch p l := inD_pair
def wayF (b : Int → Int) : Nat → Int → List Int
  | 0, p => [p]
  | f + 1, p => if p = 0 then [p] else p :: wayF b f (b p)
theorem wayF_len {n : Nat} {ls : List Pr} {ts : List Int} {s : B} (I : BI n ls ts s) : ∀ (f : Nat) (p : Int), p ∈ s.od → s.bk p = f → (wayF s.bf f p).length = f + 1
  | 0, p, _, _ => rfl
  | f + 1, p, hp, e => by
    have pz : p ≠ 0 := fun z => by rw [z, I.zk] at e; omega
    obtain ⟨i1, i2, _⟩ := I.inn p hp pz
    have e1 : wayF s.bf (f + 1) p = p :: wayF s.bf f (s.bf p) := if_neg pz
    rw [e1, List.length_cons, wayF_len I f _ i1 (by omega)]
theorem atI_lastI {pre : List Int} {q : Int} : atI ((pre ++ [q]).map PyData.int) (-1) = some (.int q) := by
  rw [List.map_append]
  exact atI_last
theorem nr_len {ls : List Pr} {b : Int → Int} {v : Int} : (nr ls b v).length ≤ ls.length := Nat.le_trans (List.length_filter_le _ _) mn_len
theorem lt_len {ls : List Pr} {b : Int → Int} {v : Int} : (lt ls b v).length ≤ ls.length := Nat.le_trans (List.length_filter_le _ _) mn_len
theorem sh_IlX {a : List Int} : SeqAt.shaped (.list (a.map .int)) = true := (pl_Il (n := 0)).shaped
def bkS (n : Nat) (ls : List Pr) (hs : List Int) (S : List Int) : Int → Int := fun x => if x ∈ S then lv n ls hs x else 0
theorem due_sub {n : Nat} {ls : List Pr} {hs : List Int} (hn : 1 ≤ n) {i : Nat} {r : List Int} (h : (due n ls hs)[i]? = some r) : ∀ x ∈ r, 0 ≤ x ∧ x < n := fun x hx => by
  cases i with
  | zero =>
    have : r = [0] := by unfold due at h; simpa using h.symm
    subst this
    rw [List.mem_singleton.mp hx]; omega
  | succ i =>
    rw [due_row h] at hx
    have := mem_rng.mp (List.mem_filter.mp hx).1
    omega
theorem ext_pre : ∀ (l t : List Int), ∃ e, ext t l = t ++ e
  | [], t => ⟨[], by simp [ext]⟩
  | y :: l, t => by
    by_cases h : y ∈ t
    · have e : ext t (y :: l) = ext t l := if_pos h
      rw [e]; exact ext_pre l t
    · have e : ext t (y :: l) = ext (t ++ [y]) l := if_neg h
      obtain ⟨e2, h2⟩ := ext_pre l (t ++ [y])
      exact ⟨y :: e2, by rw [e, h2, List.append_assoc]; rfl⟩
theorem bfs_cl {n : Nat} {ls : List Pr} (w : Web0 n ls) : ∀ (k i : Nat) (t : List Int), Lot n t → i ≤ t.length → n ≤ k + i → (∀ x ∈ t.take i, ∀ y ∈ nb ls x, y ∈ t) →
    (∀ x ∈ t, x ∈ bfs ls k t i) ∧ ∀ x ∈ bfs ls k t i, ∀ y ∈ nb ls x, y ∈ bfs ls k t i
  | 0, i, t, lt, hi, hk, hc => by
    have := lt.len
    refine ⟨fun x hx => hx, fun x hx => hc x ?_⟩
    rw [List.take_of_length_le (by omega)]; exact hx
  | k + 1, i, t, lt, hi, hk, hc => by
    by_cases h : i < t.length
    · rw [bfs_step h]
      obtain ⟨e, he⟩ := ext_pre (sortI (nb ls (gi t i))) t
      have ih := bfs_cl w k (i + 1) (Mw.ext t (sortI (nb ls (gi t i)))) (lt.ext w _) (by rw [he, List.length_append]; omega) (by omega) fun x hx y hy => by
        rw [he, List.take_append_of_le_length (by omega), List.take_succ] at hx
        rcases List.mem_append.mp hx with hx | hx
        · exact (ext_mem _ _ _).mpr (.inl (hc x hx y hy))
        · rw [List.getElem?_eq_getElem h] at hx
          have hx2 : x = t[i] := by simpa using hx
          have ex : x = gi t i := by
            rw [hx2]
            unfold gi
            rw [List.getD_eq_getElem?_getD]
            have : ((i : Nat) : Int).toNat = i := by omega
            rw [this, List.getElem?_eq_getElem h]; rfl
          rw [ex] at hy
          exact (ext_mem _ _ _).mpr (.inr (sortI_mem.mpr hy))
      exact ⟨fun x hx => ih.1 x ((ext_mem _ _ _).mpr (.inl hx)), ih.2⟩
    · rw [bfs_end h]
      refine ⟨fun x hx => hx, fun x hx => hc x ?_⟩
      rw [List.take_of_length_le (by omega)]; exact hx
theorem bfs_min {ls : List Pr} {S : Int → Prop} (hS : ∀ x, S x → ∀ y ∈ nb ls x, S y) : ∀ (k i : Nat) (t : List Int), (∀ x ∈ t, S x) → ∀ x ∈ bfs ls k t i, S x
  | 0, i, t, h => h
  | k + 1, i, t, h => by
    by_cases c : i < t.length
    · rw [bfs_step c]
      refine bfs_min hS k _ _ fun x hx => ?_
      rcases (ext_mem _ _ _).mp hx with hx | hx
      · exact h x hx
      · have hm : gi t i ∈ t := by
          unfold gi
          rw [List.getD_eq_getElem?_getD]
          have : ((i : Nat) : Int).toNat = i := by omega
          rw [this, List.getElem?_eq_getElem c]
          exact List.getElem_mem _
        exact hS _ (h _ hm) x (sortI_mem.mp hx)
    · rw [bfs_end c]; exact h
theorem nb_sub {ls : List Pr} {ts : List Int} {x y : Int} : y ∈ nb (ts.map (la ls)) x ↔ ∃ k ∈ ts, touch x (la ls k) = true ∧ y = oe ls x k := by
  unfold nb
  rw [List.mem_map]
  constructor
  · rintro ⟨l, hl, e⟩
    obtain ⟨h1, h2⟩ := List.mem_filter.mp hl
    obtain ⟨k, hk, rfl⟩ := List.mem_map.mp h1
    exact ⟨k, hk, h2, e.symm⟩
  · rintro ⟨k, hk, h2, e⟩
    exact ⟨la ls k, List.mem_filter.mpr ⟨List.mem_map.mpr ⟨k, hk, rfl⟩, h2⟩, e.symm⟩
theorem sub_web {n : Nat} {ls : List Pr} {ts : List Int} (w : Web n ls) (tk : TsOk ls ts) : Web0 n (ts.map (la ls)) := by
  refine ⟨fun l hl => ?_⟩
  obtain ⟨k, hk, rfl⟩ := List.mem_map.mp hl
  exact w.ends _ (la_mem (tk k hk).1 (tk k hk).2)
theorem ts_len {ls : List Pr} {ts : List Int} (tk : TsOk ls ts) (nd : ts.Nodup) : ts.length ≤ ls.length := by
  have := List.Nodup.length_le_of_subset nd (l₂ := rng 0 ls.length) fun x hx => mem_rng.mpr (by have := tk x hx; omega)
  rw [rng_length] at this; exact this
theorem reach_lab {n : Nat} {ls : List Pr} {ts : List Int} {L : Int → Int} (w : Web n ls) (tk : TsOk ls ts) (nd : ts.Nodup) (h : Lab n ls ts L) {u v : Int} (u0 : 0 ≤ u) (u1 : u < n) (v0 : 0 ≤ v) (v1 : v < n) : v ∈ reachL n (ts.map (la ls)) u ↔ L u = L v := by
  have w0 := sub_web w tk
  unfold reachL
  rw [sortI_mem]
  constructor
  · intro hv
    have := bfs_min (ls := ts.map (la ls)) (S := fun z => L z = L u) (fun x hx y hy => ?_) n 0 [u] (fun x hx => by rw [List.mem_singleton.mp hx]) v hv
    · exact this.symm
    · obtain ⟨k, hk, ht, rfl⟩ := nb_sub.mp hy
      have e := h.tl k hk
      obtain ⟨_, _, c⟩ := touch_oe ht
      rcases c with ⟨c1, c2⟩ | ⟨c1, c2⟩
      · rw [← c2, ← e, c1]; exact hx
      · rw [← c2, e, c1]; exact hx
  · intro e
    obtain ⟨h1, h2⟩ := bfs_cl w0 n 0 [u] (one_lot u0 u1) (by simp) (by omega) (fun x hx => by simp at hx)
    refine (h.cl u v u0 u1 v0 v1 e (fun z => z ∈ bfs (ts.map (la ls)) n [u] 0) fun k hk => ?_).mp (h1 u (by simp))
    have ta : touch (la ls k).1 (la ls k) = true := by unfold touch; simp
    have tb : touch (la ls k).2 (la ls k) = true := by unfold touch; simp
    constructor
    · intro z
      refine h2 _ z _ (nb_sub.mpr ⟨k, hk, ta, ?_⟩)
      unfold oe; omega
    · intro z
      refine h2 _ z _ (nb_sub.mpr ⟨k, hk, tb, ?_⟩)
      unfold oe; omega
theorem eqv_tab {n : Nat} {f : Int → Int} : PyData.eqv (.list (tabD n f)) (.list (tabD n f)) = true := by
  have := eqv_Il (a := (rng 0 n).map f) (b := (rng 0 n).map f)
  rw [decide_eq_true rfl] at this; exact this
theorem sh_tab {n : Nat} {f : Int → Int} : SeqAt.shaped (.list (tabD n f)) = true := sh_IlX (a := (rng 0 n).map f)
end Mw

/-! M2: pointers that turn: walks of grains, their end, their order. -/
namespace Mw
open PySem PySem.Spec PyProof.Rows L2 Eg
def dV (ls : List Pr) (v : Int) : Nat := (mn ls v).length
/-- where the i-th turn leads -/
def dest (ls : List Pr) (r : Int → Nat) (v : Int) (i : Nat) : Int := oe ls v ((mn ls v).getD ((r v + i) % dV ls v) 0)
abbrev Wst := (Int → Nat) × Int
def wst (ls : List Pr) (r : Int → Nat) (s : Wst) : Wst := (fun v => if v = s.2 then s.1 v + 1 else s.1 v, dest ls r s.2 (s.1 s.2 + 1))
def wrun (ls : List Pr) (r : Int → Nat) (s : Wst) : Nat → Wst
  | 0 => s
  | t + 1 => wst ls r (wrun ls r s t)
def Nn (ls : List Pr) (r : Int → Nat) (w v : Int) (k : Nat) : Nat := ((List.range k).filter fun i => decide (dest ls r w (i + 1) = v)).length
theorem Nn_succ {ls : List Pr} {r : Int → Nat} {w v : Int} {k : Nat} : Nn ls r w v (k + 1) = Nn ls r w v k + if dest ls r w (k + 1) = v then 1 else 0 := by
  unfold Nn
  rw [List.range_succ, List.filter_append, List.length_append]
  congr 1
  rw [List.filter_cons, List.filter_nil]
  by_cases h : dest ls r w (k + 1) = v <;> simp [h]
theorem Nn_mono {ls : List Pr} {r : Int → Nat} {w v : Int} {j k : Nat} (h : j ≤ k) : Nn ls r w v j ≤ Nn ls r w v k := by
  induction k with
  | zero => rw [Nat.le_zero.mp h]; exact Nat.le_refl _
  | succ k ih =>
    by_cases e : j = k + 1
    · rw [e]; exact Nat.le_refl _
    · have := ih (by omega)
      rw [Nn_succ]; omega
/-- grains that came to v -/
def Inn (n : Nat) (ls : List Pr) (r : Int → Nat) (u : Int → Nat) (v : Int) : Int := ((rng 1 (n - 1)).map fun w => ((Nn ls r w v (u w) : Nat) : Int)).sum
theorem Inn_mono {n : Nat} {ls : List Pr} {r u u' : Int → Nat} {v : Int} (h : ∀ w : Int, 1 ≤ w → w < n → u w ≤ u' w) : Inn n ls r u v ≤ Inn n ls r u' v := sum_map_le fun w hw => by
  have := mem_rng.mp hw
  have := Nn_mono (ls := ls) (r := r) (w := w) (v := v) (h w (by omega) (by omega))
  omega
def dl (x v : Int) : Nat := if x = v then 1 else 0
theorem Inn_step {n : Nat} {ls : List Pr} {r : Int → Nat} {s : Wst} {v : Int} (h1 : 1 ≤ s.2) (h2 : s.2 < n) : Inn n ls r (wst ls r s).1 v = Inn n ls r s.1 v + dl (wst ls r s).2 v := by
  unfold Inn
  have e : (fun w => ((Nn ls r w v ((wst ls r s).1 w) : Nat) : Int)) = fun w => ((Nn ls r w v (s.1 w) : Nat) : Int) + if w = s.2 then (dl (wst ls r s).2 v : Int) else 0 := by
    funext w
    by_cases hw : w = s.2
    · subst hw
      have e1 : (wst ls r s).1 s.2 = s.1 s.2 + 1 := if_pos rfl
      rw [e1, Nn_succ, if_pos rfl]
      have e2 : (if dest ls r s.2 (s.1 s.2 + 1) = v then 1 else 0) = dl (wst ls r s).2 v := rfl
      rw [e2]; omega
    · have e1 : (wst ls r s).1 w = s.1 w := if_neg hw
      rw [e1, if_neg hw]; omega
  rw [e, Eg.sum_map_add, sum_one rng_nodup, if_pos (mem_rng.mpr ⟨h1, by omega⟩)]
/-- nothing is lost -/
theorem keep {n : Nat} {ls : List Pr} {r : Int → Nat} {s : Wst} : ∀ (t : Nat), (∀ i, i < t → 1 ≤ (wrun ls r s i).2 ∧ (wrun ls r s i).2 < n) → ∀ v : Int,
    Inn n ls r (wrun ls r s t).1 v + s.1 v + dl s.2 v = Inn n ls r s.1 v + (wrun ls r s t).1 v + dl (wrun ls r s t).2 v
  | 0, _, v => rfl
  | t + 1, h, v => by
    have ih := keep t (fun i hi => h i (by omega)) v
    obtain ⟨h1, h2⟩ := h t (by omega)
    show Inn n ls r (wst ls r (wrun ls r s t)).1 v + s.1 v + dl s.2 v = Inn n ls r s.1 v + (wst ls r (wrun ls r s t)).1 v + dl (wst ls r (wrun ls r s t)).2 v
    rw [Inn_step h1 h2]
    have e : (((wst ls r (wrun ls r s t)).1 v : Nat) : Int) = (wrun ls r s t).1 v + dl (wrun ls r s t).2 v := by
      show (((if v = (wrun ls r s t).2 then (wrun ls r s t).1 v + 1 else (wrun ls r s t).1 v) : Nat) : Int) = _
      unfold dl
      by_cases z : v = (wrun ls r s t).2
      · rw [if_pos z, if_pos z.symm]; omega
      · rw [if_neg z, if_neg (Ne.symm z)]; omega
    rw [e]; omega
/-- the least of all books that settle -/
theorem least {n : Nat} {ls : List Pr} {r U : Int → Nat} {c : Int → Int} {s : Wst} (hU : ∀ v : Int, 1 ≤ v → v < n → c v + Inn n ls r U v ≤ U v) (h0 : ∀ v : Int, 1 ≤ v → v < n → s.1 v ≤ U v) (hc : ∀ v : Int, 1 ≤ v → v < n → (s.1 v : Int) + dl s.2 v ≤ c v + Inn n ls r s.1 v) :
    ∀ (t : Nat), (∀ i, i < t → 1 ≤ (wrun ls r s i).2 ∧ (wrun ls r s i).2 < n) → (∀ v : Int, 1 ≤ v → v < n → (wrun ls r s t).1 v ≤ U v) ∧ ∀ v : Int, 1 ≤ v → v < n → ((wrun ls r s t).1 v : Int) + dl (wrun ls r s t).2 v ≤ c v + Inn n ls r (wrun ls r s t).1 v
  | 0, _ => ⟨h0, hc⟩
  | t + 1, h => by
    obtain ⟨i1, i2⟩ := least hU h0 hc t fun i hi => h i (by omega)
    obtain ⟨h1, h2⟩ := h t (by omega)
    have e : ∀ v, (((wst ls r (wrun ls r s t)).1 v : Nat) : Int) = (wrun ls r s t).1 v + dl (wrun ls r s t).2 v := fun v => by
      show (((if v = (wrun ls r s t).2 then (wrun ls r s t).1 v + 1 else (wrun ls r s t).1 v) : Nat) : Int) = _
      unfold dl
      by_cases z : v = (wrun ls r s t).2
      · rw [if_pos z, if_pos z.symm]; omega
      · rw [if_neg z, if_neg (Ne.symm z)]; omega
    refine ⟨fun v v1 v2 => ?_, fun v v1 v2 => ?_⟩
    · have := i2 v v1 v2
      have m := Inn_mono (n := n) (ls := ls) (r := r) (v := v) i1
      have := hU v v1 v2
      have := e v
      show (wst ls r (wrun ls r s t)).1 v ≤ U v
      omega
    · show (((wst ls r (wrun ls r s t)).1 v : Nat) : Int) + dl (wst ls r (wrun ls r s t)).2 v ≤ c v + Inn n ls r (wst ls r (wrun ls r s t)).1 v
      rw [Inn_step h1 h2, e]
      have := i2 v v1 v2
      omega
/-- a walk that ends -/
structure Ends (n : Nat) (ls : List Pr) (r : Int → Nat) (s : Wst) (t : Nat) : Prop where
  go : ∀ i, i < t → 1 ≤ (wrun ls r s i).2 ∧ (wrun ls r s i).2 < n
  fin : (wrun ls r s t).2 = 0
/-- two grains in either order -/
theorem swap2 {n : Nat} {ls : List Pr} {r u0 : Int → Nat} {x y : Int} {t1 t2 t3 t4 : Nat} (e1 : Ends n ls r (u0, x) t1) (e2 : Ends n ls r ((wrun ls r (u0, x) t1).1, y) t2) (e3 : Ends n ls r (u0, y) t3) (e4 : Ends n ls r ((wrun ls r (u0, y) t3).1, x) t4) :
    ∀ v : Int, 1 ≤ v → v < n → (wrun ls r ((wrun ls r (u0, x) t1).1, y) t2).1 v ≤ (wrun ls r ((wrun ls r (u0, y) t3).1, x) t4).1 v := by
  have z : ∀ v : Int, 1 ≤ v → dl 0 v = 0 := fun v hv => if_neg (by omega)
  have k1 := fun v => keep t1 e1.go v
  have k3 := fun v => keep t3 e3.go v
  have k4 := fun v => keep t4 e4.go v
  have hU : ∀ v : Int, 1 ≤ v → v < n → ((u0 v : Int) - Inn n ls r u0 v + dl x v + dl y v) + Inn n ls r (wrun ls r ((wrun ls r (u0, y) t3).1, x) t4).1 v ≤ (wrun ls r ((wrun ls r (u0, y) t3).1, x) t4).1 v := fun v v1 v2 => by
    have a := k3 v
    have b := k4 v
    rw [e3.fin] at a
    rw [e4.fin] at b
    rw [z v v1] at a b
    simp only at a b
    omega
  have hle : ∀ v : Int, 1 ≤ v → v < n → u0 v ≤ (wrun ls r ((wrun ls r (u0, y) t3).1, x) t4).1 v := fun v v1 v2 => by
    have up : ∀ (s : Wst) (t : Nat) (v : Int), s.1 v ≤ (wrun ls r s t).1 v := fun s t v => by
      induction t with
      | zero => exact Nat.le_refl _
      | succ t ih =>
        refine Nat.le_trans ih ?_
        show _ ≤ (if v = (wrun ls r s t).2 then (wrun ls r s t).1 v + 1 else (wrun ls r s t).1 v)
        split <;> omega
    exact Nat.le_trans (up (u0, y) t3 v) (up ((wrun ls r (u0, y) t3).1, x) t4 v)
  have l1 := least (s := (u0, x)) hU hle (fun v v1 v2 => by simp only; have : (0:Int) ≤ dl y v := Int.natCast_nonneg _; omega) t1 e1.go
  have l2 := least (s := ((wrun ls r (u0, x) t1).1, y)) hU l1.1 (fun v v1 v2 => by
    have a := k1 v
    rw [e1.fin, z v v1] at a
    simp only at a ⊢
    omega) t2 e2.go
  exact l2.1
/-! ### every walk ends -/
def wind (g : Nat → Bool) (d s : Nat) : Nat := ((List.range' s d).filter fun i => g (i % d)).length
theorem wind_succ {g : Nat → Bool} {d s : Nat} : wind g d (s + 1) = wind g d s := by
  have h1 : List.range' s (d + 1) = s :: List.range' (s + 1) d := List.range'_succ
  have h2 : List.range' s (d + 1) = List.range' s d ++ [s + d] := by
    have := List.range'_concat (s := s) (n := d) (step := 1)
    simpa using this
  have h := congrArg (fun l => (l.filter fun i => g (i % d)).length) (h1.symm.trans h2)
  simp only [List.filter_cons, List.filter_append, List.length_append, Nat.add_mod_right] at h
  unfold wind
  cases e : g (s % d) <;> simp [e] at h <;> omega
theorem wind_all {g : Nat → Bool} {d : Nat} : ∀ s, wind g d s = ((List.range d).filter g).length
  | 0 => by
    unfold wind
    rw [← List.range_eq_range']
    congr 1
    refine List.filter_congr fun i hi => ?_
    rw [Nat.mod_eq_of_lt (List.mem_range.mp hi)]
  | s + 1 => by rw [wind_succ]; exact wind_all s
/-- lines between -/
def lc (ls : List Pr) (w v : Int) : Nat := ((mn ls w).filter fun k => decide (oe ls w k = v)).length
theorem getD_filter {α : Type} (l : List α) (d : α) (p : α → Bool) : ((List.range l.length).filter fun i => p (l.getD i d)).length = (l.filter p).length := by
  have e : l = (List.range l.length).map fun i => l.getD i d := by
    refine List.ext_getElem? fun i => ?_
    rw [List.getElem?_map]
    by_cases h : i < l.length
    · rw [List.getElem?_eq_getElem h, List.getElem?_range h]
      simp [List.getD_eq_getElem?_getD, h]
    · rw [List.getElem?_eq_none (by omega), List.getElem?_eq_none (by simp; omega)]; rfl
  conv => rhs; rw [e]
  rw [List.filter_map, List.length_map]; rfl
theorem Nn_window {ls : List Pr} {r : Int → Nat} {w v : Int} {k : Nat} : Nn ls r w v (k + dV ls w) = Nn ls r w v k + lc ls w v := by
  have g : ∀ i, decide (dest ls r w (i + 1) = v) = (fun j => decide (oe ls w ((mn ls w).getD j 0) = v)) ((r w + 1 + i) % dV ls w) := fun i => by
    unfold dest
    have : r w + (i + 1) = r w + 1 + i := by omega
    rw [this]
  have key : ((List.range' k (dV ls w)).filter fun i => decide (dest ls r w (i + 1) = v)).length = lc ls w v := by
    have h1 := wind_all (g := fun j => decide (oe ls w ((mn ls w).getD j 0) = v)) (d := dV ls w) (r w + 1 + k)
    have h2 : (List.range (dV ls w)).filter (fun j => decide (oe ls w ((mn ls w).getD j 0) = v)) = (List.range (mn ls w).length).filter fun i => (fun q => decide (oe ls w q = v)) ((mn ls w).getD i 0) := rfl
    have h3 := getD_filter (mn ls w) 0 fun q => decide (oe ls w q = v)
    rw [h2, h3] at h1
    unfold lc
    rw [← h1]
    unfold wind
    have e : List.range' (r w + 1 + k) (dV ls w) = (List.range' k (dV ls w)).map (r w + 1 + ·) := by
      rw [List.map_add_range']
    rw [e, List.filter_map, List.length_map]
    congr 1
    exact List.filter_congr fun i _ => g i
  unfold Nn
  rw [List.range_eq_range', List.range_eq_range', ← List.range'_append_1, List.filter_append, List.length_append, Nat.zero_add, key]
theorem Nn_low {ls : List Pr} {r : Int → Nat} {w v : Int} : ∀ (q k : Nat), q * dV ls w ≤ k → q * lc ls w v ≤ Nn ls r w v k
  | 0, k, _ => by omega
  | q + 1, k, h => by
    rw [Nat.succ_mul] at h ⊢
    have ih := Nn_low (ls := ls) (r := r) (w := w) (v := v) q (k - dV ls w) (by omega)
    have := Nn_window (ls := ls) (r := r) (w := w) (v := v) (k := k - dV ls w)
    rw [Nat.sub_add_cancel (by omega)] at this
    omega
/-! ### sums over lines -/
theorem sum_filter {α : Type} (p : α → Bool) (f : α → Int) : ∀ l : List α, ((l.filter p).map f).sum = (l.map fun x => if p x = true then f x else 0).sum
  | [] => rfl
  | a :: l => by
    rw [List.filter_cons, List.map_cons, List.sum_cons, ← sum_filter p f l]
    by_cases h : p a = true
    · rw [if_pos h, if_pos h, List.map_cons, List.sum_cons]
    · rw [if_neg h, if_neg h, Int.zero_add]
theorem sum_comm {α β : Type} (f : α → β → Int) (ks : List β) : ∀ l : List α, (l.map fun a => (ks.map fun b => f a b).sum).sum = (ks.map fun b => (l.map fun a => f a b).sum).sum
  | [] => by simp [sum_map_zero]
  | a :: l => by
    rw [List.map_cons, List.sum_cons, sum_comm f ks l, ← Eg.sum_map_add]
    rfl
theorem sum_lines {n : Nat} {ls : List Pr} (w : Web n ls) (g : Int → Int → Int) : ((rng 0 n).map fun v => ((mn ls v).map fun k => g v k).sum).sum = ((rng 0 ls.length).map fun k => g (la ls k).1 k + g (la ls k).2 k).sum := by
  have e : ((rng 0 n).map fun v => ((mn ls v).map fun k => g v k).sum) = (rng 0 n).map fun v => ((rng 0 ls.length).map fun k => if touch v (la ls k) = true then g v k else 0).sum := List.map_congr_left fun v _ => by
    unfold mn
    exact sum_filter _ _ _
  rw [e, sum_comm]
  congr 1
  refine List.map_congr_left fun k hk => ?_
  have hk' := mem_rng.mp hk
  have k1 : k < ls.length := by omega
  obtain ⟨⟨a0, a1⟩, b0, b1⟩ := w.ends _ (la_mem hk'.1 k1)
  have lt := w.lt _ (la_mem hk'.1 k1)
  have e2 : ((rng 0 n).map fun v => if touch v (la ls k) = true then g v k else 0) = (rng 0 n).map fun v => (if v = (la ls k).1 then g (la ls k).1 k else 0) + if v = (la ls k).2 then g (la ls k).2 k else 0 := List.map_congr_left fun v _ => by
    unfold touch
    by_cases h1 : v = (la ls k).1
    · have h2 : v ≠ (la ls k).2 := by omega
      simp [h1]
      rw [if_neg (by omega)]; omega
    · by_cases h2 : v = (la ls k).2
      · simp [h2]
        rw [if_neg (by omega)]; omega
      · simp [h1, h2]
  rw [e2, Eg.sum_map_add, sum_one rng_nodup, sum_one rng_nodup, if_pos (mem_rng.mpr ⟨a0, by omega⟩), if_pos (mem_rng.mpr ⟨b0, by omega⟩)]
theorem sum_pos_le {l : List Int} {f : Int → Int} (h : ∀ x ∈ l, 0 ≤ f x) {x : Int} (hx : x ∈ l) : f x ≤ (l.map f).sum := by
  induction l with
  | nil => cases hx
  | cons a l ih =>
    rw [List.map_cons, List.sum_cons]
    have nn : 0 ≤ (l.map f).sum := by
      have := sum_map_le (f := fun _ => 0) (g := f) (l := l) fun x hx => h x (List.mem_cons_of_mem _ hx)
      rw [sum_map_zero] at this; exact this
    rcases List.mem_cons.mp hx with rfl | hx
    · omega
    · have := ih (fun x hx => h x (List.mem_cons_of_mem _ hx)) hx
      have := h a List.mem_cons_self
      omega
theorem sum_const {l : List Int} {c : Int} : (l.map fun _ => c).sum = l.length * c := by
  induction l with
  | nil => simp
  | cons a l ih =>
    rw [List.map_cons, List.sum_cons, ih, List.length_cons]
    have : ((l.length + 1 : Nat) : Int) * c = l.length * c + c := by
      rw [show ((l.length + 1 : Nat) : Int) = (l.length : Int) + 1 by omega, Int.add_mul, Int.one_mul]
    omega
theorem sum_dV {n : Nat} {ls : List Pr} (w : Web n ls) : ((rng 0 n).map fun v => ((dV ls v : Nat) : Int)).sum = 2 * ls.length := by
  have h := sum_lines w fun _ _ => 1
  have e : ((rng 0 n).map fun v => ((mn ls v).map fun _ => (1 : Int)).sum) = (rng 0 n).map fun v => ((dV ls v : Nat) : Int) := List.map_congr_left fun v _ => by
    rw [sum_const]; unfold dV; omega
  rw [e] at h
  rw [h, sum_const, rng_length]; omega
/-- who gets at most as much more as its lines does not get far -/
theorem cut_bound {n : Nat} {ls : List Pr} (w : Web n ls) {q : Int → Int} (hq : ∀ v : Int, 0 ≤ v → v < n → ((mn ls v).map fun k => q (oe ls v k)).sum ≤ dV ls v * (q v + 1)) {K : Int} {k : Int} (k0 : 0 ≤ k) (k1 : k < ls.length) :
    (q (la ls k).1 ≤ K → q (la ls k).2 ≤ K + 2 * ls.length) ∧ (q (la ls k).2 ≤ K → q (la ls k).1 ≤ K + 2 * ls.length) := by
  have nl : (0 : Int) ≤ ls.length := Int.natCast_nonneg _
  have h := sum_lines w fun v k => if q v ≤ K then q (oe ls v k) - q v else 0
  have up : ((rng 0 n).map fun v => ((mn ls v).map fun k => if q v ≤ K then q (oe ls v k) - q v else 0).sum).sum ≤ 2 * ls.length := by
    rw [← sum_dV w]
    refine sum_map_le fun v hv => ?_
    have hv' := mem_rng.mp hv
    by_cases c : q v ≤ K
    · simp only [c, if_true]
      have e : ((mn ls v).map fun k => q (oe ls v k) - q v).sum = ((mn ls v).map fun k => q (oe ls v k)).sum + ((mn ls v).map fun _ => - q v).sum := by
        rw [← Eg.sum_map_add]; rfl
      rw [e, sum_const]
      have := hq v hv'.1 (by omega)
      have e2 : (((mn ls v).length : Nat) : Int) * - q v = - ((dV ls v : Int) * q v) := by unfold dV; rw [Int.mul_neg]
      rw [e2]
      rw [Int.mul_add, Int.mul_one] at this
      omega
    · simp only [c, if_false]
      rw [sum_map_zero]; exact Int.natCast_nonneg _
  rw [h] at up
  have nn : ∀ j ∈ rng 0 ls.length, 0 ≤ (if q (la ls j).1 ≤ K then q (oe ls (la ls j).1 j) - q (la ls j).1 else 0) + (if q (la ls j).2 ≤ K then q (oe ls (la ls j).2 j) - q (la ls j).2 else 0) := fun j _ => by
    have e1 : oe ls (la ls j).1 j = (la ls j).2 := by unfold oe; omega
    have e2 : oe ls (la ls j).2 j = (la ls j).1 := by unfold oe; omega
    rw [e1, e2]
    split <;> split <;> omega
  have one := sum_pos_le nn (mem_rng.mpr ⟨k0, by omega⟩ : k ∈ rng 0 ls.length)
  have e1 : oe ls (la ls k).1 k = (la ls k).2 := by unfold oe; omega
  have e2 : oe ls (la ls k).2 k = (la ls k).1 := by unfold oe; omega
  rw [e1, e2] at one
  constructor
  · intro c
    rw [if_pos c] at one
    by_cases c2 : q (la ls k).2 ≤ K
    · omega
    · rw [if_neg c2] at one; omega
  · intro c
    rw [if_pos c] at one
    by_cases c2 : q (la ls k).1 ≤ K
    · omega
    · rw [if_neg c2] at one; omega
/-- by the lines that lead down: place p is at most p lines away -/
theorem cut_all {n : Nat} {ls : List Pr} (w : Web n ls) {q : Int → Int} (q0 : q 0 = 0) (hq : ∀ v : Int, 0 ≤ v → v < n → ((mn ls v).map fun k => q (oe ls v k)).sum ≤ dV ls v * (q v + 1)) : ∀ m : Nat, (m : Int) < n → q m ≤ 2 * ls.length * m := by
  intro m
  induction m using Nat.strongRecOn with
  | _ m ih =>
    intro hm
    by_cases z : m = 0
    · subst z
      show q 0 ≤ _
      rw [q0]; simp
    · obtain ⟨l, hl, e⟩ := w.dn m (by omega) hm
      obtain ⟨k, k0, k1, ek⟩ := la_ex hl
      have lt := w.lt l hl
      have en := (w.ends l hl).1
      obtain ⟨j, ej⟩ : ∃ j : Nat, l.1 = (j : Int) := ⟨l.1.toNat, by omega⟩
      have h1 := ih j (by omega) (by omega)
      have h2 := (cut_bound w hq (K := 2 * ls.length * j) k0 k1).1 (by rw [ek, ej]; exact h1)
      rw [ek, e] at h2
      have h3 : (2 * (ls.length : Int)) * j + 2 * ls.length = 2 * ls.length * ((j : Int) + 1) := by rw [Int.mul_add, Int.mul_one]
      have h4 : 2 * (ls.length : Int) * ((j : Int) + 1) ≤ 2 * ls.length * m := Int.mul_le_mul_of_nonneg_left (by omega) (by omega)
      omega
end Mw

/-! M3: how long a grain walks. -/
namespace Mw
open PySem PySem.Spec PyProof.Rows L2 Eg
theorem dV_pos {n : Nat} {ls : List Pr} (w : Web n ls) {v : Int} (h1 : 1 ≤ v) (h2 : v < n) : 0 < dV ls v := by
  obtain ⟨l, hl, ht⟩ := w.tree v h1 h2
  obtain ⟨k, k0, k1, e⟩ := la_ex hl
  exact List.length_pos_of_mem (mem_mn.mpr ⟨⟨k0, k1⟩, by rw [e]; exact ht⟩)
theorem dest_in {n : Nat} {ls : List Pr} (w : Web n ls) {r : Int → Nat} {v : Int} (h : 0 < dV ls v) (i : Nat) : 0 ≤ dest ls r v i ∧ dest ls r v i < n := by
  unfold dest
  have hl : (r v + i) % dV ls v < (mn ls v).length := Nat.mod_lt _ h
  rw [List.getD_eq_getElem?_getD, List.getElem?_eq_getElem hl]
  have hm := List.getElem_mem hl
  obtain ⟨⟨k0, k1⟩, ht⟩ := mem_mn.mp hm
  exact (oe_in w k0 k1 ht).1
theorem wrun_in {n : Nat} {ls : List Pr} (w : Web n ls) {r : Int → Nat} {s : Wst} (s0 : 0 ≤ s.2) (s1 : s.2 < n) : ∀ t : Nat, (∀ i, i < t → (wrun ls r s i).2 ≠ 0) → 0 ≤ (wrun ls r s t).2 ∧ (wrun ls r s t).2 < n
  | 0, _ => ⟨s0, s1⟩
  | t + 1, h => by
    have ih := wrun_in w s0 s1 t fun i hi => h i (by omega)
    exact dest_in w (dV_pos w (by have := h t (by omega); omega) ih.2) _
theorem usum {n : Nat} {ls : List Pr} {r : Int → Nat} {s : Wst} : ∀ t : Nat, (∀ i, i < t → 1 ≤ (wrun ls r s i).2 ∧ (wrun ls r s i).2 < n) → ((rng 1 (n - 1)).map fun v => (((wrun ls r s t).1 v : Nat) : Int)).sum = ((rng 1 (n - 1)).map fun v => ((s.1 v : Nat) : Int)).sum + t
  | 0, _ => by show _ = _ + (0 : Int); rw [Int.add_zero]; rfl
  | t + 1, h => by
    have ih := usum t fun i hi => h i (by omega)
    obtain ⟨h1, h2⟩ := h t (by omega)
    have e : (fun v => (((wrun ls r s (t + 1)).1 v : Nat) : Int)) = fun v => (((wrun ls r s t).1 v : Nat) : Int) + if v = (wrun ls r s t).2 then 1 else 0 := by
      funext v
      show (((if v = (wrun ls r s t).2 then (wrun ls r s t).1 v + 1 else (wrun ls r s t).1 v) : Nat) : Int) = _
      split <;> omega
    rw [e, Eg.sum_map_add, ih, sum_one rng_nodup, if_pos (mem_rng.mpr ⟨h1, by omega⟩)]
    omega
theorem lc_comm {ls : List Pr} {v w : Int} : ((mn ls v).filter fun k => decide (oe ls v k = w)).length = lc ls w v := by
  unfold lc mn
  rw [List.filter_filter, List.filter_filter]
  congr 1
  refine List.filter_congr fun k _ => ?_
  rw [Bool.eq_iff_iff]
  simp only [Bool.and_eq_true, decide_eq_true_eq]
  constructor
  · rintro ⟨e, t⟩
    obtain ⟨t1, t2, _⟩ := touch_oe t
    rw [← e]
    exact ⟨t2, t1⟩
  · rintro ⟨e, t⟩
    obtain ⟨t1, t2, _⟩ := touch_oe t
    rw [← e]
    exact ⟨t2, t1⟩
theorem cnt_sum {α : Type} (p : α → Bool) (c : Int) (l : List α) : (l.map fun x => if p x = true then c else 0).sum = c * (l.filter p).length := by
  rw [← sum_filter p (fun _ => c) l]
  induction l.filter p with
  | nil => simp
  | cons a r ih =>
    rw [List.map_cons, List.sum_cons, ih, List.length_cons]
    have : ((r.length + 1 : Nat) : Int) = (r.length : Int) + 1 := by omega
    rw [this, Int.mul_add, Int.mul_one]; omega
theorem sum_near {n : Nat} {ls : List Pr} (w : Web n ls) {q : Int → Int} (q0 : q 0 = 0) (v : Int) : ((mn ls v).map fun k => q (oe ls v k)).sum = ((rng 1 (n - 1)).map fun u => q u * lc ls u v).sum := by
  have e : ((mn ls v).map fun k => q (oe ls v k)) = (mn ls v).map fun k => ((rng 1 (n - 1)).map fun u => if u = oe ls v k then q (oe ls v k) else 0).sum := List.map_congr_left fun k hk => by
    obtain ⟨⟨k0, k1⟩, ht⟩ := mem_mn.mp hk
    obtain ⟨⟨o0, o1⟩, _⟩ := oe_in w k0 k1 ht
    rw [sum_one rng_nodup]
    by_cases z : oe ls v k = 0
    · rw [z, q0]; simp
    · rw [if_pos (mem_rng.mpr ⟨by omega, by omega⟩)]
  rw [e, sum_comm]
  congr 1
  refine List.map_congr_left fun u _ => ?_
  have e2 : (fun k => if u = oe ls v k then q (oe ls v k) else 0) = fun k => if (decide (oe ls v k = u)) = true then q u else 0 := by
    funext k
    by_cases h : u = oe ls v k
    · simp [h]
    · rw [if_neg h]
      simp [Ne.symm h]
  rw [e2, cnt_sum, lc_comm]
/-- a grain is at the sink before so many steps -/
theorem walk_ends {n : Nat} {ls : List Pr} (hn : 1 ≤ n) (w : Web n ls) (r : Int → Nat) {x : Int} (x0 : 0 ≤ x) (x1 : x < n) : ∃ t : Nat, t ≤ 2 * ls.length * (2 * ls.length * (n - 1) + 1) ∧ Ends n ls r (fun _ => 0, x) t := by
  have C : ∀ B : Nat, (∃ t, t ≤ B ∧ (wrun ls r (fun _ => 0, x) t).2 = 0) → ∃ t, t ≤ B ∧ Ends n ls r (fun _ => 0, x) t := by
    intro B
    induction B using Nat.strongRecOn with
    | _ B ih =>
      rintro ⟨t, ht, e⟩
      by_cases c : ∃ i, i < t ∧ (wrun ls r (fun _ => 0, x) i).2 = 0
      · obtain ⟨i, hi, e2⟩ := c
        obtain ⟨t2, h1, h2⟩ := ih i (by omega) ⟨i, Nat.le_refl _, e2⟩
        exact ⟨t2, by omega, h2⟩
      · refine ⟨t, ht, fun i hi => ?_, e⟩
        have nz : ∀ j, j ≤ i → (wrun ls r (fun _ => 0, x) j).2 ≠ 0 := fun j hj z => c ⟨j, by omega, z⟩
        have := wrun_in w (r := r) (s := (fun _ => 0, x)) x0 x1 i fun j hj => nz j (by omega)
        have := nz i (Nat.le_refl _)
        omega
  refine C _ ?_
  apply Classical.byContradiction
  intro hno
  have nz : ∀ i, i ≤ 2 * ls.length * (2 * ls.length * (n - 1) + 1) → (wrun ls r (fun _ => 0, x) i).2 ≠ 0 := fun i hi z => hno ⟨i, hi, z⟩
  generalize hB : 2 * ls.length * (2 * ls.length * (n - 1) + 1) = B at nz
  have inr : ∀ i, i ≤ B + 1 → 0 ≤ (wrun ls r (fun _ => 0, x) i).2 ∧ (wrun ls r (fun _ => 0, x) i).2 < n := fun i hi => wrun_in w (r := r) (s := (fun _ => 0, x)) x0 x1 i fun j hj => nz j (by omega)
  have go : ∀ i, i < B + 1 → 1 ≤ (wrun ls r (fun _ => 0, x) i).2 ∧ (wrun ls r (fun _ => 0, x) i).2 < n := fun i hi => by
    have := inr i (by omega)
    have := nz i (by omega)
    omega
  have us := usum (n := n) (ls := ls) (r := r) (s := (fun _ => 0, x)) (B + 1) go
  have z0 : ((rng 1 (n - 1)).map fun v => (((fun _ => 0 : Int → Nat) v : Nat) : Int)).sum = 0 := sum_map_zero _
  have I0 : ∀ v, Inn n ls r (fun _ => 0) v = 0 := fun v => by
    unfold Inn
    have : (fun w => ((Nn ls r w v ((fun _ => 0 : Int → Nat) w) : Nat) : Int)) = fun _ => 0 := by
      funext w
      simp [Nn]
    rw [this, sum_map_zero]
  have kp := keep (n := n) (ls := ls) (r := r) (s := (fun _ => 0, x)) B fun i hi => go i (by omega)
  have kp1 := keep (n := n) (ls := ls) (r := r) (s := (fun _ => 0, x)) (B + 1) go
  simp only [z0] at us
  have zero : (wrun ls r (fun _ => 0, x) (B + 1)).1 0 = 0 := by
    have key : ∀ t, t ≤ B + 1 → (wrun ls r (fun _ => 0, x) t).1 0 = 0 := by
      intro t
      induction t with
      | zero => intro _; rfl
      | succ t ih =>
        intro ht
        show (if (0 : Int) = (wrun ls r (fun _ => 0, x) t).2 then _ else _) = 0
        rw [if_neg (by have := go t (by omega); omega)]
        exact ih (by omega)
    exact key (B + 1) (Nat.le_refl _)
  have zeroB : (wrun ls r (fun _ => 0, x) B).1 0 = 0 := by
    have e : (wrun ls r (fun _ => 0, x) (B + 1)).1 0 = if (0 : Int) = (wrun ls r (fun _ => 0, x) B).2 then (wrun ls r (fun _ => 0, x) B).1 0 + 1 else (wrun ls r (fun _ => 0, x) B).1 0 := rfl
    rw [if_neg (by have := go B (by omega); omega)] at e
    rw [← e]; exact zero
  have hu : ((rng 1 (n - 1)).map fun v => (((wrun ls r (fun _ => 0, x) B).1 v : Nat) : Int)).sum = B := by
    have := usum (n := n) (ls := ls) (r := r) (s := (fun _ => 0, x)) B fun i hi => go i (by omega)
    simp only [z0] at this
    omega
  have nB : (wrun ls r (fun _ => 0, x) B).2 ≠ 0 := by have := go B (by omega); omega
  generalize (wrun ls r (fun _ => 0, x) B).1 = u at kp zeroB hu
  generalize (wrun ls r (fun _ => 0, x) B).2 = xB at kp nB
  have dle : ∀ a b, dl a b ≤ 1 := fun a b => by unfold dl; split <;> omega
  let q : Int → Int := fun v => if v = 0 then 0 else ((u v / dV ls v : Nat) : Int)
  have q0 : q 0 = 0 := if_pos rfl
  have hq : ∀ v : Int, 0 ≤ v → v < n → ((mn ls v).map fun k => q (oe ls v k)).sum ≤ dV ls v * (q v + 1) := fun v v0 v1 => by
    rw [sum_near w q0]
    have le : ((rng 1 (n - 1)).map fun u => q u * lc ls u v).sum ≤ Inn n ls r u v := sum_map_le fun y hy => by
      have hy' := mem_rng.mp hy
      have e : q y = ((u y / dV ls y : Nat) : Int) := if_neg (by omega)
      rw [e]
      have := Nn_low (r := r) (v := v) (u y / dV ls y) (u y) (Nat.div_mul_le_self _ _)
      have h2 : (((u y / dV ls y) * lc ls y v : Nat) : Int) ≤ Nn ls r y v (u y) := by omega
      rw [Int.natCast_mul] at h2
      exact h2
    have k := kp v
    simp only [I0] at k
    have d1 := dle xB v
    have d2 := dle x v
    by_cases z : v = 0
    · subst z
      have d3 : dl xB 0 = 0 := if_neg nB
      have : (0 : Int) ≤ dV ls 0 * (q 0 + 1) := by rw [q0]; omega
      omega
    · have e : q v = ((u v / dV ls v : Nat) : Int) := if_neg z
      have hd := dV_pos w (show 1 ≤ v by omega) v1
      have h1 := Nat.lt_mul_div_succ (u v) hd
      have h2 : (((dV ls v) * (u v / dV ls v + 1) : Nat) : Int) = dV ls v * (q v + 1) := by rw [Int.natCast_mul, e]; rfl
      omega
  have ca := cut_all w q0 hq
  have fin : ((rng 1 (n - 1)).map fun v => ((u v : Nat) : Int)).sum + 1 ≤ (((rng 0 n).map fun v => ((dV ls v : Nat) : Int)).sum) * (2 * ls.length * (n - 1 : Nat) + 1) ∨ n = 1 := by
    by_cases n1 : n = 1
    · exact .inr n1
    left
    have each : ∀ v ∈ rng 1 (n - 1), ((u v : Nat) : Int) + 1 ≤ (2 * ls.length * (n - 1 : Nat) + 1) * (dV ls v : Nat) := fun v hv => by
      have hv' := mem_rng.mp hv
      have e : q v = ((u v / dV ls v : Nat) : Int) := if_neg (by omega)
      have hd := dV_pos w (show 1 ≤ v by omega) (by omega)
      have h1 := Nat.lt_mul_div_succ (u v) hd
      have h3 := ca v.toNat (by omega)
      have e3 : ((v.toNat : Nat) : Int) = v := by omega
      rw [e3, e] at h3
      have h4 : 2 * (ls.length : Int) * v ≤ 2 * ls.length * (n - 1 : Nat) := Int.mul_le_mul_of_nonneg_left (by omega) (by omega)
      have h5 : ((u v / dV ls v : Nat) : Int) + 1 ≤ 2 * ls.length * (n - 1 : Nat) + 1 := by omega
      have h6 := Int.mul_le_mul_of_nonneg_left h5 (Int.natCast_nonneg (dV ls v))
      have h7 : (((dV ls v) * (u v / dV ls v + 1) : Nat) : Int) = dV ls v * (((u v / dV ls v : Nat) : Int) + 1) := by rw [Int.natCast_mul]; rfl
      rw [Int.mul_comm] at h6
      rw [Int.mul_comm (2 * (ls.length : Int) * (n - 1 : Nat) + 1) _]
      rw [Int.mul_comm] at h6
      omega
    have s1 := sum_map_le each
    rw [Eg.sum_map_add, sum_map_mul] at s1
    have s2 : ((rng 1 (n - 1)).map fun _ => (1 : Int)).sum = (n - 1 : Nat) := by rw [sum_const, rng_length]; omega
    rw [s2] at s1
    have s3 : ((rng 1 (n - 1)).map fun v => ((dV ls v : Nat) : Int)).sum ≤ ((rng 0 n).map fun v => ((dV ls v : Nat) : Int)).sum := by
      obtain ⟨m, rfl⟩ : ∃ m, n = m + 1 := ⟨n - 1, by omega⟩
      rw [rng0, List.map_cons, List.sum_cons]
      have : m + 1 - 1 = m := by omega
      rw [this]
      have := Int.natCast_nonneg (dV ls 0)
      omega
    have s4 := Int.mul_le_mul_of_nonneg_left s3 (show (0 : Int) ≤ 2 * ls.length * (n - 1 : Nat) + 1 by
      have : (0 : Int) ≤ 2 * ls.length * (n - 1 : Nat) := Int.mul_nonneg (by omega) (by omega)
      omega)
    rw [Int.mul_comm (((rng 0 n).map fun v => ((dV ls v : Nat) : Int)).sum) _]
    omega
  rcases fin with fin | n1
  · rw [sum_dV w, hu] at fin
    have : ((B : Nat) : Int) = 2 * ls.length * (2 * ls.length * (n - 1 : Nat) + 1) := by rw [← hB]; simp
    omega
  · have := go B (by omega)
    omega
end Mw

/-! M4: all trees, by labels. -/
namespace Mw
open PySem PySem.Spec PyProof.Rows L2 Eg
structure LabW (n : Nat) (ls : List Pr) (ts : List Int) (L : Int → Int) : Prop where
  inr : ∀ x : Int, 0 ≤ x → x < n → 0 ≤ L x ∧ L x < n
  idem : ∀ x : Int, 0 ≤ x → x < n → L (L x) = L x
  tl : ∀ k ∈ ts, L (la ls k).1 = L (la ls k).2
  cl : ∀ x y : Int, 0 ≤ x → x < n → 0 ≤ y → y < n → L x = L y → ∀ S : Int → Prop, (∀ k ∈ ts, S (la ls k).1 ↔ S (la ls k).2) → (S x ↔ S y)
def Wl (n : Nat) (ls : List Pr) : Prop := ∀ l ∈ ls, (0 ≤ l.1 ∧ l.1 < (n : Int)) ∧ 0 ≤ l.2 ∧ l.2 < (n : Int)
theorem LabW.nil {n : Nat} {ls : List Pr} : LabW n ls [] id := by
  have h : Lab n ls [] id := .nil
  exact ⟨h.inr, h.idem, h.tl, h.cl⟩
theorem mrg_same {L : Int → Int} {a b : Int} (h : L a = L b) : mrg L a b = L := by
  funext x
  unfold mrg
  split
  · rename_i e; rw [h, e]
  · rfl
theorem LabW.step {n : Nat} {ls : List Pr} {ts : List Int} {L : Int → Int} (w : Wl n ls) (h : LabW n ls ts L) {k : Int} (k0 : 0 ≤ k) (k1 : k < ls.length) :
    LabW n ls (ts ++ [k]) (mrg L (la ls k).1 (la ls k).2) := by
  obtain ⟨⟨a0, a1⟩, c0, c1⟩ := w _ (la_mem k0 k1)
  by_cases hne : L (la ls k).1 = L (la ls k).2
  · rw [mrg_same hne]
    refine ⟨h.inr, h.idem, fun j hj => ?_, fun x y x0 x1 y0 y1 e S hS => h.cl x y x0 x1 y0 y1 e S fun j hj => hS j (List.mem_append_left _ hj)⟩
    rcases List.mem_append.mp hj with hj | hj
    · exact h.tl j hj
    · rw [List.mem_singleton.mp hj]; exact hne
  have ia := h.inr _ a0 a1
  refine ⟨fun x x0 x1 => ?_, fun x x0 x1 => ?_, fun j hj => ?_, fun x y x0 x1 y0 y1 e S hS => ?_⟩
  · unfold mrg
    split
    · exact ia
    · exact h.inr x x0 x1
  · by_cases e : L x = L (la ls k).2
    · have e1 : mrg L (la ls k).1 (la ls k).2 x = L (la ls k).1 := if_pos e
      rw [e1]
      unfold mrg
      rw [h.idem _ a0 a1, if_neg hne]
    · have e1 : mrg L (la ls k).1 (la ls k).2 x = L x := if_neg e
      rw [e1]
      unfold mrg
      rw [h.idem _ x0 x1, if_neg e]
  · rcases List.mem_append.mp hj with hj | hj
    · have := h.tl j hj
      unfold mrg
      rw [this]
    · rw [List.mem_singleton.mp hj]
      unfold mrg
      rw [if_neg hne, if_pos rfl]
  · have hS1 : ∀ k ∈ ts, S (la ls k).1 ↔ S (la ls k).2 := fun j hj => hS j (List.mem_append_left _ hj)
    have hS2 := hS k (by simp)
    unfold mrg at e
    have C := h.cl
    by_cases ex : L x = L (la ls k).2 <;> by_cases ey : L y = L (la ls k).2
    · exact C x y x0 x1 y0 y1 (ex.trans ey.symm) S hS1
    · rw [if_pos ex, if_neg ey] at e
      exact (C x _ x0 x1 c0 c1 ex S hS1).trans (hS2.symm.trans (C _ y a0 a1 y0 y1 e S hS1))
    · rw [if_neg ex, if_pos ey] at e
      exact (C x _ x0 x1 a0 a1 e S hS1).trans (hS2.trans (C _ y c0 c1 y0 y1 ey.symm S hS1))
    · rw [if_neg ex, if_neg ey] at e
      exact C x y x0 x1 y0 y1 e S hS1
def fixN (n : Nat) (L : Int → Int) : Nat := ((rng 0 n).filter fun x => decide (L x = x)).length
theorem fix_step {n : Nat} {ls : List Pr} {ts : List Int} {L : Int → Int} (w : Wl n ls) (h : LabW n ls ts L) {k : Int} (k0 : 0 ≤ k) (k1 : k < ls.length) (hne : L (la ls k).1 ≠ L (la ls k).2) :
    fixN n (mrg L (la ls k).1 (la ls k).2) + 1 = fixN n L := by
  obtain ⟨⟨a0, a1⟩, c0, c1⟩ := w _ (la_mem k0 k1)
  have ic := h.inr _ c0 c1
  unfold fixN
  have e1 : ((rng 0 n).filter fun x => decide (mrg L (la ls k).1 (la ls k).2 x = x)) = ((rng 0 n).filter fun x => decide (L x = x)).filter fun x => decide (x ≠ L (la ls k).2) := by
    rw [List.filter_filter]
    refine List.filter_congr fun x hx => ?_
    have hx' := mem_rng.mp hx
    rw [Bool.eq_iff_iff]
    simp only [Bool.and_eq_true, decide_eq_true_eq]
    unfold mrg
    constructor
    · intro e
      split at e
      · rename_i c
        exfalso
        apply hne
        have : L (L (la ls k).1) = L x := by rw [e]
        rw [h.idem _ a0 a1] at this
        rw [this, c]
      · rename_i c
        exact ⟨fun z => c (by rw [z, h.idem _ c0 c1]), e⟩
    · rintro ⟨e1, e2⟩
      rw [if_neg (fun z => e1 (by rw [← e2, z]))]; exact e2
  rw [e1]
  have hm : L (la ls k).2 ∈ (rng 0 n).filter fun x => decide (L x = x) := List.mem_filter.mpr ⟨mem_rng.mpr ⟨ic.1, by omega⟩, by rw [decide_eq_true_eq]; exact h.idem _ c0 c1⟩
  have hnd : ((rng 0 n).filter fun x => decide (L x = x)).Nodup := rng_nodup.filter _
  have e2 : (((rng 0 n).filter fun x => decide (L x = x)).filter fun x => decide (x ≠ L (la ls k).2)) = ((rng 0 n).filter fun x => decide (L x = x)).erase (L (la ls k).2) := by
    rw [hnd.erase_eq_filter]
    refine List.filter_congr fun x _ => ?_
    by_cases e : x = L (la ls k).2 <;> simp [e]
  rw [e2, List.length_erase_of_mem hm]
  have := List.length_pos_of_mem hm
  omega
/-- labels all alike: one place alone is its own label -/
theorem fix_one {n : Nat} {ls : List Pr} {ts : List Int} {L : Int → Int} (hn : 1 ≤ n) (h : LabW n ls ts L) (all : ∀ x : Int, 0 ≤ x → x < n → L x = L 0) : fixN n L = 1 := by
  have i0 := h.inr 0 (by decide) (by omega)
  have hnd : ((rng 0 n).filter fun x => decide (L x = x)).Nodup := rng_nodup.filter _
  have hm : ∀ x, x ∈ ((rng 0 n).filter fun x => decide (L x = x)) ↔ x ∈ [L 0] := fun x => by
    rw [List.mem_filter, mem_rng, decide_eq_true_eq, List.mem_singleton]
    constructor
    · rintro ⟨⟨x0, x1⟩, e⟩
      rw [← e]; exact all x x0 (by omega)
    · rintro rfl
      exact ⟨⟨i0.1, by omega⟩, h.idem 0 (by decide) (by omega)⟩
  have := (List.perm_ext_iff_of_nodup hnd (by simp)).mpr hm
  have e := List.perm_singleton.mp this
  unfold fixN
  rw [e]; rfl
/-- .. and back -/
theorem one_fix {n : Nat} {ls : List Pr} {ts : List Int} {L : Int → Int} (hn : 1 ≤ n) (h : LabW n ls ts L) (e : fixN n L = 1) : ∀ x : Int, 0 ≤ x → x < n → L x = L 0 := fun x x0 x1 => by
  obtain ⟨c, hc⟩ := List.length_eq_one_iff.mp e
  have mem : ∀ y : Int, 0 ≤ y → y < n → L y ∈ (rng 0 n).filter fun x => decide (L x = x) := fun y y0 y1 => by
    have i := h.inr y y0 y1
    exact List.mem_filter.mpr ⟨mem_rng.mpr ⟨i.1, by omega⟩, by rw [decide_eq_true_eq]; exact h.idem y y0 y1⟩
  have a := mem x x0 x1
  have b := mem 0 (by decide) (by omega)
  rw [hc, List.mem_singleton] at a b
  rw [a, b]
def labF (ls : List Pr) (L : Int → Int) (k : Int) : Int → Int := mrg L (la ls k).1 (la ls k).2
def labOf (ls : List Pr) (t : List Int) : Int → Int := t.foldl (labF ls) id
theorem labOf_snoc {ls : List Pr} {t : List Int} {k : Int} : labOf ls (t ++ [k]) = mrg (labOf ls t) (la ls k).1 (la ls k).2 := by
  unfold labOf
  rw [List.foldl_append]; rfl
theorem snoc_ind {α : Type} {P : List α → Prop} (h0 : P []) (h1 : ∀ l x, P l → P (l ++ [x])) : ∀ l, P l := fun l => by
  rw [← List.reverse_reverse l]
  induction l.reverse with
  | nil => exact h0
  | cons a r ih => rw [List.reverse_cons]; exact h1 _ _ ih
theorem labW {n : Nat} {ls : List Pr} (w : Wl n ls) : ∀ t : List Int, TsOk ls t → LabW n ls t (labOf ls t) ∧ n ≤ fixN n (labOf ls t) + t.length := by
  refine snoc_ind (fun _ => ⟨.nil, ?_⟩) fun t k ih hk => ?_
  · unfold fixN
    have : ((rng 0 n).filter fun x => decide (labOf ls [] x = x)) = rng 0 n := List.filter_eq_self.mpr fun x _ => by
      show decide (x = x) = true
      exact decide_eq_true rfl
    rw [this, rng_length]; omega
  · obtain ⟨h1, h2⟩ := ih fun j hj => hk j (List.mem_append_left _ hj)
    obtain ⟨k0, k1⟩ := hk k (by simp)
    rw [labOf_snoc]
    refine ⟨h1.step w k0 k1, ?_⟩
    rw [List.length_append, List.length_singleton]
    by_cases e : labOf ls t (la ls k).1 = labOf ls t (la ls k).2
    · rw [mrg_same e]; omega
    · have := fix_step w h1 k0 k1 e
      omega
/-- all holds of everything that some lines join -/
def Con (n : Nat) (ls : List Pr) (ts : List Int) : Prop := ∀ x : Int, 0 ≤ x → x < n → ∀ S : Int → Prop, (∀ k ∈ ts, S (la ls k).1 ↔ S (la ls k).2) → S 0 → S x
theorem con_len {n : Nat} {ls : List Pr} {ts : List Int} (hn : 1 ≤ n) (w : Wl n ls) (tk : TsOk ls ts) (h : Con n ls ts) : n - 1 ≤ ts.length := by
  obtain ⟨h1, h2⟩ := labW w ts tk
  have := fix_one hn h1 fun x x0 x1 => (h x x0 x1 (fun y => labOf ls ts y = labOf ls ts 0) (fun k hk => by rw [h1.tl k hk]) rfl)
  omega
/-- the lists of lines without rings, as they are grown -/
def tg (ls : List Pr) : Nat → List (List Int)
  | 0 => [[]]
  | k + 1 => tg ls k ++ ((tg ls k).filter fun t => decide (labOf ls t (la ls (k : Nat)).1 ≠ labOf ls t (la ls (k : Nat)).2)).map fun t => t ++ [((k : Nat) : Int)]
structure Fo (n : Nat) (ls : List Pr) (m : Nat) (t : List Int) : Prop where
  rg : ∀ k ∈ t, 0 ≤ k ∧ k < m
  inc : t.Pairwise (· < ·)
  lab : LabW n ls t (labOf ls t)
  cnt : fixN n (labOf ls t) + t.length = n
theorem tg_fo {n : Nat} {ls : List Pr} (w : Wl n ls) : ∀ m : Nat, m ≤ ls.length → ∀ t ∈ tg ls m, Fo n ls m t
  | 0, _, t, ht => by
    have : t = [] := by unfold tg at ht; simpa using ht
    subst this
    refine ⟨fun k hk => (nomatch hk), .nil, .nil, ?_⟩
    unfold fixN
    have : ((rng 0 n).filter fun x => decide (labOf ls [] x = x)) = rng 0 n := List.filter_eq_self.mpr fun x _ => by
      show decide (x = x) = true
      exact decide_eq_true rfl
    rw [this, rng_length]; rfl
  | m + 1, hm, t, ht => by
    rcases List.mem_append.mp ht with ht | ht
    · have F := tg_fo w m (by omega) t ht
      exact ⟨fun k hk => by have := F.rg k hk; omega, F.inc, F.lab, F.cnt⟩
    · obtain ⟨u, hu, rfl⟩ := List.mem_map.mp ht
      obtain ⟨hu, hc⟩ := List.mem_filter.mp hu
      rw [decide_eq_true_eq] at hc
      have F := tg_fo w m (by omega) u hu
      refine ⟨fun k hk => ?_, List.pairwise_append.mpr ⟨F.inc, List.pairwise_singleton _ _, fun a ha b hb => by rw [List.mem_singleton.mp hb]; exact (F.rg a ha).2⟩, ?_, ?_⟩
      · rcases List.mem_append.mp hk with hk | hk
        · have := F.rg k hk; omega
        · rw [List.mem_singleton.mp hk]; omega
      · rw [labOf_snoc]; exact F.lab.step w (by omega) (by omega)
      · rw [labOf_snoc, List.length_append, List.length_singleton]
        have := fix_step w F.lab (k := ((m : Nat) : Int)) (by omega) (by omega) hc
        have := F.cnt
        omega
theorem tg_nodup {ls : List Pr} {n : Nat} (w : Wl n ls) : ∀ m : Nat, m ≤ ls.length → (tg ls m).Nodup
  | 0, _ => by simp [tg]
  | m + 1, hm => by
    have ih := tg_nodup w m (by omega)
    refine List.nodup_append.mpr ⟨ih, ?_, fun a ha b hb e => ?_⟩
    · unfold List.Nodup
      rw [List.pairwise_map]
      exact (ih.filter _).imp fun h e => h (List.append_inj_left' e rfl)
    · obtain ⟨u, _, rfl⟩ := List.mem_map.mp hb
      have := (tg_fo w m (by omega) a ha).rg m (by rw [e]; simp)
      omega
/-- the trees -/
def tl (n : Nat) (ls : List Pr) : List (List Int) := (tg ls ls.length).filter fun t => decide (t.length = n - 1)
theorem tl_tr {n : Nat} {ls : List Pr} (hn : 1 ≤ n) (w : Wl n ls) {t : List Int} (h : t ∈ tl n ls) : Tr n ls t ∧ t.Pairwise (· < ·) := by
  obtain ⟨h1, h2⟩ := List.mem_filter.mp h
  rw [decide_eq_true_eq] at h2
  have F := tg_fo w _ (Nat.le_refl _) t h1
  have c := F.cnt
  have all := one_fix hn F.lab (by omega)
  refine ⟨⟨fun k hk => F.rg k hk, lt_nodup F.inc, h2, fun x x0 x1 S hS s0 => ?_⟩, F.inc⟩
  exact (F.lab.cl x 0 x0 x1 (by decide) (by omega) (all x x0 x1) S hS).mpr s0
theorem tg_mem {ls : List Pr} {n : Nat} (w : Wl n ls) : ∀ (m : Nat) (t : List Int), m ≤ ls.length → (∀ k ∈ t, 0 ≤ k ∧ k < m) → t.Pairwise (· < ·) → (∀ p k r, t = p ++ k :: r → labOf ls p (la ls k).1 ≠ labOf ls p (la ls k).2) → t ∈ tg ls m
  | 0, t, _, h, _, _ => by
    have : t = [] := by
      cases t with
      | nil => rfl
      | cons a r => have := h a List.mem_cons_self; omega
    subst this
    simp [tg]
  | m + 1, t, hm, h, hi, hc => by
    by_cases hmem : (m : Int) ∈ t
    · have hne : t ≠ [] := fun z => by rw [z] at hmem; cases hmem
      obtain ⟨u, k, rfl⟩ : ∃ u k, t = u ++ [k] := ⟨t.dropLast, t.getLast hne, (List.dropLast_concat_getLast hne).symm⟩
      have hi' := List.pairwise_append.mp hi
      have ek : k = m := by
        rcases List.mem_append.mp hmem with z | z
        · have := hi'.2.2 _ z k (by simp)
          have := (h k (by simp)).2
          omega
        · exact (List.mem_singleton.mp z).symm
      subst ek
      refine List.mem_append_right _ (List.mem_map.mpr ⟨u, List.mem_filter.mpr ⟨tg_mem w m u (by omega) (fun j hj => ?_) hi'.1 (fun p j r e => hc p j (r ++ [(m : Int)]) (by rw [e]; simp)), ?_⟩, rfl⟩)
      · have := h j (List.mem_append_left _ hj)
        have := hi'.2.2 j hj m (by simp)
        omega
      · rw [decide_eq_true_eq]; exact hc u m [] rfl
    · refine List.mem_append_left _ (tg_mem w m t (by omega) (fun j hj => ?_) hi hc)
      have := h j hj
      have : j ≠ m := fun z => hmem (z ▸ hj)
      omega
theorem tr_tl {n : Nat} {ls : List Pr} (hn : 1 ≤ n) (w : Wl n ls) {t : List Int} (T : Tr n ls t) (hi : t.Pairwise (· < ·)) : t ∈ tl n ls := by
  refine List.mem_filter.mpr ⟨tg_mem w _ t (Nat.le_refl _) (fun k hk => T.ok k hk) hi fun p k r e z => ?_, by rw [decide_eq_true_eq]; exact T.len⟩
  -- without k all hangs together still
  have tp : TsOk ls p := fun j hj => T.ok j (by rw [e]; exact List.mem_append_left _ hj)
  obtain ⟨k0, k1⟩ := T.ok k (by rw [e]; simp)
  obtain ⟨⟨a0, a1⟩, b0, b1⟩ := w _ (la_mem k0 k1)
  obtain ⟨h1, _⟩ := labW w p tp
  have c2 : Con n ls (p ++ r) := fun x x0 x1 S hS s0 => T.con x x0 x1 S (fun j hj => by
    rw [e] at hj
    rcases List.mem_append.mp hj with hj | hj
    · exact hS j (List.mem_append_left _ hj)
    · rcases List.mem_cons.mp hj with rfl | hj
      · exact h1.cl _ _ a0 a1 b0 b1 z S fun i hi => hS i (List.mem_append_left _ hi)
      · exact hS j (List.mem_append_right _ hj)) s0
  have := con_len hn w (fun j hj => T.ok j (by
    rw [e]
    rcases List.mem_append.mp hj with hj | hj
    · exact List.mem_append_left _ hj
    · exact List.mem_append_right _ (List.mem_cons_of_mem _ hj))) c2
  have l := T.len
  rw [e] at l
  simp at l this
  omega
theorem tl_nodup {n : Nat} {ls : List Pr} (w : Wl n ls) : (tl n ls).Nodup := (tg_nodup w _ (Nat.le_refl _)).filter _
theorem tg_len {ls : List Pr} : ∀ m : Nat, (tg ls m).length ≤ 2 ^ m
  | 0 => Nat.le_refl _
  | m + 1 => by
    have ih := tg_len (ls := ls) m
    have := List.length_filter_le (fun t => decide (labOf ls t (la ls (m : Nat)).1 ≠ labOf ls t (la ls (m : Nat)).2)) (tg ls m)
    show (tg ls m ++ _).length ≤ _
    rw [List.length_append, List.length_map, Nat.pow_succ]
    omega
end Mw

/-! M5: pointers that are trees. -/
namespace Mw
open PySem PySem.Spec PyProof.Rows L2 Eg
def pl (ls : List Pr) (p : List Int) (v : Int) : Int := gi (mn ls v) (gi p v)
def pt (ls : List Pr) (p : List Int) (v : Int) : Int := oe ls v (pl ls p v)
structure Ptr (n : Nat) (ls : List Pr) (p : List Int) : Prop where
  len : p.length = n
  z : gi p 0 = 0
  rg : ∀ v : Int, 1 ≤ v → v < n → 0 ≤ gi p v ∧ gi p v < dV ls v
def aimN (ls : List Pr) (p : List Int) : Nat → Int → Int
  | 0, x => x
  | k + 1, x => if x = 0 then 0 else aimN ls p k (pt ls p x)
theorem aim0 {ls : List Pr} {p : List Int} : ∀ k, aimN ls p k 0 = 0
  | 0 => rfl
  | k + 1 => if_pos rfl
theorem aimS {ls : List Pr} {p : List Int} {k : Nat} {x : Int} (h : x ≠ 0) : aimN ls p (k + 1) x = aimN ls p k (pt ls p x) := if_neg h
def isT (n : Nat) (ls : List Pr) (p : List Int) : Bool := (rng 1 (n - 1)).all fun x => decide (aimN ls p n x = 0)
theorem isT_iff {n : Nat} {ls : List Pr} {p : List Int} : isT n ls p = true ↔ ∀ x : Int, 1 ≤ x → x < n → aimN ls p n x = 0 := by
  unfold isT
  rw [List.all_eq_true]
  constructor
  · intro h x x1 x2
    exact of_decide_eq_true (h x (mem_rng.mpr ⟨x1, by omega⟩))
  · intro h x hx
    have := mem_rng.mp hx
    exact decide_eq_true (h x this.1 (by omega))
theorem pl_in {n : Nat} {ls : List Pr} {p : List Int} (P : Ptr n ls p) {v : Int} (h1 : 1 ≤ v) (h2 : v < n) : (0 ≤ pl ls p v ∧ pl ls p v < ls.length) ∧ touch v (la ls (pl ls p v)) = true ∧ pl ls p v ∈ mn ls v := by
  obtain ⟨a, b⟩ := P.rg v h1 h2
  have hm : pl ls p v ∈ mn ls v := by
    unfold pl gi
    unfold gi dV at b
    unfold gi at a
    rw [List.getD_eq_getElem?_getD (l := mn ls v), List.getElem?_eq_getElem (by omega)]
    exact List.getElem_mem _
  have := mem_mn.mp hm
  exact ⟨this.1, this.2, hm⟩
theorem pt_in {n : Nat} {ls : List Pr} {p : List Int} (w : Web n ls) (P : Ptr n ls p) {v : Int} (h1 : 1 ≤ v) (h2 : v < n) : 0 ≤ pt ls p v ∧ pt ls p v < n := by
  obtain ⟨⟨a, b⟩, c, _⟩ := pl_in P h1 h2
  exact (oe_in w a b c).1
theorem pl_inj {n : Nat} {ls : List Pr} {p : List Int} (w : Web n ls) (P : Ptr n ls p) (T : isT n ls p = true) {x y : Int} (x1 : 1 ≤ x) (x2 : x < n) (y1 : 1 ≤ y) (y2 : y < n) (e : pl ls p x = pl ls p y) : x = y := by
  apply Classical.byContradiction
  intro hne
  obtain ⟨⟨a0, a1⟩, at_, _⟩ := pl_in P x1 x2
  obtain ⟨⟨b0, b1⟩, bt, _⟩ := pl_in P y1 y2
  have ex : pt ls p x = y ∧ pt ls p y = x := by
    unfold pt
    rw [e] at at_ ⊢
    unfold touch at at_ bt
    unfold oe
    rw [decide_eq_true_eq] at at_ bt
    omega
  have key : ∀ k, aimN ls p k x ≠ 0 ∧ aimN ls p k y ≠ 0 := by
    intro k
    induction k with
    | zero => exact ⟨by show x ≠ 0; omega, by show y ≠ 0; omega⟩
    | succ k ih =>
      rw [aimS (by omega), aimS (by omega), ex.1, ex.2]
      exact ⟨ih.2, ih.1⟩
  exact (key n).1 (isT_iff.mp T x x1 x2)
/-- the lines that pointers show -/
def phi (n : Nat) (ls : List Pr) (p : List Int) : List Int := sortI ((rng 1 (n - 1)).map (pl ls p))
theorem phi_mem {n : Nat} {ls : List Pr} {p : List Int} {k : Int} : k ∈ phi n ls p ↔ ∃ x : Int, 1 ≤ x ∧ x < n ∧ pl ls p x = k := by
  unfold phi
  rw [sortI_mem, List.mem_map]
  constructor
  · rintro ⟨x, hx, e⟩
    have := mem_rng.mp hx
    exact ⟨x, this.1, by omega, e⟩
  · rintro ⟨x, x1, x2, e⟩
    exact ⟨x, mem_rng.mpr ⟨x1, by omega⟩, e⟩
theorem phi_nodup {n : Nat} {ls : List Pr} {p : List Int} (w : Web n ls) (P : Ptr n ls p) (T : isT n ls p = true) : (phi n ls p).Nodup := by
  refine (List.mergeSort_perm _ _).nodup_iff.mpr ?_
  unfold List.Nodup
  rw [List.pairwise_map]
  refine List.Pairwise.imp_of_mem (fun {a c} ha hc hne e => hne ?_) (rng_nodup (lo := 1) (n := n - 1))
  have ha' := mem_rng.mp ha
  have hc' := mem_rng.mp hc
  exact pl_inj w P T ha'.1 (by omega) hc'.1 (by omega) e
theorem phi_inc {n : Nat} {ls : List Pr} {p : List Int} (w : Web n ls) (P : Ptr n ls p) (T : isT n ls p = true) : (phi n ls p).Pairwise (· < ·) := by
  have h1 := sortI_pw ((rng 1 (n - 1)).map (pl ls p))
  have h2 := phi_nodup w P T
  unfold phi at h2 ⊢
  exact (List.pairwise_and_iff.mpr ⟨h1, h2⟩).imp fun ⟨a, b⟩ => by omega
theorem aim_S {n : Nat} {ls : List Pr} {p : List Int} (w : Web n ls) (P : Ptr n ls p) {S : Int → Prop} (hS : ∀ x : Int, 1 ≤ x → x < n → (S x ↔ S (pt ls p x))) : ∀ (k : Nat) (x : Int), 0 ≤ x → x < n → (S x ↔ S (aimN ls p k x))
  | 0, x, _, _ => Iff.rfl
  | k + 1, x, x0, x1 => by
    by_cases z : x = 0
    · subst z; rw [aim0]
    · rw [aimS z]
      have i := pt_in w P (by omega) x1
      exact (hS x (by omega) x1).trans (aim_S w P hS k _ i.1 i.2)
theorem phi_tr {n : Nat} {ls : List Pr} {p : List Int} (hn : 1 ≤ n) (w : Web n ls) (P : Ptr n ls p) (T : isT n ls p = true) : Tr n ls (phi n ls p) := by
  refine ⟨fun k hk => ?_, phi_nodup w P T, by unfold phi; rw [sortI_len, List.length_map, rng_length], fun x x0 x1 S hS s0 => ?_⟩
  · obtain ⟨x, x1, x2, rfl⟩ := phi_mem.mp hk
    exact (pl_in P x1 x2).1
  · have h := aim_S w P (S := S) (fun y y1 y2 => by
      have h1 := hS (pl ls p y) (phi_mem.mpr ⟨y, y1, y2, rfl⟩)
      obtain ⟨_, ht, _⟩ := pl_in P y1 y2
      obtain ⟨_, _, c⟩ := touch_oe ht
      have e : oe ls y (pl ls p y) = pt ls p y := rfl
      rw [e] at c
      rcases c with ⟨c1, c2⟩ | ⟨c1, c2⟩
      · rw [c1, c2] at h1; exact h1
      · rw [c1, c2] at h1; exact h1.symm) n x x0 x1
    by_cases z : x = 0
    · rw [z]; exact s0
    · rw [isT_iff.mp T x (by omega) x1] at h
      exact h.mpr s0
theorem mn_inj {ls : List Pr} {v i j : Int} (i0 : 0 ≤ i) (i1 : i < dV ls v) (j0 : 0 ≤ j) (j1 : j < dV ls v) (e : gi (mn ls v) i = gi (mn ls v) j) : i = j := by
  unfold dV at i1 j1
  unfold gi at e
  rw [List.getD_eq_getElem?_getD, List.getD_eq_getElem?_getD, List.getElem?_eq_getElem (by omega), List.getElem?_eq_getElem (by omega)] at e
  have nd : (mn ls v).Nodup := rng_nodup.filter _
  have hi : i.toNat < (mn ls v).length := by omega
  have hj : j.toNat < (mn ls v).length := by omega
  have h := (List.getElem_inj (h₀ := hi) (h₁ := hj) nd).mp (by simpa using e)
  omega
/-- pointers are told by their lines -/
theorem phi_inj {n : Nat} {ls : List Pr} {p q : List Int} (w : Web n ls) (P : Ptr n ls p) (T : isT n ls p = true) (P' : Ptr n ls q) (T' : isT n ls q = true) (e : phi n ls p = phi n ls q) : p = q := by
  have key : ∀ (k : Nat) (x : Int), 1 ≤ x → x < n → aimN ls p k x = 0 → pl ls q x = pl ls p x := by
    intro k
    induction k with
    | zero => intro x x1 x2 h; have : x = 0 := h; omega
    | succ k ih =>
      intro x x1 x2 h
      rw [aimS (by omega)] at h
      have hm : pl ls p x ∈ phi n ls q := by rw [← e]; exact phi_mem.mpr ⟨x, x1, x2, rfl⟩
      obtain ⟨y, y1, y2, ey⟩ := phi_mem.mp hm
      by_cases c : y = x
      · rw [c] at ey; exact ey
      · obtain ⟨⟨a0, a1⟩, at_, _⟩ := pl_in P x1 x2
        obtain ⟨⟨b0, b1⟩, bt, _⟩ := pl_in P' y1 y2
        have ez : pt ls p x = y := by
          rw [ey] at bt
          unfold pt
          unfold touch at at_ bt
          unfold oe
          rw [decide_eq_true_eq] at at_ bt
          omega
        rw [ez] at h
        have i := ih y y1 y2 h
        exact absurd (pl_inj w P T y1 y2 x1 x2 (i.symm.trans ey)) c
  refine same_by P.len P'.len fun v v0 v1 => ?_
  by_cases z : v = 0
  · rw [z, P.z, P'.z]
  · have h := key n v (by omega) v1 (isT_iff.mp T v (by omega) v1)
    obtain ⟨a, b⟩ := P.rg v (by omega) v1
    obtain ⟨c, d⟩ := P'.rg v (by omega) v1
    exact (mn_inj c d a b h).symm
/-- pointers grown from the sink along lines of ts: places met, in their order -/
structure Grow (n : Nat) (ls : List Pr) (ts : List Int) (met : List Int) (g : Int → Int) : Prop where
  nd : met.Nodup
  z : met.head? = some 0
  g0 : g 0 = 0
  sub : ∀ x ∈ met, 0 ≤ x ∧ x < n
  at_ : ∀ (j : Nat) (x : Int), met[j]? = some x → x ≠ 0 → (0 ≤ g x ∧ g x < dV ls x) ∧ gi (mn ls x) (g x) ∈ ts ∧ ∃ i y, i < j ∧ met[i]? = some y ∧ oe ls x (gi (mn ls x) (g x)) = y
theorem Grow.init {n : Nat} {ls : List Pr} {ts : List Int} (hn : 1 ≤ n) : Grow n ls ts [0] fun _ => 0 :=
  ⟨by simp, rfl, rfl, fun x hx => by rw [List.mem_singleton.mp hx]; omega, fun j x h hx => by
    cases j with
    | zero => simp at h; exact absurd h.symm hx
    | succ j => simp at h⟩
theorem Grow.step {n : Nat} {ls : List Pr} {ts met : List Int} {g : Int → Int} (G : Grow n ls ts met g) {x i : Int} (x0 : 0 ≤ x) (x1 : x < n) (hx : x ∉ met) (i0 : 0 ≤ i) (i1 : i < dV ls x) (ht : gi (mn ls x) i ∈ ts) (hy : oe ls x (gi (mn ls x) i) ∈ met) :
    Grow n ls ts (met ++ [x]) fun v => if v = x then i else g v := by
  have z0 : (0 : Int) ∈ met := by
    have := G.z
    cases h : met with
    | nil => rw [h] at this; cases this
    | cons a r => rw [h] at this; simp at this; rw [this]; simp
  have xz : x ≠ 0 := fun e => hx (e ▸ z0)
  refine ⟨List.nodup_append.mpr ⟨G.nd, by simp, fun a ha b hb => by rw [List.mem_singleton.mp hb]; exact fun e => hx (e ▸ ha)⟩, ?_, ?_, fun y hy2 => ?_, fun j y h hy0 => ?_⟩
  · have := G.z
    cases h : met with
    | nil => rw [h] at z0; cases z0
    | cons a r => rw [h] at this; simpa using this
  · show (if (0 : Int) = x then i else g 0) = 0
    rw [if_neg (Ne.symm xz)]; exact G.g0
  · rcases List.mem_append.mp hy2 with hy2 | hy2
    · exact G.sub y hy2
    · rw [List.mem_singleton.mp hy2]; exact ⟨x0, x1⟩
  · by_cases hj : j < met.length
    · rw [List.getElem?_append_left hj] at h
      have hm : y ∈ met := List.mem_of_getElem? h
      have ne : y ≠ x := fun e => hx (e ▸ hm)
      simp only [if_neg ne]
      obtain ⟨a, b, i2, y2, c, d, e⟩ := G.at_ j y h hy0
      exact ⟨a, b, i2, y2, c, by rw [List.getElem?_append_left (by omega)]; exact d, e⟩
    · have hl : j < (met ++ [x]).length := (List.getElem?_eq_some_iff.mp h).1
      rw [List.length_append, List.length_singleton] at hl
      have ej : j = met.length := by omega
      subst ej
      have ey : y = x := by simpa using h.symm
      subst ey
      simp only [if_true]
      obtain ⟨i2, hi2, e2⟩ := List.getElem_of_mem hy
      exact ⟨⟨i0, i1⟩, ht, i2, _, hi2, by rw [List.getElem?_append_left hi2, List.getElem?_eq_getElem hi2, e2], rfl⟩
/-- grown over all places they are a tree -/
theorem Grow.tree {n : Nat} {ls : List Pr} {ts met : List Int} {g : Int → Int} (G : Grow n ls ts met g) (hn : 1 ≤ n) (all : ∀ x : Int, 0 ≤ x → x < n → x ∈ met) : Ptr n ls ((rng 0 n).map g) ∧ isT n ls ((rng 0 n).map g) = true ∧ ∀ k ∈ phi n ls ((rng 0 n).map g), k ∈ ts := by
  have eg : ∀ x : Int, 0 ≤ x → x < n → gi ((rng 0 n).map g) x = g x := fun x x0 x1 => gi_map x0 x1
  have P : Ptr n ls ((rng 0 n).map g) := ⟨by rw [List.length_map, rng_length], by rw [eg 0 (by decide) (by omega)]; exact G.g0, fun v v1 v2 => by
    rw [eg v (by omega) v2]
    obtain ⟨j, hj, e⟩ := List.getElem_of_mem (all v (by omega) v2)
    exact (G.at_ j v (by rw [List.getElem?_eq_getElem hj, e]) (by omega)).1⟩
  have key : ∀ (j : Nat) (x : Int), met[j]? = some x → ∀ k, j ≤ k → aimN ls ((rng 0 n).map g) k x = 0 := by
    intro j
    induction j using Nat.strongRecOn with
    | _ j ih =>
      intro x hx k hk
      by_cases z : x = 0
      · subst z; exact aim0 k
      · obtain ⟨a, b, i, y, hi, hy, e⟩ := G.at_ j x hx z
        obtain ⟨k, rfl⟩ : ∃ k', k = k' + 1 := ⟨k - 1, by omega⟩
        rw [aimS z]
        have sx := G.sub x (List.mem_of_getElem? hx)
        have ep : pt ls ((rng 0 n).map g) x = y := by
          unfold pt pl
          rw [eg x sx.1 sx.2]; exact e
        rw [ep]
        exact ih i hi y hy k (by omega)
  refine ⟨P, isT_iff.mpr fun x x1 x2 => ?_, fun k hk => ?_⟩
  · obtain ⟨j, hj, e⟩ := List.getElem_of_mem (all x (by omega) x2)
    have ml : met.length ≤ n := by
      have := List.Nodup.length_le_of_subset G.nd (l₂ := rng 0 n) fun y hy => mem_rng.mpr (by have := G.sub y hy; omega)
      rw [rng_length] at this; exact this
    exact key j x (by rw [List.getElem?_eq_getElem hj, e]) n (by omega)
  · obtain ⟨x, x1, x2, rfl⟩ := phi_mem.mp hk
    obtain ⟨j, hj, e⟩ := List.getElem_of_mem (all x (by omega) x2)
    have := (G.at_ j x (by rw [List.getElem?_eq_getElem hj, e]) (by omega)).2.1
    unfold pl
    rw [eg x (by omega) x2]; exact this
theorem sub_eq {a b : List Int} (ha : a.Pairwise (· < ·)) (hb : b.Pairwise (· < ·)) (hs : ∀ x ∈ a, x ∈ b) (hl : b.length ≤ a.length) : a = b := by
  refine inc_eq ha hb fun k => ⟨hs k, fun hk => ?_⟩
  apply Classical.byContradiction
  intro hn
  have : (k :: a).length ≤ b.length := List.Nodup.length_le_of_subset (List.nodup_cons.mpr ⟨hn, lt_nodup ha⟩) fun x hx => by
    rcases List.mem_cons.mp hx with rfl | hx
    · exact hk
    · exact hs x hx
  rw [List.length_cons] at this
  omega
/-- the tree's pointers -/
theorem Grow.phi {n : Nat} {ls : List Pr} {ts met : List Int} {g : Int → Int} (w : Web n ls) (G : Grow n ls ts met g) (hn : 1 ≤ n) (all : ∀ x : Int, 0 ≤ x → x < n → x ∈ met) (hi : ts.Pairwise (· < ·)) (hl : ts.length = n - 1) : Mw.phi n ls ((rng 0 n).map g) = ts := by
  obtain ⟨P, T, h⟩ := G.tree hn all
  refine sub_eq (phi_inc w P T) hi h ?_
  have := (phi_tr hn w P T).len
  omega
end Mw

/-! M6: the pointers of a tree; all pointers; trees and pointers one to one. -/
namespace Mw
open PySem PySem.Spec PyProof.Rows L2 Eg
theorem LabW.alike {n : Nat} {ls : List Pr} {ts : List Int} {L L' : Int → Int} (h : LabW n ls ts L) (h' : LabW n ls ts L') {x y : Int} (x0 : 0 ≤ x) (x1 : x < n) (y0 : 0 ≤ y) (y1 : y < n) : L x = L y ↔ L' x = L' y := by
  constructor
  · intro e
    exact ((h.cl x y x0 x1 y0 y1 e (fun z => L' z = L' x) fun k hk => by rw [h'.tl k hk]).mp rfl).symm
  · intro e
    exact ((h'.cl x y x0 x1 y0 y1 e (fun z => L z = L x) fun k hk => by rw [h.tl k hk]).mp rfl).symm
theorem LabW.stepS {n : Nat} {ls : List Pr} {ts : List Int} {L : Int → Int} (w : Wl n ls) (h : LabW n ls ts L) {k : Int} (k0 : 0 ≤ k) (k1 : k < ls.length) :
    LabW n ls (ts ++ [k]) (mrg L (la ls k).2 (la ls k).1) := by
  obtain ⟨⟨c0, c1⟩, a0, a1⟩ := w _ (la_mem k0 k1)
  by_cases hne : L (la ls k).2 = L (la ls k).1
  · rw [mrg_same hne]
    refine ⟨h.inr, h.idem, fun j hj => ?_, fun x y x0 x1 y0 y1 e S hS => h.cl x y x0 x1 y0 y1 e S fun j hj => hS j (List.mem_append_left _ hj)⟩
    rcases List.mem_append.mp hj with hj | hj
    · exact h.tl j hj
    · rw [List.mem_singleton.mp hj]; exact hne.symm
  have ia := h.inr _ a0 a1
  refine ⟨fun x x0 x1 => ?_, fun x x0 x1 => ?_, fun j hj => ?_, fun x y x0 x1 y0 y1 e S hS => ?_⟩
  · unfold mrg
    split
    · exact ia
    · exact h.inr x x0 x1
  · by_cases e : L x = L (la ls k).1
    · have e1 : mrg L (la ls k).2 (la ls k).1 x = L (la ls k).2 := if_pos e
      rw [e1]
      unfold mrg
      rw [h.idem _ a0 a1, if_neg hne]
    · have e1 : mrg L (la ls k).2 (la ls k).1 x = L x := if_neg e
      rw [e1]
      unfold mrg
      rw [h.idem _ x0 x1, if_neg e]
  · rcases List.mem_append.mp hj with hj | hj
    · have := h.tl j hj
      unfold mrg
      rw [this]
    · rw [List.mem_singleton.mp hj]
      unfold mrg
      rw [if_pos rfl, if_neg hne]
  · have hS1 : ∀ k ∈ ts, S (la ls k).1 ↔ S (la ls k).2 := fun j hj => hS j (List.mem_append_left _ hj)
    have hS2 := (hS k (by simp)).symm
    unfold mrg at e
    have C := h.cl
    by_cases ex : L x = L (la ls k).1 <;> by_cases ey : L y = L (la ls k).1
    · exact C x y x0 x1 y0 y1 (ex.trans ey.symm) S hS1
    · rw [if_pos ex, if_neg ey] at e
      exact (C x _ x0 x1 c0 c1 ex S hS1).trans (hS2.symm.trans (C _ y a0 a1 y0 y1 e S hS1))
    · rw [if_neg ex, if_pos ey] at e
      exact (C x _ x0 x1 a0 a1 e S hS1).trans (hS2.trans (C _ y c0 c1 y0 y1 ey.symm S hS1))
    · rw [if_neg ex, if_neg ey] at e
      exact C x y x0 x1 y0 y1 e S hS1
def lowF (ls : List Pr) (L : Int → Int) (k : Int) : Int → Int := if L (la ls k).1 < L (la ls k).2 then mrg L (la ls k).1 (la ls k).2 else mrg L (la ls k).2 (la ls k).1
def lowOf (ls : List Pr) (t : List Int) : Int → Int := t.foldl (lowF ls) id
theorem lowOf_snoc {ls : List Pr} {t : List Int} {k : Int} : lowOf ls (t ++ [k]) = lowF ls (lowOf ls t) k := by
  unfold lowOf
  rw [List.foldl_append]; rfl
theorem lowW {n : Nat} {ls : List Pr} (w : Wl n ls) : ∀ t : List Int, TsOk ls t → LabW n ls t (lowOf ls t) := by
  refine snoc_ind (fun _ => .nil) fun t k ih hk => ?_
  have h1 := ih fun j hj => hk j (List.mem_append_left _ hj)
  obtain ⟨k0, k1⟩ := hk k (by simp)
  rw [lowOf_snoc]
  unfold lowF
  split
  · exact h1.step w k0 k1
  · exact h1.stepS w k0 k1
/-- the pointers of a tree -/
noncomputable def psi (n : Nat) (ls : List Pr) (t : List Int) : List Int :=
  open Classical in if h : ∃ p, Ptr n ls p ∧ isT n ls p = true ∧ phi n ls p = t then h.choose else []
theorem psi_eq {n : Nat} {ls : List Pr} {t p : List Int} (w : Web n ls) (P : Ptr n ls p) (T : isT n ls p = true) (e : phi n ls p = t) : psi n ls t = p := by
  have h : ∃ p, Ptr n ls p ∧ isT n ls p = true ∧ phi n ls p = t := ⟨p, P, T, e⟩
  unfold psi
  rw [dif_pos h]
  obtain ⟨h1, h2, h3⟩ := h.choose_spec
  exact phi_inj w h1 h2 P T (h3.trans e.symm)
def wd (ls : List Pr) (x : Int) : Nat := if x = 0 then 1 else max (dV ls x) 1
def fdl (ls : List Pr) : Nat → List (List Int)
  | 0 => [[]]
  | x + 1 => (fdl ls x).flatMap fun row => (rng 0 (wd ls x)).map fun v => row ++ [v]
theorem fdl_mem {ls : List Pr} : ∀ (m : Nat) (p : List Int), p ∈ fdl ls m ↔ p.length = m ∧ ∀ v : Int, 0 ≤ v → v < m → 0 ≤ gi p v ∧ gi p v < wd ls v
  | 0, p => by
    rw [show fdl ls 0 = [[]] from rfl, List.mem_singleton]
    constructor
    · rintro rfl; exact ⟨rfl, fun v v0 v1 => by omega⟩
    · rintro ⟨h, _⟩; exact List.eq_nil_of_length_eq_zero h
  | m + 1, p => by
    rw [fdl, List.mem_flatMap]
    constructor
    · rintro ⟨u, hu, hm⟩
      obtain ⟨i, hi, rfl⟩ := List.mem_map.mp hm
      obtain ⟨h1, h2⟩ := (fdl_mem m u).mp hu
      have hi' := mem_rng.mp hi
      refine ⟨by rw [List.length_append, h1]; rfl, fun v v0 v1 => ?_⟩
      by_cases e : v = m
      · rw [gi_app_eq (by omega), e]; exact ⟨hi'.1, by omega⟩
      · rw [gi_app_lt v0 (by omega)]; exact h2 v v0 (by omega)
    · rintro ⟨h1, h2⟩
      have hne : p ≠ [] := by intro z; rw [z] at h1; cases h1
      obtain ⟨u, t, rfl⟩ : ∃ u t, p = u ++ [t] := ⟨p.dropLast, p.getLast hne, (List.dropLast_concat_getLast hne).symm⟩
      rw [List.length_append, List.length_singleton] at h1
      have hu : u.length = m := by omega
      refine ⟨u, (fdl_mem m u).mpr ⟨hu, fun v v0 v1 => ?_⟩, List.mem_map.mpr ⟨t, mem_rng.mpr ?_, rfl⟩⟩
      · have := h2 v v0 (by omega)
        rwa [gi_app_lt v0 (by omega)] at this
      · have := h2 m (by omega) (by omega)
        rw [gi_app_eq (by omega)] at this
        omega
theorem fdl_nodup {ls : List Pr} : ∀ m, (fdl ls m).Nodup
  | 0 => by simp [fdl]
  | m + 1 => by
    rw [fdl]
    unfold List.Nodup
    rw [List.pairwise_flatMap]
    refine ⟨fun u _ => ?_, (fdl_nodup m).imp fun {a b} hab => ?_⟩
    · rw [List.pairwise_map]
      exact (rng_nodup (lo := 0)).imp fun h e => h (by simpa using e)
    · intro x hx y hy e
      obtain ⟨i, _, rfl⟩ := List.mem_map.mp hx
      obtain ⟨j, _, rfl⟩ := List.mem_map.mp hy
      exact hab (List.append_inj_left' e rfl)
theorem fdl_len {ls : List Pr} {B : Nat} (hB : ∀ x : Int, wd ls x ≤ B) : ∀ m, (fdl ls m).length ≤ B ^ m
  | 0 => Nat.le_refl _
  | m + 1 => by
    rw [fdl, List.length_flatMap]
    have : ((fdl ls m).map fun row => ((rng 0 (wd ls m)).map fun v => row ++ [v]).length).sum = (fdl ls m).length * wd ls m := by
      simp [rng_length, List.map_const']
    rw [this, Nat.pow_succ]
    exact Nat.mul_le_mul (fdl_len hB m) (hB m)
theorem fdl_ptr {n : Nat} {ls : List Pr} (hn : 1 ≤ n) (w : Web n ls) {p : List Int} : p ∈ fdl ls n ↔ Ptr n ls p := by
  rw [fdl_mem]
  have h0 : wd ls 0 = 1 := if_pos rfl
  have hv : ∀ v : Int, 1 ≤ v → v < n → wd ls v = dV ls v := fun v v1 v2 => by
    have := dV_pos w v1 v2
    unfold wd
    rw [if_neg (by omega)]; omega
  constructor
  · rintro ⟨h1, h2⟩
    refine ⟨h1, ?_, fun v v1 v2 => ?_⟩
    · have := h2 0 (by decide) (by omega)
      rw [h0] at this; omega
    · have := h2 v (by omega) v2
      rw [hv v v1 v2] at this; exact this
  · intro P
    refine ⟨P.len, fun v v0 v1 => ?_⟩
    by_cases z : v = 0
    · rw [z, P.z, h0]; decide
    · rw [hv v (by omega) v1]; exact P.rg v (by omega) v1
/-- trees and pointers that are trees, one to one -/
theorem trees_ptrs {n : Nat} {ls : List Pr} (hn : 1 ≤ n) (w : Web n ls) (hex : ∀ t ∈ tl n ls, ∃ p, Ptr n ls p ∧ isT n ls p = true ∧ phi n ls p = t) : ((tl n ls).map (psi n ls)).Perm ((fdl ls n).filter (isT n ls)) := by
  have wl : Wl n ls := w.ends
  have back : ∀ t ∈ tl n ls, phi n ls (psi n ls t) = t ∧ Ptr n ls (psi n ls t) ∧ isT n ls (psi n ls t) = true := fun t ht => by
    obtain ⟨p, P, T, e⟩ := hex t ht
    rw [psi_eq w P T e]; exact ⟨e, P, T⟩
  refine (List.perm_ext_iff_of_nodup ?_ ((fdl_nodup n).filter _)).mpr fun p => ?_
  · unfold List.Nodup
    rw [List.pairwise_map]
    refine List.Pairwise.imp_of_mem (fun {a c} ha hc hne e => hne ?_) (tl_nodup wl)
    rw [← (back a ha).1, ← (back c hc).1, e]
  · rw [List.mem_map, List.mem_filter]
    constructor
    · rintro ⟨t, ht, rfl⟩
      obtain ⟨_, P, T⟩ := back t ht
      exact ⟨(fdl_ptr hn w).mpr P, T⟩
    · rintro ⟨hp, T⟩
      have P := (fdl_ptr hn w).mp hp
      exact ⟨phi n ls p, tr_tl hn wl (phi_tr hn w P T) (phi_inc w P T), psi_eq w P T rfl⟩
theorem grow_all {n : Nat} {ls : List Pr} {ts : List Int} (hn : 1 ≤ n) (w : Web n ls) (T : Tr n ls ts) : ∀ (d : Nat) (met : List Int) (g : Int → Int), Grow n ls ts met g → n - met.length ≤ d → ∃ met' g', Grow n ls ts met' g' ∧ ∀ x : Int, 0 ≤ x → x < n → x ∈ met' := by
  intro d
  have z0 : ∀ met g, Grow n ls ts met g → (0 : Int) ∈ met := fun met g G => by
    have := G.z
    cases h : met with
    | nil => rw [h] at this; cases this
    | cons a r => rw [h] at this; simp at this; rw [this]; simp
  have ml : ∀ met g, Grow n ls ts met g → met.length ≤ n := fun met g G => by
    have := List.Nodup.length_le_of_subset G.nd (l₂ := rng 0 n) fun y hy => mem_rng.mpr (by have := G.sub y hy; omega)
    rw [rng_length] at this; exact this
  induction d with
  | zero =>
    intro met g G h
    refine ⟨met, g, G, fun x x0 x1 => ?_⟩
    apply Classical.byContradiction
    intro hx
    have := List.Nodup.length_le_of_subset (List.nodup_cons.mpr ⟨hx, G.nd⟩) (l₂ := rng 0 n) fun y hy => mem_rng.mpr (by
      rcases List.mem_cons.mp hy with rfl | hy
      · omega
      · have := G.sub y hy; omega)
    rw [rng_length, List.length_cons] at this
    have := ml _ _ G
    omega
  | succ d ih =>
    intro met g G h
    by_cases c : ∀ k ∈ ts, ((la ls k).1 ∈ met ↔ (la ls k).2 ∈ met)
    · exact ⟨met, g, G, fun x x0 x1 => T.con x x0 x1 (fun y => y ∈ met) c (z0 _ _ G)⟩
    · have : ∃ k ∈ ts, ¬ ((la ls k).1 ∈ met ↔ (la ls k).2 ∈ met) := by
        apply Classical.byContradiction
        intro hno
        exact c fun k hk => Classical.byContradiction fun z => hno ⟨k, hk, z⟩
      obtain ⟨k, hk, hc⟩ := this
      obtain ⟨k0, k1⟩ := T.ok k hk
      obtain ⟨⟨a0, a1⟩, b0, b1⟩ := w.ends _ (la_mem k0 k1)
      have ta : touch (la ls k).1 (la ls k) = true := by unfold touch; simp
      have tb : touch (la ls k).2 (la ls k) = true := by unfold touch; simp
      have ea : oe ls (la ls k).1 k = (la ls k).2 := by unfold oe; omega
      have eb : oe ls (la ls k).2 k = (la ls k).1 := by unfold oe; omega
      have go : ∀ x : Int, 0 ≤ x → x < n → x ∉ met → touch x (la ls k) = true → oe ls x k ∈ met → ∃ met' g', Grow n ls ts met' g' ∧ ∀ x : Int, 0 ≤ x → x < n → x ∈ met' := fun x x0 x1 hx ht hy => by
        obtain ⟨j, hj, e⟩ := List.getElem_of_mem (mem_mn.mpr ⟨⟨k0, k1⟩, ht⟩)
        have eg : gi (mn ls x) j = k := by
          unfold gi
          rw [List.getD_eq_getElem?_getD, Int.toNat_natCast, List.getElem?_eq_getElem hj]; exact e
        have G' := G.step x0 x1 hx (i := j) (by omega) (by unfold dV; omega) (by rw [eg]; exact hk) (by rw [eg]; exact hy)
        refine ih _ _ G' ?_
        rw [List.length_append, List.length_singleton]; omega
      by_cases ca : (la ls k).1 ∈ met
      · exact go _ b0 b1 (fun z => hc ⟨fun _ => z, fun _ => ca⟩) tb (by rw [eb]; exact ca)
      · refine go _ a0 a1 ca ta ?_
        rw [ea]
        apply Classical.byContradiction
        intro z
        exact hc ⟨fun q => absurd q ca, fun q => absurd q z⟩
theorem psi_ok {n : Nat} {ls : List Pr} {ts : List Int} (hn : 1 ≤ n) (w : Web n ls) (h : ts ∈ tl n ls) : Ptr n ls (psi n ls ts) ∧ isT n ls (psi n ls ts) = true ∧ phi n ls (psi n ls ts) = ts := by
  obtain ⟨T, hi⟩ := tl_tr hn w.ends h
  obtain ⟨met, g, G, all⟩ := grow_all hn w T n [0] _ (Grow.init hn) (by simp)
  obtain ⟨P, I, _⟩ := G.tree hn all
  have e := G.phi w hn all hi T.len
  rw [psi_eq w P I e]
  exact ⟨P, I, e⟩
theorem trees_ptrs' {n : Nat} {ls : List Pr} (hn : 1 ≤ n) (w : Web n ls) : ((tl n ls).map (psi n ls)).Perm ((fdl ls n).filter (isT n ls)) :=
  trees_ptrs hn w fun t ht => ⟨_, psi_ok hn w ht⟩
end Mw

/-! M7: few places have few trees. -/
namespace Mw
open PySem PySem.Spec PyProof.Rows L2 Eg
/-- rising lists of k numbers below m -/
def ic : Nat → Nat → List (List Nat)
  | 0, 0 => [[]]
  | 0, _ + 1 => []
  | m + 1, 0 => ic m 0
  | m + 1, k + 1 => ic m (k + 1) ++ (ic m k).map fun t => t ++ [m]
def meets (t D : List Nat) : Bool := t.any fun k => D.any fun j => Nat.beq j k
theorem cnt1 : (((List.range 9).all fun m => (List.range 5).all fun k => (m == 8 && k == 4) || Nat.ble (ic m k).length 63)) = true := by decide +kernel
theorem cnt2 : ((ic 8 0 ++ ic 8 1 ++ ic 8 2).all fun D => Nat.ble ((ic 8 4).filter fun t => meets t D).length 63) = true := by decide +kernel
theorem cnt3 : ((ic 8 3).all fun D => (ic 8 3).all fun E => decide (D = E) || Nat.ble ((ic 8 4).filter fun t => meets t D && meets t E).length 63) = true := by decide +kernel
theorem ic_mem : ∀ (m k : Nat) (t : List Nat), t.Pairwise (· < ·) → (∀ x ∈ t, x < m) → t.length = k → t ∈ ic m k
  | 0, 0, t, _, _, h => by
    rw [List.eq_nil_of_length_eq_zero h]; simp [ic]
  | 0, k + 1, t, _, hb, h => by
    cases t with
    | nil => cases h
    | cons a r => have := hb a List.mem_cons_self; omega
  | m + 1, 0, t, hi, hb, h => by
    rw [List.eq_nil_of_length_eq_zero h, ic]
    exact ic_mem m 0 [] .nil (fun x hx => nomatch hx) rfl
  | m + 1, k + 1, t, hi, hb, h => by
    rw [ic]
    by_cases hm : m ∈ t
    · have hne : t ≠ [] := fun z => by rw [z] at hm; cases hm
      obtain ⟨u, y, rfl⟩ : ∃ u y, t = u ++ [y] := ⟨t.dropLast, t.getLast hne, (List.dropLast_concat_getLast hne).symm⟩
      have hi' := List.pairwise_append.mp hi
      have ey : y = m := by
        rcases List.mem_append.mp hm with z | z
        · have := hi'.2.2 _ z y (by simp)
          have := hb y (by simp)
          omega
        · exact (List.mem_singleton.mp z).symm
      subst ey
      refine List.mem_append_right _ (List.mem_map.mpr ⟨u, ic_mem y k u hi'.1 (fun x hx => hi'.2.2 x hx y (by simp)) ?_, rfl⟩)
      rw [List.length_append, List.length_singleton] at h; omega
    · refine List.mem_append_left _ (ic_mem m (k + 1) t hi (fun x hx => ?_) h)
      have := hb x hx
      have : x ≠ m := fun z => hm (z ▸ hx)
      omega
def nt (t : List Int) : List Nat := t.map Int.toNat
theorem nt_ic {t : List Int} {m : Nat} (hi : t.Pairwise (· < ·)) (hb : ∀ x ∈ t, 0 ≤ x ∧ x < m) : nt t ∈ ic m t.length := by
  refine ic_mem m _ _ ?_ (fun x hx => ?_) (by unfold nt; rw [List.length_map])
  · unfold nt
    rw [List.pairwise_map]
    refine List.Pairwise.imp_of_mem (fun {a b} ha hb' h => ?_) hi
    have := hb a ha
    have := hb b hb'
    omega
  · obtain ⟨y, hy, rfl⟩ := List.mem_map.mp hx
    have := hb y hy
    omega
theorem nt_inj {a b : List Int} (ha : ∀ x ∈ a, 0 ≤ x) (hb : ∀ x ∈ b, 0 ≤ x) (h : nt a = nt b) : a = b := by
  have e : ∀ l : List Int, (∀ x ∈ l, 0 ≤ x) → (nt l).map (fun k => ((k : Nat) : Int)) = l := fun l hl => by
    unfold nt
    rw [List.map_map]
    have : l.map ((fun k : Nat => (k : Int)) ∘ Int.toNat) = l.map id := List.map_congr_left fun x hx => by
      have := hl x hx
      show ((x.toNat : Nat) : Int) = x
      omega
    rw [this, List.map_id]
  rw [← e a ha, ← e b hb, h]
theorem mn_ic {ls : List Pr} {v : Int} : nt (mn ls v) ∈ ic ls.length (dV ls v) := by
  refine nt_ic ?_ fun x hx => (mem_mn.mp hx).1
  unfold mn
  refine List.Pairwise.filter _ ?_
  unfold rng
  rw [List.pairwise_map]
  exact (List.pairwise_lt_range).imp fun h => by omega
/-- a tree has a line at each place -/
theorem tr_meets {n : Nat} {ls : List Pr} {t : List Int} (hn : 2 ≤ n) (w : Web n ls) (T : Tr n ls t) {v : Int} (v0 : 0 ≤ v) (v1 : v < n) : meets (nt t) (nt (mn ls v)) = true := by
  have h : ∃ k ∈ t, touch v (la ls k) = true := by
    apply Classical.byContradiction
    intro hno
    have hk : ∀ k ∈ t, (la ls k).1 ≠ v ∧ (la ls k).2 ≠ v := fun k hk => by
      have hnt : ¬ touch v (la ls k) = true := fun z => hno ⟨k, hk, z⟩
      unfold touch at hnt
      rw [decide_eq_true_eq] at hnt
      omega
    by_cases z : v = 0
    · have := T.con 1 (by decide) (by omega) (fun x => x = 0) (fun k hk' => by
        have := hk k hk'
        show (la ls k).1 = 0 ↔ (la ls k).2 = 0
        constructor <;> (intro e; omega)) rfl
      omega
    · have := T.con v v0 v1 (fun x => x ≠ v) (fun k hk' => by
        have := hk k hk'
        exact ⟨fun _ => this.2, fun _ => this.1⟩) (Ne.symm z)
      exact this rfl
  obtain ⟨k, hk, ht⟩ := h
  obtain ⟨k0, k1⟩ := T.ok k hk
  unfold meets
  rw [List.any_eq_true]
  refine ⟨k.toNat, List.mem_map.mpr ⟨k, hk, rfl⟩, ?_⟩
  rw [List.any_eq_true]
  exact ⟨k.toNat, List.mem_map.mpr ⟨k, mem_mn.mpr ⟨⟨k0, k1⟩, ht⟩, rfl⟩, by simp⟩
theorem tl_63 {n : Nat} {ls : List Pr} (hn1 : 1 ≤ n) (hn : n ≤ 5) (hm : ls.length ≤ 8) (w : Web n ls) : (tl n ls).length ≤ 63 := by
  have nn : ∀ t ∈ tl n ls, ∀ x ∈ t, 0 ≤ x := fun t ht x hx => ((tl_tr hn1 w.ends ht).1.ok x hx).1
  have hic : ∀ t ∈ tl n ls, nt t ∈ ic ls.length (n - 1) := fun t ht => by
    obtain ⟨T, hi⟩ := tl_tr hn1 w.ends ht
    have := nt_ic hi T.ok
    rw [T.len] at this; exact this
  have nd : ((tl n ls).map nt).Nodup := by
    unfold List.Nodup
    rw [List.pairwise_map]
    exact List.Pairwise.imp_of_mem (fun {a b} ha hb h e => h (nt_inj (nn a ha) (nn b hb) e)) (tl_nodup (n := n) (ls := ls) w.ends)
  by_cases c : ls.length = 8 ∧ n - 1 = 4
  · obtain ⟨c1, c2⟩ := c
    have n5 : n = 5 := by omega
    subst n5
    have hs := sum_dV w
    rw [c1] at hs
    have hs2 : dV ls 0 + dV ls 1 + dV ls 2 + dV ls 3 + dV ls 4 = 16 := by
      have e : rng 0 5 = [0, 1, 2, 3, 4] := by decide
      rw [e] at hs
      simp at hs
      omega
    have two : ∀ u v : Int, 0 ≤ u → u < 5 → 0 ≤ v → v < 5 → dV ls u = 3 → dV ls v = 3 → nt (mn ls u) ≠ nt (mn ls v) → (tl 5 ls).length ≤ 63 := fun u v u0 u1 v0 v1 du dv hne => by
      have hu := mn_ic (ls := ls) (v := u)
      have hv := mn_ic (ls := ls) (v := v)
      rw [c1, du] at hu
      rw [c1, dv] at hv
      have h := List.all_eq_true.mp (List.all_eq_true.mp cnt3 _ hu) _ hv
      rw [Bool.or_eq_true] at h
      rcases h with h | h
      · exact absurd (of_decide_eq_true h) hne
      · refine Nat.le_trans ?_ (Nat.le_of_ble_eq_true h)
        rw [← List.length_map (f := nt)]
        refine List.Nodup.length_le_of_subset nd fun x hx => ?_
        obtain ⟨t, ht, rfl⟩ := List.mem_map.mp hx
        have T := (tl_tr hn1 w.ends ht).1
        refine List.mem_filter.mpr ⟨by have := hic t ht; rw [c1] at this; exact this, ?_⟩
        rw [tr_meets (by omega) w T u0 u1, tr_meets (by omega) w T v0 v1]; rfl
    have low : ∀ u : Int, 0 ≤ u → u < 5 → dV ls u ≤ 2 → (tl 5 ls).length ≤ 63 := fun u u0 u1 du => by
      have hu := mn_ic (ls := ls) (v := u)
      rw [c1] at hu
      have hu2 : nt (mn ls u) ∈ ic 8 0 ++ ic 8 1 ++ ic 8 2 := by
        have : dV ls u = 0 ∨ dV ls u = 1 ∨ dV ls u = 2 := by omega
        rcases this with e | e | e <;> rw [e] at hu <;> simp [hu]
      have h := List.all_eq_true.mp cnt2 _ hu2
      refine Nat.le_trans ?_ (Nat.le_of_ble_eq_true h)
      rw [← List.length_map (f := nt)]
      refine List.Nodup.length_le_of_subset nd fun x hx => ?_
      obtain ⟨t, ht, rfl⟩ := List.mem_map.mp hx
      have T := (tl_tr hn1 w.ends ht).1
      exact List.mem_filter.mpr ⟨by have := hic t ht; rw [c1] at this; exact this, tr_meets (by omega) w T u0 u1⟩
    have three : ∀ u v x : Int, 0 ≤ u → u < 5 → 0 ≤ v → v < 5 → 0 ≤ x → x < 5 → u ≠ v → v ≠ x → u ≠ x → dV ls u = 3 → dV ls v = 3 → dV ls x = 3 → (tl 5 ls).length ≤ 63 := fun u v x u0 u1 v0 v1 x0 x1 h1 h2 h3 du dv dx => by
      by_cases e1 : nt (mn ls u) = nt (mn ls v)
      · by_cases e2 : nt (mn ls v) = nt (mn ls x)
        · exfalso
          have nnm : ∀ y : Int, ∀ k ∈ mn ls y, 0 ≤ k := fun y k hk => (mem_mn.mp hk).1.1
          have f1 := nt_inj (nnm u) (nnm v) e1
          have f2 := nt_inj (nnm v) (nnm x) e2
          unfold dV at du
          obtain ⟨k, hk⟩ := List.exists_mem_of_length_pos (l := mn ls u) (by omega)
          have a := (mem_mn.mp hk).2
          have b := (mem_mn.mp (f1 ▸ hk)).2
          have c := (mem_mn.mp (f2 ▸ f1 ▸ hk)).2
          unfold touch at a b c
          rw [decide_eq_true_eq] at a b c
          omega
        · exact two v x v0 v1 x0 x1 dv dx e2
      · exact two u v u0 u1 v0 v1 du dv e1
    by_cases l0 : dV ls 0 ≤ 2
    · exact low 0 (by decide) (by decide) l0
    by_cases l1 : dV ls 1 ≤ 2
    · exact low 1 (by decide) (by decide) l1
    by_cases l2 : dV ls 2 ≤ 2
    · exact low 2 (by decide) (by decide) l2
    by_cases l3 : dV ls 3 ≤ 2
    · exact low 3 (by decide) (by decide) l3
    by_cases l4 : dV ls 4 ≤ 2
    · exact low 4 (by decide) (by decide) l4
    have : (dV ls 0 = 3 ∧ dV ls 1 = 3 ∧ dV ls 2 = 3) ∨ (dV ls 0 = 3 ∧ dV ls 1 = 3 ∧ dV ls 3 = 3) ∨ (dV ls 0 = 3 ∧ dV ls 2 = 3 ∧ dV ls 3 = 3) ∨ (dV ls 1 = 3 ∧ dV ls 2 = 3 ∧ dV ls 3 = 3) := by omega
    rcases this with ⟨a, b, c⟩ | ⟨a, b, c⟩ | ⟨a, b, c⟩ | ⟨a, b, c⟩
    · exact three 0 1 2 (by decide) (by decide) (by decide) (by decide) (by decide) (by decide) (by decide) (by decide) (by decide) a b c
    · exact three 0 1 3 (by decide) (by decide) (by decide) (by decide) (by decide) (by decide) (by decide) (by decide) (by decide) a b c
    · exact three 0 2 3 (by decide) (by decide) (by decide) (by decide) (by decide) (by decide) (by decide) (by decide) (by decide) a b c
    · exact three 1 2 3 (by decide) (by decide) (by decide) (by decide) (by decide) (by decide) (by decide) (by decide) (by decide) a b c
  · have h := List.all_eq_true.mp (List.all_eq_true.mp cnt1 ls.length (List.mem_range.mpr (by omega))) (n - 1) (List.mem_range.mpr (by omega))
    rw [Bool.or_eq_true] at h
    rcases h with h | h
    · simp at h; exact absurd ⟨h.1, by omega⟩ c
    · refine Nat.le_trans ?_ (Nat.le_of_ble_eq_true h)
      rw [← List.length_map (f := nt)]
      refine List.Nodup.length_le_of_subset nd fun x hx => ?_
      obtain ⟨t, ht, rfl⟩ := List.mem_map.mp hx
      exact hic t ht
end Mw

/-! M8: still heaps, heaps that come again. -/
namespace Mw
open PySem PySem.Spec PyProof.Rows L2 Eg
def hps (ls : List Pr) : Nat → List (List Int)
  | 0 => [[0]]
  | k + 1 => (hps ls k).flatMap fun h => (rng 0 (nb ls ((k : Int) + 1)).length).map fun m => h ++ [m]
theorem hps_len {ls : List Pr} (hl : ls.length ≤ 20) : ∀ k, (hps ls k).length ≤ 20 ^ k
  | 0 => Nat.le_refl _
  | k + 1 => by
    unfold hps
    have ih := hps_len hl k
    have nl := nb_len (ls := ls) (p := (k : Int) + 1)
    rw [List.length_flatMap]
    have : ((hps ls k).map fun h => ((rng 0 (nb ls ((k : Int) + 1)).length).map fun m => h ++ [m]).length).sum = (hps ls k).length * (nb ls ((k : Int) + 1)).length := by
      simp [rng_length, List.map_const']
    rw [this, Nat.pow_succ]
    exact Nat.mul_le_mul ih (Nat.le_trans nl hl)
theorem hps_mem {ls : List Pr} : ∀ k, ∀ h ∈ hps ls k, h.length = k + 1
  | 0, h, hh => by
    rw [show hps ls 0 = [[0]] from rfl, List.mem_singleton] at hh
    subst hh; rfl
  | k + 1, h, hh => by
    obtain ⟨g, hg, hm⟩ := List.mem_flatMap.mp hh
    obtain ⟨m, _, rfl⟩ := List.mem_map.mp hm
    rw [List.length_append, hps_mem k g hg]; rfl
theorem hps_ne {n : Nat} {ls : List Pr} (w : Web n ls) : ∀ k, k < n → hps ls k ≠ []
  | 0, _ => by simp [hps]
  | k + 1, hk => by
    have ih := hps_ne w k (by omega)
    obtain ⟨g, hg⟩ := List.exists_mem_of_ne_nil _ ih
    obtain ⟨l, h1, h2⟩ := w.tree ((k : Int) + 1) (by omega) (by omega)
    have hn : 0 < (nb ls ((k : Int) + 1)).length := by
      unfold nb
      rw [List.length_map]
      exact List.length_pos_of_mem (List.mem_filter.mpr ⟨h1, h2⟩)
    refine List.ne_nil_of_mem (a := g ++ [0]) (List.mem_flatMap.mpr ⟨g, hg, List.mem_map.mpr ⟨0, mem_rng.mpr ⟨by omega, by omega⟩, rfl⟩⟩)
def ag (n : Nat) (ls : List Pr) : List (List Int) := (hps ls (n - 1)).filter fun h => (left n ls h).isEmpty
theorem hps_iff {ls : List Pr} : ∀ (k : Nat) (h : List Int), h ∈ hps ls k ↔ h.length = k + 1 ∧ gi h 0 = 0 ∧ ∀ j : Int, 1 ≤ j → j ≤ k → 0 ≤ gi h j ∧ gi h j < dg ls j
  | 0, h => by
    rw [show hps ls 0 = [[0]] from rfl, List.mem_singleton]
    constructor
    · rintro rfl
      exact ⟨rfl, rfl, fun j h1 h2 => by omega⟩
    · rintro ⟨h1, h2, _⟩
      match h, h1 with
      | [a], _ =>
        have : a = 0 := h2
        rw [this]
  | k + 1, h => by
    constructor
    · intro hh
      obtain ⟨g, hg, hm⟩ := List.mem_flatMap.mp hh
      obtain ⟨m, hm1, rfl⟩ := List.mem_map.mp hm
      obtain ⟨l1, z1, b1⟩ := (hps_iff k g).mp hg
      have hm2 := mem_rng.mp hm1
      refine ⟨by rw [List.length_append, l1]; rfl, by rw [gi_app_lt (by omega) (by omega)]; exact z1, fun j j1 j2 => ?_⟩
      by_cases hj : j ≤ k
      · rw [gi_app_lt (by omega) (by omega)]; exact b1 j j1 hj
      · have ej : j = (k : Int) + 1 := by omega
        rw [gi_app_eq (by omega), ej]
        unfold dg
        omega
    · rintro ⟨l1, z1, b1⟩
      have hne : h ≠ [] := by intro z; rw [z] at l1; cases l1
      obtain ⟨g, m, rfl⟩ : ∃ g m, h = g ++ [m] := ⟨h.dropLast, h.getLast hne, (List.dropLast_concat_getLast hne).symm⟩
      have lg : g.length = k + 1 := by rw [List.length_append] at l1; simpa using l1
      refine List.mem_flatMap.mpr ⟨g, (hps_iff k g).mpr ⟨lg, ?_, fun j j1 j2 => ?_⟩, List.mem_map.mpr ⟨m, ?_, rfl⟩⟩
      · rw [gi_app_lt (by omega) (by omega)] at z1; exact z1
      · have := b1 j j1 (by omega)
        rw [gi_app_lt (by omega) (by omega)] at this; exact this
      · have := b1 ((k : Int) + 1) (by omega) (by omega)
        rw [gi_app_eq (by omega)] at this
        unfold dg at this
        exact mem_rng.mpr ⟨this.1, by omega⟩
theorem hps_nodup {ls : List Pr} : ∀ k, (hps ls k).Nodup
  | 0 => by simp [hps]
  | k + 1 => by
    unfold hps
    refine List.pairwise_flatMap.mpr ⟨fun g _ => List.pairwise_map.mpr (List.Pairwise.imp (fun {a b} (h : a ≠ b) (z : g ++ [a] = g ++ [b]) => h (by simpa using z)) rng_nodup), ?_⟩
    refine List.Pairwise.imp (fun {a b} (h : a ≠ b) x hx y hy z => ?_) (hps_nodup k)
    obtain ⟨m, _, rfl⟩ := List.mem_map.mp hx
    obtain ⟨m', _, rfl⟩ := List.mem_map.mp hy
    exact h (List.append_inj_left' z rfl)
theorem mem_ag {n : Nat} {ls : List Pr} {h : List Int} (hn : 1 ≤ n) : h ∈ ag n ls ↔ (h.length = n ∧ gi h 0 = 0 ∧ ∀ j : Int, 1 ≤ j → j < n → 0 ≤ gi h j ∧ gi h j < dg ls j) ∧ left n ls h = [] := by
  unfold ag
  rw [List.mem_filter, hps_iff, List.isEmpty_iff]
  constructor
  · rintro ⟨⟨h1, h2, h3⟩, h4⟩
    exact ⟨⟨by omega, h2, fun j j1 j2 => h3 j j1 (by omega)⟩, h4⟩
  · rintro ⟨⟨h1, h2, h3⟩, h4⟩
    exact ⟨⟨by omega, h2, fun j j1 j2 => h3 j j1 (by omega)⟩, h4⟩
end Mw

/-! M9: the tree of a heap that comes again, and its heap. -/
namespace Mw
open PySem PySem.Spec PyProof.Rows L2 Eg
def lb (n : Nat) (ls : List Pr) (hs : List Int) : Int → Int := fun x => ((lv n ls hs x : Nat) : Int)
theorem ag_bkd {n : Nat} {ls : List Pr} {hs : List Int} (hn : 1 ≤ n) (w : Web n ls) (h : hs ∈ ag n ls) : Bkd n ls hs (lb n ls hs) := by
  obtain ⟨⟨h1, h2, h3⟩, h4⟩ := (mem_ag hn).mp h
  have L := lev w h4
  have el : ∀ v : Int, (((nb ls v).filter fun x => decide (lb n ls hs v ≤ lb n ls hs x)).length : Int) = (((nb ls v).filter fun x => decide (lv n ls hs v ≤ lv n ls hs x)).length : Int) := fun v => by
    congr 2
    refine List.filter_congr fun x _ => ?_
    rw [decide_eq_decide]
    unfold lb; omega
  refine ⟨by unfold lb; rw [L.z]; rfl, fun v v1 v2 => by have := L.up v v1 v2; unfold lb; omega, fun v v1 v2 => by rw [el]; exact L.le v v1 v2, fun v v1 v2 => ?_⟩
  have up := L.up v v1 v2
  by_cases c : lv n ls hs v = 1
  · -- all lines lead to places of later rounds, or to the sink
    have e : ((nb ls v).filter fun x => decide (lb n ls hs v ≤ lb n ls hs x)).length + ((nb ls v).filter fun x => decide (lb n ls hs x = lb n ls hs v - 1)).length = (nb ls v).length := by
      have : ∀ l : List Int, (l.filter fun x => decide (lb n ls hs v ≤ lb n ls hs x)).length + (l.filter fun x => decide (lb n ls hs x = lb n ls hs v - 1)).length = l.length := fun l => by
        induction l with
        | nil => rfl
        | cons a r ih =>
          rw [List.filter_cons, List.filter_cons]
          have ea : (0 : Int) ≤ lb n ls hs a := by unfold lb; omega
          have ev : lb n ls hs v = 1 := by unfold lb; omega
          by_cases q : lb n ls hs v ≤ lb n ls hs a
          · have q2 : ¬ lb n ls hs a = lb n ls hs v - 1 := by omega
            simp [q, q2]; omega
          · have q2 : lb n ls hs a = lb n ls hs v - 1 := by omega
            rw [if_neg (by simpa using q), if_pos (by simpa using q2)]
            simp; omega
      exact this _
    have := h3 v v1 v2
    unfold dg at this
    omega
  · -- it did not burn a round earlier
    obtain ⟨i, ei⟩ : ∃ i, lv n ls hs v = i + 2 := ⟨lv n ls hs v - 2, by omega⟩
    have hd := all_due h4 (show 0 ≤ v by omega) v2
    have hlen : lv n ls hs v < (due n ls hs).length := by
      unfold lv
      refine List.findIdx_lt_length_of_exists ?_
      obtain ⟨r, hr, hx⟩ := List.mem_flatten.mp hd
      exact ⟨r, hr, by simpa using hx⟩
    have hr : (due n ls hs)[i + 1]? = some ((due n ls hs)[i + 1]'(by omega)) := List.getElem?_eq_getElem (by omega)
    have er := due_row hr
    have hnot : v ∉ (due n ls hs)[i + 1]'(by omega) := fun z => by
      have := lv_row hr z
      omega
    rw [er] at hnot
    have hc : ¬ cond ls hs (((due n ls hs).take (i + 1)).flatten) v = true := fun z => hnot (List.mem_filter.mpr ⟨mem_rng.mpr ⟨by omega, by omega⟩, z⟩)
    unfold cond at hc
    have hb : v ∉ ((due n ls hs).take (i + 1)).flatten := fun z => by
      have := (lv_lt.mp z).1
      omega
    simp [hb] at hc
    have eo : opens ls v (((due n ls hs).take (i + 1)).flatten) = ((nb ls v).filter fun x => decide (i + 1 ≤ lv n ls hs x)).length := by
      unfold opens
      congr 1
      refine List.filter_congr fun x hx => ?_
      obtain ⟨x0, x1⟩ := nb_in w hx
      rw [decide_eq_decide]
      have := all_due h4 x0 x1
      constructor
      · intro h
        apply Classical.byContradiction
        intro h2
        exact h (lv_lt.mpr ⟨by omega, this⟩)
      · intro h h2
        have := (lv_lt.mp h2).1
        omega
    rw [eo] at hc
    have e : ((nb ls v).filter fun x => decide (i + 1 ≤ lv n ls hs x)).length = ((nb ls v).filter fun x => decide (lb n ls hs v ≤ lb n ls hs x)).length + ((nb ls v).filter fun x => decide (lb n ls hs x = lb n ls hs v - 1)).length := by
      have : ∀ l : List Int, (l.filter fun x => decide (i + 1 ≤ lv n ls hs x)).length = (l.filter fun x => decide (lb n ls hs v ≤ lb n ls hs x)).length + (l.filter fun x => decide (lb n ls hs x = lb n ls hs v - 1)).length := fun l => by
        induction l with
        | nil => rfl
        | cons a r ih =>
          rw [List.filter_cons, List.filter_cons, List.filter_cons]
          have ev : lb n ls hs v = (i : Int) + 2 := by unfold lb; omega
          have ea : lb n ls hs a = (lv n ls hs a : Nat) := rfl
          by_cases q : lb n ls hs v ≤ lb n ls hs a
          · have q2 : ¬ lb n ls hs a = lb n ls hs v - 1 := by omega
            have q3 : i + 1 ≤ lv n ls hs a := by omega
            rw [if_pos (by simpa using q3), if_pos (by simpa using q), if_neg (by simpa using q2)]
            simp; omega
          · by_cases q2 : lb n ls hs a = lb n ls hs v - 1
            · have q3 : i + 1 ≤ lv n ls hs a := by omega
              rw [if_pos (by simpa using q3), if_neg (by simpa using q), if_pos (by simpa using q2)]
              simp; omega
            · have q3 : ¬ i + 1 ≤ lv n ls hs a := by omega
              rw [if_neg (by simpa using q3), if_neg (by simpa using q), if_neg (by simpa using q2)]
              exact ih
      exact this _
    omega
/-- lines one round down, by a book -/
theorem nr_unique {ls : List Pr} {b : Int → Int} {k v u : Int} (a : k ∈ nr ls b v) (c : k ∈ nr ls b u) : v = u := by
  obtain ⟨a1, a2⟩ := List.mem_filter.mp a
  obtain ⟨c1, c2⟩ := List.mem_filter.mp c
  rw [decide_eq_true_eq] at a2 c2
  obtain ⟨_, _, a3⟩ := touch_oe (mem_mn.mp a1).2
  obtain ⟨_, _, c3⟩ := touch_oe (mem_mn.mp c1).2
  rcases a3 with ⟨a3, a4⟩ | ⟨a3, a4⟩ <;> rcases c3 with ⟨c3, c4⟩ | ⟨c3, c4⟩
  · omega
  · exfalso; rw [← a4, c3] at a2; rw [← c4, a3] at c2; omega
  · exfalso; rw [← a4, c3] at a2; rw [← c4, a3] at c2; omega
  · omega
def mh (n : Nat) (ls : List Pr) (hs : List Int) (v : Int) : Int := gi (nr ls (lb n ls hs) v) (gi hs v - (lt ls (lb n ls hs) v).length)
def th (n : Nat) (ls : List Pr) (hs : List Int) : List Int := sortI ((rng 1 (n - 1)).map (mh n ls hs))
theorem mh_at {n : Nat} {ls : List Pr} {hs : List Int} (hn : 1 ≤ n) (w : Web n ls) (h : hs ∈ ag n ls) {v : Int} (v1 : 1 ≤ v) (v2 : v < n) : ((lt ls (lb n ls hs) v).length : Int) ≤ gi hs v ∧ gi hs v < ((lt ls (lb n ls hs) v).length : Int) + (nr ls (lb n ls hs) v).length ∧ mh n ls hs v ∈ nr ls (lb n ls hs) v := by
  have K := ag_bkd hn w h
  have l1 := K.lo v v1 v2
  have l2 := K.hi v v1 v2
  have el : (lt ls (lb n ls hs) v).length = ((nb ls v).filter fun x => decide (lb n ls hs v ≤ lb n ls hs x)).length := mn_cnt (ls := ls) (p := v) fun x => decide (lb n ls hs v ≤ lb n ls hs x)
  have en : (nr ls (lb n ls hs) v).length = ((nb ls v).filter fun x => decide (lb n ls hs x = lb n ls hs v - 1)).length := mn_cnt (ls := ls) (p := v) fun x => decide (lb n ls hs x = lb n ls hs v - 1)
  rw [← el] at l1 l2
  rw [← en] at l2
  refine ⟨l1, l2, ?_⟩
  unfold mh gi
  unfold gi at l1 l2
  rw [List.getD_eq_getElem?_getD (l := nr ls (lb n ls hs) v), List.getElem?_eq_getElem (by omega)]
  exact List.getElem_mem _
theorem th_tr {n : Nat} {ls : List Pr} {hs : List Int} (hn : 1 ≤ n) (w : Web n ls) (h : hs ∈ ag n ls) : Tr n ls (th n ls hs) ∧ (th n ls hs).Pairwise (· < ·) := by
  have K := ag_bkd hn w h
  have hin : ∀ v ∈ rng 1 (n - 1), 1 ≤ v ∧ v < n := fun v hv => by have := mem_rng.mp hv; omega
  have nd : (th n ls hs).Nodup := by
    refine (List.mergeSort_perm _ _).nodup_iff.mpr ?_
    unfold List.Nodup
    rw [List.pairwise_map]
    refine List.Pairwise.imp_of_mem (fun {a c} ha hc hne e => hne ?_) (rng_nodup (lo := 1) (n := n - 1))
    exact nr_unique (mh_at hn w h (hin a ha).1 (hin a ha).2).2.2 (e ▸ (mh_at hn w h (hin c hc).1 (hin c hc).2).2.2)
  have mem : ∀ k, k ∈ th n ls hs ↔ ∃ v : Int, 1 ≤ v ∧ v < n ∧ mh n ls hs v = k := fun k => by
    unfold th
    rw [sortI_mem, List.mem_map]
    constructor
    · rintro ⟨x, hx, e⟩; exact ⟨x, (hin x hx).1, (hin x hx).2, e⟩
    · rintro ⟨x, x1, x2, e⟩; exact ⟨x, mem_rng.mpr ⟨x1, by omega⟩, e⟩
  refine ⟨⟨fun k hk => ?_, nd, by unfold th; rw [sortI_len, List.length_map, rng_length], fun x x0 x1 S hS s0 => ?_⟩, ?_⟩
  · obtain ⟨v, v1, v2, rfl⟩ := (mem k).mp hk
    exact (mem_mn.mp (List.mem_filter.mp (mh_at hn w h v1 v2).2.2).1).1
  · have key : ∀ m : Nat, ∀ y : Int, 0 ≤ y → y < n → lb n ls hs y = m → S y := by
      intro m
      induction m with
      | zero =>
        intro y y0 y1 e
        by_cases z : y = 0
        · rw [z]; exact s0
        · have := K.up y (by omega) y1; omega
      | succ m ih =>
        intro y y0 y1 e
        have z : y ≠ 0 := fun z => by rw [z, K.z] at e; omega
        obtain ⟨m1, m2⟩ := List.mem_filter.mp (mh_at hn w h (show 1 ≤ y by omega) y1).2.2
        rw [decide_eq_true_eq] at m2
        obtain ⟨⟨k0, k1⟩, ht⟩ := mem_mn.mp m1
        obtain ⟨⟨o0, o1⟩, _⟩ := oe_in w k0 k1 ht
        have s := ih _ o0 o1 (by rw [m2, e]; omega)
        have hk := hS _ ((mem _).mpr ⟨y, by omega, y1, rfl⟩)
        obtain ⟨_, _, c⟩ := touch_oe ht
        rcases c with ⟨c1, c2⟩ | ⟨c1, c2⟩
        · rw [c1, c2] at hk; exact hk.mpr s
        · rw [c1, c2] at hk; exact hk.mp s
    exact key (lb n ls hs x).toNat x x0 x1 (by unfold lb; omega)
  · have h1 := sortI_pw ((rng 1 (n - 1)).map (mh n ls hs))
    exact (List.pairwise_and_iff.mpr ⟨h1, nd⟩).imp fun ⟨a, b⟩ => by omega
/-- the tree's rounds are those of the fire -/
theorem th_rounds {n : Nat} {ls : List Pr} {hs : List Int} (hn : 1 ≤ n) (w : Web n ls) (h : hs ∈ ag n ls) : (∀ x : Int, 0 ≤ x → x < n → (bres n ls (th n ls hs)).bk x = lb n ls hs x) ∧ ∀ x : Int, 1 ≤ x → x < n → mi ls (th n ls hs) (bres n ls (th n ls hs)).bk x = mh n ls hs x := by
  have K := ag_bkd hn w h
  obtain ⟨T, _⟩ := th_tr hn w h
  have Dw := T.dn hn w
  have back := Dw.back T.nd T.len
  have mem : ∀ v : Int, 1 ≤ v → v < n → mh n ls hs v ∈ th n ls hs := fun v v1 v2 => by
    unfold th
    exact sortI_mem.mpr (List.mem_map.mpr ⟨v, mem_rng.mpr ⟨v1, by omega⟩, rfl⟩)
  have key : ∀ m : Nat, ∀ x : Int, 0 ≤ x → x < n → lb n ls hs x = m → (bres n ls (th n ls hs)).bk x = lb n ls hs x ∧ (1 ≤ x → mi ls (th n ls hs) (bres n ls (th n ls hs)).bk x = mh n ls hs x) := by
    intro m
    induction m using Nat.strongRecOn with
    | _ m ih =>
      intro x x0 x1 e
      by_cases z : x = 0
      · subst z
        refine ⟨by rw [K.z]; exact Dw.z, fun q => by omega⟩
      · have xv : 1 ≤ x := by omega
        obtain ⟨m1, m2⟩ := List.mem_filter.mp (mh_at hn w h xv x1).2.2
        rw [decide_eq_true_eq] at m2
        obtain ⟨⟨k0, k1⟩, ht⟩ := mem_mn.mp m1
        obtain ⟨⟨o0, o1⟩, _⟩ := oe_in w k0 k1 ht
        obtain ⟨t1, t2, tc⟩ := touch_oe ht
        have ez : 0 ≤ lb n ls hs (oe ls x (mh n ls hs x)) := by unfold lb; omega
        have i := ih (lb n ls hs (oe ls x (mh n ls hs x))).toNat (by omega) _ o0 o1 (by omega)
        -- whose line is it, by the tree's own rounds
        have hb : mh n ls hs x ∈ (rng 1 (n - 1)).map (mi ls (th n ls hs) (bres n ls (th n ls hs)).bk) := back.mem_iff.mpr (mem x xv x1)
        obtain ⟨y, hy, ey⟩ := List.mem_map.mp hb
        have hy' := mem_rng.mp hy
        obtain ⟨y1, y2⟩ : 1 ≤ y ∧ y < n := ⟨hy'.1, by omega⟩
        have yn := (Dw.mi y1 y2).1
        rw [ey] at yn
        obtain ⟨yn1, yn2⟩ := List.mem_filter.mp yn
        rw [decide_eq_true_eq] at yn2
        have yt := (mem_mn.mp yn1).2
        have hxy : y = x ∨ y = oe ls x (mh n ls hs x) := by
          unfold touch at yt ht
          unfold oe
          rw [decide_eq_true_eq] at yt ht
          omega
        rcases hxy with hxy | hxy
        · subst hxy
          exact ⟨by rw [m2] at i; have := i.1; omega, fun _ => ey⟩
        · exfalso
          have i2 := i.2 (by omega)
          rw [← hxy] at i2
          rw [i2] at ey
          have := nr_unique (mh_at hn w h y1 y2).2.2 (ey ▸ (mh_at hn w h xv x1).2.2)
          have e1 : lb n ls hs (oe ls x (mh n ls hs x)) = lb n ls hs x := by rw [← hxy, this]
          omega
  refine ⟨fun x x0 x1 => (key (lb n ls hs x).toNat x x0 x1 (by unfold lb; omega)).1, fun x x1 x2 => (key (lb n ls hs x).toNat x (by omega) x2 (by unfold lb; omega)).2 x1⟩
theorem nr_congr {n : Nat} {ls : List Pr} (w : Web n ls) {b b' : Int → Int} (h : ∀ x : Int, 0 ≤ x → x < n → b x = b' x) {v : Int} (v0 : 0 ≤ v) (v1 : v < n) : nr ls b v = nr ls b' v ∧ lt ls b v = lt ls b' v := by
  constructor
  · refine List.filter_congr fun k hk => ?_
    obtain ⟨⟨k0, k1⟩, ht⟩ := mem_mn.mp hk
    obtain ⟨⟨o0, o1⟩, _⟩ := oe_in w k0 k1 ht
    rw [h _ o0 o1, h v v0 v1]
  · refine List.filter_congr fun k hk => ?_
    obtain ⟨⟨k0, k1⟩, ht⟩ := mem_mn.mp hk
    obtain ⟨⟨o0, o1⟩, _⟩ := oe_in w k0 k1 ht
    rw [h _ o0 o1, h v v0 v1]
theorem nr_nodup {ls : List Pr} {b : Int → Int} {v : Int} : (nr ls b v).Nodup := ((rng_nodup).filter _).filter _
/-- the heap of the tree is the heap -/
theorem th_heap {n : Nat} {ls : List Pr} {hs : List Int} (hn : 1 ≤ n) (w : Web n ls) (h : hs ∈ ag n ls) : heapT n ls (th n ls hs) (bres n ls (th n ls hs)).bk = hs := by
  obtain ⟨⟨h1, h2, h3⟩, h4⟩ := (mem_ag hn).mp h
  obtain ⟨r1, r2⟩ := th_rounds hn w h
  refine same_by (heapT_len hn) h1 fun v v0 v1 => ?_
  by_cases z : v = 0
  · rw [z, h2]; rfl
  · rw [gi_heapT (by omega) v1]
    unfold hv
    rw [r2 v (by omega) v1, (nr_congr w r1 v0 v1).1, (nr_congr w r1 v0 v1).2]
    obtain ⟨a, b, c⟩ := mh_at hn w h (show 1 ≤ v by omega) v1
    -- the place of the line among the near ones
    have hl : (nr ls (lb n ls hs) v).findIdx (fun k => decide (k = mh n ls hs v)) < (nr ls (lb n ls hs) v).length := List.findIdx_lt_length_of_exists ⟨_, c, by simp⟩
    have hg := List.findIdx_getElem (xs := nr ls (lb n ls hs) v) (p := fun k => decide (k = mh n ls hs v)) (w := hl)
    rw [decide_eq_true_eq] at hg
    have hj : (gi hs v - (lt ls (lb n ls hs) v).length).toNat < (nr ls (lb n ls hs) v).length := by omega
    have hg2 : (nr ls (lb n ls hs) v)[(gi hs v - (lt ls (lb n ls hs) v).length).toNat] = mh n ls hs v := by
      show _ = (nr ls (lb n ls hs) v).getD _ 0
      rw [List.getD_eq_getElem?_getD, List.getElem?_eq_getElem hj]; rfl
    have e := (List.getElem_inj (h₀ := hl) (h₁ := hj) nr_nodup).mp (hg.trans hg2.symm)
    omega
theorem th_inj {n : Nat} {ls : List Pr} {a b : List Int} (hn : 1 ≤ n) (w : Web n ls) (ha : a ∈ ag n ls) (hb : b ∈ ag n ls) (e : th n ls a = th n ls b) : a = b := by
  rw [← th_heap hn w ha, ← th_heap hn w hb, e]
theorem th_tl {n : Nat} {ls : List Pr} {a : List Int} (hn : 1 ≤ n) (w : Web n ls) (ha : a ∈ ag n ls) : th n ls a ∈ tl n ls := by
  obtain ⟨T, hi⟩ := th_tr hn w ha
  exact tr_tl hn w.ends T hi
theorem ag_nodup {n : Nat} {ls : List Pr} : (ag n ls).Nodup := (hps_nodup _).filter _
end Mw

/-! M10: rows sorted as data, small bounds. -/
namespace Mw
open PySem PySem.Spec PyProof.Rows L2 Eg
theorem tabD_rng {n : Nat} {f : Int → Int} : tabD n f = (rng 0 n).map fun v => PyData.int (f v) := by unfold tabD; rw [List.map_map]; rfl
theorem rng_tabD {n : Nat} : (rng 0 n).map PyData.int = tabD n id := by rw [tabD_rng]; rfl
theorem rgok {n : Nat} (hn : n ≤ 1000) : RgOk 0 n := .of_le (by decide) (by omega) (by decide) (by omega)
theorem eqv_intD {a b : Int} : PyData.eqv (.int a) (.int b) = decide (a = b) := eqv_int
theorem sort_Hp {xs : List (List Int)} (h : (∀ r ∈ xs, r ≠ []) ∨ xs.length ≤ 1) : (SeqAt.shaped (.list (xs.map Hp')) = true ∧ PySem.W.AllAlike (xs.map Hp') ∧ PySem.W.SortableX (xs.map Hp')) ∧ (xs.map Hp').mergeSort (PySem.W.dataLe false id) = (sortR xs).map Hp' := by
  refine ⟨⟨(Pl.list (n := 2) (.map fun r => pl_It)).shaped, alike_tup, ?_⟩, sort_tup xs⟩
  rcases h with h | h
  · refine .inl fun d hd => ?_
    obtain ⟨r, hr, rfl⟩ := List.mem_map.mp hd
    cases r with
    | nil => exact absurd rfl (h _ hr)
    | cons a t => exact ⟨_, _, rfl⟩
  · refine .inr (.inr ⟨by rw [List.length_map]; exact h, fun d hd => ?_⟩)
    obtain ⟨r, hr, rfl⟩ := List.mem_map.mp hd
    exact nofun
theorem tl_ne {n : Nat} {ls : List Pr} (w : Web n ls) (hn : 1 ≤ n) : (∀ t ∈ tl n ls, t ≠ []) ∨ (tl n ls).length ≤ 1 := by
  by_cases h : n = 1
  · right
    have : ls = [] := by
      cases ls with
      | nil => rfl
      | cons a r =>
        have e := w.ends a List.mem_cons_self
        have l := w.lt a List.mem_cons_self
        omega
    subst this
    exact Nat.le_trans (List.length_filter_le _ _) (tg_len (ls := []) 0)
  · left
    intro t ht z
    have := of_decide_eq_true (List.mem_filter.mp ht).2
    rw [z] at this
    simp at this
    omega
theorem tg_small {ls : List Pr} (hm : ls.length ≤ 12) : ∀ m : Nat, m ≤ ls.length → (tg ls m).length ≤ 4096 := fun m h => by
  have := tg_len (ls := ls) m
  have h2 : 2 ^ m ≤ 2 ^ 12 := Nat.pow_le_pow_right (by decide) (by omega)
  omega
theorem fin_acc {n : Nat} {ls : List Pr} {K : D → Prop} (hn1 : 1 ≤ n) (w : Web n ls) (h : K (Lt' (sortR (tl n ls)))) :
    (SeqAt.shaped (.list (((tg ls ls.length).filter fun t => decide (t.length = n - 1)).map Hp')) = true ∧ PySem.W.AllAlike (((tg ls ls.length).filter fun t => decide (t.length = n - 1)).map Hp') ∧ PySem.W.SortableX (((tg ls ls.length).filter fun t => decide (t.length = n - 1)).map Hp')) ∧ K (.list ((((tg ls ls.length).filter fun t => decide (t.length = n - 1)).map Hp').mergeSort (PySem.W.dataLe false id))) := by
  obtain ⟨h1, h2⟩ := sort_Hp (tl_ne w hn1)
  exact ⟨h1, by show K (.list (((tl n ls).map Hp').mergeSort _)); rw [h2]; exact h⟩
theorem dec_len {n : Nat} {t : List Int} (hn : 1 ≤ n) : ((t.length : Int) = (n : Int) - 1) = (t.length = n - 1) := by
  apply propext; omega
theorem tl_small {n : Nat} {ls : List Pr} (hm : ls.length ≤ 12) : (tl n ls).length ≤ 4096 := Nat.le_trans (List.length_filter_le _ _) (tg_small hm ls.length (Nat.le_refl _))
theorem if_sh {c : WT} {s t : WS} {env : En} {P : Po} (b : Bool) (hc : ∀ K : Bool → Prop, K b → c env K) (h : if b = true then s env P else t env P) : wIfS c s t env P := hc _ h
theorem sh_boolE {b : Bool} : SeqAt.shaped (.bool b) = true := by cases b <;> decide +kernel
theorem eqv_bb {a b : Bool} : PyData.eqv (.bool a) (.bool b) = decide (a = b) := by cases a <;> cases b <;> decide +kernel
theorem sh_Hp {a : List Int} : SeqAt.shaped (Hp' a) = true := (pl_It (n := 0)).shaped
theorem sh_Il {a : List Int} : SeqAt.shaped (Il a) = true := (pl_Il (n := 0)).shaped
theorem eqv_Hp {a b : List Int} : PyData.eqv (Hp' a) (Hp' b) = decide (a = b) := eqv_It
theorem lay_Hp {t : List (List Int)} : PyData.canLayAll0 (t.map Hp') = true := Pl.lay (n := 2) (.map fun _ => pl_It)
theorem inD_Hp {x : List Int} {t : List (List Int)} : inD (Hp' x) (t.map Hp') = decide (x ∈ t) := by
  rw [Bool.eq_iff_iff, decide_eq_true_eq]
  exact inD_mem (f := Hp') (fun a b => by rw [eqv_Hp, decide_eq_true_eq])
theorem sh_Lt {t : List (List Int)} : SeqAt.shaped (Lt' t) = true := (Pl.list (n := 2) (.map fun r => pl_It)).shaped
theorem eqv_Lt {t u : List (List Int)} : PyData.eqv (Lt' t) (Lt' u) = decide (t = u) := eqvAll_map Hp' (fun _ _ => eqv_It) t u
end Mw

namespace Wk13
open PySem PySem.Spec PyProof.Rows L2 Eg Mw
theorem nb_law {ls : List Pr} {p : Int} {Q : D → Prop} (hz : ls.length ≤ sizeLine) (h : Q (Il (nb ls p))) : p_f__law_neighbours [Ln ls, .int p] Q := by
  refine phi_i rfl ?_
  unfold w_f__law_neighbours
  simp [Ln]
  refine fun _ => lcGo_enc pr (touch p) (fun l => .int (l.1 + l.2 - p)) (fun l hl Y N q => ?_) (by simpa using hz) ?_
  · simp [pr, two_le, sh_int, lay_pair, inD_pair]
    simpa [touch] using q
  · simpa [nb, Il, Function.comp_def] using h
theorem nb_prog {n : Int} {ls : List Pr} {p : Int} {Q : D → Prop} (hz : ls.length ≤ sizeLine) (h : ∀ b : List Int, b.Perm (nb ls p) → Q (Il b)) : p_f_neighbours [.int n, Ln ls, .int p] Q := by
  refine phi_i rfl ?_
  unfold w_f_neighbours
  simp [Ln]
  refine fun _ => lcGo_enc pr (touch p) (fun l => .int (l.1 + l.2 - p)) (fun l hl Y N q => ?_) (by simpa using hz) ?_
  · simp [pr, two_le, sh_int, lay_pair, inD_pair]
    simpa [touch] using q
  · have e : List.map (fun l => PyData.int (l.fst + l.snd - p)) (ls.filter (touch p)) = (nb ls p).map .int := by simp [nb]
    simp only [List.nil_append]
    rw [e]
    refine ⟨⟨(pl_Il (n := 0)).shaped, alike_ints, sortable_ints⟩, ?_⟩
    obtain ⟨b, e2, pb⟩ := perm_ints (List.mergeSort_perm ((nb ls p).map .int) (PySem.W.dataLe false id))
    rw [e2]
    exact h b pb
theorem rounds_prog {n : Nat} {ls : List Pr} {hs : List Int} {Q : D → Prop} (hn : n ≤ 100) (hz : ls.length ≤ 100) (hh : hs.length = n) (h : Q (Ll (due n ls hs))) : p_f_rounds [.int n, Ln ls, Hp' hs] Q := by
  refine phi_i rfl ?_
  have hz' : ls.length ≤ sizeLine := Nat.le_of_lt (small hz)
  unfold w_f_rounds
  simp [one_le]
  refine wWh_i (fun k env => ∃ (pre : List (List Int)) (b : List Int) (s5 s6 s7 s8 : Sl), env = [.sh (.int n), .sh (Ln ls), .sh (Hp' hs), .sh (Il b), .ow (pre.map Il), s5, s6, s7, s8] ∧
    ((∃ k', k = k' + 1 ∧ (∃ p0 l, pre = p0 ++ [l] ∧ l ≠ []) ∧ pre ++ fire n ls hs k' b = due n ls hs ∧ (unb n b).length ≤ k' ∧ b.length + n * k' ≤ 1 + n * n ∧ pre.length + k' ≤ 1 + n) ∨ (k = 0 ∧ pre = due n ls hs ++ [[]])))
    (n := n + 1) ⟨[[0]], [0], .un, .un, .un, .un, rfl, .inl ⟨n, rfl, ⟨[], [0], rfl, by simp⟩, rfl, ?_, Nat.le_refl _, Nat.le_refl _⟩⟩ ?_
  · have := List.length_filter_le (fun x => decide (x ∉ [(0 : Int)])) (rng 0 n)
    rw [rng_length] at this; exact this
  · rintro k env ⟨pre, b, s5, s6, s7, s8, rfl, hk⟩ N hN
    simp
    have lastI : ∀ (p0 : List (List Int)) (l : List Int), atI ((p0 ++ [l]).map Il) (-1) = some (Il l) := fun p0 l => by
      unfold atI ixN
      rw [if_neg (by decide), if_pos (by simp; omega)]
      simp
      have : (-1 + ((p0.length : Int) + 1)).toNat = p0.length := by omega
      rw [this]
      rw [List.getElem?_append_right (by simp)]
      simp
    rcases hk with ⟨k', rfl, ⟨p0, l, rfl, hl⟩, e1, e2, e3, e4⟩ | ⟨rfl, rfl⟩
    · rw [lastI]
      have hl' : l.isEmpty = false := by cases l with
        | nil => exact absurd rfl hl
        | cons a r => rfl
      simp [Il, hl]
      refine ⟨by omega, ?_⟩
      rw [rangeD_map]
      refine forGo_inv .int (fun done env => ∃ acc, acc = (done.filter (Mw.cond ls hs b)).map PyData.int ∧ ∃ s6 s7 s8, env = [.sh (.int n), .sh (Ln ls), .sh (Hp' hs), .sh (Il b), .ow (p0.map Il ++ [Il l]), .ow acc, s6, s7, s8]) _ [] _ ⟨_, rfl, _, _, _, rfl⟩ ?_ ?_
      · rintro x d r env eq ⟨acc, ea, s6, s7, s8, rfl⟩ N2 hN2
        rw [List.nil_append] at eq
        have hx := in_rng eq
        have hm : x.toNat < n := by omega
        have hlt : acc.length < sizeLine := by rw [ea, List.length_map]; exact Nat.lt_trans (len_lt eq) (small hn)
        have yes : Mw.cond ls hs b x = true → acc ++ [PyData.int x] = ((d ++ [x]).filter (Mw.cond ls hs b)).map PyData.int := fun c => by rw [ea]; simp [c]
        have no : Mw.cond ls hs b x = false → acc = ((d ++ [x]).filter (Mw.cond ls hs b)).map PyData.int := fun c => by rw [ea]; simp [c]
        simp [Il, sh_int, lay_ints, inD_int]
        by_cases hb : x ∈ b
        · rw [if_pos hb]
          exact hN2 _ ⟨_, no (by simp [Mw.cond, hb]), _, _, _, rfl⟩
        · rw [if_neg hb]
          refine nb_prog hz' fun c pc => ?_
          simp [Il]
          have lz : c.length ≤ sizeLine := by rw [pc.length_eq]; exact Nat.le_trans nb_len hz'
          refine fun _ => lcGo_enc .int (fun y => decide (y ∉ b)) .int (fun y hy Y N3 q => ?_) (by simpa using lz) ?_
          · simp [sh_int, lay_ints, inD_int]
            simpa using q
          · simp only [List.nil_append, List.length_map, opens_perm pc]
            simp [Hp', atI_int hx.1 (show x < hs.length by omega)]
            by_cases hc : (opens ls x b : Int) ≤ gi hs x
            · rw [if_pos hc]
              exact ⟨hlt, hN2 _ ⟨_, yes (by unfold Mw.cond; rw [decide_eq_true hc]; simp [hb]), _, _, _, rfl⟩⟩
            · rw [if_neg hc]
              exact hN2 _ ⟨_, no (by unfold Mw.cond; rw [decide_eq_false hc]; simp), _, _, _, rfl⟩
      · rintro env ⟨acc, ea, s6, s7, s8, rfl⟩
        rw [List.nil_append] at ea
        have hf : (rng 0 n).filter (Mw.cond ls hs b) = found n ls hs b := rfl
        rw [hf] at ea
        have nn : n * n ≤ 100 * 100 := Nat.mul_le_mul hn hn
        have lb : b.length ≤ 10001 := by omega
        have la : acc.length ≤ 100 := by rw [ea, List.length_map]; exact Nat.le_trans found_len hn
        have big : 20000 < sizeLine := by decide
        have lp : (p0 ++ [l]).length = p0.length + 1 := by simp
        simp [Il]
        refine ⟨by omega, by omega, ?_⟩
        by_cases h0 : found n ls hs b = []
        · refine hN 0 _ (by omega) ⟨p0 ++ [l] ++ [[]], b, .sh (.list acc), s6, s7, s8, ?_, .inr ⟨rfl, ?_⟩⟩
          · rw [ea, h0]; simp [Il]
          · rw [fire_nil h0, List.append_nil] at e1
            rw [e1]
        · have lu := unb_lt h0
          obtain ⟨k, rfl⟩ : ∃ k2, k' = k2 + 1 := ⟨k' - 1, by omega⟩
          rw [fire_cons h0 e2] at e1
          have fl : (found n ls hs b).length ≤ n := found_len
          have mk : n * (k + 1) = n * k + n := Nat.mul_succ n k
          refine hN (k + 1) _ (by omega) ⟨p0 ++ [l] ++ [found n ls hs b], b ++ found n ls hs b, .sh (.list acc), s6, s7, s8, ?_, .inl ⟨k, rfl, ⟨_, _, rfl, h0⟩, by rw [List.append_assoc]; exact e1, by omega, ?_, ?_⟩⟩
          · rw [ea]; simp [Il]
          · rw [List.length_append]; omega
          · rw [List.length_append, List.length_singleton]; omega
    · rw [lastI]
      simp [Il]
      have cut : cutD ((due n ls hs).map Il ++ [PyData.list []]) none (some (-1)) = (due n ls hs).map Il := cut_last
      rw [cut]; exact h
theorem stays_prog {n : Nat} {ls : List Pr} {hs : List Int} {Q : D → Prop} (hn : n ≤ 100) (hz : ls.length ≤ 100) (hh : hs.length = n) (h : Q (Il (left n ls hs))) : p_f_stays [.int n, Ln ls, Hp' hs] Q := by
  refine phi_i rfl ?_
  unfold w_f_stays
  simp
  refine rounds_prog hn hz hh ?_
  obtain ⟨d1, d2⟩ := due_len (ls := ls) (hs := hs) hn
  have big : 20000 < sizeLine := by decide
  simp [Ll]
  refine fun _ => lc2Go_flat Il (fun r => r.map .int) sizeLine (due n ls hs) [] _ (fun r hr acc K' hl hk => ?_) ?_ ?_
  · simp [Il]
    have hl' : acc.length + r.length ≤ sizeLine := by simpa using hl
    refine fun _ => lcGo_enc .int (fun _ => true) .int (fun y hy Y N q => ?_) hl' (by rw [List.filter_eq_self.mpr (fun _ _ => rfl)]; exact hk)
    simp
    simpa using q
  · simp only [List.length_nil, Nat.zero_add]
    rw [List.flatMap_def, List.length_flatten, List.map_map]
    have e : (List.length ∘ fun r : List Int => r.map PyData.int) = List.length := by funext r; simp
    rw [e, ← List.length_flatten]
    omega
  · have e : (due n ls hs).flatMap (fun r => r.map PyData.int) = (due n ls hs).flatten.map .int := by
      rw [List.flatMap_def, List.map_flatten]
    rw [List.nil_append, e]
    unfold left at h
    generalize (due n ls hs).flatten = bt at h ⊢
    refine ⟨by omega, ?_⟩
    rw [rangeD_map]
    refine lcGo_enc .int (fun x => decide (x ∉ bt)) .int (fun x hx Y N q => ?_) ?_ ?_
    · simp [sh_int, lay_ints, inD_int]
      simpa using q
    · have := rng_length (lo := 0) (n := n)
      simp only [List.length_nil]; omega
    · exact h
def barsB (ls : List Pr) (hs : List Int) (s : List Int) (k : Int) : Bool := decide (gi hs k < (((nb ls k).filter fun x => decide (x ∈ s)).length : Int))
def bar (ls : List Pr) (hs : List Int) (s : List Int) : Bool := !s.isEmpty && decide ((0 : Int) ∉ s) && s.all (barsB ls hs s)
theorem web_law {n : Nat} {ex : Int} {Q : D → Prop} (hn1 : 1 ≤ n) (hn : n ≤ 5) (he0 : 0 ≤ ex) (he : ex ≤ 4) (h : ∀ ls, Web n ls → ls.length ≤ 8 → Q (Ln ls)) : p_f__law_web [tok0, .int n, .int ex] Q := by
  refine phi_i rfl ?_
  have big : 20000 < sizeLine := by decide
  unfold w_f__law_web
  simp
  refine ⟨by omega, ?_⟩
  rw [rangeD_map]
  refine forGo_inv .int (fun done env => ∃ (ls : List Pr) (acc : List D) (s4 s5 s6 s7 : Sl), acc = ls.map pr ∧ env = [.sh tok0, .sh (.int n), .sh (.int ex), .ow acc, s4, s5, s6, s7] ∧ ls.length = done.length ∧ (∀ l ∈ ls, (0 ≤ l.1 ∧ l.1 < n) ∧ (0 ≤ l.2 ∧ l.2 < n) ∧ l.1 < l.2) ∧ ∀ p ∈ done, ∃ l ∈ ls, l.2 = p) _ [] _
    ⟨[], [], _, _, _, _, rfl, rfl, rfl, by simp, by simp⟩ ?_ ?_
  · rintro x d r env eq ⟨ls, acc, s4, s5, s6, s7, ea, rfl, hl, he1, ht⟩ N2 hN2
    rw [List.nil_append] at eq
    have hx : x ∈ rng 1 (n - 1) := by rw [eq]; simp
    have hx' := mem_rng.mp hx
    have hdl := rng_length (lo := 1) (n := n - 1)
    rw [eq] at hdl
    simp at hdl
    simp
    refine draw_i (by omega) (by omega) fun v v0 v1 => ?_
    refine ⟨two_le, by rw [ea, List.length_map]; omega, hN2 _ ⟨ls ++ [(v, x)], _, _, _, _, _, ?_, rfl, by simp [hl], ?_, ?_⟩⟩
    · rw [ea]; simp [pr]
    · intro l hl
      rcases List.mem_append.mp hl with hl | hl
      · exact he1 l hl
      · rw [List.mem_singleton.mp hl]; simp; omega
    · intro p hp
      rcases List.mem_append.mp hp with hp | hp
      · obtain ⟨l, h1, h2⟩ := ht p hp
        exact ⟨l, List.mem_append_left _ h1, h2⟩
      · rw [List.mem_singleton.mp hp]
        exact ⟨(v, x), by simp, rfl⟩
  · rintro env ⟨ls, acc, s4, s5, s6, s7, ea, rfl, hl, he1, ht⟩
    rw [List.nil_append] at hl ht
    rw [rng_length] at hl
    simp
    have rest : ∀ (m : Nat), m ≤ 4 → (0 < m → 1 < n) → forGo (wGn 5)
        (wSeq (wSet 6 (wCl pDraw (wK (wV 0) (wK (wV 1) (wN))))) (wSeq (wSet 7 (wB gMod (wCl gInt (wK (wB gAdd (wB gAdd (wV 6) (wC (.int 1))) (wCl pDraw (wK (wV 0) (wK (wB Eg.gSub (wV 1) (wC (.int 1))) (wN))))) (wN))) (wV 1))) (wApp 3 (wTup (wK (wCl gMin2 (wK (wV 6) (wK (wV 7) (wN)))) (wK (wCl gMax2 (wK (wV 6) (wK (wV 7) (wN)))) (wN)))))))
        (rangeD 0 m) [.sh tok0, .sh (.int n), .sh (.int ex), .ow acc, s4, s5, s6, s7] ⟨fun env' => match env'.at 3 with
          | .ow ds => (SeqAt.shaped (.list ds) = true ∧ PySem.W.AllAlike ds ∧ PySem.W.SortableX ds) ∧ Q (.tuple (ds.mergeSort (PySem.W.dataLe false id)))
          | _ => False, Q, fun _ => False, fun _ => False⟩ := by
      intro m hm hm1
      rw [rangeD_map]
      refine forGo_inv .int (fun done env => ∃ (ls : List Pr) (acc : List D) (s4 s5 s6 s7 : Sl), acc = ls.map pr ∧ env = [.sh tok0, .sh (.int n), .sh (.int ex), .ow acc, s4, s5, s6, s7] ∧ ls.length = n - 1 + done.length ∧ (∀ l ∈ ls, (0 ≤ l.1 ∧ l.1 < n) ∧ (0 ≤ l.2 ∧ l.2 < n) ∧ l.1 < l.2) ∧ ∀ p ∈ rng 1 (n - 1), ∃ l ∈ ls, l.2 = p) _ [] _
        ⟨ls, acc, s4, s5, s6, s7, ea, rfl, hl, he1, ht⟩ ?_ ?_
      · rintro x d r env eq ⟨ls, acc, s4, s5, s6, s7, ea, rfl, hl, he1, ht⟩ N2 hN2
        rw [List.nil_append] at eq
        have hdl := rng_length (lo := 0) (n := m)
        rw [eq] at hdl
        simp at hdl
        have n1 : 1 < n := hm1 (by omega)
        simp
        refine draw_i (by omega) (by omega) fun a a0 a1 => ?_
        simp
        refine draw_i (by omega) (by omega) fun c c0 c1 => ?_
        have f1 := Int.fmod_nonneg_of_pos (a + 1 + c) (show (0 : Int) < n by omega)
        have f2 := Int.fmod_lt_of_pos (a + 1 + c) (show (0 : Int) < n by omega)
        have f3 : (a + 1 + c).fmod n ≠ a := by
          rw [Int.fmod_eq_emod_of_nonneg _ (by omega)]
          by_cases hc : a + 1 + c < n
          · rw [Int.emod_eq_of_lt (by omega) hc]; omega
          · have e : (a + 1 + c) % (n : Int) = (a + 1 + c - n) % (n : Int) := by rw [Int.sub_emod_right]
            rw [e, Int.emod_eq_of_lt (by omega) (by omega)]; omega
        simp
        refine ⟨by omega, two_le, by rw [ea, List.length_map]; omega, hN2 _ ⟨ls ++ [(if (a + 1 + c).fmod n < a then (a + 1 + c).fmod n else a, if a < (a + 1 + c).fmod n then (a + 1 + c).fmod n else a)], _, _, _, _, _, ?_, rfl, by simp [hl]; omega, ?_, ?_⟩⟩
        · rw [ea]; simp [pr]
        · intro l hl
          rcases List.mem_append.mp hl with hl | hl
          · exact he1 l hl
          · rw [List.mem_singleton.mp hl]
            dsimp only
            split <;> split <;> omega
        · intro p hp
          obtain ⟨l, h1, h2⟩ := ht p hp
          exact ⟨l, List.mem_append_left _ h1, h2⟩
      · rintro env ⟨ls, acc, s4, s5, s6, s7, ea, rfl, hl, he1, ht⟩
        rw [List.nil_append, rng_length] at hl
        show (SeqAt.shaped (.list acc) = true ∧ PySem.W.AllAlike acc ∧ PySem.W.SortableX acc) ∧ Q (.tuple (acc.mergeSort (PySem.W.dataLe false id)))
        rw [ea]
        refine ⟨⟨(Pl.list (.map fun l => pl_pr)).shaped, alike_pairs, sortable_pairs⟩, ?_⟩
        obtain ⟨ys, e, p⟩ := perm_map (List.mergeSort_perm (ls.map pr) (PySem.W.dataLe false id)) ls rfl
        rw [e]
        refine h ys ⟨fun l hl => ⟨(he1 l (p.mem_iff.mp hl)).1, (he1 l (p.mem_iff.mp hl)).2.1⟩, fun q q1 q2 => ?_, fun l hl => (he1 l (p.mem_iff.mp hl)).2.2, fun q q1 q2 => ?_⟩ (by rw [p.length_eq]; omega)
        · obtain ⟨l, h1, h2⟩ := ht q (mem_rng.mpr ⟨q1, by omega⟩)
          exact ⟨l, p.mem_iff.mpr h1, by simp [touch, h2]⟩
        · obtain ⟨l, h1, h2⟩ := ht q (mem_rng.mpr ⟨q1, by omega⟩)
          exact ⟨l, p.mem_iff.mpr h1, h2⟩
    by_cases h1 : 1 < (n : Int)
    · rw [if_pos h1]
      exact ⟨by omega, rest _ (by omega) (fun _ => by omega)⟩
    · rw [if_neg h1]
      exact rest 0 (by omega) (fun z => by omega)
theorem left_bars {n : Nat} {ls : List Pr} {hs : List Int} (w : Web n ls) (h : left n ls hs ≠ []) : bar ls hs (left n ls hs) = true := by
  have z : (0 : Int) ∉ left n ls hs := fun q => (mem_left.mp q).2 (by simp [due])
  have a : (left n ls hs).all (barsB ls hs (left n ls hs)) = true := by
    rw [List.all_eq_true]
    intro k hk
    obtain ⟨k1, k2⟩ := mem_left.mp hk
    have hf := List.filter_eq_nil_iff.mp (due_end (n := n) (ls := ls) (hs := hs)) k (mem_rng.mpr ⟨k1.1, by omega⟩)
    unfold Mw.cond at hf
    simp [k2] at hf
    unfold barsB
    rw [decide_eq_true_eq]
    have e : (nb ls k).filter (fun x => decide (x ∈ left n ls hs)) = (nb ls k).filter fun x => decide (x ∉ (due n ls hs).flatten) := by
      refine List.filter_congr fun x hx => ?_
      rw [Bool.eq_iff_iff, decide_eq_true_eq, decide_eq_true_eq, mem_left]
      exact ⟨fun q => q.2, fun q => ⟨nb_in w hx, q⟩⟩
    rw [e]
    exact hf
  unfold bar
  rw [a]
  simp [h, z]
theorem bar_fire {n : Nat} {ls : List Pr} {hs s : List Int} (hb : bar ls hs s = true) : ∀ (k : Nat) (b : List Int), (∀ x ∈ s, x ∉ b) → ∀ x ∈ s, x ∉ b ++ (fire n ls hs k b).flatten
  | 0, b, h => by simpa [fire] using h
  | k + 1, b, h => by
    unfold fire
    split
    · simpa using h
    · have ih := bar_fire (n := n) hb k (b ++ found n ls hs b) fun x hx => by
        have hx2 := h x hx
        intro q
        rcases List.mem_append.mp q with q | q
        · exact hx2 q
        · obtain ⟨_, q2⟩ := List.mem_filter.mp q
          unfold Mw.cond at q2
          simp only [Bool.and_eq_true, decide_eq_true_eq] at q2
          have hk : barsB ls hs s x = true := by
            unfold bar at hb
            simp only [Bool.and_eq_true, List.all_eq_true] at hb
            exact hb.2 x hx
          unfold barsB at hk
          rw [decide_eq_true_eq] at hk
          have le : ((nb ls x).filter fun y => decide (y ∈ s)).length ≤ opens ls x b := by
            unfold opens
            have e : (nb ls x).filter (fun y => decide (y ∈ s)) = ((nb ls x).filter fun y => decide (y ∉ b)).filter fun y => decide (y ∈ s) := by
              rw [List.filter_filter]
              refine List.filter_congr fun y _ => ?_
              rw [Bool.eq_iff_iff]
              simp
              exact fun q => h y q
            rw [e]
            exact List.length_filter_le _ _
          omega
      simpa [List.append_assoc] using ih
theorem bar_sub {n : Nat} {ls : List Pr} {hs s : List Int} (hb : bar ls hs s = true) (hs1 : ∀ x ∈ s, 0 ≤ x ∧ x < n) : ∀ x ∈ s, x ∈ left n ls hs := fun x hx => by
  have z : ∀ y ∈ s, y ∉ [(0 : Int)] := fun y hy q => by
    have : y = 0 := by simpa using q
    subst this
    unfold bar at hb
    simp only [Bool.and_eq_true, decide_eq_true_eq] at hb
    exact hb.1.2 hy
  have := bar_fire (n := n) hb n [0] z x hx
  exact mem_left.mpr ⟨hs1 x hx, by simpa [due] using this⟩
end Wk13

namespace Wk13
open PySem PySem.Spec PyProof.Rows L2 Eg Mw
theorem degrees_prog {n : Nat} {ls : List Pr} {Q : D → Prop} (w : Web n ls) (l20 : ls.length ≤ 20) (hn : n ≤ 100) (h : Q (Il (dgs n ls))) : p_f_degrees [.int n, Ln ls] Q := by
  refine phi_i rfl ?_
  have big : 20000 < sizeLine := by decide
  unfold w_f_degrees
  refine sq_ fun T hT => ?_
  simp [one_le]
  refine ⟨by omega, ?_⟩
  rw [rep_tabD]
  refine hT _ (sq_ fun T hT => ?_)
  simp [Ln]
  refine fun _ => forGo_inv pr (fun done env => ∃ acc s3 s4, acc = tabD n (dg done) ∧ env = [.sh (.int n), .sh (Ln ls), .ow acc, s3, s4]) _ [] _ ⟨_, _, _, rfl, rfl⟩ ?_ ?_
  · rintro l d r env eq ⟨acc, s3, s4, rfl, rfl⟩ N2 hN2
    rw [List.nil_append] at eq
    have hl : l ∈ ls := by rw [eq]; simp
    obtain ⟨⟨a0, a1⟩, b0, b1⟩ := w.ends l hl
    have lt := w.lt l hl
    simp [pr, tabD_at a0 a1]
    refine stI_ok rfl a0 (by simp; omega) ?_
    rw [tabD_set a0 a1]
    simp [tabD_at b0 b1]
    refine stI_ok rfl b0 (by simp; omega) ?_
    rw [tabD_set b0 b1]
    refine hN2 _ ⟨_, _, _, ?_, rfl⟩
    refine tabD_congr fun p _ _ => ?_
    rw [dg_snoc]
    unfold touch
    have ne : ¬ l.2 = l.1 := by omega
    by_cases h1 : p = l.2
    · subst h1; simp [ne]
    · by_cases h2 : p = l.1
      · subst h2; simp [h1]
      · simp [h1, h2]
  · rintro env ⟨acc, s3, s4, rfl, rfl⟩
    rw [List.nil_append]
    refine hT _ ?_
    simp
    exact h
theorem still_prog {n : Nat} {ls : List Pr} {Q : D → Prop} (w : Web n ls) (hn1 : 1 ≤ n) (hn : n ≤ 5) (hl : ls.length ≤ 20) (h : Q (Lt' (hps ls (n - 1)))) : p_f_still_heaps [.int n, Ln ls] Q := by
  refine phi_i rfl ?_
  have big : 4000000 < sizeLine := by decide
  unfold w_f_still_heaps
  simp [one_le]
  refine degrees_prog w hl (by omega) ?_
  simp [Il]
  rw [cut1, ← List.map_drop, dgs_drop hn1, List.map_map]
  refine fun _ => forGo_inv (PyData.int ∘ dg ls) (fun done env => ∃ acc s3 s4 s5 s6, acc = (hps ls done.length).map Hp' ∧ env = [.sh (.int n), .sh (Ln ls), .sh (.list acc), s3, s4, s5, s6]) _ [] _ ⟨_, _, _, _, _, rfl, rfl⟩ ?_ ?_
  · rintro x d r env eq ⟨acc, s3, s4, s5, s6, ea, rfl⟩ N2 hN2
    rw [List.nil_append] at eq
    obtain ⟨hx, hdl⟩ := rng_at eq
    have hb : (hps ls d.length).length ≤ 20 ^ 4 := Nat.le_trans (hps_len (by omega) _) (Nat.pow_le_pow_right (by decide) (by omega))
    simp
    refine fun _ => ?_
    rw [ea]
    have dl := nb_len (ls := ls) (p := x)
    refine forGo_inv Hp' (fun done env => ∃ acc4 s5 s6, acc4 = (done.flatMap fun h => (rng 0 (nb ls x).length).map fun m => h ++ [m]).map Hp' ∧ env = [.sh (.int n), .sh (Ln ls), .sh (.list acc), .sh (.int (dg ls x)), .sh (.list acc4), s5, s6]) _ [] _ ⟨[], s5, s6, rfl, by rw [ea]⟩ ?_ ?_
    · rintro g d2 r2 env eq2 ⟨acc4, s5, s6, e4, rfl⟩ N3 hN3
      rw [List.nil_append] at eq2
      simp [dg]
      refine ⟨by omega, ?_⟩
      rw [rangeD_map]
      have gl : g.length ≤ 100 := by
        have := hps_mem d.length g (by rw [eq2]; simp)
        omega
      refine lcGo_enc .int (fun _ => true) (fun m => Hp' (g ++ [m])) (fun m hm Y N q => ?_) (by rw [rng_length]; simp; omega) ?_
      · simp [Hp', one_le]
        refine ⟨by omega, ?_⟩
        simpa [Hp'] using q
      · rw [List.filter_eq_self.mpr (fun _ _ => rfl)]
        have l4 : acc4.length = d2.length * (nb ls x).length := by
          rw [e4, List.length_map, List.length_flatMap]
          simp [rng_length, List.map_const']
        have hb2 : d2.length ≤ 20 ^ 4 := by rw [eq2] at hb; simp at hb ⊢; omega
        have l5 : d2.length * (nb ls x).length ≤ 20 ^ 4 * 20 := Nat.mul_le_mul hb2 (by omega)
        simp [rng_length]
        refine ⟨by omega, hN3 _ ⟨_, _, _, ?_, rfl⟩⟩
        rw [e4]; simp [Function.comp_def]
    · rintro env ⟨acc4, s5, s6, e4, rfl⟩
      rw [List.nil_append] at e4
      simp
      refine hN2 _ ⟨acc4, .sh (.int (dg ls x)), .sh (.list acc4), s5, s6, ?_, rfl⟩
      rw [e4]
      have hx' : x = (d.length : Int) + 1 := by omega
      simp [hps, hx']
  · rintro env ⟨acc, s3, s4, s5, s6, ea, rfl⟩
    rw [List.nil_append, rng_length] at ea
    simp
    rw [ea]; exact h
theorem again_prog {n : Nat} {ls : List Pr} {Q : D → Prop} (w : Web n ls) (hn1 : 1 ≤ n) (hn : n ≤ 5) (hl : ls.length ≤ 20) (h : Q (Lt' (ag n ls))) : p_f_all_again [.int n, Ln ls] Q := by
  refine phi_i rfl ?_
  have big : 4000000 < sizeLine := by decide
  have hb : (hps ls (n - 1)).length ≤ 20 ^ 4 := Nat.le_trans (hps_len (by omega) _) (Nat.pow_le_pow_right (by decide) (by omega))
  unfold w_f_all_again
  simp
  refine still_prog w hn1 hn hl ?_
  simp [Lt']
  refine fun _ => lcGo_enc Hp' (fun h => (left n ls h).isEmpty) Hp' (fun g hg Y N q => ?_) (by simp; omega) ?_
  · simp
    have gl := hps_mem _ g hg
    refine stays_prog (by omega) (by omega) (show g.length = n by omega) ?_
    simp [Il]
    simpa using q
  · exact h
theorem rounds_law {n : Nat} {ls : List Pr} {hs : List Int} {Q : D → Prop} (hn : n ≤ 100) (hz : ls.length ≤ 100) (hh : hs.length = n) (h : Q (Ll (due n ls hs))) : p_f__law_rounds [.int n, Ln ls, Hp' hs] Q := by
  refine phi_i rfl ?_
  have hz' : ls.length ≤ sizeLine := Nat.le_of_lt (small hz)
  unfold w_f__law_rounds
  simp [one_le]
  refine wWh_i (fun k env => ∃ (pre : List (List Int)) (b : List Int) (s5 s6 s7 : Sl), env = [.sh (.int n), .sh (Ln ls), .sh (Hp' hs), .sh (Il b), .ow (pre.map Il), s5, s6, s7] ∧ pre ++ fire n ls hs k b = due n ls hs ∧ (unb n b).length ≤ k ∧ b.length + n * k ≤ 1 + n * n ∧ pre.length + k ≤ 1 + n) (n := n) ⟨[[0]], [0], .un, .un, .un, rfl, rfl, ?_, Nat.le_refl _, Nat.le_refl _⟩ ?_
  · have := List.length_filter_le (fun x => decide (x ∉ [(0 : Int)])) (rng 0 n)
    rw [rng_length] at this; exact this
  · rintro k env ⟨pre, b, s5, s6, s7, rfl, e1, e2, e3, e4⟩ N hN
    simp
    refine ⟨by have : (2:Int)^62 = 4611686018427387904 := by decide
               omega, ?_⟩
    rw [rangeD_map]
    refine forGo_inv .int (fun done env => ∃ acc, acc = (done.filter (Mw.cond ls hs b)).map PyData.int ∧ ∃ s6 s7, env = [.sh (.int n), .sh (Ln ls), .sh (Hp' hs), .sh (Il b), .ow (pre.map Il), .ow acc, s6, s7]) _ [] _ ⟨_, rfl, _, _, rfl⟩ ?_ ?_
    · rintro x d r env eq ⟨acc, ea, s6, s7, rfl⟩ N2 hN2
      rw [List.nil_append] at eq
      have hx := in_rng eq
      have hm : x.toNat < n := by omega
      have hlt : acc.length < sizeLine := by rw [ea, List.length_map]; exact Nat.lt_trans (len_lt eq) (small hn)
      have yes : Mw.cond ls hs b x = true → acc ++ [PyData.int x] = ((d ++ [x]).filter (Mw.cond ls hs b)).map PyData.int := fun c => by rw [ea]; simp [c]
      have no : Mw.cond ls hs b x = false → acc = ((d ++ [x]).filter (Mw.cond ls hs b)).map PyData.int := fun c => by rw [ea]; simp [c]
      simp [Il, sh_int, lay_ints, inD_int]
      by_cases hb : x ∈ b
      · rw [if_pos hb]
        exact hN2 _ ⟨_, no (by simp [Mw.cond, hb]), _, _, rfl⟩
      · rw [if_neg hb]
        simp [Hp', atI_int hx.1 (show x < hs.length by omega)]
        refine nb_law hz' ?_
        simp [Il]
        have lz : (nb ls x).length ≤ sizeLine := Nat.le_trans nb_len hz'
        refine fun _ => lcGo_enc .int (fun y => decide (y ∉ b)) .int (fun y hy Y N3 q => ?_) (by simpa using lz) ?_
        · simp [sh_int, lay_ints, inD_int]
          simpa using q
        · have e5 : opens ls x b = (List.filter (fun y => decide (y ∉ b)) (nb ls x)).length := rfl
          simp only [s_gI, List.nil_append, List.length_map, ← e5, true_and, s_gBool, decide_eq_true_eq]
          by_cases hc : (opens ls x b : Int) ≤ gi hs x
          · rw [if_pos hc]
            exact ⟨hlt, hN2 _ ⟨_, yes (by unfold Mw.cond; rw [decide_eq_true hc]; simp [hb]), _, _, rfl⟩⟩
          · rw [if_neg hc]
            exact hN2 _ ⟨_, no (by unfold Mw.cond; rw [decide_eq_false hc]; simp), _, _, rfl⟩
    · rintro env ⟨acc, ea, s6, s7, rfl⟩
      rw [List.nil_append] at ea
      have hf : (rng 0 n).filter (Mw.cond ls hs b) = found n ls hs b := rfl
      rw [hf] at ea
      simp [sh_int, eqv_int]
      by_cases h0 : found n ls hs b = []
      · rw [h0] at ea
        simp [ea]
        rw [fire_nil h0, List.append_nil] at e1
        rw [e1]; exact h
      · have hne : acc ≠ [] := by rw [ea]; simpa using h0
        simp [hne]
        have lu := unb_lt h0
        have nn : n * n ≤ 100 * 100 := Nat.mul_le_mul hn hn
        have lb : b.length ≤ 10001 := by omega
        have la : acc.length ≤ 100 := by rw [ea, List.length_map]; exact Nat.le_trans found_len hn
        have big : 20000 < sizeLine := by decide
        obtain ⟨k, rfl⟩ : ∃ k', k = k' + 1 := ⟨k - 1, by omega⟩
        refine ⟨by rw [List.length_map]; omega, by omega, ?_⟩
        rw [fire_cons h0 e2] at e1
        have fl : (found n ls hs b).length ≤ n := found_len
        have mk : n * (k + 1) = n * k + n := Nat.mul_succ n k
        refine hN k _ (by omega) ⟨pre ++ [found n ls hs b], b ++ found n ls hs b, .sh (.list acc), s6, s7, ?_, by rw [List.append_assoc]; exact e1, by omega, ?_, ?_⟩
        · rw [ea]; simp [Il]
        · rw [List.length_append]; omega
        · rw [List.length_append, List.length_singleton]; omega
end Wk13

namespace Wk13
open PySem PySem.Spec PyProof.Rows L2 Eg Mw

theorem nb_progS {n : Int} {ls : List Pr} {p : Int} {Q : D → Prop} (hz : ls.length ≤ sizeLine) (h : Q (Il (sortI (nb ls p)))) : p_f_neighbours [.int n, Lm ls, .int p] Q := by
  refine phi_i rfl ?_
  unfold w_f_neighbours
  simp [Lm]
  refine fun _ => lcGo_enc pr (touch p) (fun l => .int (l.1 + l.2 - p)) (fun l hl Y N q => ?_) (by simpa using hz) ?_
  · simp [pr, two_le, sh_int, lay_pair, inD_pair]
    simpa [touch] using q
  · have e : List.map (fun l => PyData.int (l.fst + l.snd - p)) (ls.filter (touch p)) = (nb ls p).map .int := by simp [nb]
    simp only [List.nil_append]
    rw [e]
    refine ⟨⟨(pl_Il (n := 0)).shaped, alike_ints, sortable_ints⟩, ?_⟩
    rw [sort_int]
    exact h
theorem reach_prog {n : Nat} {ls : List Pr} {p : Int} {Q : D → Prop} (w : Web0 n ls) (hl : ls.length ≤ 20) (hn : n ≤ 50) (p0 : 0 ≤ p) (p1 : p < n) (h : Q (Il (reachL n ls p))) : p_f_reached [.int n, Lm ls, .int p] Q := by
  refine phi_i rfl ?_
  have big : 20000 < sizeLine := by decide
  unfold w_f_reached
  refine sq_ fun T hT => ?_
  simp [one_le]
  refine hT _ (sq_ fun T hT => ?_)
  simp
  refine hT _ (sq_ fun T hT => ?_)
  refine wWh_i (fun k env => ∃ (t : List Int) (i : Nat) (s5 : Sl), env = [.sh (.int n), .sh (Lm ls), .sh (.int p), .ow (t.map .int), .sh (.int i), s5] ∧ Lot n t ∧ i ≤ t.length ∧ n - i ≤ k ∧ bfs ls k t i = bfs ls n [p] 0) (n := n) ⟨[p], 0, _, rfl, one_lot p0 p1, by simp, by omega, rfl⟩ ?_
  rintro k env ⟨t, i, s5, rfl, lt, hi, hk, e⟩ N hN
  have tl := lt.len
  simp
  by_cases hlt : i < t.length
  · simp [hlt]
    obtain ⟨k, rfl⟩ : ∃ k', k = k' + 1 := ⟨k - 1, by omega⟩
    rw [bfs_step hlt] at e
    clear hT
    rw [atI_int (show (0 : Int) ≤ i by omega) (show (i : Int) < t.length by omega)]
    simp only []
    refine nb_progS (by omega) ?_
    simp [Il]
    have nl : (sortI (nb ls (gi t i))).length ≤ sizeLine := by rw [sortI_len]; have := nb_len (ls := ls) (p := gi t i); omega
    refine fun _ => forGo_inv .int (fun done env => ∃ s5, env = [.sh (.int n), .sh (Lm ls), .sh (.int p), .ow ((Mw.ext t done).map .int), .sh (.int i), s5]) _ [] _ ⟨_, rfl⟩ ?_ ?_
    · rintro x d r env eq ⟨s5, rfl⟩ N2 hN2
      rw [List.nil_append] at eq
      have dl : ∀ y ∈ d, y ∈ sortI (nb ls (gi t i)) := fun y hy => by rw [eq]; exact List.mem_append_left _ hy
      have ll : Lot n (Mw.ext t d) := ⟨ext_nodup _ _ lt.nd, fun y hy => ((ext_mem _ _ _).mp hy).elim (lt.sub y) fun z => nb_in0 w (sortI_mem.mp (dl y z))⟩
      have := ll.len
      simp [sh_int, lay_ints, inD_int]
      by_cases hx : x ∈ Mw.ext t d
      · simp [hx]
        exact hN2 _ ⟨_, by rw [ext_snoc, if_pos hx]⟩
      · simp [hx]
        refine ⟨by omega, hN2 _ ⟨.sh (.int x), ?_⟩⟩
        rw [ext_snoc, if_neg hx, List.map_append]; rfl
    · rintro env ⟨s5, rfl⟩
      rw [List.nil_append]
      simp
      refine hN k _ (by omega) ⟨Mw.ext t (sortI (nb ls (gi t i))), i + 1, _, rfl, lt.ext w _, ?_, by omega, e⟩
      have : t.length ≤ (Mw.ext t (sortI (nb ls (gi t i)))).length := List.Nodup.length_le_of_subset lt.nd fun y hy => (ext_mem _ _ _).mpr (.inl hy)
      omega
  · simp [hlt]
    refine hT _ ?_
    rw [bfs_end hlt] at e
    simp
    refine ⟨⟨(pl_Il (n := 0)).shaped, alike_ints, sortable_ints⟩, ?_⟩
    rw [sort_int, e]
    exact h
end Wk13

namespace Wk13
open PySem PySem.Spec PyProof.Rows L2 Eg Mw
theorem oe_t {ls : List Pr} {k p : Int} {Q : D → Prop} (k0 : 0 ≤ k) (k1 : k < ls.length) (h : Q (.int (oe ls p k))) : p_f_other_end [Ln ls, .int k, .int p] Q := by
  refine phi_i rfl ?_
  unfold w_f_other_end
  simp [Ln, la_at k0 k1, pr]
  exact h
theorem mn_t {ls : List Pr} {p : Int} {Q : D → Prop} (hz : ls.length ≤ 100) (h : Q (Il (mn ls p))) : p_f_lines_at [Ln ls, .int p] Q := by
  refine phi_i rfl ?_
  have big : 20000 < sizeLine := by decide
  unfold w_f_lines_at
  simp [Ln]
  have e : enumGo 0 (ls.map pr) = (rng 0 ls.length).map fun k => .tuple [.int k, pr (la ls k)] := by
    have := enumGo_rng (f := fun k => pr (la ls k)) ls.length 0
    refine Eq.trans ?_ this
    congr 1
    have := congrArg (List.map pr) (la_tab ls)
    rw [List.map_map] at this
    exact this
  rw [e]
  refine lcGo_enc (fun k => PyData.tuple [.int k, pr (la ls k)]) (fun k => touch p (la ls k)) .int (fun k hk Y N q => ?_) (by rw [rng_length]; simp; omega) ?_
  · simp [pr, sh_int, lay_pair, inD_pr]
    exact q
  · exact h
theorem ch_t {n : Nat} {ls : List Pr} {b : Int → Int} {p : Int} {Q : D → Prop} (w : Web n ls) (hz : ls.length ≤ 100) (p0 : 0 ≤ p) (p1 : p < n) (h : Q (.tuple [.int ((lt ls b p).length : Nat), Il (nr ls b p)])) : p_f_choices [Ln ls, .list (tabD n b), .int p] Q := by
  refine phi_i rfl ?_
  have big : 20000 < sizeLine := by decide
  have ml := mn_len (ls := ls) (p := p)
  unfold w_f_choices
  refine sq_ fun T hT => ?_
  simp
  refine mn_t hz ?_
  refine hT _ (sq_ fun T hT => ?_)
  simp [Il]
  refine fun _ => lcGo_enc .int (fun k => decide (b p ≤ b (oe ls p k))) .int (fun k hk Y N q => ?_) (by simp; omega) ?_
  · obtain ⟨⟨k0, k1⟩, ht⟩ := mem_mn.mp hk
    obtain ⟨⟨o0, o1⟩, _⟩ := oe_in w k0 k1 ht
    simp
    refine oe_t k0 k1 ?_
    simp [tabD_at o0 o1, tabD_at p0 p1]
    simpa using q
  refine hT _ (sq_ fun T hT => ?_)
  simp
  refine fun _ => lcGo_enc .int (fun k => decide (b (oe ls p k) = b p - 1)) .int (fun k hk Y N q => ?_) (by simp; omega) ?_
  · obtain ⟨⟨k0, k1⟩, ht⟩ := mem_mn.mp hk
    obtain ⟨⟨o0, o1⟩, _⟩ := oe_in w k0 k1 ht
    simp
    refine oe_t k0 k1 ?_
    simp [tabD_at o0 o1, tabD_at p0 p1, sh_int, eqv_int]
    simpa using q
  refine hT _ ?_
  simp [two_le]
  exact h
theorem par_t {n : Nat} {ls : List Pr} {ts : List Int} {Q : D → Prop} (hn1 : 1 ≤ n) (hn : n ≤ 50) (w : Web n ls) (hz : ls.length ≤ 100) (tk : TsOk ls ts) (tz : ts.length ≤ 100) (h : Q (.list (tabD n (bres n ls ts).bf))) : p_f_parents [.int n, Ln ls, Hp' ts] Q := by
  refine phi_i rfl ?_
  have big : 20000 < sizeLine := by decide
  unfold w_f_parents
  refine sq_ fun T hT => ?_
  simp [one_le]
  refine ⟨by omega, ?_⟩
  rw [rep_tabD]
  refine hT _ (sq_ fun T hT => ?_)
  simp [one_le]
  refine hT _ (sq_ fun T hT => ?_)
  simp
  refine hT _ (sq_ fun T hT => ?_)
  refine wWh_i (fun f env => ∃ (s : B) (i : Nat) (s6 s7 : Sl), env = [.sh (.int n), .sh (Ln ls), .sh (Hp' ts), .ow (tabD n s.bf), .ow (s.od.map .int), .sh (.int i), s6, s7] ∧ BI n ls ts s ∧ i ≤ s.od.length ∧ n ≤ f + i ∧ bgo ls ts f i s = bres n ls ts) (n := n) ⟨b0, 0, _, _, rfl, b0_inv hn1, by simp, by omega, rfl⟩ ?_
  rintro f env ⟨s, i, s6, s7, rfl, I, hi, hf, e⟩ N hN
  have ol := I.lot.len
  simp
  by_cases hlt : i < s.od.length
  · simp [hlt]
    obtain ⟨f, rfl⟩ : ∃ f', f = f' + 1 := ⟨f - 1, by omega⟩
    have e1 : bgo ls ts (f + 1) i s = bgo ls ts f (i + 1) (ts.foldl (bst ls (gi s.od i)) s) := if_pos hlt
    rw [e1] at e
    clear hT
    have hm : gi s.od i ∈ s.od := by
      unfold gi
      rw [List.getD_eq_getElem?_getD]
      have : ((i : Nat) : Int).toNat = i := by omega
      rw [this, List.getElem?_eq_getElem hlt]
      exact List.getElem_mem _
    simp [Hp']
    refine fun _ => forGo_inv .int (fun done env => ∃ (u : B) (ex : List Int) (s6 s7 : Sl), u = done.foldl (bst ls (gi s.od i)) s ∧ u.od = s.od ++ ex ∧ BI n ls ts u ∧ env = [.sh (.int n), .sh (Ln ls), .sh (.tuple (ts.map .int)), .ow (tabD n u.bf), .ow (u.od.map .int), .sh (.int i), s6, s7]) _ [] _ ⟨s, [], _, _, rfl, by simp, I, rfl⟩ ?_ ?_
    · rintro k d r env eq ⟨u, ex, s6, s7, eu, eo, J, rfl⟩ N2 hN2
      rw [List.nil_append] at eq
      have hk : k ∈ ts := by rw [eq]; simp
      obtain ⟨k0, k1⟩ := tk k hk
      have ul := J.lot.len
      have gu : gi u.od i = gi s.od i := by rw [eo]; exact gi_app_lt0 hlt
      have hmu : gi s.od i ∈ u.od := by rw [eo]; exact List.mem_append_left _ hm
      obtain ⟨p0, p1⟩ := J.lot.sub _ hmu
      have il : i < u.od.length := by rw [eo, List.length_append]; omega
      have fo : (d ++ [k]).foldl (bst ls (gi s.od i)) s = bst ls (gi s.od i) u k := by rw [List.foldl_append, ← eu]; rfl
      have J2 := bst_inv w tk J hmu hk
      obtain ⟨e2, he2⟩ := bst_app (ls := ls) (p := gi s.od i) (k := k) (s := u)
      simp [atI_int (show (0 : Int) ≤ i by omega) (show (i : Int) < u.od.length by omega), gu, Ln, la_at k0 k1, pr, sh_int, lay_pair, inD_pr]
      by_cases ht : touch (gi s.od i) (la ls k) = true
      · rw [if_pos ht]
        obtain ⟨⟨o0, o1⟩, _⟩ := oe_in w k0 k1 ht
        refine oe_t (ls := ls) k0 k1 ?_
        have iff : (oe ls (gi s.od i) k ≠ 0 ∧ u.bf (oe ls (gi s.od i) k) = -1) ↔ oe ls (gi s.od i) k ∉ u.od := by
          constructor
          · rintro ⟨a, c⟩ hin
            obtain ⟨i1, _⟩ := J.inn _ hin a
            rw [c] at i1
            have := J.lot.sub _ i1
            omega
          · intro hnot
            exact ⟨fun z => hnot (z ▸ J.z), J.out _ hnot⟩
        simp [sh_int, eqv_int, tabD_at o0 o1]
        by_cases c1 : oe ls (gi s.od i) k = 0
        · rw [if_pos c1]
          have nb : bst ls (gi s.od i) u k = u := if_neg fun z => (iff.mpr z.2).1 c1
          exact hN2 _ ⟨u, ex, .sh (.int k), .sh (.int (oe ls (gi s.od i) k)), (by rw [fo, nb]), eo, J, rfl⟩
        · rw [if_neg c1]
          by_cases c2 : u.bf (oe ls (gi s.od i) k) = -1
          · simp [c2]
            have hnot := iff.mp ⟨c1, c2⟩
            have yb : bst ls (gi s.od i) u k = ⟨up u.bf (oe ls (gi s.od i) k) (gi s.od i), up u.bk (oe ls (gi s.od i) k) (u.bk (gi s.od i) + 1), u.od ++ [oe ls (gi s.od i) k]⟩ := if_pos ⟨ht, hnot⟩
            refine stI_ok rfl o0 (by simpa using o1) ?_
            rw [tabD_set o0 o1]
            simp
            refine ⟨by omega, hN2 _ ⟨bst ls (gi s.od i) u k, ex ++ [oe ls (gi s.od i) k], .sh (.int k), .sh (.int (oe ls (gi s.od i) k)), fo.symm, by rw [yb]; show u.od ++ _ = _; rw [eo, List.append_assoc], J2, ?_⟩⟩
            rw [yb]
            simp [up, Ln]
            try rfl
          · simp [c2]
            have nb : bst ls (gi s.od i) u k = u := if_neg fun z => c2 (iff.mpr z.2).2
            exact hN2 _ ⟨u, ex, .sh (.int k), .sh (.int (oe ls (gi s.od i) k)), (by rw [fo, nb]), eo, J, rfl⟩
      · rw [if_neg ht]
        have nb : bst ls (gi s.od i) u k = u := if_neg fun z => ht z.1
        exact hN2 _ ⟨u, ex, .sh (.int k), s7, (by rw [fo, nb]), eo, J, rfl⟩
    · rintro env ⟨u, ex, s6, s7, eu, eo, J, rfl⟩
      rw [List.nil_append] at eu
      simp
      refine hN f _ (by omega) ⟨u, i + 1, s6, s7, ?_, J, by rw [eo, List.length_append]; omega, by omega, by rw [eu]; exact e⟩
      simp [Hp']
  · simp [hlt]
    refine hT _ ?_
    have e1 : bgo ls ts f i s = s := by
      cases f with
      | zero => rfl
      | succ f => exact if_neg hlt
    rw [e1] at e
    rw [← e] at h
    simpa using h
theorem way_loop {n : Nat} {ls : List Pr} {ts : List Int} {s : B} (I : BI n ls ts s) {c : WT} {bd : WS} {P : Po} (mk : List D → En) {p : Int} (hp : p ∈ s.od) (hn : n ≤ 100)
    (hc : ∀ (pre : List Int) (q : Int) (K : Bool → Prop), K (decide (q ≠ 0)) → c (mk ((pre ++ [q]).map .int)) K)
    (hb : ∀ (pre : List Int) (q : Int) (N : En → Prop) , pre.length ≤ 200 → 0 ≤ q → q < n → N (mk ((pre ++ [q] ++ [s.bf q]).map .int)) → bd (mk ((pre ++ [q]).map .int)) ⟨N, P.rt, P.nx, N⟩)
    (h : P.nx (mk ((wayF s.bf (s.bk p).toNat p).map .int))) : wWh c bd (mk [.int p]) P := by
  have kp : s.bk p ≤ 100 ∨ True := .inr trivial
  have bound : ∀ (m : Nat) (q : Int), q ∈ s.od → s.bk q = m → (m : Int) < n := by
    intro m q hq e
    -- the way is without doubles
    have key : ∀ (f : Nat) (p : Int), p ∈ s.od → s.bk p = f → ∃ l : List Int, l.length = f + 1 ∧ l.Nodup ∧ (∀ x ∈ l, x ∈ s.od ∧ s.bk x ≤ f) := by
      intro f
      induction f with
      | zero => intro p hp e; exact ⟨[p], rfl, by simp, fun x hx => by rw [List.mem_singleton.mp hx]; exact ⟨hp, by omega⟩⟩
      | succ f ih =>
        intro p hp e
        have pz : p ≠ 0 := fun z => by rw [z, I.zk] at e; omega
        obtain ⟨i1, i2, _⟩ := I.inn p hp pz
        obtain ⟨l, h1, h2, h3⟩ := ih _ i1 (by omega)
        refine ⟨p :: l, by rw [List.length_cons, h1], List.nodup_cons.mpr ⟨fun z => ?_, h2⟩, fun x hx => ?_⟩
        · have := (h3 p z).2; omega
        · rcases List.mem_cons.mp hx with rfl | hx
          · exact ⟨hp, by omega⟩
          · exact ⟨(h3 x hx).1, by have := (h3 x hx).2; omega⟩
    obtain ⟨l, h1, h2, h3⟩ := key m q hq e
    have := List.Nodup.length_le_of_subset h2 fun x hx => (h3 x hx).1
    have := I.lot.len
    omega
  refine wWh_i (fun f env => ∃ (pre : List Int) (q : Int), env = mk ((pre ++ [q]).map .int) ∧ q ∈ s.od ∧ s.bk q = f ∧ pre.length + f = (s.bk p).toNat ∧ pre ++ wayF s.bf f q = wayF s.bf (s.bk p).toNat p) (n := (s.bk p).toNat) ⟨[], p, rfl, hp, by have := I.kn p; omega, by simp, rfl⟩ ?_
  rintro f env ⟨pre, q, rfl, hq, ek, el, e⟩ N hN
  have bp := bound (s.bk p).toNat p hp (by have := I.kn p; omega)
  obtain ⟨q0, q1⟩ := I.lot.sub q hq
  refine hc pre q _ ?_
  by_cases z : q = 0
  · subst z
    have f0 : f = 0 := by have := I.zk; omega
    subst f0
    simp only [wayF] at e
    simp
    rw [← e] at h
    simpa using h
  · obtain ⟨i1, i2, _⟩ := I.inn q hq z
    have kq := I.kn (s.bf q)
    obtain ⟨f, rfl⟩ : ∃ f', f = f' + 1 := ⟨f - 1, by omega⟩
    have e1 : wayF s.bf (f + 1) q = q :: wayF s.bf f (s.bf q) := if_neg z
    rw [e1] at e
    simp only [decide_eq_true_eq, ne_eq, z, not_false_eq_true, if_true]
    refine hb pre q N (by omega) q0 q1 (hN f _ (by omega) ⟨pre ++ [q], s.bf q, rfl, i1, by omega, by rw [List.length_append, List.length_singleton]; omega, by rw [List.append_assoc]; exact e⟩)
theorem way_t {n : Nat} {ls : List Pr} {ts : List Int} {p : Int} {Q : D → Prop} (hn1 : 1 ≤ n) (hn : n ≤ 50) (w : Web n ls) (hz : ls.length ≤ 100) (tz : ts.length ≤ 100) (tk : TsOk ls ts) (hp : p ∈ (bres n ls ts).od) (h : Q (Il (wayF (bres n ls ts).bf ((bres n ls ts).bk p).toNat p))) : p_f_way_down [.int n, Ln ls, Hp' ts, .int p] Q := by
  refine phi_i rfl ?_
  have big : 20000 < sizeLine := by decide
  unfold w_f_way_down
  refine sq_ fun T hT => ?_
  simp
  refine par_t hn1 hn w hz tk tz ?_
  refine hT _ (sq_ fun T hT => ?_)
  simp [one_le]
  refine hT _ (sq_ fun T hT => ?_)
  refine way_loop (bres_inv hn1 w tk).1 (fun ds => [.sh (.int n), .sh (Ln ls), .sh (Hp' ts), .sh (.int p), .sh (.list (tabD n (bres n ls ts).bf)), .ow ds]) hp (by omega) (fun pre q K k => ?_) (fun pre q N pl q0 q1 k => ?_) ?_
  · simp [Eg.atI_last, sh_int, eqv_int]
    simpa using k
  · simp [Eg.atI_last, tabD_at q0 q1]
    refine ⟨by omega, ?_⟩
    simpa using k
  · refine hT _ ?_
    simpa [Il] using h
theorem rounds_t {n : Nat} {ls : List Pr} {ts : List Int} {Q : D → Prop} (hn1 : 1 ≤ n) (hn : n ≤ 50) (w : Web n ls) (hz : ls.length ≤ 100) (T : Tr n ls ts) (h : Q (.list (tabD n (bres n ls ts).bk))) : p_f_tree_rounds [.int n, Ln ls, Hp' ts] Q := by
  refine phi_i rfl ?_
  have big : 20000 < sizeLine := by decide
  have tl := T.len
  obtain ⟨I, _⟩ := bres_inv hn1 w T.ok
  unfold w_f_tree_rounds
  simp
  refine ⟨by omega, ?_⟩
  rw [rangeD_map]
  refine lcGo_enc .int (fun _ => true) (fun v => .int ((bres n ls ts).bk v)) (fun x hx Y N q => ?_) (by rw [rng_length]; simp; omega) ?_
  · have hx' := mem_rng.mp hx
    have hm := T.all hn1 w hx'.1 (show x < n by omega)
    have kn := I.kn x
    simp
    refine way_t hn1 hn w hz (by omega) T.ok hm ?_
    simp [Il, wayF_len I _ x hm (show (bres n ls ts).bk x = (((bres n ls ts).bk x).toNat : Int) by omega)]
    rw [if_pos rfl] at q
    have e : max ((bres n ls ts).bk x) 0 = (bres n ls ts).bk x := by omega
    have e2 : (((bres n ls ts).bk x).toNat : Int) + 1 - 1 = (bres n ls ts).bk x := by omega
    first
      | (rw [e]; exact q)
      | simpa [e, e2] using q
  · rw [List.filter_eq_self.mpr (fun _ _ => rfl), List.nil_append]
    have e : tabD n (bres n ls ts).bk = List.map (fun v => PyData.int ((bres n ls ts).bk v)) (rng 0 n) := by
      unfold tabD; rw [List.map_map]; rfl
    rw [← e]; exact h
end Wk13

namespace Wk13
open PySem PySem.Spec PyProof.Rows L2 Eg Mw
theorem heap_t {n : Nat} {ls : List Pr} {ts : List Int} {Q : D → Prop} (hn1 : 1 ≤ n) (hn : n ≤ 50) (w : Web n ls) (hz : ls.length ≤ 100) (T : Tr n ls ts) (h : Q (Hp' (heapT n ls ts (bres n ls ts).bk))) : p_f_heap_of [.int n, Ln ls, Hp' ts] Q := by
  refine phi_i rfl ?_
  have big : 20000 < sizeLine := by decide
  have Dw := T.dn hn1 w
  unfold w_f_heap_of
  refine sq_ fun T2 hT => ?_
  simp
  refine rounds_t hn1 hn w hz T ?_
  refine hT _ (sq_ fun T2 hT => ?_)
  simp [one_le]
  refine hT _ (sq_ fun T2 hT => ?_)
  simp
  refine ⟨by omega, ?_⟩
  rw [rangeD_map]
  refine forGo_inv .int (fun done env => ∃ (s5 s6 s7 s8 s9 : Sl), env = [.sh (.int n), .sh (Ln ls), .sh (Hp' ts), .sh (.list (tabD n (bres n ls ts).bk)), .ow ((0 :: done.map (hv ls ts (bres n ls ts).bk)).map .int), s5, s6, s7, s8, s9]) _ [] _ ⟨_, _, _, _, _, rfl⟩ ?_ ?_
  · rintro v d r env eq ⟨s5, s6, s7, s8, s9, rfl⟩ N hN
    rw [List.nil_append] at eq
    obtain ⟨ev, dl⟩ := rng_at eq
    have v1 : 1 ≤ v := by omega
    have v2 : v < n := by omega
    obtain ⟨m1, m2, rr, m3⟩ := Dw.mi v1 v2
    have nl := nr_len (ls := ls) (b := (bres n ls ts).bk) (v := v)
    have ix := Dw.idx v1 v2
    have at_ := Dw.at v1 v2
    clear hT
    simp only [s_wGn, List.set_cons_succ, List.set_cons_zero]
    refine sq_ fun T2 hT => ?_
    simp
    refine ch_t w hz (by omega) v2 ?_
    simp
    refine hT _ (sq_ fun T2 hT => ?_)
    simp [Il]
    refine fun _ => lcGo_enc .int (fun k => decide (k ∈ ts)) .int (fun k hk Y N3 q => ?_) (by simp; omega) ?_
    · simp [Hp', sh_int, lay_ints, inD_int]
      simpa using q
    rw [List.nil_append, m3]
    simp
    refine hT _ ?_
    simp
    refine ⟨⟨sh_IlX, sh_int⟩, (nr ls (bres n ls ts).bk v).findIdx (fun k => decide (k = mi ls ts (bres n ls ts).bk v)), ?_, fun m z hm hz' => ?_, ?_⟩
    · refine ⟨_, by rw [List.getElem?_map, at_]; rfl, by rw [eqv_int]; simp⟩
    · rw [List.getElem?_map] at hz'
      have hl : m < (nr ls (bres n ls ts).bk v).length := by omega
      rw [List.getElem?_eq_getElem hl] at hz'
      have e := Option.some.inj hz'
      rw [← e, eqv_int]
      have := List.not_of_lt_findIdx (p := fun k => decide (k = mi ls ts (bres n ls ts).bk v)) hm
      simpa using this
    · simp
      exact ⟨by omega, hN _ ⟨_, _, _, _, _, ce4 (by simp [hv])⟩⟩
  · rintro env ⟨s5, s6, s7, s8, s9, rfl⟩
    rw [List.nil_append]
    refine hT _ ?_
    simp
    simpa [heapT, Hp'] using h
theorem tree_t {n : Nat} {ls : List Pr} {hs : List Int} {b : Int → Int} {Q : D → Prop} (hn1 : 1 ≤ n) (hn : n ≤ 50) (w : Web n ls) (hz : ls.length ≤ 100) (K : Bkd n ls hs b) (hb : ∀ x : Int, 0 ≤ x → x < n → 0 ≤ b x) (hl : hs.length = n)
    (mi : Int → Int) (hmi : ∀ v : Int, 1 ≤ v → v < n → ((lt ls b v).length : Int) ≤ gi hs v ∧ gi hs v < ((lt ls b v).length : Int) + (nr ls b v).length ∧ gi (nr ls b v) (gi hs v - (lt ls b v).length) = mi v)
    (h : Q (Hp' (sortI ((rng 1 (n - 1)).map mi)))) : p_f_tree_of [.int n, Ln ls, Hp' hs] Q := by
  refine phi_i rfl ?_
  have big : 20000 < sizeLine := by decide
  have dl := (due_len (ls := ls) (hs := hs) (show n ≤ 100 by omega)).1
  unfold w_f_tree_of
  refine sq_ fun T hT => ?_
  simp [one_le]
  refine ⟨by omega, ?_⟩
  rw [rep_tabD]
  refine hT _ (sq_ fun T hT => ?_)
  simp
  refine rounds_prog (by omega) hz hl ?_
  simp [Ll]
  have en : enumGo 0 ((due n ls hs).map Il) = (rng 0 (due n ls hs).length).map fun k => .tuple [.int k, Il ((due n ls hs).getD k.toNat [])] := by
    have := enumGo_rng (f := fun k => Il ((due n ls hs).getD k.toNat [])) (due n ls hs).length 0
    refine Eq.trans ?_ this
    congr 1
    refine List.ext_getElem? fun i => ?_
    rw [List.getElem?_map, List.getElem?_map]
    by_cases hi : i < (due n ls hs).length
    · rw [List.getElem?_eq_getElem hi, rng_get hi]
      show _ = some (Il ((due n ls hs).getD (((0 : Nat) : Int) + (i : Int)).toNat []))
      have e2 : (((0 : Nat) : Int) + (i : Int)).toNat = i := by omega
      rw [e2, List.getD_eq_getElem?_getD, List.getElem?_eq_getElem hi]; rfl
    · rw [List.getElem?_eq_none (by omega), List.getElem?_eq_none (by rw [rng_length]; omega)]; rfl
  rw [en]
  refine forGo_inv (fun k => PyData.tuple [.int k, Il ((due n ls hs).getD k.toNat [])]) (fun done env => ∃ (s4 s5 s6 : Sl), env = [.sh (.int n), .sh (Ln ls), .sh (Hp' hs), .ow (tabD n (bkS n ls hs ((due n ls hs).take done.length).flatten)), s4, s5, s6, .un, .un, .un]) _ [] _ ⟨.un, .un, .un, ?_⟩ ?_ ?_
  · simp [Hp', Ln]
    exact tabD_congr fun p _ _ => by simp [bkS]
  · rintro k d r env eq ⟨s4, s5, s6, rfl⟩ N hN
    rw [List.nil_append] at eq
    obtain ⟨ek, kl⟩ := rng_at eq
    have hk : k.toNat = d.length := by omega
    have hr : (due n ls hs)[d.length]? = some ((due n ls hs).getD k.toNat []) := by
      rw [hk, List.getD_eq_getElem?_getD, List.getElem?_eq_getElem kl]; rfl
    generalize (due n ls hs).getD k.toNat [] = row at hr ⊢
    simp [Il]
    refine fun _ => forGo_inv .int (fun done env => ∃ (s6 : Sl), env = [.sh (.int n), .sh (Ln ls), .sh (Hp' hs), .ow (tabD n (bkS n ls hs (((due n ls hs).take d.length).flatten ++ done))), .sh (.int k), .sh (Il row), s6, .un, .un, .un]) _ [] _ ⟨s6, ?_⟩ ?_ ?_
    · simp [Hp', Ln, Il]
    · rintro x d2 r2 env eq2 ⟨s6, rfl⟩ N2 hN2
      rw [List.nil_append] at eq2
      have hx : x ∈ row := by rw [eq2]; simp
      obtain ⟨x0, x1⟩ := due_sub hn1 hr x hx
      have lx := lv_row hr hx
      simp
      refine stI_ok rfl x0 (by simpa using x1) ?_
      rw [tabD_set x0 x1]
      refine hN2 _ ⟨_, ce3 (owc (tabD_congr fun p p0 p1 => ?_))⟩
      unfold bkS
      by_cases e : p = x
      · subst e
        simp [lx]; omega
      · simp [e]
    · rintro env ⟨s6, rfl⟩
      rw [List.nil_append]
      exact hN _ ⟨_, _, _, ce3 (by rw [List.length_append, List.length_singleton, List.take_succ, hr]; simp)⟩
  · rintro env ⟨s4, s5, s6, rfl⟩
    rw [List.nil_append, rng_length, List.take_length]
    have eb : tabD n (bkS n ls hs (due n ls hs).flatten) = tabD n b := tabD_congr fun p p0 p1 => by
      unfold bkS
      rw [if_pos (all_due (K.left w hn1) p0 p1)]
      exact K.lv w hn1 hb p0 p1
    rw [eb]
    refine hT _ (sq_ fun T hT => ?_)
    simp
    refine hT _ (sq_ fun T hT => ?_)
    simp
    refine ⟨by omega, ?_⟩
    rw [rangeD_map]
    refine forGo_inv .int (fun done env => ∃ (s6 s8 s9 : Sl), env = [.sh (.int n), .sh (Ln ls), .sh (Hp' hs), .sh (.list (tabD n b)), s4, s5, s6, .ow ((done.map mi).map .int), s8, s9]) _ [] _ ⟨_, _, _, rfl⟩ ?_ ?_
    · rintro v d r env eq ⟨s6, s8, s9, rfl⟩ N hN
      rw [List.nil_append] at eq
      obtain ⟨ev, dl2⟩ := rng_at eq
      have v1 : 1 ≤ v := by omega
      have v2 : v < n := by omega
      obtain ⟨m1, m2, m3⟩ := hmi v v1 v2
      clear hT
      simp only [s_wGn, List.set_cons_succ, List.set_cons_zero]
      refine sq_ fun T2 hT => ?_
      simp
      refine ch_t w hz (by omega) v2 ?_
      simp
      refine hT _ ?_
      simp [Hp', Il, atI_int (show 0 ≤ v by omega) (show v < hs.length by omega), atI_int (show 0 ≤ gi hs v - ((lt ls b v).length : Int) by omega) (show gi hs v - ((lt ls b v).length : Int) < (nr ls b v).length by omega), m3]
      exact ⟨by omega, hN _ ⟨_, _, _, ce7 (by simp)⟩⟩
    · rintro env ⟨s6, s8, s9, rfl⟩
      rw [List.nil_append]
      refine hT _ ?_
      simp only [s_wRet, s_wCl, s_wK, s_wN, s_wO, Eg.En.at, List.getD_cons_succ, List.getD_cons_zero]
      simp
      have e1 : List.map (PyData.int ∘ mi) (rng 1 (n - 1)) = ((rng 1 (n - 1)).map mi).map .int := by rw [List.map_map]
      rw [e1]
      refine ⟨⟨sh_IlX, alike_ints, sortable_ints⟩, ?_⟩
      rw [sort_int]
      simpa [Hp'] using h
end Wk13

namespace Wk13
open PySem PySem.Spec PyProof.Rows L2 Eg Mw
theorem treesof_t {n : Nat} {ls : List Pr} {Q : D → Prop} (hn1 : 1 ≤ n) (hn : n ≤ 50) (hm : ls.length ≤ 12) (w : Web n ls) (h : Q (Lt' (sortR (tl n ls)))) : p_f_trees_of [.int n, Ln ls] Q := by
  refine phi_i rfl ?_
  have big : 20000 < sizeLine := by decide
  have wl : Wl n ls := w.ends
  unfold w_f_trees_of
  refine sq_ fun T hT => ?_
  simp [one_le]
  refine hT _ (sq_ fun T hT => ?_)
  simp [Ln]
  have e : enumGo 0 (ls.map pr) = (rng 0 ls.length).map fun k => .tuple [.int k, pr (la ls k)] := by
    have := enumGo_rng (f := fun k => pr (la ls k)) ls.length 0
    refine Eq.trans ?_ this
    congr 1
    have := congrArg (List.map pr) (la_tab ls)
    rw [List.map_map] at this
    exact this
  rw [e]
  have start : PyData.list [.tuple []] = Lt' (tg ls 0) := rfl
  rw [start]
  refine forGo_inv (fun k => PyData.tuple [.int k, pr (la ls k)]) (fun done env => ∃ s3 s4 s5 s6 s7 s8 : Sl, env = [.sh (.int n), .sh (Ln ls), .sh (Lt' (tg ls done.length)), s3, s4, s5, s6, s7, s8]) _ [] _ ⟨_, _, _, _, _, _, rfl⟩ ?_ ?_
  · rintro k d r env eq ⟨s3, s4, s5, s6, s7, s8, rfl⟩ N hN
    rw [List.nil_append] at eq
    obtain ⟨ek, dl⟩ := rng_at eq
    have k0 : 0 ≤ k := by omega
    have k1 : k < ls.length := by omega
    have ekd : k = ((d.length : Nat) : Int) := by omega
    obtain ⟨⟨a0, a1⟩, b0, b1⟩ := w.ends _ (la_mem k0 k1)
    have ts := tg_small hm d.length (by omega)
    clear hT
    simp [pr, Lt']
    refine fun _ => forGo_inv Hp' (fun done env => ∃ s7 s8 : Sl, env = [.sh (.int n), .sh (Ln ls), .sh (Lt' (tg ls d.length)), .sh (.int k), .sh (.int (la ls k).1), .sh (.int (la ls k).2), .ow (((done.filter fun t => decide (labOf ls t (la ls k).1 ≠ labOf ls t (la ls k).2)).map fun t => t ++ [k]).map Hp'), s7, s8]) _ [] _ ⟨s7, s8, rfl⟩ ?_ ?_
    · rintro t d2 r2 env eq2 ⟨s7, s8, rfl⟩ N2 hN2
      rw [List.nil_append] at eq2
      have ht : t ∈ tg ls d.length := by rw [eq2]; simp
      have d2l : d2.length < (tg ls d.length).length := by rw [eq2]; simp
      have F := tg_fo wl _ (by omega) t ht
      have tk : TsOk ls t := fun j hj => by have := F.rg j hj; omega
      have nd := lt_nodup F.inc
      have tl_ : t.length ≤ n := by have := F.cnt; omega
      have fl := List.length_filter_le (fun t => decide (labOf ls t (la ls k).1 ≠ labOf ls t (la ls k).2)) d2
      have lab : Lab n ls t (labOf ls t) := ⟨F.lab.inr, F.lab.idem, F.lab.tl, F.lab.cl, F.cnt⟩
      have iff := reach_lab w tk nd lab a0 a1 b0 b1
      have fin : ∀ s8, (labOf ls t (la ls k).1 = labOf ls t (la ls k).2 → N2 [.sh (.int n), .sh (Ln ls), .sh (Lt' (tg ls d.length)), .sh (.int k), .sh (.int (la ls k).1), .sh (.int (la ls k).2), .ow (((d2.filter fun t => decide (labOf ls t (la ls k).1 ≠ labOf ls t (la ls k).2)).map fun t => t ++ [k]).map Hp'), .sh (Hp' t), s8]) ∧ (labOf ls t (la ls k).1 ≠ labOf ls t (la ls k).2 → N2 [.sh (.int n), .sh (Ln ls), .sh (Lt' (tg ls d.length)), .sh (.int k), .sh (.int (la ls k).1), .sh (.int (la ls k).2), .ow (((d2.filter fun t => decide (labOf ls t (la ls k).1 ≠ labOf ls t (la ls k).2)).map fun t => t ++ [k]).map Hp' ++ [Hp' (t ++ [k])]), .sh (Hp' t), s8]) := fun s8 => by
        constructor
        · intro c
          refine hN2 _ ⟨_, _, ce6 (owc ?_)⟩
          rw [List.filter_append, List.filter_cons_of_neg (by simp [c])]
          simp
        · intro c
          refine hN2 _ ⟨_, _, ce6 (owc ?_)⟩
          rw [List.filter_append, List.filter_cons_of_pos (by simp [c])]
          simp
      simp [Hp']
      by_cases c0 : (t.length : Int) < (n : Int) - 1
      · rw [if_pos c0]
        refine fun _ => lcGo_enc .int (fun _ => true) (fun q => pr (la ls q)) (fun q hq Y N3 y => ?_) (by simp; omega) ?_
        · obtain ⟨q0, q1⟩ := tk q hq
          simp [Ln, la_at q0 q1]
          simpa using y
        rw [List.filter_eq_self.mpr (fun _ _ => rfl), List.nil_append]
        have elm : PyData.list (List.map (fun q => pr (la ls q)) t) = Lm (t.map (la ls)) := by unfold Lm; rw [List.map_map]; rfl
        rw [elm]
        refine reach_prog (sub_web w tk) (by rw [List.length_map]; have := ts_len tk nd; omega) (by omega) a0 a1 ?_
        simp [Il, sh_int, lay_ints, inD_int]
        by_cases c : labOf ls t (la ls k).1 = labOf ls t (la ls k).2
        · rw [if_pos (iff.mpr c)]
          have := (fin s8).1 c
          simpa [Hp', Lt', Ln] using this
        · rw [if_neg (fun z => c (iff.mp z))]
          refine ⟨one_le, by omega, by simp at fl; omega, ?_⟩
          have := (fin s8).2 c
          simpa [Hp', Lt', Ln] using this
      · rw [if_neg c0]
        have c : labOf ls t (la ls k).1 = labOf ls t (la ls k).2 := by
          have hc := F.cnt
          have one : fixN n (labOf ls t) ≤ 1 := by omega
          apply Classical.byContradiction
          intro hne
          have := fix_step wl F.lab k0 k1 hne
          have h2 := (F.lab.step wl k0 k1)
          -- at least one label stays
          have i0 := h2.inr 0 (by decide) (by omega)
          have hm0 : mrg (labOf ls t) (la ls k).1 (la ls k).2 0 ∈ (rng 0 n).filter fun x => decide (mrg (labOf ls t) (la ls k).1 (la ls k).2 x = x) := List.mem_filter.mpr ⟨mem_rng.mpr ⟨i0.1, by omega⟩, by rw [decide_eq_true_eq]; exact h2.idem 0 (by decide) (by omega)⟩
          have := List.length_pos_of_mem hm0
          unfold fixN at *
          omega
        have := (fin s8).1 c
        simpa [Hp', Lt', Ln] using this
    · rintro env ⟨s7, s8, rfl⟩
      rw [List.nil_append]
      have fl := List.length_filter_le (fun t => decide (labOf ls t (la ls k).1 ≠ labOf ls t (la ls k).2)) (tg ls d.length)
      simp [Lt']
      refine ⟨by simp at fl; omega, hN _ ⟨_, _, _, _, _, _, ce2 (shc ?_)⟩⟩
      rw [List.length_append, List.length_singleton]
      show _ = PyData.list ((tg ls d.length ++ _).map _)
      rw [← ekd, List.map_append]
      simp
  · rintro env ⟨s3, s4, s5, s6, s7, s8, rfl⟩
    rw [List.nil_append, rng_length]
    refine hT _ ?_
    simp [Lt']
    have tsm := tg_small hm ls.length (Nat.le_refl _)
    refine fun _ => lcGo_enc Hp' (fun t => decide (t.length = n - 1)) Hp' (fun t ht Y N q => ?_) (by simp; omega) ?_
    · simp [Hp', sh_int, eqv_intD, dec_len hn1]
      simpa [Hp'] using q
    · rw [List.nil_append]
      exact fin_acc hn1 w h
theorem lch_t {n : Nat} {ls : List Pr} {b : Int → Int} {p : Int} {Q : D → Prop} (w : Web n ls) (hz : ls.length ≤ 100) (p0 : 0 ≤ p) (p1 : p < n) (h : Q (.list [.int ((lt ls b p).length : Nat), Il (nr ls b p)])) : p_f__law_choice [Ln ls, .list (tabD n b), .int p] Q := by
  refine phi_i rfl ?_
  have big : 20000 < sizeLine := by decide
  have ml := mn_len (ls := ls) (p := p)
  unfold w_f__law_choice
  refine sq_ fun T hT => ?_
  simp [Ln]
  refine ⟨by omega, ?_⟩
  rw [rangeD_map]
  refine lcGo_enc .int (fun k => touch p (la ls k)) .int (fun k hk Y N q => ?_) (by rw [rng_length]; simp; omega) ?_
  · have hk' := mem_rng.mp hk
    simp [la_at hk'.1 (show k < ls.length by omega), pr, sh_int, lay_pair, inD_pr]
    exact q
  rw [List.nil_append]
  have e1 : (rng 0 ls.length).filter (fun k => touch p (la ls k)) = mn ls p := rfl
  rw [e1]
  refine hT _ (sq_ fun T hT => ?_)
  simp
  refine fun _ => lcGo_enc .int (fun _ => true) (fun k => .int (oe ls p k)) (fun k hk Y N q => ?_) (by simp; omega) ?_
  · obtain ⟨⟨k0, k1⟩, ht⟩ := mem_mn.mp hk
    simp [la_at k0 k1, pr]
    simpa [oe] using q
  rw [List.filter_eq_self.mpr (fun _ _ => rfl), List.nil_append]
  have e2 : (mn ls p).map (fun k => PyData.int (oe ls p k)) = (nb ls p).map .int := by rw [← mn_nb, List.map_map]; rfl
  rw [e2]
  have nbl := nb_len (ls := ls) (p := p)
  refine hT _ (sq_ fun T hT => ?_)
  simp
  refine fun _ => lcGo_enc .int (fun x => decide (b p ≤ b x)) (fun _ => .int 1) (fun x hx Y N q => ?_) (by simp; omega) ?_
  · obtain ⟨x0, x1⟩ := nb_in w hx
    simp [tabD_at x0 x1, tabD_at p0 p1]
    simpa using q
  rw [List.nil_append, List.length_map]
  have e3 : ((nb ls p).filter fun x => decide (b p ≤ b x)).length = (lt ls b p).length := (mn_cnt (ls := ls) (p := p) fun x => decide (b p ≤ b x)).symm
  rw [e3]
  refine hT _ ?_
  simp
  refine ⟨by omega, ?_⟩
  rw [rangeD_map]
  refine lcGo_enc .int (fun j => decide (b (oe ls p (gi (mn ls p) j)) = b p - 1)) (fun j => .int (gi (mn ls p) j)) (fun j hj Y N q => ?_) (by rw [rng_length]; simp; omega) ?_
  · have hj' := mem_rng.mp hj
    have hm : gi (mn ls p) j ∈ mn ls p := by
      unfold gi
      rw [List.getD_eq_getElem?_getD, List.getElem?_eq_getElem (by omega)]
      exact List.getElem_mem _
    obtain ⟨⟨k0, k1⟩, ht⟩ := mem_mn.mp hm
    obtain ⟨⟨o0, o1⟩, _⟩ := oe_in w k0 k1 ht
    have en : gi (nb ls p) j = oe ls p (gi (mn ls p) j) := by
      rw [← mn_nb]
      unfold gi
      rw [List.getD_eq_getElem?_getD, List.getElem?_map, List.getElem?_eq_getElem (show j.toNat < (mn ls p).length by omega), List.getD_eq_getElem?_getD, List.getElem?_eq_getElem (show j.toNat < (mn ls p).length by omega)]
      rfl
    have nl : (nb ls p).length = (mn ls p).length := by rw [← mn_nb, List.length_map]
    simp [atI_int hj'.1 (show j < (nb ls p).length by omega), atI_int hj'.1 (show j < (mn ls p).length by omega), en, tabD_at o0 o1, tabD_at p0 p1, sh_int, eqv_intD]
    simpa using q
  · rw [List.nil_append]
    have e4 : ((rng 0 (mn ls p).length).filter fun j => decide (b (oe ls p (gi (mn ls p) j)) = b p - 1)).map (fun j => PyData.int (gi (mn ls p) j)) = (nr ls b p).map .int := by
      have e5 : nr ls b p = ((rng 0 (mn ls p).length).filter fun j => decide (b (oe ls p (gi (mn ls p) j)) = b p - 1)).map (gi (mn ls p)) := by
        unfold nr
        conv => lhs; rw [list_tab (xs := mn ls p) rfl]
        rw [List.filter_map]
        rfl
      rw [e5, List.map_map]; rfl
    rw [e4]
    exact ⟨two_le, h⟩
end Wk13

namespace Wk13
open PySem PySem.Spec PyProof.Rows L2 Eg Mw
theorem ltree_t {n : Nat} {ls : List Pr} {hs : List Int} {b : Int → Int} {Q : D → Prop} (hn1 : 1 ≤ n) (hn : n ≤ 50) (w : Web n ls) (hz : ls.length ≤ 100) (K : Bkd n ls hs b) (hb : ∀ x : Int, 0 ≤ x → x < n → 0 ≤ b x) (hl : hs.length = n)
    (mi : Int → Int) (hmi : ∀ v : Int, 1 ≤ v → v < n → ((lt ls b v).length : Int) ≤ gi hs v ∧ gi hs v < ((lt ls b v).length : Int) + (nr ls b v).length ∧ gi (nr ls b v) (gi hs v - (lt ls b v).length) = mi v)
    (h : Q (Hp' (sortI ((rng 1 (n - 1)).map mi)))) : p_f__law_tree_of [.int n, Ln ls, Hp' hs] Q := by
  refine phi_i rfl ?_
  have big : 20000 < sizeLine := by decide
  have dl := (due_len (ls := ls) (hs := hs) (show n ≤ 100 by omega)).1
  unfold w_f__law_tree_of
  refine sq_ fun T hT => ?_
  simp [one_le]
  refine ⟨by omega, ?_⟩
  rw [rep_tabD]
  refine hT _ (sq_ fun T hT => ?_)
  simp
  refine rounds_law (by omega) hz hl ?_
  refine hT _ (sq_ fun T hT => ?_)
  simp [Ll]
  refine ⟨by omega, ?_⟩
  rw [rangeD_map]
  refine forGo_inv .int (fun done env => ∃ (s5 s6 : Sl), env = [.sh (.int n), .sh (Ln ls), .sh (Hp' hs), .ow (tabD n (bkS n ls hs ((due n ls hs).take done.length).flatten)), .sh (Ll (due n ls hs)), s5, s6, .un, .un, .un]) _ [] _ ⟨.un, .un, ?_⟩ ?_ ?_
  · simp [Hp', Ln, Ll]
    exact tabD_congr fun p _ _ => by simp [bkS]
  · rintro k d r env eq ⟨s5, s6, rfl⟩ N hN
    rw [List.nil_append] at eq
    obtain ⟨ek, kl⟩ := rng_at eq
    have hk : k.toNat = d.length := by omega
    have hr : (due n ls hs)[d.length]? = some ((due n ls hs).getD k.toNat []) := by
      rw [hk, List.getD_eq_getElem?_getD, List.getElem?_eq_getElem kl]; rfl
    have hat : atI ((due n ls hs).map Il) k = some (Il ((due n ls hs).getD k.toNat [])) := atI_ok (by omega) (by rw [List.length_map]; omega) (by rw [List.getElem?_map, hk, hr, hk]; rfl)
    generalize (due n ls hs).getD k.toNat [] = row at hr hat ⊢
    simp [Ll, hat]
    simp [Il]
    refine fun _ => forGo_inv .int (fun done env => ∃ (s6 : Sl), env = [.sh (.int n), .sh (Ln ls), .sh (Hp' hs), .ow (tabD n (bkS n ls hs (((due n ls hs).take d.length).flatten ++ done))), .sh (Ll (due n ls hs)), .sh (.int k), s6, .un, .un, .un]) _ [] _ ⟨s6, ?_⟩ ?_ ?_
    · simp [Hp', Ln, Il, Ll]
    · rintro x d2 r2 env eq2 ⟨s6, rfl⟩ N2 hN2
      rw [List.nil_append] at eq2
      have hx : x ∈ row := by rw [eq2]; simp
      obtain ⟨x0, x1⟩ := due_sub hn1 hr x hx
      have lx := lv_row hr hx
      simp
      refine stI_ok rfl x0 (by simpa using x1) ?_
      rw [tabD_set x0 x1]
      refine hN2 _ ⟨_, ce3 (owc (tabD_congr fun p p0 p1 => ?_))⟩
      unfold bkS
      by_cases e : p = x
      · subst e
        simp [lx]; omega
      · simp [e]
    · rintro env ⟨s6, rfl⟩
      rw [List.nil_append]
      exact hN _ ⟨_, _, ce3 (by rw [List.length_append, List.length_singleton, List.take_succ, hr]; simp)⟩
  · rintro env ⟨s5, s6, rfl⟩
    rw [List.nil_append, rng_length, List.take_length]
    have eb : tabD n (bkS n ls hs (due n ls hs).flatten) = tabD n b := tabD_congr fun p p0 p1 => by
      unfold bkS
      rw [if_pos (all_due (K.left w hn1) p0 p1)]
      exact K.lv w hn1 hb p0 p1
    rw [eb]
    refine hT _ (sq_ fun T hT => ?_)
    simp
    refine hT _ (sq_ fun T hT => ?_)
    simp
    refine ⟨by omega, ?_⟩
    rw [rangeD_map]
    refine forGo_inv .int (fun done env => ∃ (s6 s8 s9 : Sl), env = [.sh (.int n), .sh (Ln ls), .sh (Hp' hs), .sh (.list (tabD n b)), .sh (Ll (due n ls hs)), s5, s6, .ow ((done.map mi).map .int), s8, s9]) _ [] _ ⟨_, _, _, rfl⟩ ?_ ?_
    · rintro v d r env eq ⟨s6, s8, s9, rfl⟩ N hN
      rw [List.nil_append] at eq
      obtain ⟨ev, dl2⟩ := rng_at eq
      have v1 : 1 ≤ v := by omega
      have v2 : v < n := by omega
      obtain ⟨m1, m2, m3⟩ := hmi v v1 v2
      clear hT
      simp only [s_wGn, List.set_cons_succ, List.set_cons_zero]
      refine sq_ fun T2 hT => ?_
      simp
      refine lch_t w hz (by omega) v2 ?_
      simp
      refine hT _ ?_
      simp [Hp', Il, atI_int (show 0 ≤ v by omega) (show v < hs.length by omega), atI_int (show 0 ≤ gi hs v - ((lt ls b v).length : Int) by omega) (show gi hs v - ((lt ls b v).length : Int) < (nr ls b v).length by omega), m3]
      exact ⟨by omega, hN _ ⟨_, _, _, ce7 (by simp)⟩⟩
    · rintro env ⟨s6, s8, s9, rfl⟩
      rw [List.nil_append]
      refine hT _ ?_
      simp only [s_wRet, s_wCl, s_wK, s_wN, s_wO, Eg.En.at, List.getD_cons_succ, List.getD_cons_zero]
      simp
      have e1 : List.map (PyData.int ∘ mi) (rng 1 (n - 1)) = ((rng 1 (n - 1)).map mi).map .int := by rw [List.map_map]
      rw [e1]
      refine ⟨⟨sh_IlX, alike_ints, sortable_ints⟩, ?_⟩
      rw [sort_int]
      simpa [Hp'] using h
theorem lheap_t {n : Nat} {ls : List Pr} {ts : List Int} {Q : D → Prop} (hn1 : 1 ≤ n) (hn : n ≤ 50) (w : Web n ls) (hz : ls.length ≤ 100) (Tr_ : Tr n ls ts) (h : Q (Hp' (heapT n ls ts (bres n ls ts).bk))) : p_f__law_heap_of [.int n, Ln ls, Hp' ts] Q := by
  refine phi_i rfl ?_
  have big : 20000 < sizeLine := by decide
  have Dw := Tr_.dn hn1 w
  have tk := Tr_.ok
  have tz := Tr_.len
  unfold w_f__law_heap_of
  refine sq_ fun T hT => ?_
  simp [one_le]
  refine ⟨by omega, ?_⟩
  rw [rep_tabD]
  refine hT _ (sq_ fun T hT => ?_)
  refine wWh_i (fun f env => ∃ (s : B) (i : Nat) (s6 s7 : Sl), env = [.sh (.int n), .sh (Ln ls), .sh (Hp' ts), .ow (tabD n s.bk), .ow (s.od.map .int), .sh (.int i), s6, s7, .un, .un, .un, .un] ∧ BI n ls ts s ∧ i ≤ s.od.length ∧ n ≤ f + i ∧ bgo ls ts f i s = bres n ls ts) (n := n) ⟨b0, 0, _, _, rfl, b0_inv hn1, by simp, by omega, rfl⟩ ?_
  rintro f env ⟨s, i, s6, s7, rfl, I, hi, hf, e⟩ N2 hN2
  have ol := I.lot.len
  simp
  by_cases hlt : i < s.od.length
  · simp [hlt]
    obtain ⟨f, rfl⟩ : ∃ f', f = f' + 1 := ⟨f - 1, by omega⟩
    have e1 : bgo ls ts (f + 1) i s = bgo ls ts f (i + 1) (ts.foldl (bst ls (gi s.od i)) s) := if_pos hlt
    rw [e1] at e
    clear hT
    have hm : gi s.od i ∈ s.od := by
      unfold gi
      rw [List.getD_eq_getElem?_getD]
      have : ((i : Nat) : Int).toNat = i := by omega
      rw [this, List.getElem?_eq_getElem hlt]
      exact List.getElem_mem _
    simp [Hp']
    refine fun _ => forGo_inv .int (fun done env => ∃ (u : B) (ex : List Int) (s6 s7 : Sl), u = done.foldl (bst ls (gi s.od i)) s ∧ u.od = s.od ++ ex ∧ BI n ls ts u ∧ env = [.sh (.int n), .sh (Ln ls), .sh (.tuple (ts.map .int)), .ow (tabD n u.bk), .ow (u.od.map .int), .sh (.int i), s6, s7, .un, .un, .un, .un]) _ [] _ ⟨s, [], _, _, rfl, by simp, I, rfl⟩ ?_ ?_
    · rintro k d r env eq ⟨u, ex, s6, s7, eu, eo, J, rfl⟩ N3 hN3
      rw [List.nil_append] at eq
      have hk : k ∈ ts := by rw [eq]; simp
      obtain ⟨k0, k1⟩ := tk k hk
      have ul := J.lot.len
      have gu : gi u.od i = gi s.od i := by rw [eo]; exact gi_app_lt0 hlt
      have hmu : gi s.od i ∈ u.od := by rw [eo]; exact List.mem_append_left _ hm
      obtain ⟨p0, p1⟩ := J.lot.sub _ hmu
      have il : i < u.od.length := by rw [eo, List.length_append]; omega
      have fo : (d ++ [k]).foldl (bst ls (gi s.od i)) s = bst ls (gi s.od i) u k := by rw [List.foldl_append, ← eu]; rfl
      have J2 := bst_inv w tk J hmu hk
      have oeq : (la ls k).1 + (la ls k).2 - gi s.od i = oe ls (gi s.od i) k := rfl
      have g2 : gi (u.od ++ [oe ls (gi s.od i) k]) i = gi s.od i := by rw [gi_app_lt0 il, gu]
      simp [atI_int (show (0 : Int) ≤ i by omega) (show (i : Int) < u.od.length by omega), gu, Ln, la_at k0 k1, pr, sh_int, lay_pair, inD_pr]
      by_cases ht : touch (gi s.od i) (la ls k) = true
      · rw [if_pos ht]
        obtain ⟨⟨o0, o1⟩, _⟩ := oe_in w k0 k1 ht
        simp [sh_int, lay_ints, inD_int, oeq]
        by_cases c : oe ls (gi s.od i) k ∈ u.od
        · rw [if_pos c]
          have nb : bst ls (gi s.od i) u k = u := if_neg fun z => z.2 c
          exact hN3 _ ⟨u, ex, .sh (.int k), .sh (.int (oe ls (gi s.od i) k)), (by rw [fo, nb]), eo, J, rfl⟩
        · rw [if_neg c]
          have yb : bst ls (gi s.od i) u k = ⟨up u.bf (oe ls (gi s.od i) k) (gi s.od i), up u.bk (oe ls (gi s.od i) k) (u.bk (gi s.od i) + 1), u.od ++ [oe ls (gi s.od i) k]⟩ := if_pos ⟨ht, c⟩
          refine ⟨by omega, ?_⟩
          have ea : atI (List.map PyData.int u.od ++ [PyData.int (oe ls (gi s.od i) k)]) (i : Int) = some (.int (gi s.od i)) := by
            have := atI_int (xs := u.od ++ [oe ls (gi s.od i) k]) (show (0 : Int) ≤ i by omega) (by rw [List.length_append]; omega)
            rw [g2, List.map_append] at this
            exact this
          simp [ea, tabD_at p0 p1]
          refine stI_ok rfl o0 (by simpa using o1) ?_
          rw [tabD_set o0 o1]
          refine hN3 _ ⟨bst ls (gi s.od i) u k, ex ++ [oe ls (gi s.od i) k], .sh (.int k), .sh (.int (oe ls (gi s.od i) k)), fo.symm, by rw [yb]; show u.od ++ _ = _; rw [eo, List.append_assoc], J2, ?_⟩
          rw [yb]
          simp [Ln]
          rfl
      · rw [if_neg ht]
        have nb : bst ls (gi s.od i) u k = u := if_neg fun z => ht z.1
        exact hN3 _ ⟨u, ex, .sh (.int k), s7, (by rw [fo, nb]), eo, J, rfl⟩
    · rintro env ⟨u, ex, s6, s7, eu, eo, J, rfl⟩
      rw [List.nil_append] at eu
      simp
      refine hN2 f _ (by omega) ⟨u, i + 1, s6, s7, ?_, J, by rw [eo, List.length_append]; omega, by omega, by rw [eu]; exact e⟩
      simp [Hp', Ln]
  · simp [hlt]
    have e1 : bgo ls ts f i s = s := by
      cases f with
      | zero => rfl
      | succ f => exact if_neg hlt
    rw [e1] at e
    subst e
    refine hT _ (sq_ fun T hT => ?_)
    simp [one_le]
    refine hT _ (sq_ fun T hT => ?_)
    simp
    refine ⟨by omega, ?_⟩
    rw [rangeD_map]
    refine forGo_inv .int (fun done env => ∃ (s6 s9 s10 s11 : Sl), env = [.sh (.int n), .sh (Ln ls), .sh (Hp' ts), .sh (.list (tabD n (bres n ls ts).bk)), .ow ((bres n ls ts).od.map .int), .sh (.int i), s6, s7, .ow ((0 :: done.map (hv ls ts (bres n ls ts).bk)).map .int), s9, s10, s11]) _ [] _ ⟨_, _, _, _, rfl⟩ ?_ ?_
    · rintro v d r env eq ⟨s6, s9, s10, s11, rfl⟩ N hN
      rw [List.nil_append] at eq
      obtain ⟨ev, dl⟩ := rng_at eq
      have v1 : 1 ≤ v := by omega
      have v2 : v < n := by omega
      obtain ⟨m1, m2, rr, m3⟩ := Dw.mi v1 v2
      have nl := nr_len (ls := ls) (b := (bres n ls ts).bk) (v := v)
      have ix := Dw.idx v1 v2
      have at_ := Dw.at v1 v2
      clear hT
      simp only [s_wGn, List.set_cons_succ, List.set_cons_zero]
      refine sq_ fun T2 hT => ?_
      simp
      refine lch_t w hz (by omega) v2 ?_
      simp
      refine hT _ ?_
      simp [Il]
      refine fun _ => lcGo_enc .int (fun k => decide (k ∈ ts)) .int (fun k hk Y N3 q => ?_) (by simp; omega) ?_
      · simp [Hp', sh_int, lay_ints, inD_int]
        simpa using q
      rw [List.nil_append, m3]
      simp
      refine ⟨⟨sh_IlX, sh_int⟩, (nr ls (bres n ls ts).bk v).findIdx (fun k => decide (k = mi ls ts (bres n ls ts).bk v)), ?_, fun m z hm hz' => ?_, ?_⟩
      · refine ⟨_, by rw [List.getElem?_map, at_]; rfl, by rw [eqv_int]; simp⟩
      · rw [List.getElem?_map] at hz'
        have hl : m < (nr ls (bres n ls ts).bk v).length := by omega
        rw [List.getElem?_eq_getElem hl] at hz'
        have e := Option.some.inj hz'
        rw [← e, eqv_int]
        have := List.not_of_lt_findIdx (p := fun k => decide (k = mi ls ts (bres n ls ts).bk v)) hm
        simpa using this
      · simp
        exact ⟨by omega, hN _ ⟨_, _, _, _, ce8 (by simp [hv])⟩⟩
    · rintro env ⟨s6, s9, s10, s11, rfl⟩
      rw [List.nil_append]
      refine hT _ ?_
      simp
      simpa [heapT, Hp'] using h
end Wk13

namespace Wk13
open PySem PySem.Spec PyProof.Rows L2 Eg Mw
theorem ag_63 {n : Nat} {ls : List Pr} (hn1 : 1 ≤ n) (hn : n ≤ 5) (hm : ls.length ≤ 8) (w : Web n ls) : (ag n ls).length ≤ 63 := by
  refine Nat.le_trans ?_ (tl_63 hn1 hn hm w)
  rw [← List.length_map (f := th n ls)]
  refine List.Nodup.length_le_of_subset ?_ fun t ht => ?_
  · unfold List.Nodup
    rw [List.pairwise_map]
    exact List.Pairwise.imp_of_mem (fun {a b} ha hb h e => h (th_inj hn1 w ha hb e)) (ag_nodup (n := n) (ls := ls))
  · obtain ⟨a, ha, rfl⟩ := List.mem_map.mp ht
    exact th_tl hn1 w ha
theorem web1 : Web 1 [] := ⟨fun l hl => (nomatch hl), fun p p1 p2 => by omega, fun l hl => (nomatch hl), fun p p1 p2 => by omega⟩
theorem web2 : Web 2 [(0, 1), (0, 1)] := by
  refine ⟨fun l hl => ?_, fun p p1 p2 => ⟨(0, 1), by simp, ?_⟩, fun l hl => ?_, fun p p1 p2 => ⟨(0, 1), by simp, ?_⟩⟩
  · have : l = (0, 1) := by simpa using hl
    rw [this]; decide
  · have : p = 1 := by omega
    subst this; decide
  · have : l = (0, 1) := by simpa using hl
    rw [this]; decide
  · show (1 : Int) = p
    omega
theorem tr2 : Tr 2 [(0, 1), (0, 1)] [1] := by
  refine ⟨fun k hk => by rw [List.mem_singleton.mp hk]; decide, by simp, rfl, fun x x0 x1 S hS s0 => ?_⟩
  have h := hS 1 (by simp)
  have e : la [(0, 1), (0, 1)] 1 = ((0 : Int), (1 : Int)) := by decide
  rw [e] at h
  have : x = 0 ∨ x = 1 := by omega
  rcases this with rfl | rfl
  · exact s0
  · exact h.mp s0
theorem bk1 : Bkd 1 [] [0] fun _ => 0 := ⟨rfl, fun v v1 v2 => by omega, fun v v1 v2 => by omega, fun v v1 v2 => by omega⟩
theorem plain_law0 : w_f_law (.un :: .sh tok0 :: List.replicate 8 .un) yes := by
  have big : 20000 < sizeLine := by decide
  unfold w_f_law
  refine sq_ fun T hT => ?_
  simp
  refine draw_i (by decide) (by decide) fun d0 d1 d2 => ?_
  obtain ⟨n, hn, hn1, hn5⟩ : ∃ n : Nat, 1 + d0 = (n : Int) ∧ 1 ≤ n ∧ n ≤ 5 := ⟨(1 + d0).toNat, by omega, by omega, by omega⟩
  rw [s_gAddI, hn]
  refine hT _ (sq_ fun T hT => ?_)
  simp
  refine draw_i (by decide) (by decide) fun ex ex0 ex1 => ?_
  refine web_law hn1 hn5 ex0 (by omega) fun ls w hm => ?_
  have a63 := ag_63 hn1 hn5 hm w
  have t63 := tl_63 hn1 hn5 hm w
  have al : ∀ h ∈ ag n ls, h.length = n := fun h hh => ((mem_ag hn1).mp hh).1.1
  refine hT _ (sq_ fun T hT => ?_)
  simp
  refine again_prog w hn1 hn5 (by omega) ?_
  refine treesof_t hn1 (by omega) (by omega) w ?_
  refine hT _ (sq_ fun T hT => ?_)
  simp [Lt']
  rw [if_neg (by omega)]
  refine hT _ (sq_ fun T hT => ?_)
  simp
  refine hT _ (sq_ fun T hT => ?_)
  simp
  refine fun _ => forGo_inv Hp' (fun done env => ∃ s7 s8 : Sl, env = [.un, .sh tok0, .sh (.int n), .sh (Ln ls), .sh (Lt' (ag n ls)), .sh (Lt' (sortR (tl n ls))), .ow ((done.map (th n ls)).map Hp'), s7, s8, .un]) _ [] _ ⟨_, _, rfl⟩ ?_ ?_
  · rintro hs d r env eq ⟨s7, s8, rfl⟩ N hN
    rw [List.nil_append] at eq
    have hh : hs ∈ ag n ls := by rw [eq]; simp
    have dl : d.length < (ag n ls).length := by rw [eq]; simp
    have K := ag_bkd hn1 w hh
    have hl := al hs hh
    obtain ⟨T1, hi⟩ := th_tr hn1 w hh
    have lbn : ∀ x : Int, 0 ≤ x → x < n → 0 ≤ lb n ls hs x := fun x _ _ => by unfold lb; omega
    have hmi : ∀ v : Int, 1 ≤ v → v < n → ((lt ls (lb n ls hs) v).length : Int) ≤ gi hs v ∧ gi hs v < ((lt ls (lb n ls hs) v).length : Int) + (nr ls (lb n ls hs) v).length ∧ gi (nr ls (lb n ls hs) v) (gi hs v - (lt ls (lb n ls hs) v).length) = mh n ls hs v := fun v v1 v2 => by
      obtain ⟨a, b, _⟩ := mh_at hn1 w hh v1 v2
      exact ⟨a, b, rfl⟩
    clear hT
    simp only [s_wGn, List.set_cons_succ, List.set_cons_zero]
    refine sq_ fun T hT => ?_
    simp
    refine tree_t hn1 (by omega) w (by omega) K lbn hl (mh n ls hs) hmi ?_
    have e1 : sortI ((rng 1 (n - 1)).map (mh n ls hs)) = th n ls hs := rfl
    rw [e1]
    refine hT _ (sq_ fun T hT => ?_)
    simp
    refine ltree_t hn1 (by omega) w (by omega) K lbn hl (mh n ls hs) hmi ?_
    rw [e1]
    have mem : th n ls hs ∈ sortR (tl n ls) := sortR_mem.mpr (th_tl hn1 w hh)
    simp [sh_Hp, eqv_Hp, Lt', lay_Hp, inD_Hp, mem]
    refine heap_t hn1 (by omega) w (by omega) T1 ?_
    rw [th_heap hn1 w hh]
    simp [sh_Hp, eqv_Hp]
    refine hT _ ?_
    simp
    exact ⟨by omega, hN _ ⟨_, _, ce6 (by simp)⟩⟩
  · rintro env ⟨s7, s8, rfl⟩
    rw [List.nil_append]
    refine hT _ (sq_ fun T hT => ?_)
    simp
    refine ⟨(ag n ls).map (th n ls), by rw [List.map_map]; rfl, by rw [List.length_map]; omega, fun L hL hm2 => ?_⟩
    have nd : ((ag n ls).map (th n ls)).Nodup := by
      unfold List.Nodup
      rw [List.pairwise_map]
      exact List.Pairwise.imp_of_mem (fun {a b} ha hb h e => h (th_inj hn1 w ha hb e)) (ag_nodup (n := n) (ls := ls))
    have ll : L.length = (ag n ls).length := by
      have := ((List.perm_ext_iff_of_nodup hL nd).mpr hm2).length_eq
      rw [List.length_map] at this; exact this
    simp [ll, sh_int, eqv_int]
    refine hT _ (sq_ fun T hT => ?_)
    simp [Lt']
    rw [cut_to (by decide), ← List.map_take]
    refine fun _ => forGo_inv Hp' (fun done env => ∃ s8 s9 : Sl, env = [.un, .sh tok0, .sh (.int n), .sh (Ln ls), .sh (Lt' (ag n ls)), .sh (Lt' (sortR (tl n ls))), .ow (((ag n ls).map (th n ls)).map Hp'), s7, s8, s9]) _ [] _ ⟨s8, .un, ?_⟩ ?_ ?_
    · simp [Lt']
    · rintro ts d r env eq ⟨s8, s9, rfl⟩ N hN
      rw [List.nil_append] at eq
      have hts : ts ∈ (sortR (tl n ls)).take 100 := by rw [show (100 : Nat) = Int.toNat 100 from rfl, eq]; simp
      obtain ⟨T1, hi⟩ := tl_tr hn1 w.ends (sortR_mem.mp (List.mem_of_mem_take hts))
      have Dw := T1.dn hn1 w
      have K := Dw.bkd
      clear hT
      simp only [s_wGn, List.set_cons_succ, List.set_cons_zero]
      refine sq_ fun T hT => ?_
      simp
      refine heap_t hn1 (by omega) w (by omega) T1 ?_
      refine hT _ ?_
      simp
      refine lheap_t hn1 (by omega) w (by omega) T1 ?_
      simp [sh_Hp, eqv_Hp]
      refine tree_t hn1 (by omega) w (by omega) K (fun x _ _ => Dw.nn x) (heapT_len hn1) (mi ls ts (bres n ls ts).bk) (fun v v1 v2 => ?_) ?_
      · rw [gi_heapT v1 v2]
        have ix := Dw.idx v1 v2
        have at_ := Dw.at v1 v2
        unfold hv
        refine ⟨by omega, by omega, ?_⟩
        have e2 : ((lt ls (bres n ls ts).bk v).length : Int) + ((nr ls (bres n ls ts).bk v).findIdx fun k => decide (k = mi ls ts (bres n ls ts).bk v) : Nat) - (lt ls (bres n ls ts).bk v).length = ((nr ls (bres n ls ts).bk v).findIdx fun k => decide (k = mi ls ts (bres n ls ts).bk v) : Nat) := by omega
        rw [e2]
        unfold gi
        rw [List.getD_eq_getElem?_getD, Int.toNat_natCast, at_]; rfl
      · have es : sortI ((rng 1 (n - 1)).map (mi ls ts (bres n ls ts).bk)) = ts := by
          have pm := Dw.back T1.nd T1.len
          refine List.Perm.eq_of_pairwise (le := (· ≤ ·)) (fun x y _ _ h1 h2 => by omega) (sortI_pw _) (hi.imp fun h => by omega) ((List.mergeSort_perm _ _).trans pm)
        rw [es]
        simp [sh_Hp, eqv_Hp]
        exact hN _ ⟨_, _, by rw [List.map_map]⟩
    · rintro env ⟨s8, s9, rfl⟩
      refine hT _ ?_
      simp
      refine ⟨one_le, ?_⟩
      refine tree_t (n := 1) (ls := []) (hs := [0]) (by omega) (by omega) web1 (by decide) bk1 (fun x _ _ => Int.le_refl 0) rfl (fun _ => 0) (fun v v1 v2 => by omega) ?_
      refine ⟨⟨sh_Hp, sh_Hp (a := [])⟩, ?_⟩
      rw [if_pos (by decide +kernel)]
      refine ⟨two_le, one_le, ?_⟩
      refine heap_t (n := 2) (ls := [(0, 1), (0, 1)]) (ts := [1]) (by omega) (by omega) web2 (by decide) tr2 ?_
      refine ⟨two_le, ⟨sh_Hp, sh_Hp (a := [0, 1])⟩, ?_⟩
      exact congrArg PyData.bool (show PyData.eqv (Hp' (heapT 2 [(0, 1), (0, 1)] [1] (bres 2 [(0, 1), (0, 1)] [1]).bk)) (PyData.tuple [PyData.int 0, PyData.int 1]) = true by decide +kernel)
theorem plain_law : w_f_law (lawEnv 10) yes := plain_law0
end Wk13

open PySem PySem.W PySem.Calls PyProof.Rows
theorem PySem.Challenge.cw_grainsfall_k13_whole_heaps_and_trees_holds : PySem.Challenge.rw_grainsfall_k13_whole_heaps_and_trees.Holds := by
  w_on; o_law
  refine HandSHeadRun.head_any (r := OpenLaw.row PySem.Challenge.rw_grainsfall_k13_whole_heaps_and_trees) (q := view (OpenLaw.row PySem.Challenge.rw_grainsfall_k13_whole_heaps_and_trees).prog [36]) (H := Wk13.hk) (ob := Wk13.ob) (M := 6000) (loose := Wk13.loose) (d := HandSHeadRun.topDef (OpenLaw.row PySem.Challenge.rw_grainsfall_k13_whole_heaps_and_trees).prog 36) (kwd := []) Wk13.ob_eq
    (by kernel_rfl) (fun s => by kernel_rfl) Wk13.run (by kernel_rfl) (by kernel_rfl) (by kernel_rfl) (by rfl) (by first | assumption | decide +kernel) (by decide +kernel) ⟨rfl, rfl, rfl, rfl, rfl, by decide +kernel⟩ ?hw ?hc
  case hw => w_witness2
  case hc =>
    refine LamX.walk_ofTsE (l := PySem.Challenge.rw_grainsfall_k13_whole_heaps_and_trees) (n := 63) (k := 6) (x := "script") (CX := fun _ => L2.CX0) rfl (by decide) (by kernel_rfl) ⟨rfl, by decide, by decide⟩ ?F (fun _ _ _ _ _ z => z)
    intro w mg fa h Y G hmg0
    obtain ⟨K, KX, c⟩ := Y
    have hmg : mg ("law" : PySem.Str) = some (.ref fa) := by
      have e : (HandSHeadRun.topDef (OpenLaw.row PySem.Challenge.rw_grainsfall_k13_whole_heaps_and_trees).prog 36).name = ("law" : PySem.Str) := by kernel_rfl
      rw [← e]
      exact hmg0
    exact ⟨K, KX, Wk13.facts (w := w) KX G hmg c Wk13.plain_law⟩

