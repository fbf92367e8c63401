import PyProof.Rows.All
import Wide.All
import OpenK.AllK
import Wide.FinOn
import HandS.ForMost
import HandS.Exc
import HandS.Deep
import HandS.TupAny
import HandS.TupMul
import HandS.TupLe
import HandS.IsInst
import HandS.SetFor
import HandS.Style
import HandS.SortRule
import HandS.SortInts
import HandS.Conv
import KE.LtSeq
import KE.DataMinMax
import KE.SortData
import HandS.Strs
import HandS.TupSets
import HandS.ExcOwn
import HandS.WordsExc
import HandS.ExcIs
import HandS.DictTup
import KE.KDictSum
import HandS.Text
import HandS.TupLen
import Wide.Seal
import PySem.Challenge.RW_agreeranks_k17_more_errors
set_option Elab.async false
set_option linter.all false
set_option maxRecDepth 100000
/-! the data layer, part a: values without a heap, results, environments, the meanings -/
namespace DL
open PySem L2

abbrev D := PyData
inductive Rs (α : Type) where
  | ok (a : α) | er (c : Nat) | no
def Rs.bind {α β : Type} : Rs α → (α → Rs β) → Rs β
  | .ok a, f => f a
  | .er c, _ => .er c
  | .no, _ => .no
def Rs.noEr {α : Type} : Rs α → Rs α
  | .er _ => .no
  | x => x
@[simp] theorem Rs.bind_ok {α β : Type} (a : α) (f : α → Rs β) : (Rs.ok a).bind f = f a := rfl
@[simp] theorem Rs.bind_er {α β : Type} (c : Nat) (f : α → Rs β) : (Rs.er c : Rs α).bind f = .er c := rfl
@[simp] theorem Rs.bind_no {α β : Type} (f : α → Rs β) : (Rs.no : Rs α).bind f = .no := rfl
@[simp] theorem Rs.noEr_ok {α : Type} (a : α) : (Rs.ok a).noEr = .ok a := rfl

/-- the class of sorters, its place -/
class SC where
  C : Nat
/-- what a sorter holds -/
structure So where
  now : List Int
  goal : List Int
  made : List Int
/-- objects that a def owns: a dict by tuples; a sorter -/
inductive Ob where
  | dk (kvs : List (List Key × D)) | so (s : So)
/-- a slot: shared data; a list that this def owns; the draws; an exception; an object; a sorter that was handed in, to be changed; one only to be read -/
inductive Sl where
  | sh (d : D) | ow (ds : List D) | dr (ad an : Nat) | xo (cl : Value) | mo (o : Ob) | pm (a dx am : Nat) (s : So) | ss (s : So)
abbrev En := List (Option Sl)
abbrev LIM : Nat := 1000000

def fVar (i : Nat) : En → Rs D := fun ρ => match ρ[i]? with
  | some (some (.sh d)) => .ok d
  | some (some (.ow ds)) => .ok (.list ds)
  | _ => .no
def fSh (i : Nat) : En → Rs D := fun ρ => match ρ[i]? with
  | some (some (.sh d)) => .ok d
  | _ => .no
def fC (d : D) : En → Rs D := fun _ => .ok d
def ap1 (g : D → Rs D) (f : En → Rs D) : En → Rs D := fun ρ => (f ρ).bind g
def ap2 (g : D → D → Rs D) (f1 f2 : En → Rs D) : En → Rs D := fun ρ => (f1 ρ).bind fun x => (f2 ρ).bind fun y => g x y
def fNil : En → Rs (List D) := fun _ => .ok []
def fCons (f : En → Rs D) (fs : En → Rs (List D)) : En → Rs (List D) := fun ρ => (f ρ).bind fun d => (fs ρ).bind fun ds => .ok (d :: ds)
def apL (g : List D → Rs D) (fs : En → Rs (List D)) : En → Rs D := fun ρ => (fs ρ).bind g
def dLst (ds : List D) : Rs D := if ds.length ≤ LIM then .ok (.list ds) else .no
def dTup (ds : List D) : Rs D := if ds.length ≤ LIM then .ok (.tuple ds) else .no
def dBool : D → Rs Bool
  | .bool b => .ok b
  | _ => .no
def tVal (f : En → Rs D) : En → Rs Bool := fun ρ => (f ρ).bind dBool
def tAn (f g : En → Rs Bool) : En → Rs Bool := fun ρ => (f ρ).bind fun b => if b = true then g ρ else .ok false
def tOrr (f g : En → Rs Bool) : En → Rs Bool := fun ρ => (f ρ).bind fun b => if b = true then .ok true else g ρ
def tNt (f : En → Rs Bool) : En → Rs Bool := fun ρ => (f ρ).bind fun b => .ok (!b)
def tTrue : En → Rs Bool := fun _ => .ok true
def fAnd (f g : En → Rs D) : En → Rs D := fun ρ => ((f ρ).bind dBool).bind fun b => if b = true then g ρ else .ok (.bool false)
def fOr (f g : En → Rs D) : En → Rs D := fun ρ => ((f ρ).bind dBool).bind fun b => if b = true then .ok (.bool true) else g ρ
def fNot (f : En → Rs D) : En → Rs D := fun ρ => ((f ρ).bind dBool).bind fun b => .ok (.bool (!b))
def fIf (c : En → Rs Bool) (f g : En → Rs D) : En → Rs D := fun ρ => (c ρ).bind fun b => if b = true then f ρ else g ρ
def fChain (g g' : D → D → Rs D) (f1 f2 f3 : En → Rs D) : En → Rs D := fun ρ => (f1 ρ).bind fun x => (f2 ρ).bind fun y => ((g x y).bind dBool).bind fun b =>
  if b = true then (f3 ρ).bind fun z => g' y z else .ok (.bool false)

/-! ### operations on data -/
def dAdd : D → D → Rs D
  | .int i, .int j => .ok (.int (i + j))
  | .str x, .str y => if x.length + y.length ≤ LIM then .ok (.str (x ++ y)) else .no
  | .list xs, .list ys => if xs.length + ys.length ≤ LIM then .ok (.list (xs ++ ys)) else .no
  | .tuple xs, .tuple ys => if xs.length + ys.length ≤ LIM then .ok (.tuple (xs ++ ys)) else .no
  | _, _ => .no
def dSub : D → D → Rs D
  | .int i, .int j => .ok (.int (i - j))
  | _, _ => .no
def dMul : D → D → Rs D
  | .int i, .int j => if (-(2 ^ 64) < i ∧ i < 2 ^ 64) ∨ (-(2 ^ 64) < j ∧ j < 2 ^ 64) then .ok (.int (i * j)) else .no
  | .list xs, .int k => if -(2 ^ 63) ≤ k ∧ k < 2 ^ 63 ∧ xs.length * k.toNat ≤ LIM then .ok (.list (List.replicate k.toNat xs).flatten) else .no
  | .tuple xs, .int k => if xs ≠ [] ∧ 2 ≤ k ∧ k ≤ 1000 ∧ xs.length ≤ 1000 then .ok (.tuple (List.replicate k.toNat xs).flatten) else .no
  | _, _ => .no
def dFdiv : D → D → Rs D
  | .int i, .int j => if j ≠ 0 ∧ j.natAbs < 1073741824 then .ok (.int (i.fdiv j)) else .no
  | _, _ => .no
def dMod : D → D → Rs D
  | .int i, .int j => if j ≠ 0 then .ok (.int (i.fmod j)) else .no
  | _, _ => .no
def dPow : D → D → Rs D
  | .int i, .int j => if 0 ≤ j ∧ j ≤ 1000000 ∧ i.natAbs < 2 ^ 64 then .ok (.int (i ^ j.toNat)) else .no
  | _, _ => .no
def dNeg : D → Rs D
  | .int i => .ok (.int (-i))
  | _ => .no
def dLt : D → D → Rs D
  | .int i, .int j => .ok (.bool (decide (i < j)))
  | _, _ => .no
def dLe : D → D → Rs D
  | .int i, .int j => .ok (.bool (decide (i ≤ j)))
  | _, _ => .no
def dGt : D → D → Rs D
  | .int i, .int j => .ok (.bool (decide (j < i)))
  | _, _ => .no
def dGe : D → D → Rs D
  | .int i, .int j => .ok (.bool (decide (j ≤ i)))
  | _, _ => .no
def dEq (d e : D) : Rs D := if SeqAt.shaped d = true ∧ SeqAt.shaped e = true then .ok (.bool (PyData.eqv d e)) else .no
def dNe (d e : D) : Rs D := if SeqAt.shaped d = true ∧ SeqAt.shaped e = true then .ok (.bool (!PyData.eqv d e)) else .no
def dInT (d : D) : List D → Bool := fun ds => ds.any fun z => PyData.eqv z d
def flatD : D → Bool
  | .none | .bool _ | .int _ | .str _ => true
  | _ => false
def dIn : D → D → Rs D
  | d, .list ds => if SeqAt.shaped d = true ∧ SeqAt.shaped (.list ds) = true then .ok (.bool (dInT d ds)) else .no
  | .int i, .tuple ds => match ds.mapM (fun | PyData.int j => some j | _ => none) with
    | some ns => .ok (.bool (decide (i ∈ ns)))
    | none => .no
  | .str x, .str y => .ok (.bool (!(Builtin.Str.occurrences y x 0 y.length 1).isEmpty))
  | _, _ => .no
def dNot : D → Rs D
  | .bool b => .ok (.bool (!b))
  | _ => .no
def dNotIn (d e : D) : Rs D := (dIn d e).bind dNot
/-- x is None, x is True .. (the right one written) -/
def isNone : D → Bool
  | .none => true
  | _ => false
def dIsN : D → D → Rs D
  | d, .none => .ok (.bool (isNone d))
  | .bool a, .bool b => .ok (.bool (decide (a = b)))
  | _, _ => .no
def dIsNotN (d e : D) : Rs D := (dIsN d e).bind dNot
def dIx : D → D → Rs D
  | .list xs, .int i => match atI xs i with | some d => .ok d | none => .no
  | .tuple xs, .int i => match atI xs i with | some d => .ok d | none => .no
  | .str z, .int i => if z.length ≤ LIM then (match atI z.cps.toList i with | some c => .ok (.str ⟨#[c]⟩) | none => .no) else .no
  | _, _ => .no
def cutD {α : Type} (xs : List α) (lo hi : Option Int) : List α := (xs.drop (HT.sIx xs.length 0 lo)).take (HT.sIx xs.length xs.length hi - HT.sIx xs.length 0 lo)
def dOpt : Option D → Rs (Option Int)
  | none => .ok none
  | some (.int i) => .ok (some i)
  | _ => .no
def dSl (x : D) (lo hi : Option Int) : Rs D := match x with
  | .list xs => .ok (.list (cutD xs lo hi))
  | .str z => if z.length ≤ LIM then .ok (.str (cutS z lo hi)) else .no
  | _ => .no
def fNoPart : En → Rs (Option Int) := fun _ => .ok none
def dPart : D → Rs (Option Int)
  | .int i => .ok (some i)
  | _ => .no
def fPart (f : En → Rs D) : En → Rs (Option Int) := fun ρ => (f ρ).bind dPart
def fSl (f : En → Rs D) (lo hi : En → Rs (Option Int)) : En → Rs D := fun ρ => (f ρ).bind fun x => (lo ρ).bind fun a => (hi ρ).bind fun b => dSl x a b
end DL

namespace DL
open PySem L2
variable [SC]

/-! ### heaps -/
def Ex (H H' : Hp) : Prop := ∀ a o, H a = some o → H' a = some o
theorem Ex.refl (H : Hp) : Ex H H := fun _ _ h => h
theorem Ex.trans {H H1 H2 : Hp} (a : Ex H H1) (b : Ex H1 H2) : Ex H H2 := fun x o h => b x o (a x o h)
theorem Ex.new {H : Hp} {p : Addr} {o : HO} (h : H p = none) : Ex H (upd H p o) := fun a u e => by
  rw [upd_ne (ne_of_none e h)]
  exact e
theorem Ex.free {H H' : Hp} {p : Addr} (e : Ex H H') (h : H' p = none) : H p = none := by
  cases h1 : H p with
  | none => rfl
  | some o =>
    rw [e p o h1] at h
    cases h
def hide (O : List Addr) (H : Hp) : Hp := fun a => if a ∈ O then none else H a
theorem hide_some {O : List Addr} {H : Hp} {a : Addr} {o : HO} : hide O H a = some o ↔ a ∉ O ∧ H a = some o := by
  unfold hide
  by_cases h : a ∈ O
  · simp [h]
  · simp [h]
theorem hide_le {O : List Addr} {H : Hp} : Ex (hide O H) H := fun a o h => (hide_some.mp h).2
theorem hide_ex {O : List Addr} {H H' : Hp} (e : Ex H H') : Ex (hide O H) (hide O H') := fun a o h => hide_some.mpr ⟨(hide_some.mp h).1, e a o (hide_some.mp h).2⟩
theorem hide_sub {O O' : List Addr} {H : Hp} (h : ∀ a ∈ O', a ∈ O) : Ex (hide O H) (hide O' H) := fun a o e => hide_some.mpr ⟨fun z => (hide_some.mp e).1 (h a z), (hide_some.mp e).2⟩
theorem hide_new {O : List Addr} {H : Hp} {p : Addr} {o : HO} (h : H p = none) : Ex (hide O H) (hide (p :: O) (upd H p o)) := fun a u e => by
  obtain ⟨h1, h2⟩ := hide_some.mp e
  have ne := ne_of_none h2 h
  refine hide_some.mpr ⟨fun z => ?_, by rw [upd_ne ne]; exact h2⟩
  rcases List.mem_cons.mp z with z | z
  · exact ne z
  · exact h1 z
theorem hide_cons {O : List Addr} {H : Hp} {p : Addr} (h : H p = none) : Ex (hide O H) (hide (p :: O) H) := fun a u e => by
  obtain ⟨h1, h2⟩ := hide_some.mp e
  have ne := ne_of_none h2 h
  refine hide_some.mpr ⟨fun z => ?_, h2⟩
  rcases List.mem_cons.mp z with z | z
  · exact ne z
  · exact h1 z
theorem hide_own {O : List Addr} {H : Hp} {p : Addr} {o : HO} (h : p ∈ O) : Ex (hide O H) (hide O (upd H p o)) := fun a u e => by
  obtain ⟨h1, h2⟩ := hide_some.mp e
  have ne : a ≠ p := fun z => h1 (by rw [z]; exact h)
  exact hide_some.mpr ⟨h1, by rw [upd_ne ne]; exact h2⟩

/-! ### data in a heap -/
mutual
inductive Dq (H : Hp) : V → D → Prop
  | non : Dq H .non .none
  | bl (b : Bool) : Dq H (.bl b) (.bool b)
  | int (i : Int) : Dq H (.int i) (.int i)
  | str (x : Str) : Dq H (.str x) (.str x)
  | lst {a : Addr} {xs : List V} {ds : List D} : H a = some (.lst xs) → DqAll H xs ds → Dq H (.ref a) (.list ds)
  | tup {a : Addr} {xs : List V} {ds : List D} : H a = some (.tup xs) → DqAll H xs ds → Dq H (.ref a) (.tuple ds)
inductive DqAll (H : Hp) : List V → List D → Prop
  | nil : DqAll H [] []
  | cons {v : V} {vs : List V} {d : D} {ds : List D} : Dq H v d → DqAll H vs ds → DqAll H (v :: vs) (d :: ds)
end
mutual
theorem Dq.mono {H H' : Hp} (e : Ex H H') : ∀ {v : V} {d : D}, Dq H v d → Dq H' v d
  | _, _, .non => .non
  | _, _, .bl b => .bl b
  | _, _, .int i => .int i
  | _, _, .str x => .str x
  | _, _, .lst h a => .lst (e _ _ h) (DqAll.mono e a)
  | _, _, .tup h a => .tup (e _ _ h) (DqAll.mono e a)
theorem DqAll.mono {H H' : Hp} (e : Ex H H') : ∀ {vs : List V} {ds : List D}, DqAll H vs ds → DqAll H' vs ds
  | _, _, .nil => .nil
  | _, _, .cons h t => .cons (Dq.mono e h) (DqAll.mono e t)
end
mutual
theorem Dq.dp {K : PySem.W.Frag} {H : Hp} : ∀ {v : V} {d : D}, Dq H v d → Dp K H v d
  | _, _, .non => .non
  | _, _, .bl b => .bl b
  | _, _, .int i => .int i
  | _, _, .str x => .str x
  | _, _, .lst h a => .lst (SqL.of h) (DqAll.dp a)
  | _, _, .tup h a => .tup (SqT.of h) (DqAll.dp a)
theorem DqAll.dp {K : PySem.W.Frag} {H : Hp} : ∀ {vs : List V} {ds : List D}, DqAll H vs ds → DpAll K H vs ds
  | _, _, .nil => .nil
  | _, _, .cons h t => .cons (Dq.dp h) (DqAll.dp t)
end
section
variable {H : Hp} {vs ws : List V} {ds es : List D}
theorem DqAll.length : ∀ {vs : List V} {ds : List D}, DqAll H vs ds → vs.length = ds.length
  | _, _, .nil => rfl
  | _, _, .cons _ t => by simp [DqAll.length t]
theorem DqAll.append : ∀ {vs : List V} {ds : List D}, DqAll H vs ds → DqAll H ws es → DqAll H (vs ++ ws) (ds ++ es)
  | _, _, .nil, b => b
  | _, _, .cons h t, b => .cons h (DqAll.append t b)
theorem DqAll.take : ∀ (n : Nat) {vs : List V} {ds : List D}, DqAll H vs ds → DqAll H (vs.take n) (ds.take n)
  | 0, _, _, _ => by simp; exact .nil
  | n + 1, _, _, .nil => by simp; exact .nil
  | n + 1, _, _, .cons h t => by simp only [List.take_succ_cons]; exact .cons h (DqAll.take n t)
theorem DqAll.drop : ∀ (n : Nat) {vs : List V} {ds : List D}, DqAll H vs ds → DqAll H (vs.drop n) (ds.drop n)
  | 0, _, _, t => t
  | n + 1, _, _, .nil => by simp; exact .nil
  | n + 1, _, _, .cons h t => by simp only [List.drop_succ_cons]; exact DqAll.drop n t
theorem DqAll.get : ∀ {vs : List V} {ds : List D} (i : Nat) {d : D}, DqAll H vs ds → ds[i]? = some d → ∃ v, vs[i]? = some v ∧ Dq H v d
  | _, _, i, d, .nil, e => by simp at e
  | _, _, 0, d, .cons h t, e => by
    simp at e
    subst e
    exact ⟨_, rfl, h⟩
  | _, _, i + 1, d, .cons h t, e => DqAll.get i t (by simpa using e)
theorem DqAll.get' : ∀ {vs : List V} {ds : List D} (i : Nat) {v : V}, DqAll H vs ds → vs[i]? = some v → ∃ d, ds[i]? = some d ∧ Dq H v d
  | _, _, i, d, .nil, e => by simp at e
  | _, _, 0, d, .cons h t, e => by
    simp at e
    subst e
    exact ⟨_, rfl, h⟩
  | _, _, i + 1, d, .cons h t, e => DqAll.get' i t (by simpa using e)
theorem DqAll.set : ∀ {vs : List V} {ds : List D} (i : Nat) {v : V} {d : D}, DqAll H vs ds → Dq H v d → DqAll H (vs.set i v) (ds.set i d)
  | _, _, i, _, _, .nil, _ => by simp; exact .nil
  | _, _, 0, _, _, .cons h t, q => .cons q t
  | _, _, i + 1, _, _, .cons h t, q => .cons h (DqAll.set i t q)
theorem DqAll.rep {n : Nat} (h : DqAll H vs ds) : DqAll H (List.replicate n vs).flatten (List.replicate n ds).flatten := by
  induction n with
  | zero => simp; exact .nil
  | succ n ih =>
    simp only [List.replicate_succ, List.flatten_cons]
    exact h.append ih
theorem DqAll.eraseIdx : ∀ {vs : List V} {ds : List D} (i : Nat), DqAll H vs ds → DqAll H (vs.eraseIdx i) (ds.eraseIdx i)
  | _, _, i, .nil => by simp; exact .nil
  | _, _, 0, .cons h t => t
  | _, _, i + 1, .cons h t => .cons h (DqAll.eraseIdx i t)
theorem DqAll.ints : ∀ {vs : List V} {ns : List Int}, DqAll H vs (ns.map PyData.int) → vs = ns.map V.int
  | vs, [], h => by cases h; rfl
  | vs, n :: ns, h => by
    cases h with
    | cons h t =>
      cases h
      rw [DqAll.ints t]
      rfl
theorem DqAll.ofInts : ∀ (ns : List Int), DqAll H (ns.map V.int) (ns.map PyData.int)
  | [] => .nil
  | n :: ns => .cons (.int n) (DqAll.ofInts ns)
theorem DqAll.bools : ∀ {vs : List V} {ns : List Bool}, DqAll H vs (ns.map PyData.bool) → vs = ns.map V.bl
  | vs, [], h => by cases h; rfl
  | vs, n :: ns, h => by
    cases h with
    | cons h t =>
      cases h
      rw [DqAll.bools t]
      rfl
theorem DqAll.strs : ∀ {vs : List V} {ns : List Str}, DqAll H vs (ns.map PyData.str) → vs = ns.map V.str
  | vs, [], h => by cases h; rfl
  | vs, n :: ns, h => by
    cases h with
    | cons h t =>
      cases h
      rw [DqAll.strs t]
      rfl
theorem DqAll.ofStrs : ∀ (ns : List Str), DqAll H (ns.map V.str) (ns.map PyData.str)
  | [] => .nil
  | n :: ns => .cons (.str n) (DqAll.ofStrs ns)
end

/-- data at the top of which a hidden list may stand -/
def DB (O : List Addr) (H : Hp) (v : V) (d : D) : Prop := Dq (hide O H) v d ∨ ∃ a vs ds, v = .ref a ∧ d = .list ds ∧ H a = some (.lst vs) ∧ DqAll (hide O H) vs ds
section
variable {O : List Addr} {H H' : Hp} {v : V} {d : D}
theorem DB.of (h : Dq (hide O H) v d) : DB O H v d := .inl h
theorem DB.mono (e : Ex H H') (h : DB O H v d) : DB O H' v d := by
  rcases h with h | ⟨a, vs, ds, h1, h2, h3, h4⟩
  · exact .inl (h.mono (hide_ex e))
  · exact .inr ⟨a, vs, ds, h1, h2, e _ _ h3, h4.mono (hide_ex e)⟩
theorem DB.list {ds : List D} (h : DB O H v (.list ds)) : ∃ a vs, v = .ref a ∧ H a = some (.lst vs) ∧ DqAll (hide O H) vs ds := by
  rcases h with h | ⟨a, vs, es, h1, h2, h3, h4⟩
  · cases h with
    | lst h a => exact ⟨_, _, rfl, hide_le _ _ h, a⟩
  · cases h2
    exact ⟨a, vs, h1, h3, h4⟩
theorem DB.tuple {ds : List D} (h : DB O H v (.tuple ds)) : ∃ a vs, v = .ref a ∧ (a ∉ O ∧ H a = some (.tup vs)) ∧ DqAll (hide O H) vs ds := by
  rcases h with h | ⟨a, vs, es, h1, h2, h3, h4⟩
  · cases h with
    | tup h a => exact ⟨_, _, rfl, hide_some.mp h, a⟩
  · cases h2
theorem DB.int {i : Int} (h : DB O H v (.int i)) : v = .int i := by
  rcases h with h | ⟨a, vs, es, h1, h2, h3, h4⟩
  · cases h; rfl
  · cases h2
theorem DB.bool {b : Bool} (h : DB O H v (.bool b)) : v = .bl b := by
  rcases h with h | ⟨a, vs, es, h1, h2, h3, h4⟩
  · cases h; rfl
  · cases h2
theorem DB.str {x : Str} (h : DB O H v (.str x)) : v = .str x := by
  rcases h with h | ⟨a, vs, es, h1, h2, h3, h4⟩
  · cases h; rfl
  · cases h2
theorem DB.non (h : DB O H v .none) : v = .non := by
  rcases h with h | ⟨a, vs, es, h1, h2, h3, h4⟩
  · cases h; rfl
  · cases h2
theorem DB.all (h : DB O H v d) : Dq H v d := by
  rcases h with h | ⟨a, vs, es, h1, h2, h3, h4⟩
  · exact h.mono hide_le
  · subst h1; subst h2
    exact .lst h3 (h4.mono hide_le)
end

/-! ### slots -/
/-- the draws: a list of a list of ints, not empty, and a counter -/
def DrSt (H : Hp) (ad an : Addr) : Prop := ad ≠ an ∧ ∃ (c : Int) (nums : List Int), H ad = some (.lst [.ref an, .int c]) ∧ H an = some (.lst (nums.map V.int)) ∧ nums ≠ [] ∧ nums.length ≤ 1000
theorem DrSt.mono {H H' : Hp} {ad an : Addr} (h : DrSt H ad an) (k1 : ∀ o, H ad = some o → H' ad = some o) (k2 : ∀ o, H an = some o → H' an = some o) : DrSt H' ad an := by
  obtain ⟨h1, c, nums, h2, h3, h4⟩ := h
  exact ⟨h1, c, nums, k1 _ h2, k2 _ h3, h4⟩
/-- a caught exception of the class cl at z -/
def XH (cl : Value) (z : Addr) : HO := .ext fun g => ∃ (ox : Obj) (fl : Array Value), g.get? z = some ox ∧ Zc cl none ox ∧ ox.data = .fields fl
inductive DkAll (H : Hp) : List (List Key × V) → List (List Key × D) → Prop
  | nil : DkAll H [] []
  | cons {k : List Key} {v : V} {d : D} {vs : List (List Key × V)} {ds : List (List Key × D)} : Dq H v d → DkAll H vs ds → DkAll H ((k, v) :: vs) ((k, d) :: ds)
theorem DkAll.mono {H H' : Hp} (e : Ex H H') : ∀ {vs : List (List Key × V)} {ds : List (List Key × D)}, DkAll H vs ds → DkAll H' vs ds
  | _, _, .nil => .nil
  | _, _, .cons h t => .cons (h.mono e) (DkAll.mono e t)
/-- a sorter at a: its own dict dx, its list of exchanges am; both rankings are shared -/
def SoAt (O : List Addr) (H : Hp) (s : So) (a dx am : Addr) : Prop := (a ≠ dx ∧ a ≠ am ∧ dx ≠ am) ∧ ∃ vn vg, H a = some (.ins SC.C dx [("now", vn), ("goal", vg), ("made", .ref am)]) ∧ H dx = some (.own a) ∧
  Dq (hide O H) vn (.list (s.now.map PyData.int)) ∧ Dq (hide O H) vg (.list (s.goal.map PyData.int)) ∧ H am = some (.lst (s.made.map V.int))
theorem SoAt.stay {O O' : List Addr} {H H' : Hp} {s : So} {a dx am : Addr} (e : Ex (hide O H) (hide O' H')) (k : ∀ b ∈ [a, dx, am], ∀ u, H b = some u → H' b = some u) (h : SoAt O H s a dx am) : SoAt O' H' s a dx am := by
  obtain ⟨h0, vn, vg, h1, h2, h3, h4, h5⟩ := h
  exact ⟨h0, vn, vg, k _ (by simp) _ h1, k _ (by simp) _ h2, h3.mono e, h4.mono e, k _ (by simp) _ h5⟩
/-- the object that a slot owns, and its cells -/
def ObR (O : List Addr) (H : Hp) : Ob → V → List Addr → Prop
  | .dk kvs, v, l => ∃ a vs, v = .ref a ∧ l = [a] ∧ H a = some (.dT vs) ∧ DkAll (hide O H) vs kvs
  | .so s, v, l => ∃ a dx am, v = .ref a ∧ l = [a, dx, am] ∧ SoAt O H s a dx am
theorem ObR.stay {O O' : List Addr} {H H' : Hp} {o : Ob} {v : V} {l : List Addr} (e : Ex (hide O H) (hide O' H')) (k : ∀ a ∈ l, ∀ u, H a = some u → H' a = some u) (h : ObR O H o v l) : ObR O' H' o v l := by
  cases o with
  | dk kvs =>
    obtain ⟨a, vs, h1, h2, h3, h4⟩ := h
    subst h2
    exact ⟨a, vs, h1, rfl, k a (by simp) _ h3, h4.mono e⟩
  | so s =>
    obtain ⟨a, dx, am, h1, h2, h3⟩ := h
    subst h2
    exact ⟨a, dx, am, h1, rfl, h3.stay e k⟩
/-- a sorter that is seen, and stands -/
def SoSh (O : List Addr) (H : Hp) (s : So) (v : V) : Prop := ∃ a dx am, v = .ref a ∧ SoAt O (hide O H) s a dx am
theorem hide_hide {O : List Addr} {H : Hp} : hide O (hide O H) = hide O H := by
  funext a
  unfold hide
  split <;> rfl
theorem SoSh.stay {O O' : List Addr} {H H' : Hp} {s : So} {v : V} (e : Ex (hide O H) (hide O' H')) (h : SoSh O H s v) : SoSh O' H' s v := by
  obtain ⟨a, dx, am, h1, h2⟩ := h
  exact ⟨a, dx, am, h1, h2.stay (by rw [hide_hide, hide_hide]; exact e) fun b _ u q => e b u q⟩
def SlR (O : List Addr) (H : Hp) : Sl → V → List Addr → Prop
  | .sh d, v, l => l = [] ∧ Dq (hide O H) v d
  | .ow ds, v, l => ∃ a vs, v = .ref a ∧ l = [a] ∧ H a = some (.lst vs) ∧ DqAll (hide O H) vs ds
  | .dr ad an, v, l => v = .ref ad ∧ l = [ad, an] ∧ DrSt H ad an
  | .xo cl, v, l => l = [] ∧ ∃ z, v = .ref z ∧ hide O H z = some (XH cl z)
  | .mo o, v, l => ObR O H o v l
  | .pm a dx am s, v, l => v = .ref a ∧ l = [a, dx, am] ∧ SoAt O H s a dx am
  | .ss s, v, l => l = [] ∧ SoSh O H s v
theorem SlR.mono {O : List Addr} {H H' : Hp} {s : Sl} {v : V} {l : List Addr} (e : Ex H H') (h : SlR O H s v l) : SlR O H' s v l := by
  cases s with
  | sh d => exact ⟨h.1, h.2.mono (hide_ex e)⟩
  | ow ds =>
    obtain ⟨a, vs, h1, h2, h3, h4⟩ := h
    exact ⟨a, vs, h1, h2, e _ _ h3, h4.mono (hide_ex e)⟩
  | dr ad an => exact ⟨h.1, h.2.1, h.2.2.mono (e _) (e _)⟩
  | xo cl =>
    obtain ⟨h1, z, h2, h3⟩ := h
    exact ⟨h1, z, h2, hide_ex e _ _ h3⟩
  | mo o => exact ObR.stay (hide_ex e) (fun a _ u q => e a u q) h
  | pm a dx am s => exact ⟨h.1, h.2.1, h.2.2.stay (hide_ex e) fun b _ u q => e b u q⟩
  | ss s => exact ⟨h.1, h.2.stay (hide_ex e)⟩
/-- the shared part grows, the slot's own cells stand -/
theorem SlR.moved' {O O' : List Addr} {H H' : Hp} {s : Sl} {v : V} {l : List Addr} (e : Ex (hide O H) (hide O' H')) (k : ∀ a ∈ l, ∀ u, H a = some u → H' a = some u) (h : SlR O H s v l) : SlR O' H' s v l := by
  cases s with
  | sh d => exact ⟨h.1, h.2.mono e⟩
  | ow ds =>
    obtain ⟨a, vs, h1, h2, h3, h4⟩ := h
    subst h2
    exact ⟨a, vs, h1, rfl, k a (by simp) _ h3, h4.mono e⟩
  | dr ad an =>
    obtain ⟨h1, h2, h3⟩ := h
    subst h2
    exact ⟨h1, rfl, h3.mono (k ad (by simp)) (k an (by simp))⟩
  | xo cl =>
    obtain ⟨h1, z, h2, h3⟩ := h
    exact ⟨h1, z, h2, e _ _ h3⟩
  | mo o => exact ObR.stay e k h
  | pm a dx am s =>
    obtain ⟨h1, h2, h3⟩ := h
    subst h2
    exact ⟨h1, rfl, h3.stay e k⟩
  | ss s => exact ⟨h.1, h.2.stay e⟩
theorem SlR.moved {O O' : List Addr} {H H' : Hp} {s : Sl} {v : V} {l : List Addr} (e : Ex (hide O H) (hide O' H')) (k : ∀ a ∈ l, H' a = H a) (h : SlR O H s v l) : SlR O' H' s v l := h.moved' e fun a ha u q => by rw [k a ha]; exact q

/-- what is hidden is no tuple -/
def NT (O : List Addr) (H : Hp) : Prop := ∀ a ∈ O, ∀ xs, H a ≠ some (.tup xs)
theorem NT.mono {O : List Addr} {H H' : Hp} (e : Ex H H') (od : ∀ a ∈ O, H a ≠ none) (n : NT O H) : NT O H' := fun a ha xs z => by
  cases h : H a with
  | none => exact od a ha h
  | some o =>
    have := e a o h
    rw [z] at this
    cases this
    exact n a ha xs h
theorem NT.cons {O : List Addr} {H : Hp} {p : Addr} {o : HO} (h : H p = some o) (ho : ∀ xs, o ≠ .tup xs) (n : NT O H) : NT (p :: O) H := fun a ha xs z => by
  rcases List.mem_cons.mp ha with rfl | ha
  · rw [h] at z; exact ho xs (Option.some.inj z)
  · exact n a ha xs z
theorem NT.upd {O : List Addr} {H : Hp} {p : Addr} {o : HO} (ho : ∀ xs, o ≠ .tup xs) (n : NT O H) : NT O (upd H p o) := fun a ha xs z => by
  by_cases e : a = p
  · subst e; rw [upd_same] at z; exact ho xs (Option.some.inj z)
  · rw [upd_ne e] at z; exact n a ha xs z
theorem lst_nt {vs : List V} : ∀ xs, HO.lst vs ≠ .tup xs := fun xs z => by cases z
structure RepE (O : List Addr) (σ : St) (ρ : En) (H : Hp) : Prop where
  len : σ.length = ρ.length
  od : ∀ a ∈ O, H a ≠ none
  nt : NT O H
  sl : ∀ (i : Nat) (s : Sl), ρ[i]? = some (some s) → ∃ v l, σ[i]? = some (some v) ∧ SlR O H s v l
theorem RepE.mono {O : List Addr} {σ : St} {ρ : En} {H H' : Hp} (e : Ex H H') (h : RepE O σ ρ H) : RepE O σ ρ H' :=
  ⟨h.len, fun a ha z => h.od a ha (e.free z), h.nt.mono e h.od, fun i s hi => by
    obtain ⟨v, l, h1, h2⟩ := h.sl i s hi
    exact ⟨v, l, h1, h2.mono e⟩⟩
theorem RepE.fresh {O : List Addr} {σ : St} {ρ : En} {H : Hp} (h : RepE O σ ρ H) {p : Addr} (hp : H p = none) : p ∉ O := fun z => h.od p z hp

/-! ### what a meaning says of a reading -/
variable (cv : Nat → Value) (W : WX)
def PosE (O : List Addr) (σ : St) (H : Hp) (Q : VK) : Rs D → Prop
  | .ok d => ∀ v H2, Ex H H2 → Dq (hide O H2) v d → Q v H2
  | .er c => ∀ H2, Ex H H2 → W (cv c) none σ H2
  | .no => False
def PosB (O : List Addr) (σ : St) (H : Hp) (Q : VK) : Rs D → Prop
  | .ok d => ∀ v H2, Ex H H2 → DB O H2 v d → Q v H2
  | .er c => ∀ H2, Ex H H2 → W (cv c) none σ H2
  | .no => False
def PosF (O : List Addr) (σ : St) (H : Hp) (Q : VK) : Rs D → Prop
  | .ok d => ∀ p vs ds H2, d = .list ds → Ex H H2 → H p = none → H2 p = some (.lst vs) → DqAll (hide (p :: O) H2) vs ds → Q (.ref p) H2
  | .er c => ∀ H2, Ex H H2 → W (cv c) none σ H2
  | .no => False
def PosT (O : List Addr) (σ : St) (H : Hp) (Q : Bool → Hp → Prop) : Rs Bool → Prop
  | .ok b => ∀ H2, Ex H H2 → Q b H2
  | .er c => ∀ H2, Ex H H2 → W (cv c) none σ H2
  | .no => False
def PosA (O : List Addr) (σ : St) (H : Hp) (Q : List V → Hp → Prop) : Rs (List D) → Prop
  | .ok ds => ∀ vs H2, Ex H H2 → DqAll (hide O H2) vs ds → Q vs H2
  | .er c => ∀ H2, Ex H H2 → W (cv c) none σ H2
  | .no => False
def PosO (O : List Addr) (σ : St) (H : Hp) (Q : Option Int → Hp → Prop) : Rs (Option Int) → Prop
  | .ok b => ∀ H2, Ex H H2 → Q b H2
  | .er c => ∀ H2, Ex H H2 → W (cv c) none σ H2
  | .no => False
def SndE (t : TE) (f : En → Rs D) : Prop := ∀ O σ ρ H Q, RepE O σ ρ H → PosE cv W O σ H Q (f ρ) → t σ H Q
def SndB (t : TE) (f : En → Rs D) : Prop := ∀ O σ ρ H Q, RepE O σ ρ H → PosB cv W O σ H Q (f ρ) → t σ H Q
def SndF (t : TE) (f : En → Rs D) : Prop := ∀ O σ ρ H Q, RepE O σ ρ H → PosF cv W O σ H Q (f ρ) → t σ H Q
def SndT (t : TT) (f : En → Rs Bool) : Prop := ∀ O σ ρ H Q, RepE O σ ρ H → PosT cv W O σ H Q (f ρ) → t σ H Q
def SndA (t : TA) (f : En → Rs (List D)) : Prop := ∀ O σ ρ H Q, RepE O σ ρ H → PosA cv W O σ H Q (f ρ) → t σ H Q
def SndO (t : TO) (f : En → Rs (Option Int)) : Prop := ∀ O σ ρ H Q, RepE O σ ρ H → PosO cv W O σ H Q (f ρ) → t σ H Q
variable {cv W}
theorem SndE.b {t : TE} {f : En → Rs D} (h : SndE cv W t f) : SndB cv W t f := fun O σ ρ H Q r p => h O σ ρ H Q r (by
  cases e : f ρ with
  | ok d => rw [e] at p; exact fun v H2 x q => p v H2 x (.inl q)
  | er c => rw [e] at p; exact p
  | no => rw [e] at p; exact p)
theorem SndF.e {t : TE} {f : En → Rs D} (h : SndF cv W t f) : SndE cv W t f := fun O σ ρ H Q r p => h O σ ρ H Q r (by
  cases e : f ρ with
  | ok d =>
    rw [e] at p
    intro q vs ds H2 e1 x h1 h2 h3
    subst e1
    exact p _ H2 x (.lst (hide_some.mpr ⟨r.fresh h1, h2⟩) (h3.mono (hide_sub fun a ha => List.mem_cons_of_mem _ ha)))
  | er c => rw [e] at p; exact p
  | no => rw [e] at p; exact p)
end DL

namespace DL
open PySem L2
variable [SC]

/-- contexts that share what a derivation reads: the written part, the names, the scope -/
structure Fam {ι : Type} (Xs : ι → Cx) (P : Program) (w : World) (K : PySem.W.Frag) (mg : Str → Option Value) (base : Heap) (N : List Str) (sc : Scope) (fnn : Str → Bool) (k : Nat) : Prop where
  prog : ∀ j, (Xs j).prog = P
  wd : ∀ j, (Xs j).w = w
  kk : ∀ j, (Xs j).K = K
  gl : ∀ j, (Xs j).mg = mg
  bs : ∀ j, (Xs j).base = base
  nm : ∀ j, (Xs j).N = N
  scp : ∀ j, (Xs j).env.scope = sc
  calm : ∀ j, (Xs j).calm = true
  nd : N.Nodup
  room : ∀ j, Room k (Xs j).A
  fn : ∀ j x, (Xs j).fn x = fnn x
def visB (sc : Scope) (x : Str) : Bool := match sc.names.lookup x with
  | some .local | some .cell | some .free => true
  | _ => false
def locB (sc : Scope) (x : Str) : Bool := match sc.names.lookup x with
  | some .local | some .cell => true
  | _ => false
def isLoc (sc : Scope) (x : Str) : Bool := match sc.names.lookup x with
  | some .local => true
  | _ => false
def stB (fnn : Str → Bool) (sc : Scope) (x : Str) : Bool := locB sc x && (fnn x || isLoc sc x)
def glB (sc : Scope) (x : Str) : Bool := match sc.names.lookup x with
  | some .globalImplicit => true
  | _ => false
theorem vis_of {sc : Scope} {x : Str} (h : visB sc x = true) : Vis sc x := by
  unfold visB at h
  unfold Vis
  split at h <;> simp_all
theorem loc_of {sc : Scope} {x : Str} (h : locB sc x = true) : L2.Loc sc x := by
  unfold locB at h
  unfold L2.Loc
  split at h <;> simp_all
theorem isLoc_of {sc : Scope} {x : Str} (h : isLoc sc x = true) : sc.names.lookup x = some .local := by
  unfold isLoc at h
  split at h <;> simp_all
theorem gl_of {sc : Scope} {x : Str} (h : glB sc x = true) : sc.names.lookup x = some .globalImplicit := by
  unfold glB at h
  split at h <;> simp_all
section
variable {ι : Type} {Xs : ι → Cx} {P : Program} {w : World} {K : PySem.W.Frag} {mg : Str → Option Value} {base : Heap} {N : List Str} {sc : Scope} {fnn : Str → Bool} {k : Nat}
theorem Fam.gl_ok (F : Fam Xs P w K mg base N sc fnn k) {x : Str} (h : glB sc x = true) (j : ι) : Gl (Xs j) x := by
  show (Xs j).env.scope.names.lookup x = _
  rw [F.scp j]
  exact gl_of h
theorem Fam.vis (F : Fam Xs P w K mg base N sc fnn k) {x : Str} (h : visB sc x = true) (j : ι) : Vis (Xs j).env.scope x := by
  rw [F.scp j]
  exact vis_of h
theorem Fam.loc (F : Fam Xs P w K mg base N sc fnn k) {x : Str} (h : stB fnn sc x = true) (j : ι) : L2.Loc (Xs j).env.scope x := by
  rw [F.scp j]
  unfold stB at h
  rw [Bool.and_eq_true] at h
  exact loc_of h.1
theorem Fam.hf (F : Fam Xs P w K mg base N sc fnn k) {x : Str} (h : stB fnn sc x = true) (j : ι) : (Xs j).fn x = true ∨ (Xs j).env.scope.names.lookup x = some .local := by
  rw [F.scp j, F.fn j]
  unfold stB at h
  rw [Bool.and_eq_true, Bool.or_eq_true] at h
  rcases h.2 with q | q
  · exact .inl q
  · exact .inr (isLoc_of q)
theorem Fam.at (F : Fam Xs P w K mg base N sc fnn k) {x : Str} {i : Nat} (h : N[i]? = some x) (j : ι) : (Xs j).N[i]? = some x := by
  rw [F.nm j]
  exact h
theorem Fam.ndj (F : Fam Xs P w K mg base N sc fnn k) (j : ι) : (Xs j).N.Nodup := by
  rw [F.nm j]
  exact F.nd
theorem Fam.none (F : Fam Xs P w K mg base N sc fnn k) {x : Str} (h : mg x = none) (j : ι) : (Xs j).mg x = none := by
  rw [F.gl j]
  exact h
theorem Fam.some (F : Fam Xs P w K mg base N sc fnn k) {x : Str} {u : Value} (h : mg x = some u) (j : ι) : (Xs j).mg x = some u := by
  rw [F.gl j]
  exact h
theorem Fam.units (F : Fam Xs P w K mg base N sc fnn k) (j : ι) : (Xs j).A.units + 65 < cLine := by
  have := (F.room j).un
  omega
theorem Fam.units64 (F : Fam Xs P w K mg base N sc fnn k) (j : ι) : (Xs j).A.units + 64 < cLine := by
  have := (F.room j).un
  omega
theorem Fam.units0 (F : Fam Xs P w K mg base N sc fnn k) (j : ι) : (Xs j).A.units < cLine := by
  have := (F.room j).un
  omega
abbrev blkF (Xs : ι → Cx) (scope : Scope) : ι × Shared × Hp × Addr × List (Str × Addr) × List Addr → Cx := fun j =>
  (Xs j.1).blk j.2.1 j.2.2.1 scope (compEnvC scope j.2.2.2.2.1 j.2.2.2.1 (Xs j.1).env) j.2.2.2.2.2
theorem Fam.blk (F : Fam Xs P w K mg base N sc fnn k) (scope : Scope) : Fam (blkF Xs scope) P w K mg base N (relS scope sc) (fun x => scope.names.lookup x == Option.some NameKind.cell) k where
  prog := fun j => F.prog j.1
  wd := fun j => F.wd j.1
  kk := fun j => F.kk j.1
  gl := fun j => F.gl j.1
  bs := fun j => F.bs j.1
  nm := fun j => F.nm j.1
  scp := fun j => by rw [← F.scp j.1]; rfl
  calm := fun j => F.calm j.1
  nd := F.nd
  room := fun j => F.room j.1
  fn := fun j x => rfl
end

/-! ### the judgements: an expression and its meaning -/
section
variable {ι : Type} (cv : Nat → Value) (W : WX) (Xs : ι → Cx)
def EE (e : Expr) (f : En → Rs D) : Prop := ∃ t, (∀ j, PE (Xs j) e t) ∧ SndE cv W t f
def EB (e : Expr) (f : En → Rs D) : Prop := ∃ t, (∀ j, PE (Xs j) e t) ∧ SndB cv W t f
def EF (e : Expr) (f : En → Rs D) : Prop := ∃ t, (∀ j, PE (Xs j) e t) ∧ SndF cv W t f
def ET (e : Expr) (f : En → Rs Bool) : Prop := ∃ t, (∀ j, PT (Xs j) e t) ∧ SndT cv W t f
def EW (e : Expr) (f : En → Rs Bool) : Prop := ∃ t, (∀ j, PW (Xs j) e t) ∧ SndT cv W t f
def EA (es : List Expr) (f : En → Rs (List D)) : Prop := ∃ t, (∀ j, PA (Xs j) es t) ∧ SndA cv W t f
def EO (e : Option Expr) (f : En → Rs (Option Int)) : Prop := ∃ t, (∀ j, PO (Xs j) e t) ∧ SndO cv W t f
/-- arguments that are looked at alone: the first may be a hidden list -/
inductive DBAll (O : List Addr) (H : Hp) : List V → List D → Prop
  | nil : DBAll O H [] []
  | cons {v : V} {vs : List V} {d : D} {ds : List D} : DB O H v d → DBAll O H vs ds → DBAll O H (v :: vs) (d :: ds)
theorem DBAll.mono {O : List Addr} {H H' : Hp} (e : Ex H H') : ∀ {vs : List V} {ds : List D}, DBAll O H vs ds → DBAll O H' vs ds
  | _, _, .nil => .nil
  | _, _, .cons h t => .cons (h.mono e) (t.mono e)
theorem DBAll.of {O : List Addr} {H : Hp} : ∀ {vs : List V} {ds : List D}, DqAll (hide O H) vs ds → DBAll O H vs ds
  | _, _, .nil => .nil
  | _, _, .cons h t => .cons (.of h) (DBAll.of t)
def PosAB (O : List Addr) (σ : St) (H : Hp) (Q : List V → Hp → Prop) : Rs (List D) → Prop
  | .ok ds => ∀ vs H2, Ex H H2 → DBAll O H2 vs ds → Q vs H2
  | .er c => ∀ H2, Ex H H2 → W (cv c) none σ H2
  | .no => False
def SndAB (t : TA) (f : En → Rs (List D)) : Prop := ∀ O σ ρ H Q, RepE O σ ρ H → PosAB cv W O σ H Q (f ρ) → t σ H Q
def EAB (es : List Expr) (f : En → Rs (List D)) : Prop := ∃ t, (∀ j, PA (Xs j) es t) ∧ SndAB cv W t f
end
section
variable {ι : Type} {cv : Nat → Value} {W : WX} {Xs : ι → Cx} {P : Program} {w : World} {K : PySem.W.Frag} {mg : Str → Option Value} {base : Heap} {N : List Str} {sc : Scope} {fnn : Str → Bool} {k : Nat}
theorem EE.b {e : Expr} {f : En → Rs D} (h : EE cv W Xs e f) : EB cv W Xs e f := by
  obtain ⟨t, h1, h2⟩ := h
  exact ⟨t, h1, h2.b⟩
theorem EF.e {e : Expr} {f : En → Rs D} (h : EF cv W Xs e f) : EE cv W Xs e f := by
  obtain ⟨t, h1, h2⟩ := h
  exact ⟨t, h1, h2.e⟩
theorem EF.b {e : Expr} {f : En → Rs D} (h : EF cv W Xs e f) : EB cv W Xs e f := h.e.b
variable {e a b c : Expr} {f fa fb fc : En → Rs D} {pos : Pos}

/-! ### names and constants -/
theorem e_var (F : Fam Xs P w K mg base N sc fnn k) (i : Nat) {x : Str} (hN : N[i]? = some x := by rfl) (hv : visB sc x = true := by decide +kernel) (hd : (x == ("__debug__" : Str)) = false := by decide) (hcd : (x == ("__classdict__" : Str)) = false := by decide) :
    EE cv W Xs (.Name x pos) (fSh i) := by
  refine ⟨tVar i, fun j => pe_var (F.at hN j) (F.vis hv j) hd hcd, fun O σ ρ H Q r p => ?_⟩
  unfold fSh at p
  split at p
  · rename_i d e
    obtain ⟨v, l, h1, h2⟩ := r.sl i _ e
    exact ⟨v, h1, p v H (Ex.refl H) h2.2⟩
  · exact p.elim
theorem b_var (F : Fam Xs P w K mg base N sc fnn k) (i : Nat) {x : Str} (hN : N[i]? = some x := by rfl) (hv : visB sc x = true := by decide +kernel) (hd : (x == ("__debug__" : Str)) = false := by decide) (hcd : (x == ("__classdict__" : Str)) = false := by decide) :
    EB cv W Xs (.Name x pos) (fVar i) := by
  refine ⟨tVar i, fun j => pe_var (F.at hN j) (F.vis hv j) hd hcd, fun O σ ρ H Q r p => ?_⟩
  unfold fVar at p
  split at p
  · rename_i d e
    obtain ⟨v, l, h1, h2⟩ := r.sl i _ e
    exact ⟨v, h1, p v H (Ex.refl H) (.inl h2.2)⟩
  · rename_i ds e
    obtain ⟨v, l, h1, a, vs, h2, h3, h4, h5⟩ := r.sl i _ e
    exact ⟨v, h1, p v H (Ex.refl H) (.inr ⟨a, vs, ds, h2, rfl, h4, h5⟩)⟩
  · exact p.elim
theorem e_c {v : V} {d : D} (h : ∀ j, PE (Xs j) e (tC v)) (hq : ∀ H, Dq H v d) : EE cv W Xs e (fC d) :=
  ⟨tC v, h, fun O σ ρ H Q r p => p v H (Ex.refl H) (hq _)⟩
theorem e_int {i : Int} {n : Nat} : EE cv W Xs (.Constant (.int i) n pos) (fC (.int i)) := e_c (fun _ => pe_int) fun _ => .int i
theorem e_bool {i : Bool} {n : Nat} : EE cv W Xs (.Constant (.bool i) n pos) (fC (.bool i)) := e_c (fun _ => pe_bl) fun _ => .bl i
theorem e_none {n : Nat} : EE cv W Xs (.Constant .none n pos) (fC .none) := e_c (fun _ => pe_non) fun _ => .non
theorem e_str {x : Str} {n : Nat} : EE cv W Xs (.Constant (.str x) n pos) (fC (.str x)) := e_c (fun _ => pe_str) fun _ => .str x
theorem e_globI (F : Fam Xs P w K mg base N sc fnn k) {x : Str} {i : Int} {t : Tok} (hm : mg x = some (.int i t)) (hg : glB sc x = true := by decide +kernel) (hd : (x == ("__debug__" : Str)) = false := by decide) : EE cv W Xs (.Name x pos) (fC (.int i)) :=
  e_c (v := .int i) (fun j => pe_glob (F.gl_ok hg j) (F.some hm j) ⟨t, rfl⟩ hd) fun _ => .int i
theorem e_globS (F : Fam Xs P w K mg base N sc fnn k) {x : Str} {i : Str} {t : Tok} (hm : mg x = some (.str i t)) (hg : glB sc x = true := by decide +kernel) (hd : (x == ("__debug__" : Str)) = false := by decide) : EE cv W Xs (.Name x pos) (fC (.str i)) :=
  e_c (v := .str i) (fun j => pe_glob (F.gl_ok hg j) (F.some hm j) ⟨t, rfl⟩ hd) fun _ => .str i

/-! ### operations by values -/
def OkE (O : List Addr) (H : Hp) (Q : VK) : Rs D → Prop
  | .ok d => ∀ v H2, Ex H H2 → Dq (hide O H2) v d → Q v H2
  | _ => False
def OkF (O : List Addr) (H : Hp) (Q : VK) : Rs D → Prop
  | .ok d => ∀ p vs ds H2, d = .list ds → Ex H H2 → H p = none → H2 p = some (.lst vs) → DqAll (hide (p :: O) H2) vs ds → Q (.ref p) H2
  | _ => False
def OpE (r : R2) (g : D → D → Rs D) : Prop := ∀ O x y H Q d e, (∀ a ∈ O, H a ≠ none) → DB O H x d → DB O H y e → OkE O H Q (g d e) → r x y H Q
def OpF (r : R2) (g : D → D → Rs D) : Prop := ∀ O x y H Q d e, (∀ a ∈ O, H a ≠ none) → DB O H x d → DB O H y e → OkF O H Q (g d e) → r x y H Q
def Noer {α β : Type} (g : α → β → Rs D) : Prop := ∀ x y c, g x y ≠ .er c
theorem snd_op {ta tb : TE} {r : R2} {g : D → D → Rs D} (ha : SndB cv W ta fa) (hb : SndB cv W tb fb) (ho : OpE r g) (hn : Noer g) : SndE cv W (tOp r ta tb) (ap2 g fa fb) := by
  intro O σ ρ H Q R p
  refine ha O σ ρ H _ R ?_
  unfold ap2 at p
  cases ea : fa ρ with
  | no => rw [ea] at p; exact p
  | er c => rw [ea] at p; exact p
  | ok d =>
    rw [ea] at p
    intro x H1 x1 q1
    refine hb O σ ρ H1 _ (R.mono x1) ?_
    rw [Rs.bind_ok] at p
    cases eb : fb ρ with
    | no => rw [eb] at p; exact p
    | er c => rw [eb] at p; exact fun H2 x2 => p H2 (x1.trans x2)
    | ok e =>
      rw [eb, Rs.bind_ok] at p
      intro y H2 x2 q2
      refine ho O x y H2 Q d e ((R.mono x1).mono x2).od (q1.mono x2) q2 ?_
      cases eg : g d e with
      | no => rw [eg] at p; exact p
      | er c => exact absurd eg (hn d e c)
      | ok z => rw [eg] at p; exact fun v H3 x3 q3 => p v H3 ((x1.trans x2).trans x3) q3
theorem snd_opF {ta tb : TE} {r : R2} {g : D → D → Rs D} (ha : SndB cv W ta fa) (hb : SndB cv W tb fb) (ho : OpF r g) (hn : Noer g) : SndF cv W (tOp r ta tb) (ap2 g fa fb) := by
  intro O σ ρ H Q R p
  refine ha O σ ρ H _ R ?_
  unfold ap2 at p
  cases ea : fa ρ with
  | no => rw [ea] at p; exact p
  | er c => rw [ea] at p; exact p
  | ok d =>
    rw [ea] at p
    intro x H1 x1 q1
    refine hb O σ ρ H1 _ (R.mono x1) ?_
    rw [Rs.bind_ok] at p
    cases eb : fb ρ with
    | no => rw [eb] at p; exact p
    | er c => rw [eb] at p; exact fun H2 x2 => p H2 (x1.trans x2)
    | ok e =>
      rw [eb, Rs.bind_ok] at p
      intro y H2 x2 q2
      refine ho O x y H2 Q d e ((R.mono x1).mono x2).od (q1.mono x2) q2 ?_
      cases eg : g d e with
      | no => rw [eg] at p; exact p
      | er c => exact absurd eg (hn d e c)
      | ok z => rw [eg] at p; exact fun q vs ds H3 e1 x3 n1 h3 q3 => p q vs ds H3 e1 ((x1.trans x2).trans x3) ((x1.trans x2).free n1) h3 q3
theorem e_op {op : Operator} {r : R2} {g : D → D → Rs D} (ho : ∀ j, OpR (Xs j) (binaryOp op) r) (hg : OpE r g) (hn : Noer g) (ha : EB cv W Xs a fa) (hb : EB cv W Xs b fb) : EE cv W Xs (.BinOp a op b pos) (ap2 g fa fb) := by
  obtain ⟨ta, h1, h2⟩ := ha
  obtain ⟨tb, h3, h4⟩ := hb
  exact ⟨_, fun j => pe_op (ho j) (h1 j) (h3 j), snd_op h2 h4 hg hn⟩
theorem e_opF {op : Operator} {r : R2} {g : D → D → Rs D} (ho : ∀ j, OpR (Xs j) (binaryOp op) r) (hg : OpF r g) (hn : Noer g) (ha : EB cv W Xs a fa) (hb : EB cv W Xs b fb) : EF cv W Xs (.BinOp a op b pos) (ap2 g fa fb) := by
  obtain ⟨ta, h1, h2⟩ := ha
  obtain ⟨tb, h3, h4⟩ := hb
  exact ⟨_, fun j => pe_op (ho j) (h1 j) (h3 j), snd_opF h2 h4 hg hn⟩
theorem e_cmpR {op : CmpOp} {r : R2} {g : D → D → Rs D} (ho : ∀ j, OpR (Xs j) (compareOp op) r) (hg : OpE r g) (hn : Noer g) (hm : behindInMarks op b = false) (ha : EB cv W Xs a fa) (hb : EB cv W Xs b fb) : EE cv W Xs (.Compare a [op] [b] pos) (ap2 g fa fb) := by
  obtain ⟨ta, h1, h2⟩ := ha
  obtain ⟨tb, h3, h4⟩ := hb
  exact ⟨_, fun j => pe_cmpR (ho j) (h1 j) (h3 j) hm, snd_op h2 h4 hg hn⟩
theorem snd_test {t : TE} (h : SndE cv W t f) : SndT cv W (tTest t) (tVal f) := by
  intro O σ ρ H Q R p
  refine h O σ ρ H _ R ?_
  unfold tVal at p
  cases ea : f ρ with
  | no => rw [ea] at p; exact p
  | er c => rw [ea] at p; exact p
  | ok d =>
    rw [ea, Rs.bind_ok] at p
    intro v H2 x q
    cases q with
    | bl k => exact ⟨k, rfl, p H2 x⟩
    | _ => exact p.elim
theorem t_cmpR {op : CmpOp} {r : R2} {g : D → D → Rs D} (ho : ∀ j, OpR (Xs j) (compareOp op) r) (hg : OpE r g) (hn : Noer g) (hm : behindInMarks op b = false) (ha : EB cv W Xs a fa) (hb : EB cv W Xs b fb) : ET cv W Xs (.Compare a [op] [b] pos) (tVal (ap2 g fa fb)) := by
  obtain ⟨ta, h1, h2⟩ := ha
  obtain ⟨tb, h3, h4⟩ := hb
  exact ⟨_, fun j => pt_cmpR (ho j) (h1 j) (h3 j) hm, snd_test (snd_op h2 h4 hg hn)⟩
theorem snd_chain {ta tb tc : TE} {r r' : R2} {g g' : D → D → Rs D} (ha : SndB cv W ta fa) (hb : SndB cv W tb fb) (hc : SndB cv W tc fc) (ho : OpE r g) (hn : Noer g) (ho' : OpE r' g') (hn' : Noer g') : SndE cv W (tChain r r' ta tb tc) (fChain g g' fa fb fc) := by
  intro O σ ρ H Q R p
  refine ha O σ ρ H _ R ?_
  unfold fChain at p
  cases ea : fa ρ with
  | no => rw [ea] at p; exact p
  | er c => rw [ea] at p; exact p
  | ok d =>
    rw [ea] at p
    intro x H1 x1 q1
    refine hb O σ ρ H1 _ (R.mono x1) ?_
    rw [Rs.bind_ok] at p
    cases eb : fb ρ with
    | no => rw [eb] at p; exact p
    | er c => rw [eb] at p; exact fun H2 x2 => p H2 (x1.trans x2)
    | ok e =>
      rw [eb, Rs.bind_ok] at p
      intro y H2 x2 q2
      refine ho O x y H2 _ d e ((R.mono x1).mono x2).od (q1.mono x2) q2 ?_
      cases eg : g d e with
      | no => rw [eg] at p; exact p
      | er c => exact absurd eg (hn d e c)
      | ok z =>
        rw [eg, Rs.bind_ok] at p
        intro v H3 x3 q3
        cases q3 with
        | bl kk =>
          refine ⟨kk, rfl, ?_⟩
          unfold dBool at p
          rw [Rs.bind_ok] at p
          cases kk with
          | false =>
            rw [if_neg (by decide)] at p ⊢
            exact p _ H3 ((x1.trans x2).trans x3) (.bl false)
          | true =>
            rw [if_pos rfl] at p ⊢
            refine hc O σ ρ H3 _ (((R.mono x1).mono x2).mono x3) ?_
            cases ec : fc ρ with
            | no => rw [ec] at p; exact p
            | er c => rw [ec] at p; exact fun H4 x4 => p H4 (((x1.trans x2).trans x3).trans x4)
            | ok u =>
              rw [ec, Rs.bind_ok] at p
              intro w' H4 x4 q4
              refine ho' O y w' H4 _ e u ((((R.mono x1).mono x2).mono x3).mono x4).od ((q2.mono x3).mono x4) q4 ?_
              cases eg' : g' e u with
              | no => rw [eg'] at p; exact p
              | er c => exact absurd eg' (hn' e u c)
              | ok z' => rw [eg'] at p; exact fun v H5 x5 q5 => p v H5 ((((x1.trans x2).trans x3).trans x4).trans x5) q5
        | _ => exact p.elim
theorem e_chain {op op' : CmpOp} {r r' : R2} {g g' : D → D → Rs D} (ho : ∀ j, OpR (Xs j) (compareOp op) r) (hg : OpE r g) (hn : Noer g) (ho' : ∀ j, OpR (Xs j) (compareOp op') r') (hg' : OpE r' g') (hn' : Noer g') (ha : EB cv W Xs a fa) (hb : EB cv W Xs b fb) (hc : EB cv W Xs c fc)
    (hm : lastMarks [op, op'] [b, c] = false := by with_unfolding_all rfl) : EE cv W Xs (.Compare a [op, op'] [b, c] pos) (fChain g g' fa fb fc) := by
  obtain ⟨ta, h1, h2⟩ := ha
  obtain ⟨tb, h3, h4⟩ := hb
  obtain ⟨tc, h5, h6⟩ := hc
  exact ⟨_, fun j => pe_chain (ho j) (ho' j) (h1 j) (h3 j) (h5 j) hm, snd_chain h2 h4 h6 hg hn hg' hn'⟩
theorem t_chain {op op' : CmpOp} {r r' : R2} {g g' : D → D → Rs D} (ho : ∀ j, OpR (Xs j) (compareOp op) r) (hg : OpE r g) (hn : Noer g) (ho' : ∀ j, OpR (Xs j) (compareOp op') r') (hg' : OpE r' g') (hn' : Noer g') (ha : EB cv W Xs a fa) (hb : EB cv W Xs b fb) (hc : EB cv W Xs c fc)
    (hm : lastMarks [op, op'] [b, c] = false := by with_unfolding_all rfl) : ET cv W Xs (.Compare a [op, op'] [b, c] pos) (tVal (fChain g g' fa fb fc)) := by
  obtain ⟨ta, h1, h2⟩ := ha
  obtain ⟨tb, h3, h4⟩ := hb
  obtain ⟨tc, h5, h6⟩ := hc
  exact ⟨_, fun j => pt_chain (ho j) (ho' j) (h1 j) (h3 j) (h5 j) hm, snd_test (snd_chain h2 h4 h6 hg hn hg' hn')⟩

/-! ### tests -/
theorem t_val (h : EE cv W Xs e f) (he : ∀ env whole, isTrue e env whole = (do let v ← whole; standAt e.pos; holding [v] (truthy v)) := by intro _ _; rfl) : ET cv W Xs e (tVal f) := by
  obtain ⟨t, h1, h2⟩ := h
  exact ⟨_, fun j => pt_val (h1 j) (he _), snd_test h2⟩
variable {ft fu : En → Rs Bool} {rest : List Expr}
theorem EW.tt (h : EW cv W Xs e ft) : ET cv W Xs e ft := by
  obtain ⟨t, h1, h2⟩ := h
  exact ⟨t, fun j => (h1 j).pt, h2⟩
theorem snd_and {t u : TT} (h1 : SndT cv W t ft) (h2 : SndT cv W u fu) : SndT cv W (tAnd t u) (tAn ft fu) := by
  intro O σ ρ H Q R p
  refine h1 O σ ρ H _ R ?_
  unfold tAn at p
  cases ea : ft ρ with
  | no => rw [ea] at p; exact p
  | er c => rw [ea] at p; exact p
  | ok d =>
    rw [ea, Rs.bind_ok] at p
    intro H1 x1
    cases d with
    | false => rw [if_neg (by decide)] at p ⊢; exact p H1 x1
    | true =>
      rw [if_pos rfl] at p ⊢
      refine h2 O σ ρ H1 _ (R.mono x1) ?_
      cases eb : fu ρ with
      | no => rw [eb] at p; exact p
      | er c => rw [eb] at p; exact fun H2 x2 => p H2 (x1.trans x2)
      | ok e => rw [eb] at p; exact fun H2 x2 => p H2 (x1.trans x2)
theorem snd_or {t u : TT} (h1 : SndT cv W t ft) (h2 : SndT cv W u fu) : SndT cv W (tOr t u) (tOrr ft fu) := by
  intro O σ ρ H Q R p
  refine h1 O σ ρ H _ R ?_
  unfold tOrr at p
  cases ea : ft ρ with
  | no => rw [ea] at p; exact p
  | er c => rw [ea] at p; exact p
  | ok d =>
    rw [ea, Rs.bind_ok] at p
    intro H1 x1
    cases d with
    | true => rw [if_pos rfl] at p ⊢; exact p H1 x1
    | false =>
      rw [if_neg (by decide)] at p ⊢
      refine h2 O σ ρ H1 _ (R.mono x1) ?_
      cases eb : fu ρ with
      | no => rw [eb] at p; exact p
      | er c => rw [eb] at p; exact fun H2 x2 => p H2 (x1.trans x2)
      | ok e => rw [eb] at p; exact fun H2 x2 => p H2 (x1.trans x2)
theorem w_and1 (h : ET cv W Xs a ft) : EW cv W Xs (.BoolOp .And [a] pos) ft := by
  obtain ⟨t, h1, h2⟩ := h
  exact ⟨t, fun j => pw_and1 (h1 j), h2⟩
theorem w_or1 (h : ET cv W Xs a ft) : EW cv W Xs (.BoolOp .Or [a] pos) ft := by
  obtain ⟨t, h1, h2⟩ := h
  exact ⟨t, fun j => pw_or1 (h1 j), h2⟩
theorem w_and (h : ET cv W Xs a ft) (hr : EW cv W Xs (.BoolOp .And (b :: rest) pos) fu) : EW cv W Xs (.BoolOp .And (a :: b :: rest) pos) (tAn ft fu) := by
  obtain ⟨t, h1, h2⟩ := h
  obtain ⟨u, h3, h4⟩ := hr
  exact ⟨_, fun j => pw_and (h1 j) (h3 j), snd_and h2 h4⟩
theorem w_or (h : ET cv W Xs a ft) (hr : EW cv W Xs (.BoolOp .Or (b :: rest) pos) fu) : EW cv W Xs (.BoolOp .Or (a :: b :: rest) pos) (tOrr ft fu) := by
  obtain ⟨t, h1, h2⟩ := h
  obtain ⟨u, h3, h4⟩ := hr
  exact ⟨_, fun j => pw_or (h1 j) (h3 j), snd_or h2 h4⟩
theorem t_not (h : ET cv W Xs a ft) : ET cv W Xs (.UnaryOp .Not a pos) (tNt ft) := by
  obtain ⟨t, h1, h2⟩ := h
  refine ⟨_, fun j => pt_not (h1 j), fun O σ ρ H Q R p => h2 O σ ρ H _ R ?_⟩
  unfold tNt at p
  cases ea : ft ρ with
  | no => rw [ea] at p; exact p
  | er c => rw [ea] at p; exact p
  | ok d => rw [ea] at p; exact p

/-! ### and, or, not as values -/
theorem e_one {op} (h : EE cv W Xs a fa) : EE cv W Xs (.BoolOp op [a] pos) fa := by
  obtain ⟨t, h1, h2⟩ := h
  exact ⟨t, fun j => pe_one (h1 j), h2⟩
theorem e_and (ha : EE cv W Xs a fa) (hb : EE cv W Xs (.BoolOp .And (b :: rest) pos) fb) : EE cv W Xs (.BoolOp .And (a :: b :: rest) pos) (fAnd fa fb) := by
  obtain ⟨ta, h1, h2⟩ := ha
  obtain ⟨tb, h3, h4⟩ := hb
  refine ⟨_, fun j => pe_and (h1 j) (h3 j), fun O σ ρ H Q R p => h2 O σ ρ H _ R ?_⟩
  unfold fAnd at p
  cases ea : fa ρ with
  | no => rw [ea] at p; exact p
  | er c => rw [ea] at p; exact p
  | ok d =>
    rw [ea, Rs.bind_ok] at p
    intro x H1 x1 q1
    cases q1 with
    | bl kk =>
      refine ⟨kk, rfl, ?_⟩
      unfold dBool at p
      rw [Rs.bind_ok] at p
      cases kk with
      | false => rw [if_neg (by decide)] at p ⊢; exact p _ H1 x1 (.bl false)
      | true =>
        rw [if_pos rfl] at p ⊢
        refine h4 O σ ρ H1 _ (R.mono x1) ?_
        cases eb : fb ρ with
        | no => rw [eb] at p; exact p
        | er c => rw [eb] at p; exact fun H2 x2 => p H2 (x1.trans x2)
        | ok e => rw [eb] at p; exact fun v H2 x2 q => p v H2 (x1.trans x2) q
    | _ => exact p.elim
theorem e_or (ha : EE cv W Xs a fa) (hb : EE cv W Xs (.BoolOp .Or (b :: rest) pos) fb) : EE cv W Xs (.BoolOp .Or (a :: b :: rest) pos) (fOr fa fb) := by
  obtain ⟨ta, h1, h2⟩ := ha
  obtain ⟨tb, h3, h4⟩ := hb
  refine ⟨_, fun j => pe_or (h1 j) (h3 j), fun O σ ρ H Q R p => h2 O σ ρ H _ R ?_⟩
  unfold fOr at p
  cases ea : fa ρ with
  | no => rw [ea] at p; exact p
  | er c => rw [ea] at p; exact p
  | ok d =>
    rw [ea, Rs.bind_ok] at p
    intro x H1 x1 q1
    cases q1 with
    | bl kk =>
      refine ⟨kk, rfl, ?_⟩
      unfold dBool at p
      rw [Rs.bind_ok] at p
      cases kk with
      | true => rw [if_pos rfl] at p ⊢; exact p _ H1 x1 (.bl true)
      | false =>
        rw [if_neg (by decide)] at p ⊢
        refine h4 O σ ρ H1 _ (R.mono x1) ?_
        cases eb : fb ρ with
        | no => rw [eb] at p; exact p
        | er c => rw [eb] at p; exact fun H2 x2 => p H2 (x1.trans x2)
        | ok e => rw [eb] at p; exact fun v H2 x2 q => p v H2 (x1.trans x2) q
    | _ => exact p.elim
theorem e_not (ha : EE cv W Xs a fa) : EE cv W Xs (.UnaryOp .Not a pos) (fNot fa) := by
  obtain ⟨ta, h1, h2⟩ := ha
  refine ⟨_, fun j => pe_not (h1 j), fun O σ ρ H Q R p => h2 O σ ρ H _ R ?_⟩
  unfold fNot at p
  cases ea : fa ρ with
  | no => rw [ea] at p; exact p
  | er c => rw [ea] at p; exact p
  | ok d =>
    rw [ea, Rs.bind_ok] at p
    intro x H1 x1 q1
    cases q1 with
    | bl kk => exact ⟨kk, rfl, p _ H1 x1 (.bl _)⟩
    | _ => exact p.elim
theorem e_ifx (hc : ET cv W Xs c ft) (ha : EE cv W Xs a fa) (hb : EE cv W Xs b fb) : EE cv W Xs (.IfExp c a b pos) (fIf ft fa fb) := by
  obtain ⟨tc, h5, h6⟩ := hc
  obtain ⟨ta, h1, h2⟩ := ha
  obtain ⟨tb, h3, h4⟩ := hb
  refine ⟨_, fun j => pe_ifExp (h5 j) (h1 j) (h3 j), fun O σ ρ H Q R p => h6 O σ ρ H _ R ?_⟩
  unfold fIf at p
  cases ea : ft ρ with
  | no => rw [ea] at p; exact p
  | er c => rw [ea] at p; exact p
  | ok d =>
    rw [ea, Rs.bind_ok] at p
    intro H1 x1
    cases d with
    | true =>
      rw [if_pos rfl] at p ⊢
      refine h2 O σ ρ H1 _ (R.mono x1) ?_
      cases eb : fa ρ with
      | no => rw [eb] at p; exact p
      | er c => rw [eb] at p; exact fun H2 x2 => p H2 (x1.trans x2)
      | ok e => rw [eb] at p; exact fun v H2 x2 q => p v H2 (x1.trans x2) q
    | false =>
      rw [if_neg (by decide)] at p ⊢
      refine h4 O σ ρ H1 _ (R.mono x1) ?_
      cases eb : fb ρ with
      | no => rw [eb] at p; exact p
      | er c => rw [eb] at p; exact fun H2 x2 => p H2 (x1.trans x2)
      | ok e => rw [eb] at p; exact fun v H2 x2 q => p v H2 (x1.trans x2) q
theorem e_ifxF (hc : ET cv W Xs c ft) (ha : EF cv W Xs a fa) (hb : EF cv W Xs b fb) : EF cv W Xs (.IfExp c a b pos) (fIf ft fa fb) := by
  obtain ⟨tc, h5, h6⟩ := hc
  obtain ⟨ta, h1, h2⟩ := ha
  obtain ⟨tb, h3, h4⟩ := hb
  refine ⟨_, fun j => pe_ifExp (h5 j) (h1 j) (h3 j), fun O σ ρ H Q R p => h6 O σ ρ H _ R ?_⟩
  unfold fIf at p
  cases ea : ft ρ with
  | no => rw [ea] at p; exact p
  | er c => rw [ea] at p; exact p
  | ok d =>
    rw [ea, Rs.bind_ok] at p
    intro H1 x1
    cases d with
    | true =>
      rw [if_pos rfl] at p ⊢
      refine h2 O σ ρ H1 _ (R.mono x1) ?_
      cases eb : fa ρ with
      | no => rw [eb] at p; exact p
      | er c => rw [eb] at p; exact fun H2 x2 => p H2 (x1.trans x2)
      | ok e => rw [eb] at p; exact fun q vs ds H2 e1 x2 n1 => p q vs ds H2 e1 (x1.trans x2) (x1.free n1)
    | false =>
      rw [if_neg (by decide)] at p ⊢
      refine h4 O σ ρ H1 _ (R.mono x1) ?_
      cases eb : fb ρ with
      | no => rw [eb] at p; exact p
      | er c => rw [eb] at p; exact fun H2 x2 => p H2 (x1.trans x2)
      | ok e => rw [eb] at p; exact fun q vs ds H2 e1 x2 n1 => p q vs ds H2 e1 (x1.trans x2) (x1.free n1)

/-! ### arguments -/
variable {es : List Expr} {fs : En → Rs (List D)}
theorem a_nil : EA cv W Xs [] fNil := ⟨tNil, fun _ => pa_nil, fun O σ ρ H Q R p => p [] H (Ex.refl H) .nil⟩
theorem a_cons (h : EE cv W Xs e f) (hr : EA cv W Xs es fs) (hs : ∀ env, starEach (e :: es) env = (false, eval e env) :: starEach es env := by intro _; rfl) : EA cv W Xs (e :: es) (fCons f fs) := by
  obtain ⟨t, h1, h2⟩ := h
  obtain ⟨u, h3, h4⟩ := hr
  refine ⟨_, fun j => pa_cons (h1 j) (h3 j) (hs _), fun O σ ρ H Q R p => h2 O σ ρ H _ R ?_⟩
  unfold fCons at p
  cases ea : f ρ with
  | no => rw [ea] at p; exact p
  | er c => rw [ea] at p; exact p
  | ok d =>
    rw [ea, Rs.bind_ok] at p
    intro x H1 x1 q1
    refine h4 O σ ρ H1 _ (R.mono x1) ?_
    cases eb : fs ρ with
    | no => rw [eb] at p; exact p
    | er c => rw [eb] at p; exact fun H2 x2 => p H2 (x1.trans x2)
    | ok ds => rw [eb] at p; exact fun vs H2 x2 q2 => p (x :: vs) H2 (x1.trans x2) (.cons (q1.mono (hide_ex x2)) q2)
theorem ab_nil : EAB cv W Xs [] fNil := ⟨tNil, fun _ => pa_nil, fun O σ ρ H Q R p => p [] H (Ex.refl H) .nil⟩
theorem ab_cons (h : EB cv W Xs e f) (hr : EAB cv W Xs es fs) (hs : ∀ env, starEach (e :: es) env = (false, eval e env) :: starEach es env := by intro _; rfl) : EAB cv W Xs (e :: es) (fCons f fs) := by
  obtain ⟨t, h1, h2⟩ := h
  obtain ⟨u, h3, h4⟩ := hr
  refine ⟨_, fun j => pa_cons (h1 j) (h3 j) (hs _), fun O σ ρ H Q R p => h2 O σ ρ H _ R ?_⟩
  unfold fCons at p
  cases ea : f ρ with
  | no => rw [ea] at p; exact p
  | er c => rw [ea] at p; exact p
  | ok d =>
    rw [ea, Rs.bind_ok] at p
    intro x H1 x1 q1
    refine h4 O σ ρ H1 _ (R.mono x1) ?_
    cases eb : fs ρ with
    | no => rw [eb] at p; exact p
    | er c => rw [eb] at p; exact fun H2 x2 => p H2 (x1.trans x2)
    | ok ds => rw [eb] at p; exact fun vs H2 x2 q2 => p (x :: vs) H2 (x1.trans x2) (.cons (q1.mono x2) q2)
theorem lim_size {n : Nat} (h : n ≤ LIM) : n ≤ sizeLine := Nat.le_trans h (by decide)
theorem lim_lt {n : Nat} (h : n < LIM) : n < sizeLine := Nat.lt_of_lt_of_le h (by decide)
/-- [a, b, ..] -/
theorem e_lst (h : EA cv W Xs es fs) : EF cv W Xs (.List es pos) (apL dLst fs) := by
  obtain ⟨t, h1, h2⟩ := h
  refine ⟨_, fun j => pe_lst (h1 j), fun O σ ρ H Q R p => h2 O σ ρ H _ R ?_⟩
  unfold apL at p
  cases ea : fs ρ with
  | no => rw [ea] at p; exact p
  | er c => rw [ea] at p; exact p
  | ok ds =>
    rw [ea, Rs.bind_ok] at p
    intro vs H1 x1 q1
    unfold dLst at p
    by_cases hl : ds.length ≤ LIM
    · rw [if_pos hl] at p
      refine ⟨by rw [q1.length]; exact lim_size hl, fun q hq => ?_⟩
      exact p q vs ds _ rfl (x1.trans (Ex.new hq)) (x1.free hq) upd_same (q1.mono (hide_new hq))
    · rw [if_neg hl] at p
      exact p.elim
/-- (a, b, ..) -/
theorem e_tup (h : EA cv W Xs es fs) {x1} : EE cv W Xs (.Tuple es x1 pos) (apL dTup fs) := by
  obtain ⟨t, h1, h2⟩ := h
  refine ⟨_, fun j => pe_tup (h1 j), fun O σ ρ H Q R p => h2 O σ ρ H _ R ?_⟩
  unfold apL at p
  cases ea : fs ρ with
  | no => rw [ea] at p; exact p
  | er c => rw [ea] at p; exact p
  | ok ds =>
    rw [ea, Rs.bind_ok] at p
    intro vs H1 x1 q1
    unfold dTup at p
    by_cases hl : ds.length ≤ LIM
    · rw [if_pos hl] at p
      refine ⟨by rw [q1.length]; exact lim_size hl, fun q hq => ?_⟩
      refine p _ _ (x1.trans (Ex.new hq)) (.tup (hide_some.mpr ⟨(R.mono x1).fresh hq, upd_same⟩) (q1.mono (hide_ex (Ex.new hq))))
    · rw [if_neg hl] at p
      exact p.elim

/-! ### calls of built-ins by values -/
def ClE (r : List V → Hp → VK → Prop) (g : List D → Rs D) : Prop := ∀ O vs H Q ds, (∀ a ∈ O, H a ≠ none) → DBAll O H vs ds → OkE O H Q (g ds) → r vs H Q
def ClF (r : List V → Hp → VK → Prop) (g : List D → Rs D) : Prop := ∀ O vs H Q ds, (∀ a ∈ O, H a ≠ none) → DBAll O H vs ds → OkF O H Q (g ds) → r vs H Q
def Noer1 {α : Type} (g : α → Rs D) : Prop := ∀ x c, g x ≠ .er c
theorem snd_cb {r : List V → Hp → VK → Prop} {t : TA} {g : List D → Rs D} (h : SndAB cv W t fs) (hr : ClE r g) (hn : Noer1 g) : SndE cv W (tCB r t) (apL g fs) := by
  intro O σ ρ H Q R p
  refine h O σ ρ H _ R ?_
  unfold apL at p
  cases ea : fs ρ with
  | no => rw [ea] at p; exact p
  | er c => rw [ea] at p; exact p
  | ok ds =>
    rw [ea, Rs.bind_ok] at p
    intro vs H1 x1 q1
    refine hr O vs H1 Q ds (R.mono x1).od q1 ?_
    cases eg : g ds with
    | no => rw [eg] at p; exact p
    | er c => exact absurd eg (hn ds c)
    | ok z => rw [eg] at p; exact fun v H2 x2 q2 => p v H2 (x1.trans x2) q2
theorem snd_cbF {r : List V → Hp → VK → Prop} {t : TA} {g : List D → Rs D} (h : SndAB cv W t fs) (hr : ClF r g) (hn : Noer1 g) : SndF cv W (tCB r t) (apL g fs) := by
  intro O σ ρ H Q R p
  refine h O σ ρ H _ R ?_
  unfold apL at p
  cases ea : fs ρ with
  | no => rw [ea] at p; exact p
  | er c => rw [ea] at p; exact p
  | ok ds =>
    rw [ea, Rs.bind_ok] at p
    intro vs H1 x1 q1
    refine hr O vs H1 Q ds (R.mono x1).od q1 ?_
    cases eg : g ds with
    | no => rw [eg] at p; exact p
    | er c => exact absurd eg (hn ds c)
    | ok z => rw [eg] at p; exact fun q vs' ds' H2 e1 x2 n1 h2 q2 => p q vs' ds' H2 e1 (x1.trans x2) (x1.free n1) h2 q2
theorem e_callB (F : Fam Xs P w K mg base N sc fnn k) {x : Str} {id : String} {r : List V → Hp → VK → Prop} {g : List D → Rs D} {p : Pos} (hc : ∀ j, CallR (Xs j) (.builtin id) r) (hr : ClE r g) (hn : Noer1 g) (hm : mg x = none) (hv : bootBuiltins x = some (.builtin id)) (ha : EAB cv W Xs (e :: es) fs)
    (hg : glB sc x = true := by decide +kernel) (hn1 : x ≠ "__name__" := by decide) (hdb : (x == ("__debug__" : Str)) = false := by decide)
    (he : ∀ env, starEach (e :: es) env = (false, eval e env) :: starEach es env := by intro _; rfl) (hpl : ∀ env, (backTo pos (starEach es env)).any (·.1) = false := by intro _; rfl) : EE cv W Xs (.Call (.Name x p) (e :: es) [] pos) (apL g fs) := by
  obtain ⟨t, h1, h2⟩ := ha
  exact ⟨_, fun j => pe_callB (hc j) (F.gl_ok hg j) (F.none hm j) hv (h1 j) hn1 hdb (he _) (hpl _), snd_cb h2 hr hn⟩
theorem e_callTy (F : Fam Xs P w K mg base N sc fnn k) {x : Str} {T : String} {r : List V → Hp → VK → Prop} {g : List D → Rs D} {p : Pos} (hc : ∀ j, CallR (Xs j) (.type T) r) (hr : ClE r g) (hn : Noer1 g) (hm : mg x = none) (hv : bootBuiltins x = some (.type T)) (ha : EAB cv W Xs (e :: es) fs)
    (hg : glB sc x = true := by decide +kernel) (hn1 : x ≠ "__name__" := by decide) (hdb : (x == ("__debug__" : Str)) = false := by decide)
    (he : ∀ env, starEach (e :: es) env = (false, eval e env) :: starEach es env := by intro _; rfl) (hpl : ∀ env, (backTo pos (starEach es env)).any (·.1) = false := by intro _; rfl) : EE cv W Xs (.Call (.Name x p) (e :: es) [] pos) (apL g fs) := by
  obtain ⟨t, h1, h2⟩ := ha
  exact ⟨_, fun j => pe_callTy (hc j) (F.gl_ok hg j) (F.none hm j) hv (h1 j) hn1 hdb (he _) (hpl _), snd_cb h2 hr hn⟩
theorem e_callBF (F : Fam Xs P w K mg base N sc fnn k) {x : Str} {id : String} {r : List V → Hp → VK → Prop} {g : List D → Rs D} {p : Pos} (hc : ∀ j, CallR (Xs j) (.builtin id) r) (hr : ClF r g) (hn : Noer1 g) (hm : mg x = none) (hv : bootBuiltins x = some (.builtin id)) (ha : EAB cv W Xs (e :: es) fs)
    (hg : glB sc x = true := by decide +kernel) (hn1 : x ≠ "__name__" := by decide) (hdb : (x == ("__debug__" : Str)) = false := by decide)
    (he : ∀ env, starEach (e :: es) env = (false, eval e env) :: starEach es env := by intro _; rfl) (hpl : ∀ env, (backTo pos (starEach es env)).any (·.1) = false := by intro _; rfl) : EF cv W Xs (.Call (.Name x p) (e :: es) [] pos) (apL g fs) := by
  obtain ⟨t, h1, h2⟩ := ha
  exact ⟨_, fun j => pe_callB (hc j) (F.gl_ok hg j) (F.none hm j) hv (h1 j) hn1 hdb (he _) (hpl _), snd_cbF h2 hr hn⟩
theorem e_callTyF (F : Fam Xs P w K mg base N sc fnn k) {x : Str} {T : String} {r : List V → Hp → VK → Prop} {g : List D → Rs D} {p : Pos} (hc : ∀ j, CallR (Xs j) (.type T) r) (hr : ClF r g) (hn : Noer1 g) (hm : mg x = none) (hv : bootBuiltins x = some (.type T)) (ha : EAB cv W Xs (e :: es) fs)
    (hg : glB sc x = true := by decide +kernel) (hn1 : x ≠ "__name__" := by decide) (hdb : (x == ("__debug__" : Str)) = false := by decide)
    (he : ∀ env, starEach (e :: es) env = (false, eval e env) :: starEach es env := by intro _; rfl) (hpl : ∀ env, (backTo pos (starEach es env)).any (·.1) = false := by intro _; rfl) : EF cv W Xs (.Call (.Name x p) (e :: es) [] pos) (apL g fs) := by
  obtain ⟨t, h1, h2⟩ := ha
  exact ⟨_, fun j => pe_callTy (hc j) (F.gl_ok hg j) (F.none hm j) hv (h1 j) hn1 hdb (he _) (hpl _), snd_cbF h2 hr hn⟩
end
end DL

namespace DL
open PySem L2
variable [SC]
section
variable {ι : Type} {cv : Nat → Value} {W : WX} {Xs : ι → Cx} {P : Program} {w : World} {K : PySem.W.Frag} {mg : Str → Option Value} {base : Heap} {N : List Str} {sc : Scope} {fnn : Str → Bool} {k : Nat}
variable {e a b c : Expr} {f fa fb fc : En → Rs D} {pos : Pos}

/-! ### arithmetic -/
theorem ope_I0 {g : D → D → Rs D} {h : Int → Int → V} {hd : Int → Int → D} (hg : ∀ i j, g (.int i) (.int j) = .ok (hd i j)) (hq : ∀ H i j, Dq H (h i j) (hd i j)) (hno : ∀ d e, (∀ i j, ¬ (d = .int i ∧ e = .int j)) → g d e = .no) : OpE (rI0 h) g := by
  intro O x y H Q d e od hx hy p
  by_cases hh : ∃ i j, d = .int i ∧ e = .int j
  · obtain ⟨i, j, rfl, rfl⟩ := hh
    rw [hg] at p
    exact ⟨i, j, hx.int, hy.int, p _ H (Ex.refl H) (hq _ i j)⟩
  · rw [hno d e (fun i j q => hh ⟨i, j, q⟩)] at p
    exact p.elim
theorem noer_of {α β : Type} {g : α → β → Rs D} (h : ∀ x y c, g x y ≠ .er c) : Noer g := h
theorem dSub_no : ∀ d e : D, (∀ i j, ¬ (d = .int i ∧ e = .int j)) → dSub d e = .no := by
  intro d e h
  unfold dSub
  split
  · exact absurd ⟨rfl, rfl⟩ (h _ _)
  · rfl
theorem dLt_no : ∀ d e : D, (∀ i j, ¬ (d = .int i ∧ e = .int j)) → dLt d e = .no := by
  intro d e h
  unfold dLt
  split
  · exact absurd ⟨rfl, rfl⟩ (h _ _)
  · rfl
theorem dLe_no : ∀ d e : D, (∀ i j, ¬ (d = .int i ∧ e = .int j)) → dLe d e = .no := by
  intro d e h
  unfold dLe
  split
  · exact absurd ⟨rfl, rfl⟩ (h _ _)
  · rfl
theorem dGt_no : ∀ d e : D, (∀ i j, ¬ (d = .int i ∧ e = .int j)) → dGt d e = .no := by
  intro d e h
  unfold dGt
  split
  · exact absurd ⟨rfl, rfl⟩ (h _ _)
  · rfl
theorem dGe_no : ∀ d e : D, (∀ i j, ¬ (d = .int i ∧ e = .int j)) → dGe d e = .no := by
  intro d e h
  unfold dGe
  split
  · exact absurd ⟨rfl, rfl⟩ (h _ _)
  · rfl
theorem ope_sub : OpE (rI0 fun i j => .int (i - j)) dSub := ope_I0 (hd := fun i j => .int (i - j)) (fun _ _ => rfl) (fun _ _ _ => .int _) dSub_no
theorem ope_lt : OpE (rI0 fun i j => .bl (decide (i < j))) dLt := ope_I0 (hd := fun i j => .bool (decide (i < j))) (fun _ _ => rfl) (fun _ _ _ => .bl _) dLt_no
theorem ope_le : OpE (rI0 fun i j => .bl (decide (i ≤ j))) dLe := ope_I0 (hd := fun i j => .bool (decide (i ≤ j))) (fun _ _ => rfl) (fun _ _ _ => .bl _) dLe_no
theorem ope_gt : OpE (rI0 fun i j => .bl (decide (j < i))) dGt := ope_I0 (hd := fun i j => .bool (decide (j < i))) (fun _ _ => rfl) (fun _ _ _ => .bl _) dGt_no
theorem ope_ge : OpE (rI0 fun i j => .bl (decide (j ≤ i))) dGe := ope_I0 (hd := fun i j => .bool (decide (j ≤ i))) (fun _ _ => rfl) (fun _ _ _ => .bl _) dGe_no
theorem noer_sub : Noer dSub := fun x y c => by unfold dSub; split <;> simp
theorem noer_lt : Noer dLt := fun x y c => by unfold dLt; split <;> simp
theorem noer_le : Noer dLe := fun x y c => by unfold dLe; split <;> simp
theorem noer_gt : Noer dGt := fun x y c => by unfold dGt; split <;> simp
theorem noer_ge : Noer dGe := fun x y c => by unfold dGe; split <;> simp
theorem noer_add : Noer dAdd := fun x y c => by unfold dAdd; split <;> (try split) <;> simp
theorem noer_mul : Noer dMul := fun x y c => by unfold dMul; split <;> (try split) <;> simp
theorem noer_fdiv : Noer dFdiv := fun x y c => by unfold dFdiv; split <;> (try split) <;> simp
theorem noer_mod : Noer dMod := fun x y c => by unfold dMod; split <;> (try split) <;> simp
theorem noer_pow : Noer dPow := fun x y c => by unfold dPow; split <;> (try split) <;> simp
theorem noer_eq : Noer dEq := fun x y c => by unfold dEq; split <;> simp
theorem noer_ne : Noer dNe := fun x y c => by unfold dNe; split <;> simp
theorem noer_in : Noer dIn := fun x y c => by unfold dIn; split <;> (try split) <;> simp
theorem noer_ix : Noer dIx := fun x y c => by unfold dIx; split <;> (try split) <;> (try split) <;> simp
theorem noer_isN : Noer dIsN := fun x y c => by unfold dIsN; split <;> simp
theorem noer_not {r : Rs D} (h : ∀ c, r ≠ .er c) (c : Nat) : r.bind dNot ≠ .er c := by
  cases r with
  | ok d => unfold dNot; rw [Rs.bind_ok]; split <;> simp
  | er c' => exact absurd rfl (h c')
  | no => simp
theorem noer_notIn : Noer dNotIn := fun x y c => noer_not (noer_in x y) c
theorem noer_isNotN : Noer dIsNotN := fun x y c => noer_not (noer_isN x y) c

theorem dMul_int {i j : Int} : dMul (.int i) (.int j) = if (-(2 ^ 64) < i ∧ i < 2 ^ 64) ∨ (-(2 ^ 64) < j ∧ j < 2 ^ 64) then .ok (.int (i * j)) else .no := rfl
def rAddA (K : PySem.W.Frag) : R2 := fun x y H Q => rI0 (fun i j => .int (i + j)) x y H Q ∨ ((∃ i j, x = .str i ∧ y = .str j ∧ i.length + j.length ≤ sizeLine ∧ Q (.str (i ++ j)) H) ∨ (rCat x y H Q ∨ rCatA K x y H Q))
theorem ope_add : OpE (rAddA K) dAdd := by
  intro O x y H Q d e od hx hy p
  unfold dAdd at p
  split at p
  · exact .inl ⟨_, _, hx.int, hy.int, p _ H (Ex.refl H) (.int _)⟩
  · split at p
    · exact .inr (.inl ⟨_, _, hx.str, hy.str, lim_size ‹_›, p _ H (Ex.refl H) (.str _)⟩)
    · exact p.elim
  · split at p
    · obtain ⟨l, vs, rfl, h1, h2⟩ := hx.list
      obtain ⟨m, ws, rfl, h3, h4⟩ := hy.list
      refine .inr (.inr (.inl ⟨l, m, vs, ws, rfl, rfl, h1, h3, by rw [h2.length, h4.length]; exact lim_size ‹_›, fun q hq => ?_⟩))
      refine p _ _ (Ex.new hq) (.lst (hide_some.mpr ⟨fun z => od q z hq, upd_same⟩) ((h2.append h4).mono (hide_ex (Ex.new hq))))
    · exact p.elim
  · split at p
    · obtain ⟨l, vs, rfl, h1, h2⟩ := hx.tuple
      obtain ⟨m, ws, rfl, h3, h4⟩ := hy.tuple
      refine .inr (.inr (.inr ⟨l, m, vs, ws, rfl, rfl, SqT.of h1.2, SqT.of h3.2, by rw [h2.length, h4.length]; exact lim_size ‹_›, fun z => ?_, fun _ z => ?_, fun _ _ q hq => ?_⟩))
      · subst z
        cases h2
        exact p _ H (Ex.refl H) (.tup (hide_some.mpr h3) h4)
      · subst z
        cases h4
        refine p _ H (Ex.refl H) ?_
        rw [List.append_nil]
        exact .tup (hide_some.mpr h1) h2
      · refine p _ _ (Ex.new hq) (.tup (hide_some.mpr ⟨fun z => od q z hq, upd_same⟩) ((h2.append h4).mono (hide_ex (Ex.new hq))))
    · exact p.elim
  · exact p.elim
theorem e_add (F : Fam Xs P w K mg base N sc fnn k) (ha : EB cv W Xs a fa) (hb : EB cv W Xs b fb) : EE cv W Xs (.BinOp a .Add b pos) (ap2 dAdd fa fb) :=
  e_op (r := rAddA K) (fun j => by
    have h := op_catA (X := Xs j)
    rw [F.kk j] at h
    exact op_add.or (op_add_str.or (op_cat.or h))) ope_add noer_add ha hb
def dCat : D → D → Rs D
  | .list xs, .list ys => if xs.length + ys.length ≤ LIM then .ok (.list (xs ++ ys)) else .no
  | _, _ => .no
theorem noer_cat : Noer dCat := fun x y c => by unfold dCat; split <;> (try split) <;> simp
theorem opf_cat : OpF rCat dCat := by
  intro O x y H Q d e od hx hy p
  unfold dCat at p
  split at p
  · split at p
    · obtain ⟨l, vs, rfl, h1, h2⟩ := hx.list
      obtain ⟨m, ws, rfl, h3, h4⟩ := hy.list
      refine ⟨l, m, vs, ws, rfl, rfl, h1, h3, by rw [h2.length, h4.length]; exact lim_size ‹_›, fun q hq => ?_⟩
      exact p q _ _ _ rfl (Ex.new hq) hq upd_same ((h2.append h4).mono (hide_new hq))
    · exact p.elim
  · exact p.elim
/-- a + b, two lists: a new one -/
theorem f_cat (ha : EB cv W Xs a fa) (hb : EB cv W Xs b fb) : EF cv W Xs (.BinOp a .Add b pos) (ap2 dCat fa fb) := e_opF (fun _ => op_cat) opf_cat noer_cat ha hb
theorem e_sub (ha : EB cv W Xs a fa) (hb : EB cv W Xs b fb) : EE cv W Xs (.BinOp a .Sub b pos) (ap2 dSub fa fb) := e_op (fun _ => op_sub) ope_sub noer_sub ha hb
def rMulA (K : PySem.W.Frag) : R2 := fun x y H Q => rI CMul (fun i j => .int (i * j)) x y H Q ∨ (rRep x y H Q ∨ rRepT K x y H Q)
theorem ope_mul : OpE (rMulA K) dMul := by
  intro O x y H Q d e od hx hy p
  unfold dMul at p
  split at p
  · split at p
    · exact .inl ⟨_, _, hx.int, hy.int, ‹_›, p _ H (Ex.refl H) (.int _)⟩
    · exact p.elim
  · split at p
    · obtain ⟨l, vs, rfl, h1, h2⟩ := hx.list
      rename_i hc
      refine .inr (.inl ⟨l, _, vs, rfl, hy.int, h1, hc.1, hc.2.1, by rw [h2.length]; exact lim_size hc.2.2, fun q hq => ?_⟩)
      refine p _ _ (Ex.new hq) (.lst (hide_some.mpr ⟨fun z => od q z hq, upd_same⟩) (h2.rep.mono (hide_ex (Ex.new hq))))
    · exact p.elim
  · split at p
    · obtain ⟨l, vs, rfl, h1, h2⟩ := hx.tuple
      rename_i hc
      refine .inr (.inr ⟨l, _, vs, rfl, hy.int, SqT.of h1.2, ?_, hc.2.1, hc.2.2.1, by rw [h2.length]; exact hc.2.2.2, fun q hq => ?_⟩)
      · intro z
        subst z
        cases h2
        exact hc.1 rfl
      · refine p _ _ (Ex.new hq) (.tup (hide_some.mpr ⟨fun z => od q z hq, upd_same⟩) (h2.rep.mono (hide_ex (Ex.new hq))))
    · exact p.elim
  · exact p.elim
theorem e_mul (F : Fam Xs P w K mg base N sc fnn k) (ha : EB cv W Xs a fa) (hb : EB cv W Xs b fb) : EE cv W Xs (.BinOp a .Mult b pos) (ap2 dMul fa fb) :=
  e_op (r := rMulA K) (fun j => by
    have h := op_repT (X := Xs j)
    rw [F.kk j] at h
    exact op_mul.or (op_rep.or h)) ope_mul noer_mul ha hb
def dRep : D → D → Rs D
  | .list xs, .int k => if -(2 ^ 63) ≤ k ∧ k < 2 ^ 63 ∧ xs.length * k.toNat ≤ LIM then .ok (.list (List.replicate k.toNat xs).flatten) else .no
  | _, _ => .no
theorem noer_rep : Noer dRep := fun x y c => by unfold dRep; split <;> (try split) <;> simp
theorem opf_rep : OpF rRep dRep := by
  intro O x y H Q d e od hx hy p
  unfold dRep at p
  split at p
  · split at p
    · obtain ⟨l, vs, rfl, h1, h2⟩ := hx.list
      rename_i hc
      refine ⟨l, _, vs, rfl, hy.int, h1, hc.1, hc.2.1, by rw [h2.length]; exact lim_size hc.2.2, fun q hq => ?_⟩
      exact p q _ _ _ rfl (Ex.new hq) hq upd_same (h2.rep.mono (hide_new hq))
    · exact p.elim
  · exact p.elim
/-- [x] * n: a new list -/
theorem f_rep (ha : EB cv W Xs a fa) (hb : EB cv W Xs b fb) : EF cv W Xs (.BinOp a .Mult b pos) (ap2 dRep fa fb) := e_opF (fun _ => op_rep) opf_rep noer_rep ha hb
theorem ope_fdiv : OpE (rI CDivN fun i j => .int (i.fdiv j)) dFdiv := by
  intro O x y H Q d e od hx hy p
  unfold dFdiv at p
  split at p
  · split at p
    · exact ⟨_, _, hx.int, hy.int, ‹_›, p _ H (Ex.refl H) (.int _)⟩
    · exact p.elim
  · exact p.elim
theorem e_fdiv (ha : EB cv W Xs a fa) (hb : EB cv W Xs b fb) : EE cv W Xs (.BinOp a .FloorDiv b pos) (ap2 dFdiv fa fb) := e_op (fun _ => op_fdivN) ope_fdiv noer_fdiv ha hb
theorem ope_mod : OpE (rI (fun _ j => j ≠ 0) fun i j => .int (i.fmod j)) dMod := by
  intro O x y H Q d e od hx hy p
  unfold dMod at p
  split at p
  · split at p
    · exact ⟨_, _, hx.int, hy.int, ‹_›, p _ H (Ex.refl H) (.int _)⟩
    · exact p.elim
  · exact p.elim
theorem e_mod (ha : EB cv W Xs a fa) (hb : EB cv W Xs b fb) : EE cv W Xs (.BinOp a .Mod b pos) (ap2 dMod fa fb) := e_op (fun _ => op_modN) ope_mod noer_mod ha hb
theorem e_neg (ha : EB cv W Xs a fa) : EE cv W Xs (.UnaryOp .USub a pos) (ap1 dNeg fa) := by
  obtain ⟨ta, h1, h2⟩ := ha
  refine ⟨_, fun j => pe_un un_neg (h1 j), fun O σ ρ H Q R p => h2 O σ ρ H _ R ?_⟩
  unfold ap1 at p
  cases ea : fa ρ with
  | no => rw [ea] at p; exact p
  | er c => rw [ea] at p; exact p
  | ok d =>
    rw [ea, Rs.bind_ok] at p
    intro v H1 x1 q1
    unfold dNeg at p
    split at p
    · exact ⟨_, q1.int, p _ H1 x1 (.int _)⟩
    · exact p.elim

/-! ### comparisons -/
theorem e_lt (ha : EB cv W Xs a fa) (hb : EB cv W Xs b fb) : EE cv W Xs (.Compare a [.Lt] [b] pos) (ap2 dLt fa fb) := e_cmpR (fun _ => op_lt) ope_lt noer_lt (nomark _) ha hb
theorem e_le (ha : EB cv W Xs a fa) (hb : EB cv W Xs b fb) : EE cv W Xs (.Compare a [.LtE] [b] pos) (ap2 dLe fa fb) := e_cmpR (fun _ => op_le) ope_le noer_le (nomark _) ha hb
theorem e_gt (ha : EB cv W Xs a fa) (hb : EB cv W Xs b fb) : EE cv W Xs (.Compare a [.Gt] [b] pos) (ap2 dGt fa fb) := e_cmpR (fun _ => op_gt) ope_gt noer_gt (nomark _) ha hb
theorem e_ge (ha : EB cv W Xs a fa) (hb : EB cv W Xs b fb) : EE cv W Xs (.Compare a [.GtE] [b] pos) (ap2 dGe fa fb) := e_cmpR (fun _ => op_ge) ope_ge noer_ge (nomark _) ha hb
theorem t_lt (ha : EB cv W Xs a fa) (hb : EB cv W Xs b fb) : ET cv W Xs (.Compare a [.Lt] [b] pos) (tVal (ap2 dLt fa fb)) := t_cmpR (fun _ => op_lt) ope_lt noer_lt (nomark _) ha hb
theorem t_le (ha : EB cv W Xs a fa) (hb : EB cv W Xs b fb) : ET cv W Xs (.Compare a [.LtE] [b] pos) (tVal (ap2 dLe fa fb)) := t_cmpR (fun _ => op_le) ope_le noer_le (nomark _) ha hb
theorem t_gt (ha : EB cv W Xs a fa) (hb : EB cv W Xs b fb) : ET cv W Xs (.Compare a [.Gt] [b] pos) (tVal (ap2 dGt fa fb)) := t_cmpR (fun _ => op_gt) ope_gt noer_gt (nomark _) ha hb
theorem t_ge (ha : EB cv W Xs a fa) (hb : EB cv W Xs b fb) : ET cv W Xs (.Compare a [.GtE] [b] pos) (tVal (ap2 dGe fa fb)) := t_cmpR (fun _ => op_ge) ope_ge noer_ge (nomark _) ha hb
theorem ope_eq : OpE (rEqD K) dEq := by
  intro O x y H Q d e od hx hy p
  unfold dEq at p
  split at p
  · rename_i h
    exact ⟨d, e, hx.all.dp, hy.all.dp, h.1, h.2, p _ H (Ex.refl H) (.bl _)⟩
  · exact p.elim
theorem ope_ne : OpE (rNeD K) dNe := by
  intro O x y H Q d e od hx hy p
  unfold dNe at p
  split at p
  · rename_i h
    exact ⟨d, e, hx.all.dp, hy.all.dp, h.1, h.2, p _ H (Ex.refl H) (.bl _)⟩
  · exact p.elim
theorem Fam.opEq (F : Fam Xs P w K mg base N sc fnn k) (j : ι) : OpR (Xs j) (compareOp .Eq) (rEqD K) := by
  have h := op_eqD (X := Xs j) (F.units64 j)
  rw [F.kk j] at h
  exact h
theorem Fam.opNe (F : Fam Xs P w K mg base N sc fnn k) (j : ι) : OpR (Xs j) (compareOp .NotEq) (rNeD K) := by
  have h := op_neD (X := Xs j) (F.units64 j)
  rw [F.kk j] at h
  exact h
theorem e_eq (F : Fam Xs P w K mg base N sc fnn k) (ha : EB cv W Xs a fa) (hb : EB cv W Xs b fb) : EE cv W Xs (.Compare a [.Eq] [b] pos) (ap2 dEq fa fb) := e_cmpR F.opEq ope_eq noer_eq (nomark _) ha hb
theorem e_ne (F : Fam Xs P w K mg base N sc fnn k) (ha : EB cv W Xs a fa) (hb : EB cv W Xs b fb) : EE cv W Xs (.Compare a [.NotEq] [b] pos) (ap2 dNe fa fb) := e_cmpR F.opNe ope_ne noer_ne (nomark _) ha hb
theorem t_eq (F : Fam Xs P w K mg base N sc fnn k) (ha : EB cv W Xs a fa) (hb : EB cv W Xs b fb) : ET cv W Xs (.Compare a [.Eq] [b] pos) (tVal (ap2 dEq fa fb)) := t_cmpR F.opEq ope_eq noer_eq (nomark _) ha hb
theorem t_ne (F : Fam Xs P w K mg base N sc fnn k) (ha : EB cv W Xs a fa) (hb : EB cv W Xs b fb) : ET cv W Xs (.Compare a [.NotEq] [b] pos) (tVal (ap2 dNe fa fb)) := t_cmpR F.opNe ope_ne noer_ne (nomark _) ha hb
/-- None, True, False on the right of is -/
def rIsA (neg : Bool) : R2 := fun x y H Q => (y = .non ∧ Q (.bl (if neg then !decide (x = .non) else decide (x = .non))) H) ∨ (∃ a b, x = .bl a ∧ y = .bl b ∧ Q (.bl (if neg then !decide (a = b) else decide (a = b))) H)
theorem dIsN_none (d : D) : dIsN d .none = .ok (.bool (isNone d)) := by
  cases d <;> rfl
theorem non_iff {O : List Addr} {H : Hp} {v : V} {d : D} (h : DB O H v d) : decide (v = V.non) = isNone d := by
  rcases h with h | ⟨a, vs, ds, h1, h2, h3, h4⟩
  · cases h <;> first | rfl | (apply decide_eq_false; intro z; cases z)
  · subst h1; subst h2
    apply decide_eq_false; intro z; cases z
theorem ope_is : OpE (rIsA false) dIsN := by
  intro O x y H Q d e od hx hy p
  by_cases he : e = .none
  · subst he
    rw [dIsN_none] at p
    refine .inl ⟨hy.non, ?_⟩
    rw [if_neg (by decide), non_iff hx]
    exact p _ H (Ex.refl H) (.bl _)
  · unfold dIsN at p
    split at p
    · exact absurd rfl he
    · exact .inr ⟨_, _, hx.bool, hy.bool, by rw [if_neg (by decide)]; exact p _ H (Ex.refl H) (.bl _)⟩
    · exact p.elim
theorem ope_isNot : OpE (rIsA true) dIsNotN := by
  intro O x y H Q d e od hx hy p
  unfold dIsNotN at p
  by_cases he : e = .none
  · subst he
    rw [dIsN_none] at p
    refine .inl ⟨hy.non, ?_⟩
    rw [if_pos rfl, non_iff hx]
    exact p _ H (Ex.refl H) (.bl _)
  · unfold dIsN at p
    split at p
    · exact absurd rfl he
    · exact .inr ⟨_, _, hx.bool, hy.bool, by rw [if_pos rfl]; exact p _ H (Ex.refl H) (.bl _)⟩
    · exact p.elim
theorem op_isA (j : ι) : OpR (Xs j) (compareOp .Is) (rIsA false) := (op_isN (X := Xs j)).or (op_is_bl (X := Xs j))
theorem op_isNotA (j : ι) : OpR (Xs j) (compareOp .IsNot) (rIsA true) := (op_notN (X := Xs j)).or (op_isnot_bl (X := Xs j))
theorem e_is (ha : EB cv W Xs a fa) (hb : EB cv W Xs b fb) : EE cv W Xs (.Compare a [.Is] [b] pos) (ap2 dIsN fa fb) := e_cmpR op_isA ope_is noer_isN (nomark _) ha hb
theorem e_isNot (ha : EB cv W Xs a fa) (hb : EB cv W Xs b fb) : EE cv W Xs (.Compare a [.IsNot] [b] pos) (ap2 dIsNotN fa fb) := e_cmpR op_isNotA ope_isNot noer_isNotN (nomark _) ha hb
theorem t_is (ha : EB cv W Xs a fa) (hb : EB cv W Xs b fb) : ET cv W Xs (.Compare a [.Is] [b] pos) (tVal (ap2 dIsN fa fb)) := t_cmpR op_isA ope_is noer_isN (nomark _) ha hb
theorem t_isNot (ha : EB cv W Xs a fa) (hb : EB cv W Xs b fb) : ET cv W Xs (.Compare a [.IsNot] [b] pos) (tVal (ap2 dIsNotN fa fb)) := t_cmpR op_isNotA ope_isNot noer_isNotN (nomark _) ha hb
/-! in, not in -/
theorem mapM_ints : ∀ {ds : List D} {ns : List Int}, ds.mapM (fun | PyData.int j => some j | _ => none) = some ns → ds = ns.map PyData.int
  | [], ns, h => by simp at h; subst h; rfl
  | d :: ds, ns, h => by
    rw [List.mapM_cons] at h
    cases d with
    | int j =>
      cases h2 : ds.mapM (fun | PyData.int j => some j | _ => none) with
      | none => rw [h2] at h; simp at h
      | some ms =>
        rw [h2] at h
        simp at h
        subst h
        rw [mapM_ints h2]
        rfl
    | _ => simp at h
def rInA (K : PySem.W.Frag) : R2 := fun x y H Q => rInD K x y H Q ∨ (rIn K false x y H Q ∨ (∃ i j, x = .str i ∧ y = .str j ∧ Q (.bl (!(Builtin.Str.occurrences j i 0 j.length 1).isEmpty)) H))
def rNotInA (K : PySem.W.Frag) : R2 := fun x y H Q => rNotInD K x y H Q ∨ (rIn K true x y H Q ∨ (∃ i j, x = .str i ∧ y = .str j ∧ Q (.bl (!(!(Builtin.Str.occurrences j i 0 j.length 1).isEmpty))) H))
theorem inV_ints (i : Int) : ∀ ns : List Int, inV (.int i) (ns.map V.int) = decide (i ∈ ns)
  | [] => by simp [inV]
  | n :: ns => by
    have h := inV_ints i ns
    unfold inV at h ⊢
    rw [List.map_cons, List.any_cons, h]
    have e1 : eqV (.int n) (.int i) = decide (i = n) := by
      unfold eqV
      by_cases q : n = i
      · subst q; simp
      · simp [q, Ne.symm q]
    rw [e1]
    by_cases q : i = n
    · subst q; simp
    · simp [q]
theorem ope_in : OpE (rInA K) dIn := by
  intro O x y H Q d e od hx hy p
  unfold dIn at p
  split at p
  · split at p
    · rename_i h
      exact .inl ⟨d, _, hx.all.dp, hy.all.dp, h.1, h.2, p _ H (Ex.refl H) (.bl _)⟩
    · exact p.elim
  · split at p
    · rename_i h
      have e1 := mapM_ints h
      subst e1
      obtain ⟨m, ws, rfl, h3, h4⟩ := hy.tuple
      have e2 := h4.ints
      subst e2
      refine .inr (.inl ⟨m, _, rfl, .inr (SqT.of h3.2), ?_, ?_, ?_⟩)
      · rw [hx.int]; rfl
      · simp [List.all_map, Function.comp_def, flatV]
      · rw [hx.int, if_neg (by decide), inV_ints]
        exact p _ H (Ex.refl H) (.bl _)
    · exact p.elim
  · exact .inr (.inr ⟨_, _, hx.str, hy.str, p _ H (Ex.refl H) (.bl _)⟩)
  · exact p.elim
theorem ope_notIn : OpE (rNotInA K) dNotIn := by
  intro O x y H Q d e od hx hy p
  unfold dNotIn dIn at p
  split at p
  · split at p
    · rename_i h
      exact .inl ⟨d, _, hx.all.dp, hy.all.dp, h.1, h.2, p _ H (Ex.refl H) (.bl _)⟩
    · exact p.elim
  · split at p
    · rename_i h
      have e1 := mapM_ints h
      subst e1
      obtain ⟨m, ws, rfl, h3, h4⟩ := hy.tuple
      have e2 := h4.ints
      subst e2
      refine .inr (.inl ⟨m, _, rfl, .inr (SqT.of h3.2), ?_, ?_, ?_⟩)
      · rw [hx.int]; rfl
      · simp [List.all_map, Function.comp_def, flatV]
      · rw [hx.int, if_pos rfl, inV_ints]
        exact p _ H (Ex.refl H) (.bl _)
    · exact p.elim
  · exact .inr (.inr ⟨_, _, hx.str, hy.str, p _ H (Ex.refl H) (.bl _)⟩)
  · exact p.elim
theorem Fam.opIn (F : Fam Xs P w K mg base N sc fnn k) (j : ι) : OpR (Xs j) (compareOp .In) (rInA K) := by
  have h1 := op_inD (X := Xs j) (F.units j)
  have h2 := op_in_seq (X := Xs j)
  rw [F.kk j] at h1 h2
  exact h1.or (h2.or op_in_str)
theorem Fam.opNotIn (F : Fam Xs P w K mg base N sc fnn k) (j : ι) : OpR (Xs j) (compareOp .NotIn) (rNotInA K) := by
  have h1 := op_notInD (X := Xs j) (F.units j)
  have h2 := op_notIn_seq (X := Xs j)
  rw [F.kk j] at h1 h2
  exact h1.or (h2.or op_notin_str)
theorem e_in (F : Fam Xs P w K mg base N sc fnn k) (ha : EB cv W Xs a fa) (hb : EB cv W Xs b fb) (hm : behindInMarks .In b = false := by rfl) : EE cv W Xs (.Compare a [.In] [b] pos) (ap2 dIn fa fb) := e_cmpR F.opIn ope_in noer_in hm ha hb
theorem e_notIn (F : Fam Xs P w K mg base N sc fnn k) (ha : EB cv W Xs a fa) (hb : EB cv W Xs b fb) (hm : behindInMarks .NotIn b = false := by rfl) : EE cv W Xs (.Compare a [.NotIn] [b] pos) (ap2 dNotIn fa fb) := e_cmpR F.opNotIn ope_notIn noer_notIn hm ha hb
theorem t_in (F : Fam Xs P w K mg base N sc fnn k) (ha : EB cv W Xs a fa) (hb : EB cv W Xs b fb) (hm : behindInMarks .In b = false := by rfl) : ET cv W Xs (.Compare a [.In] [b] pos) (tVal (ap2 dIn fa fb)) := t_cmpR F.opIn ope_in noer_in hm ha hb
theorem t_notIn (F : Fam Xs P w K mg base N sc fnn k) (ha : EB cv W Xs a fa) (hb : EB cv W Xs b fb) (hm : behindInMarks .NotIn b = false := by rfl) : ET cv W Xs (.Compare a [.NotIn] [b] pos) (tVal (ap2 dNotIn fa fb)) := t_cmpR F.opNotIn ope_notIn noer_notIn hm ha hb

/-! ### subscripts, slices -/
theorem atI_get {H : Hp} {vs : List V} {ds : List D} {i : Int} {d : D} (h : DqAll H vs ds) (ha : atI ds i = some d) : ∃ v, atI vs i = some v ∧ Dq H v d := by
  unfold atI at ha ⊢
  rw [h.length]
  cases hx : ixN ds.length i with
  | none => rw [hx] at ha; cases ha
  | some j =>
    rw [hx] at ha
    obtain ⟨v, h1, h2⟩ := h.get j ha
    exact ⟨v, h1, h2⟩
theorem ope_ix : OpE (rIx K) dIx := by
  intro O x y H Q d e od hx hy p
  unfold dIx at p
  split at p
  · split at p
    · rename_i h
      obtain ⟨l, vs, rfl, h1, h2⟩ := hx.list
      obtain ⟨v, h3, h4⟩ := atI_get h2 h
      exact .inl ⟨l, vs, _, v, rfl, hy.int, SqL.of h1, h3, p v H (Ex.refl H) h4⟩
    · exact p.elim
  · split at p
    · rename_i h
      obtain ⟨l, vs, rfl, h1, h2⟩ := hx.tuple
      obtain ⟨v, h3, h4⟩ := atI_get h2 h
      exact .inr (.inl ⟨l, vs, _, v, rfl, hy.int, SqT.of h1.2, h3, p v H (Ex.refl H) h4⟩)
    · exact p.elim
  · split at p
    · split at p
      · rename_i h1 _ _ h2
        exact .inr (.inr ⟨_, _, _, hx.str, hy.int, lim_size h1, h2, p _ H (Ex.refl H) (.str _)⟩)
      · exact p.elim
    · exact p.elim
  · exact p.elim
theorem e_ix (F : Fam Xs P w K mg base N sc fnn k) (ha : EB cv W Xs a fa) (hb : EB cv W Xs b fb) (hs : PlainIx b := by intro _ _; rfl) : EE cv W Xs (.Subscript a b pos) (ap2 dIx fa fb) := by
  obtain ⟨ta, h1, h2⟩ := ha
  obtain ⟨tb, h3, h4⟩ := hb
  exact ⟨tOp (rIx K) ta tb, fun j => pe_ix (by have h := ix_seq (X := Xs j); rw [F.kk j] at h; exact h) (h1 j) (h3 j) hs, snd_op h2 h4 ope_ix noer_ix⟩
theorem o_none : EO cv W Xs none fNoPart := ⟨_, fun _ => po_none, fun O σ ρ H Q R p => p H (Ex.refl H)⟩
theorem o_some (h : EB cv W Xs e f) : EO cv W Xs (some e) (fPart f) := by
  obtain ⟨t, h1, h2⟩ := h
  refine ⟨_, fun j => po_some (h1 j), fun O σ ρ H Q R p => h2 O σ ρ H _ R ?_⟩
  unfold fPart at p
  cases ea : f ρ with
  | no => rw [ea] at p; exact p
  | er c => rw [ea] at p; exact p
  | ok d =>
    rw [ea, Rs.bind_ok] at p
    intro v H1 x1 q1
    unfold dPart at p
    split at p
    · exact ⟨_, q1.int, p H1 x1⟩
    · exact p.elim
variable {lo hi : Option Expr} {fl fh : En → Rs (Option Int)} {p2 : Pos}
def rSlA (K : PySem.W.Frag) : V → Option Int → Option Int → Hp → VK → Prop := fun x lo hi H Q => rSlL K x lo hi H Q ∨ rSlS x lo hi H Q
theorem cutD_len {α β : Type} {xs : List α} {ys : List β} (h : xs.length = ys.length) (lo hi : Option Int) : HT.sIx xs.length 0 lo = HT.sIx ys.length 0 lo ∧ HT.sIx xs.length xs.length hi = HT.sIx ys.length ys.length hi := by rw [h]; exact ⟨rfl, rfl⟩
theorem DqAll.cut {H : Hp} {vs : List V} {ds : List D} (h : DqAll H vs ds) (lo hi : Option Int) : DqAll H (cutV vs lo hi) (cutD ds lo hi) := by
  unfold cutV cutD
  rw [h.length]
  exact (h.drop _).take _
theorem snd_sl {te : TE} {tl th : TO} (h : SndB cv W te f) (hl : SndO cv W tl fl) (hh : SndO cv W th fh) : SndE cv W (tSl (rSlA K) te tl th) (fSl f fl fh) := by
  intro O σ ρ H Q R p
  refine h O σ ρ H _ R ?_
  unfold fSl at p
  cases ea : f ρ with
  | no => rw [ea] at p; exact p
  | er c => rw [ea] at p; exact p
  | ok d =>
    rw [ea, Rs.bind_ok] at p
    intro x H1 x1 q1
    refine hl O σ ρ H1 _ (R.mono x1) ?_
    cases eb : fl ρ with
    | no => rw [eb] at p; exact p
    | er c => rw [eb] at p; exact fun H2 x2 => p H2 (x1.trans x2)
    | ok l =>
      rw [eb, Rs.bind_ok] at p
      intro H2 x2
      refine hh O σ ρ H2 _ ((R.mono x1).mono x2) ?_
      cases ec : fh ρ with
      | no => rw [ec] at p; exact p
      | er c => rw [ec] at p; exact fun H3 x3 => p H3 ((x1.trans x2).trans x3)
      | ok u =>
        rw [ec, Rs.bind_ok] at p
        intro H3 x3
        have q3 := (q1.mono x2).mono x3
        have R3 := ((R.mono x1).mono x2).mono x3
        have xx := (x1.trans x2).trans x3
        unfold dSl at p
        split at p
        · obtain ⟨b, vs, rfl, h1, h2⟩ := q3.list
          refine .inl ⟨b, vs, rfl, SqL.of h1, fun q hq => ?_⟩
          exact p _ _ (xx.trans (Ex.new hq)) (.lst (hide_some.mpr ⟨R3.fresh hq, upd_same⟩) ((h2.cut l u).mono (hide_ex (Ex.new hq))))
        · split at p
          · rename_i hz
            exact .inr ⟨_, q3.str, lim_size hz, p _ H3 xx (.str _)⟩
          · exact p.elim
        · exact p.elim
theorem e_slice (F : Fam Xs P w K mg base N sc fnn k) (h : EB cv W Xs e f) (hl : EO cv W Xs lo fl) (hh : EO cv W Xs hi fh) : EE cv W Xs (.Subscript e (.Slice lo hi none p2) pos) (fSl f fl fh) := by
  obtain ⟨t, h1, h2⟩ := h
  obtain ⟨tl, h3, h4⟩ := hl
  obtain ⟨th, h5, h6⟩ := hh
  refine ⟨tSl (rSlA K) t tl th, fun j => pe_slice ?_ (h1 j) (h3 j) (h5 j), snd_sl h2 h4 h6⟩
  have h := sl_list (X := Xs j)
  rw [F.kk j] at h
  exact h.or sl_str
end
end DL

namespace DL
open PySem L2
variable [SC]

/-! ### targets -/
inductive Tg where
  | nm (i : Nat) | tp (is : List Nat)
def Tg.ix : Tg → List Nat
  | .nm i => [i]
  | .tp is => is
def Tg.parts : Tg → D → Option (List D)
  | .nm _, d => some [d]
  | .tp is, .tuple ds => if ds.length = is.length then some ds else none
  | .tp _, _ => none
def setV : St → List Nat → List V → St
  | σ, i :: is, v :: vs => setV (σ.set i (some v)) is vs
  | σ, _, _ => σ
def setD : En → List Nat → List D → En
  | ρ, i :: is, d :: ds => setD (ρ.set i (some (.sh d))) is ds
  | ρ, _, _ => ρ
def wipeE (ρ : En) : List Nat → En
  | [] => ρ
  | v :: vs => (wipeE ρ vs).set v none
def Tg.asg (t : Tg) (d : D) (ρ : En) : Option En := (t.parts d).map (setD ρ t.ix)
theorem setV_length : ∀ (σ : St) (is : List Nat) (vs : List V), (setV σ is vs).length = σ.length
  | σ, [], _ => rfl
  | σ, i :: is, [] => rfl
  | σ, i :: is, v :: vs => by
    unfold setV
    rw [setV_length]
    exact List.length_set
theorem setD_length : ∀ (σ : En) (is : List Nat) (vs : List D), (setD σ is vs).length = σ.length
  | σ, [], _ => rfl
  | σ, i :: is, [] => rfl
  | σ, i :: is, v :: vs => by
    unfold setD
    rw [setD_length]
    exact List.length_set
theorem wipeE_length (ρ : En) : ∀ vs : List Nat, (wipeE ρ vs).length = ρ.length
  | [] => rfl
  | v :: vs => by
    unfold wipeE
    rw [List.length_set]
    exact wipeE_length ρ vs
theorem wipe_get (σ : St) : ∀ (vs : List Nat) (i : Nat), i ∉ vs → (wipe σ vs)[i]? = σ[i]?
  | [], i, _ => rfl
  | v :: vs, i, h => by
    unfold wipe
    rw [List.getElem?_set_ne (fun z => h (by simp [z])), wipe_get σ vs i (fun z => h (List.mem_cons_of_mem _ z))]
theorem wipeE_get (σ : En) : ∀ (vs : List Nat) (i : Nat), i ∉ vs → (wipeE σ vs)[i]? = σ[i]?
  | [], i, _ => rfl
  | v :: vs, i, h => by
    unfold wipeE
    rw [List.getElem?_set_ne (fun z => h (by simp [z])), wipeE_get σ vs i (fun z => h (List.mem_cons_of_mem _ z))]
theorem wipeE_not (σ : En) : ∀ (vs : List Nat) (i : Nat), i ∈ vs → ∀ s, (wipeE σ vs)[i]? ≠ some (some s)
  | [], i, h, s => by simp at h
  | v :: vs, i, h, s => by
    unfold wipeE
    by_cases e : v = i
    · subst e
      rw [List.getElem?_set]
      split
      · split <;> simp
      · exact absurd rfl ‹_›
    · rw [List.getElem?_set_ne e]
      exact wipeE_not σ vs i (by simpa [Ne.symm e] using h) s
/-- two lists that are the same outside of vs are the same when wiped -/
theorem wipe_eq_of (σ τ : St) (hl : σ.length = τ.length) : ∀ (vs : List Nat), (∀ i, i ∉ vs → σ[i]? = τ[i]?) → wipe σ vs = wipe τ vs := by
  intro vs h
  apply List.ext_getElem?
  intro i
  by_cases hi : i ∈ vs
  · have key : ∀ (α : St) (ws : List Nat), i ∈ ws → (wipe α ws)[i]? = if i < α.length then some none else none := by
      intro α ws
      induction ws with
      | nil => intro z; simp at z
      | cons v ws ih =>
        intro z
        unfold wipe
        rw [List.getElem?_set, L2.wipe_length]
        by_cases e : v = i
        · rw [if_pos e]; subst e; rfl
        · rw [if_neg e]; exact ih (by simpa [Ne.symm e] using z)
    rw [key σ vs hi, key τ vs hi, hl]
  · rw [wipe_get σ vs i hi, wipe_get τ vs i hi]
    exact h i hi
theorem setV_get : ∀ (is : List Nat) (σ : St) (vs : List V) (i : Nat), i ∉ is → (setV σ is vs)[i]? = σ[i]?
  | [], σ, vs, i, h => rfl
  | j :: is, σ, [], i, h => rfl
  | j :: is, σ, v :: vs, i, h => by
    unfold setV
    rw [setV_get is _ vs i (fun z => h (List.mem_cons_of_mem _ z)), List.getElem?_set_ne (fun z => h (by simp [z]))]
theorem wipe_setV (σ : St) (vs is : List Nat) (ws : List V) (h : ∀ i ∈ is, i ∈ vs) : wipe (setV (wipe σ vs) is ws) vs = wipe σ vs := by
  apply wipe_eq_of
  · rw [setV_length, L2.wipe_length]
  · intro i hi
    rw [setV_get is _ ws i (fun z => hi (h i z)), wipe_get σ vs i hi]

theorem RepE.set {O : List Addr} {σ : St} {ρ : En} {H : Hp} (h : RepE O σ ρ H) {i : Nat} {v : V} {d : D} (q : Dq (hide O H) v d) : RepE O (σ.set i (some v)) (ρ.set i (some (.sh d))) H :=
  ⟨by rw [List.length_set, List.length_set]; exact h.len, h.od, h.nt, fun j s e => by
    by_cases hj : i = j
    · subst hj
      rw [List.getElem?_set] at e ⊢
      rw [if_pos rfl] at e ⊢
      by_cases hl : i < ρ.length
      · rw [if_pos hl] at e
        rw [if_pos (h.len ▸ hl)]
        cases e
        exact ⟨v, [], rfl, rfl, q⟩
      · rw [if_neg hl] at e
        cases e
    · rw [List.getElem?_set_ne hj] at e ⊢
      exact h.sl j s e⟩
theorem RepE.setD {O : List Addr} {H : Hp} : ∀ {is : List Nat} {σ : St} {ρ : En} {vs : List V} {ds : List D}, RepE O σ ρ H → DqAll (hide O H) vs ds → RepE O (setV σ is vs) (setD ρ is ds) H
  | [], σ, ρ, vs, ds, h, q => h
  | i :: is, σ, ρ, _, _, h, .nil => h
  | i :: is, σ, ρ, _, _, h, .cons q r => by
    unfold setV DL.setD
    exact RepE.setD (h.set q) r
theorem RepE.wipe {O : List Addr} {σ : St} {ρ : En} {H : Hp} (h : RepE O σ ρ H) (vs : List Nat) : RepE O (wipe σ vs) (wipeE ρ vs) H :=
  ⟨by rw [L2.wipe_length, wipeE_length]; exact h.len, h.od, h.nt, fun i s e => by
    by_cases hi : i ∈ vs
    · exact absurd e (wipeE_not ρ vs i hi s)
    · rw [wipeE_get ρ vs i hi] at e
      rw [wipe_get σ vs i hi]
      exact h.sl i s e⟩

def SndG (g : TG) (T : Tg) : Prop := ∀ v d ds σ H Q S, Dq S v d → Ex S H → T.parts d = some ds → (∀ ws, DqAll S ws ds → Q (setV σ T.ix ws) H) → g v σ H Q
def SndGs (g : TGs) (is : List Nat) : Prop := ∀ (vs : List V) σ H Q, vs.length = is.length → Q (setV σ is vs) H → g vs σ H Q
section
variable {ι : Type} {cv : Nat → Value} {W W' : WX} {Xs : ι → Cx} {P : Program} {w : World} {K : PySem.W.Frag} {mg : Str → Option Value} {base : Heap} {N : List Str} {sc : Scope} {fnn : Str → Bool} {k : Nat}
variable {e a b c tg iter elt : Expr} {es : List Expr} {f fa fb fc fe : En → Rs D} {fs : En → Rs (List D)} {pos : Pos} {is : List Nat} {T : Tg}
def EG (Xs : ι → Cx) (tg : Expr) (T : Tg) : Prop := ∃ g, (∀ j, PG (Xs j) tg g) ∧ SndG g T
def EGs (Xs : ι → Cx) (tgs : List Expr) (is : List Nat) : Prop := ∃ g, (∀ j, PGs (Xs j) tgs g) ∧ SndGs g is
theorem g_name (F : Fam Xs P w K mg base N sc fnn k) (i : Nat) {x : Str} (hN : N[i]? = some x := by rfl) (hs : stB fnn sc x = true := by decide +kernel) : EG Xs (.Name x pos) (.nm i) :=
  ⟨gName i, fun j => pg_name (F.ndj j) (F.at hN j) (F.loc hs j) (F.hf hs j), fun v d ds σ H Q S q x p h => by
    cases p
    exact h [v] (.cons q .nil)⟩
theorem gs_nil : EGs Xs [] [] := ⟨gNil, fun _ => pgs_nil, fun vs σ H Q hl h => by
  cases vs with
  | nil => exact ⟨rfl, h⟩
  | cons _ _ => simp at hl⟩
theorem gs_cons (F : Fam Xs P w K mg base N sc fnn k) (i : Nat) {x : Str} (h : EGs Xs es is) (hN : N[i]? = some x := by rfl) (hs : stB fnn sc x = true := by decide +kernel)
    (ha : ∀ env, (assignEach (.Name x pos :: es) env).map (·.2) = assign (.Name x pos) env :: (assignEach es env).map (·.2) := by intro _; rfl) : EGs Xs (.Name x pos :: es) (i :: is) := by
  obtain ⟨g, h1, h2⟩ := h
  refine ⟨gCons (gName i) g, fun j => pgs_cons (pg_name (F.ndj j) (F.at hN j) (F.loc hs j) (F.hf hs j)) (h1 j) (ha _), fun vs σ H Q hl h => ?_⟩
  cases vs with
  | nil => simp at hl
  | cons v vs => exact ⟨v, vs, rfl, h2 vs _ H Q (by simpa using hl) h⟩
theorem g_tup (F : Fam Xs P w K mg base N sc fnn k) {kk : Nat} (h : EGs Xs es is) (hn : ∀ env, (assignEach es env).length = is.length := by intro _; rfl) (hst : ∀ env, (assignEach es env).findIdx? (·.1) = none := by intro _; rfl) : EG Xs (.Tuple es kk pos) (.tp is) := by
  obtain ⟨g, h1, h2⟩ := h
  refine ⟨gTup K is.length g, fun j => ?_, fun v d ds σ H Q S q x p h => ?_⟩
  · have := pg_tup (pos := pos) (k := kk) (F.calm j) (h1 j) (hn _) (hst _)
    rw [F.kk j] at this
    exact this
  · unfold Tg.parts at p
    split at p
    · cases p; contradiction
    · rename_i e
      split at p
      · cases p
        cases e
        cases q with
        | tup q1 q2 => exact ⟨_, _, rfl, SqT.of (x _ _ q1), by rw [q2.length]; assumption, h2 _ σ H Q (by rw [q2.length]; assumption) (h _ q2)⟩
      · cases p
    · cases p

/-! ### what is walked -/
structure ItD (J : It) (B S : Hp) (items : List D) : Prop where
  go : ∀ (i : Nat) d H', Ex B H' → items[i]? = some d → J.go i H' ∧ ∀ x H2, J.yld i H' x H2 → Ex H' H2 ∧ ∀ S', Ex S S' → (∀ a o, H' a = none → H2 a = some o → S' a = some o) → Dq S' x d
  stop : ∀ H', Ex B H' → J.stop items.length H'
def PosI (cv : Nat → Value) (W : WX) (O : List Addr) (σ : St) (H : Hp) (R : It → Hp → Prop) : Rs (List D) → Prop
  | .ok items => ∀ J H2, Ex H H2 → ItD J H2 (hide O H2) items → R J H2
  | .er c => ∀ H2, Ex H H2 → W (cv c) none σ H2
  | .no => False
def PosIS (cv : Nat → Value) (W : WX) (O : List Addr) (σ : St) (H : Hp) (R : It → Hp → Prop) : Rs (List D) → Prop
  | .ok items => ∀ J H2, Ex H H2 → ItD J (hide O H2) (hide O H2) items → R J H2
  | .er c => ∀ H2, Ex H H2 → W (cv c) none σ H2
  | .no => False
def SndI (cv : Nat → Value) (W : WX) (t : TI) (f : En → Rs (List D)) : Prop := ∀ O σ ρ H R, RepE O σ ρ H → PosI cv W O σ H R (f ρ) → t σ H R
def SndIS (cv : Nat → Value) (W : WX) (t : TI) (f : En → Rs (List D)) : Prop := ∀ O σ ρ H R, RepE O σ ρ H → PosIS cv W O σ H R (f ρ) → t σ H R
def EI (cv : Nat → Value) (W : WX) (Xs : ι → Cx) (tg iter : Expr) (f : En → Rs (List D)) : Prop := ∃ t, (∀ j, PI (Xs j) tg iter t) ∧ SndI cv W t f
def EIS (cv : Nat → Value) (W : WX) (Xs : ι → Cx) (tg iter : Expr) (f : En → Rs (List D)) : Prop := ∃ t, (∀ j, PI (Xs j) tg iter t) ∧ SndIS cv W t f
theorem EIS.i {it : En → Rs (List D)} (h : EIS cv W Xs tg iter it) : EI cv W Xs tg iter it := by
  obtain ⟨t, h1, h2⟩ := h
  refine ⟨t, h1, fun O σ ρ H R r p => h2 O σ ρ H R r ?_⟩
  cases e : it ρ with
  | no => rw [e] at p; exact p
  | er c => rw [e] at p; exact p
  | ok items =>
    rw [e] at p
    exact fun J H2 x d => p J H2 x ⟨fun i d' H' z => d.go i d' H' (hide_le.trans z), fun H' z => d.stop H' (hide_le.trans z)⟩
def dItL : D → Rs (List D)
  | .list ds => .ok ds
  | _ => .no
def dItT : D → Rs (List D)
  | .tuple ds => .ok ds
  | _ => .no
def iLs (f : En → Rs D) : En → Rs (List D) := fun ρ => (f ρ).bind dItL
def iTp (f : En → Rs D) : En → Rs (List D) := fun ρ => (f ρ).bind dItT
theorem itd_list {a : Addr} {B S : Hp} {vs : List V} {ds : List D} (h : B a = some (.lst vs)) (q : DqAll S vs ds) : ItD (Itl K a) B S ds where
  go := fun i d H' x e => by
    obtain ⟨v, h1, h2⟩ := q.get i e
    refine ⟨⟨vs, v, SqL.of (x _ _ h), h1⟩, fun y H2 hy => ?_⟩
    obtain ⟨rfl, hy⟩ := hy
    have ev := hy vs (SqL.of (x _ _ h))
    rw [h1] at ev
    cases ev
    exact ⟨Ex.refl _, fun S' z _ => h2.mono z⟩
  stop := fun H' x => ⟨vs, SqL.of (x _ _ h), by rw [q.length]; exact Nat.le_refl _⟩
theorem itd_tup {a : Addr} {B S : Hp} {vs : List V} {ds : List D} (h : B a = some (.tup vs)) (q : DqAll S vs ds) : ItD (Itt K a) B S ds where
  go := fun i d H' x e => by
    obtain ⟨v, h1, h2⟩ := q.get i e
    refine ⟨⟨vs, v, SqT.of (x _ _ h), h1⟩, fun y H2 hy => ?_⟩
    obtain ⟨rfl, hy⟩ := hy
    have ev := hy vs (SqT.of (x _ _ h))
    rw [h1] at ev
    cases ev
    exact ⟨Ex.refl _, fun S' z _ => h2.mono z⟩
  stop := fun H' x => ⟨vs, SqT.of (x _ _ h), by rw [q.length]; exact Nat.le_refl _⟩
theorem i_list (F : Fam Xs P w K mg base N sc fnn k) (h : EB cv W Xs e f) : EI cv W Xs tg e (iLs f) := by
  obtain ⟨t, h1, h2⟩ := h
  refine ⟨iList K t, fun j => by have := pi_list (tg := tg) (h1 j); rw [F.kk j] at this; exact this, fun O σ ρ H R r p => h2 O σ ρ H _ r ?_⟩
  unfold iLs at p
  cases ea : f ρ with
  | no => rw [ea] at p; exact p
  | er c => rw [ea] at p; exact p
  | ok d =>
    rw [ea, Rs.bind_ok] at p
    intro v H1 x1 q1
    unfold dItL at p
    split at p
    · obtain ⟨a, vs, rfl, h3, h4⟩ := q1.list
      exact ⟨a, rfl, ⟨vs, SqL.of h3⟩, p _ H1 x1 (itd_list h3 h4)⟩
    · exact p.elim
theorem is_list (F : Fam Xs P w K mg base N sc fnn k) (h : EE cv W Xs e f) : EIS cv W Xs tg e (iLs f) := by
  obtain ⟨t, h1, h2⟩ := h
  refine ⟨iList K t, fun j => by have := pi_list (tg := tg) (h1 j); rw [F.kk j] at this; exact this, fun O σ ρ H R r p => h2 O σ ρ H _ r ?_⟩
  unfold iLs at p
  cases ea : f ρ with
  | no => rw [ea] at p; exact p
  | er c => rw [ea] at p; exact p
  | ok d =>
    rw [ea, Rs.bind_ok] at p
    intro v H1 x1 q1
    unfold dItL at p
    split at p
    · cases q1 with
      | lst h3 h4 => exact ⟨_, rfl, ⟨_, SqL.of (hide_le _ _ h3)⟩, p _ H1 x1 (itd_list h3 h4)⟩
    · exact p.elim
theorem is_tup (F : Fam Xs P w K mg base N sc fnn k) (h : EE cv W Xs e f) : EIS cv W Xs tg e (iTp f) := by
  obtain ⟨t, h1, h2⟩ := h
  refine ⟨iTup K t, fun j => by have := pi_tup (tg := tg) (h1 j); rw [F.kk j] at this; exact this, fun O σ ρ H R r p => h2 O σ ρ H _ r ?_⟩
  unfold iTp at p
  cases ea : f ρ with
  | no => rw [ea] at p; exact p
  | er c => rw [ea] at p; exact p
  | ok d =>
    rw [ea, Rs.bind_ok] at p
    intro v H1 x1 q1
    unfold dItT at p
    split at p
    · cases q1 with
      | tup h3 h4 => exact ⟨_, rfl, ⟨_, SqT.of (hide_le _ _ h3)⟩, p _ H1 x1 (itd_tup h3 h4)⟩
    · exact p.elim
def rangeD (lo : Int) (n : Nat) : List D := (List.range n).map fun i => .int (lo + (i : Nat))
def downD (hi : Int) (n : Nat) : List D := (List.range n).map fun i => .int (hi + (i : Nat) * (-1))
theorem rangeD_get {lo : Int} {n i : Nat} {d : D} (h : (rangeD lo n)[i]? = some d) : i < n ∧ d = .int (lo + i) := by
  unfold rangeD at h
  rw [List.getElem?_map] at h
  by_cases hi : i < n
  · rw [List.getElem?_range hi] at h
    exact ⟨hi, (Option.some.inj h).symm⟩
  · rw [List.getElem?_eq_none (by rw [List.length_range]; omega)] at h
    cases h
theorem downD_get {lo : Int} {n i : Nat} {d : D} (h : (downD lo n)[i]? = some d) : i < n ∧ d = .int (lo + (i : Nat) * (-1)) := by
  unfold downD at h
  rw [List.getElem?_map] at h
  by_cases hi : i < n
  · rw [List.getElem?_range hi] at h
    exact ⟨hi, (Option.some.inj h).symm⟩
  · rw [List.getElem?_eq_none (by rw [List.length_range]; omega)] at h
    cases h
theorem rangeD_len (lo : Int) (n : Nat) : (rangeD lo n).length = n := by unfold rangeD; simp
theorem downD_len (lo : Int) (n : Nat) : (downD lo n).length = n := by unfold downD; simp
theorem itd_range {lo : Int} {n : Nat} {B S : Hp} : ItD (Itr lo n) B S (rangeD lo n) where
  go := fun i d H' x e => by
    obtain ⟨h1, rfl⟩ := rangeD_get e
    refine ⟨h1, fun y H2 hy => ?_⟩
    obtain ⟨rfl, rfl⟩ := hy
    exact ⟨Ex.refl _, fun S' _ _ => .int _⟩
  stop := fun H' x => by rw [rangeD_len]; exact Nat.le_refl n
theorem itd_down {lo : Int} {n : Nat} {B S : Hp} : ItD (Itc lo (-1) n) B S (downD lo n) where
  go := fun i d H' x e => by
    obtain ⟨h1, rfl⟩ := downD_get e
    refine ⟨h1, fun y H2 hy => ?_⟩
    obtain ⟨rfl, rfl⟩ := hy
    exact ⟨Ex.refl _, fun S' _ _ => .int _⟩
  stop := fun H' x => by rw [downD_len]; exact Nat.le_refl n
def apI (g : List D → Rs (List D)) (fs : En → Rs (List D)) : En → Rs (List D) := fun ρ => (fs ρ).bind g
def dRng : List D → Rs (List D)
  | [.int j] => if -(2 ^ 62) ≤ j ∧ j < 2 ^ 62 then .ok (rangeD 0 j.toNat) else .no
  | [.int i, .int j] => if -(2 ^ 62) ≤ i ∧ i < 2 ^ 62 ∧ -(2 ^ 62) ≤ j ∧ j < 2 ^ 62 then .ok (rangeD i (j - i).toNat) else .no
  | [.int i, .int j, .int c] => if (-(2 ^ 62) ≤ i ∧ i < 2 ^ 62 ∧ -(2 ^ 62) ≤ j ∧ j < 2 ^ 62) ∧ c = -1 then .ok (downD i (i - j).toNat) else .no
  | _ => .no
theorem DBAll.one {O : List Addr} {H : Hp} {vs : List V} {d : D} (h : DBAll O H vs [d]) : ∃ v, vs = [v] ∧ DB O H v d := by
  cases h with
  | cons h t => cases t; exact ⟨_, rfl, h⟩
theorem DBAll.two {O : List Addr} {H : Hp} {vs : List V} {d d' : D} (h : DBAll O H vs [d, d']) : ∃ v v', vs = [v, v'] ∧ DB O H v d ∧ DB O H v' d' := by
  cases h with
  | cons h t => obtain ⟨v, rfl, q⟩ := t.one; exact ⟨_, _, rfl, h, q⟩
theorem DBAll.three {O : List Addr} {H : Hp} {vs : List V} {d d' d'' : D} (h : DBAll O H vs [d, d', d'']) : ∃ v v' v'', vs = [v, v', v''] ∧ DB O H v d ∧ DB O H v' d' ∧ DB O H v'' d'' := by
  cases h with
  | cons h t => obtain ⟨v, v', rfl, q, q'⟩ := t.two; exact ⟨_, _, _, rfl, h, q, q'⟩
theorem DBAll.len {O : List Addr} {H : Hp} : ∀ {vs : List V} {ds : List D}, DBAll O H vs ds → vs.length = ds.length
  | _, _, .nil => rfl
  | _, _, .cons _ t => by simp [t.len]

theorem ab_one (ha : EB cv W Xs a fa) (hs : ∀ env, starEach [a] env = (false, eval a env) :: starEach [] env) : EAB cv W Xs [a] (fCons fa fNil) := ab_cons ha ab_nil hs
theorem fCons1 {ρ : En} {ds : List D} (h : fCons fa fNil ρ = .ok ds) : ∃ d, ds = [d] := by
  unfold fCons fNil at h
  cases e : fa ρ with
  | ok d => rw [e] at h; cases h; exact ⟨d, rfl⟩
  | er c => rw [e] at h; cases h
  | no => rw [e] at h; cases h
theorem fCons2 {ρ : En} {ds : List D} (h : fCons fa (fCons fb fNil) ρ = .ok ds) : ∃ d e, ds = [d, e] := by
  unfold fCons at h
  cases e : fa ρ with
  | ok d =>
    rw [e, Rs.bind_ok] at h
    cases e2 : fb ρ with
    | ok d2 => rw [e2] at h; cases h; exact ⟨d, d2, rfl⟩
    | er c => rw [e2] at h; cases h
    | no => rw [e2] at h; cases h
  | er c => rw [e] at h; cases h
  | no => rw [e] at h; cases h
theorem fCons3 {ρ : En} {ds : List D} (h : fCons fa (fCons fb (fCons fc fNil)) ρ = .ok ds) : ∃ d e g, ds = [d, e, g] := by
  unfold fCons at h
  cases e : fa ρ with
  | ok d =>
    rw [e, Rs.bind_ok] at h
    cases e2 : fb ρ with
    | ok d2 =>
      rw [e2, Rs.bind_ok] at h
      cases e3 : fc ρ with
      | ok d3 => rw [e3] at h; cases h; exact ⟨d, d2, d3, rfl⟩
      | er c => rw [e3] at h; cases h
      | no => rw [e3] at h; cases h
    | er c => rw [e2] at h; cases h
    | no => rw [e2] at h; cases h
  | er c => rw [e] at h; cases h
  | no => rw [e] at h; cases h
theorem is_range1 (F : Fam Xs P w K mg base N sc fnn k) {p : Pos} (hm : mg "range" = none) (ha : EB cv W Xs a fa) (hg : glB sc "range" = true := by decide +kernel) (hs : ∀ env, starEach [a] env = [(false, eval a env)] := by intro _; rfl) : EIS cv W Xs tg (.Call (.Name "range" p) [a] [] pos) (apI dRng (fCons fa fNil)) := by
  obtain ⟨t, h1, h2⟩ := ab_one ha hs
  refine ⟨_, fun j => pi_range1 (F.gl_ok hg j) (F.none hm j) (h1 j) (hs _), fun O σ ρ H R r p => h2 O σ ρ H _ r ?_⟩
  unfold apI at p
  cases ea : fCons fa fNil ρ with
  | no => rw [ea] at p; exact p
  | er c => rw [ea] at p; exact p
  | ok ds =>
    rw [ea, Rs.bind_ok] at p
    intro vs H1 x1 q1
    obtain ⟨d, rfl⟩ := fCons1 ea
    obtain ⟨v, rfl, q⟩ := q1.one
    unfold dRng at p
    split at p
    · split at p
      · rename_i h3 h4
        simp only [List.cons.injEq, and_true] at h3
        subst h3
        exact ⟨_, by rw [q.int], h4.1, h4.2, p _ H1 x1 itd_range⟩
      · exact p.elim
    all_goals first | exact p.elim | (exfalso; rename_i h; simp at h)
theorem is_range2 (F : Fam Xs P w K mg base N sc fnn k) {p : Pos} (hm : mg "range" = none) (ha : EB cv W Xs a fa) (hb : EB cv W Xs b fb) (hg : glB sc "range" = true := by decide +kernel) (hs : ∀ env, starEach [a, b] env = [(false, eval a env), (false, eval b env)] := by intro _; rfl) (hs2 : ∀ env, starEach [b] env = [(false, eval b env)] := by intro _; rfl) : EIS cv W Xs tg (.Call (.Name "range" p) [a, b] [] pos) (apI dRng (fCons fa (fCons fb fNil))) := by
  obtain ⟨t, h1, h2⟩ := ab_cons ha (ab_one hb hs2) (fun env => by rw [hs, hs2])
  refine ⟨_, fun j => pi_range2 (F.gl_ok hg j) (F.none hm j) (h1 j) (hs _) (hs2 _), fun O σ ρ H R r p => h2 O σ ρ H _ r ?_⟩
  unfold apI at p
  cases ea : fCons fa (fCons fb fNil) ρ with
  | no => rw [ea] at p; exact p
  | er c => rw [ea] at p; exact p
  | ok ds =>
    rw [ea, Rs.bind_ok] at p
    intro vs H1 x1 q1
    obtain ⟨d, d2, rfl⟩ := fCons2 ea
    obtain ⟨v, v2, rfl, q, q2⟩ := q1.two
    unfold dRng at p
    split at p
    rotate_left
    · split at p
      · rename_i h3 h4
        simp only [List.cons.injEq, and_true] at h3
        obtain ⟨rfl, rfl⟩ := h3
        exact ⟨_, _, by rw [q.int, q2.int], h4, p _ H1 x1 itd_range⟩
      · exact p.elim
    all_goals first | exact p.elim | (exfalso; rename_i h; simp at h)
theorem is_range3 (F : Fam Xs P w K mg base N sc fnn k) {p : Pos} (hm : mg "range" = none) (ha : EB cv W Xs a fa) (hb : EB cv W Xs b fb) (hc : EB cv W Xs c fc) (hg : glB sc "range" = true := by decide +kernel) (hs : ∀ env, starEach [a, b, c] env = (false, eval a env) :: starEach [b, c] env := by intro _; rfl) (hs2 : ∀ env, starEach [b, c] env = (false, eval b env) :: starEach [c] env := by intro _; rfl) (hs3 : ∀ env, starEach [c] env = [(false, eval c env)] := by intro _; rfl) (hpl : ∀ env, (backTo pos (starEach [b, c] env)).any (·.1) = false := by intro _; rfl) : EIS cv W Xs tg (.Call (.Name "range" p) [a, b, c] [] pos) (apI dRng (fCons fa (fCons fb (fCons fc fNil)))) := by
  obtain ⟨t, h1, h2⟩ := ab_cons ha (ab_cons hb (ab_one hc hs3) hs2) hs
  refine ⟨_, fun j => pi_range3 (F.gl_ok hg j) (F.none hm j) (h1 j) (hs _) (hpl _), fun O σ ρ H R r p => h2 O σ ρ H _ r ?_⟩
  unfold apI at p
  cases ea : fCons fa (fCons fb (fCons fc fNil)) ρ with
  | no => rw [ea] at p; exact p
  | er c => rw [ea] at p; exact p
  | ok ds =>
    rw [ea, Rs.bind_ok] at p
    intro vs H1 x1 q1
    obtain ⟨d, d2, d3, rfl⟩ := fCons3 ea
    obtain ⟨v, v2, v3, rfl, q, q2, q3⟩ := q1.three
    unfold dRng at p
    split at p
    rotate_left 2
    · split at p
      · rename_i h3 h4
        simp only [List.cons.injEq, and_true] at h3
        obtain ⟨rfl, rfl, rfl⟩ := h3
        obtain ⟨⟨b1, b2, b3, b4⟩, rfl⟩ := h4
        exact ⟨_, _, _, _, by rw [q.int, q2.int, q3.int], RgC.neg b1 b2 b3 b4, p _ H1 x1 itd_down⟩
      · exact p.elim
    all_goals first | exact p.elim | (exfalso; rename_i h; simp at h)
def enumD (ds : List D) : List D := (List.range ds.length).map fun i => .tuple [.int (i : Nat), ds.getD i .none]
def zipD (xs ys : List D) : List D := (List.range (min xs.length ys.length)).map fun i => .tuple [xs.getD i .none, ys.getD i .none]
theorem getD_some {xs : List D} {i : Nat} (h : i < xs.length) : xs[i]? = some (xs.getD i .none) := by
  rw [List.getD_eq_getElem?_getD, List.getElem?_eq_getElem h]
  rfl
theorem enumD_get {ds : List D} {i : Nat} {d : D} (h : (enumD ds)[i]? = some d) : ∃ x, ds[i]? = some x ∧ d = .tuple [.int (i : Nat), x] := by
  unfold enumD at h
  rw [List.getElem?_map] at h
  by_cases hi : i < ds.length
  · rw [List.getElem?_range hi] at h
    exact ⟨_, getD_some hi, (Option.some.inj h).symm⟩
  · rw [List.getElem?_eq_none (by rw [List.length_range]; omega)] at h
    cases h
theorem zipD_get {xs ys : List D} {i : Nat} {d : D} (h : (zipD xs ys)[i]? = some d) : ∃ x y, xs[i]? = some x ∧ ys[i]? = some y ∧ d = .tuple [x, y] := by
  unfold zipD at h
  rw [List.getElem?_map] at h
  by_cases hi : i < min xs.length ys.length
  · rw [List.getElem?_range hi] at h
    exact ⟨_, _, getD_some (by omega), getD_some (by omega), (Option.some.inj h).symm⟩
  · rw [List.getElem?_eq_none (by rw [List.length_range]; omega)] at h
    cases h
theorem itd_enum {a : Addr} {B S : Hp} {vs : List V} {ds : List D} (h : B a = some (.lst vs)) (q : DqAll S vs ds) : ItD (Ite K a) B S (enumD ds) where
  go := fun i d H' x e => by
    obtain ⟨y, h0, rfl⟩ := enumD_get e
    obtain ⟨v, h1, h2⟩ := q.get i h0
    refine ⟨⟨vs, v, SqL.of (x _ _ h), h1⟩, fun y H2 hy => ?_⟩
    obtain ⟨T, u, rfl, nT, rfl, hy⟩ := hy
    have ev := hy vs (SqL.of (x _ _ h))
    rw [h1] at ev
    cases ev
    exact ⟨Ex.new nT, fun S' z n => .tup (n T _ nT upd_same) (.cons (.int _) (.cons (h2.mono z) .nil))⟩
  stop := fun H' x => ⟨vs, SqL.of (x _ _ h), by rw [q.length]; unfold enumD; simp⟩
theorem itd_zip {a b : Addr} {B S : Hp} {vs ws : List V} {ds es : List D} (h : B a = some (.lst vs)) (h' : B b = some (.lst ws)) (q : DqAll S vs ds) (q' : DqAll S ws es) : ItD (Itz K a b) B S (zipD ds es) where
  go := fun i d H' x e => by
    obtain ⟨y, y', h0, h0', rfl⟩ := zipD_get e
    obtain ⟨v, h1, h2⟩ := q.get i h0
    obtain ⟨v', h1', h2'⟩ := q'.get i h0'
    refine ⟨⟨vs, ws, v, v', SqL.of (x _ _ h), SqL.of (x _ _ h'), h1, h1'⟩, fun y H2 hy => ?_⟩
    obtain ⟨T, u, u', rfl, nT, rfl, hy, hy'⟩ := hy
    have ev := hy vs (SqL.of (x _ _ h))
    have ev' := hy' ws (SqL.of (x _ _ h'))
    rw [h1] at ev
    rw [h1'] at ev'
    cases ev
    cases ev'
    exact ⟨Ex.new nT, fun S' z n => .tup (n T _ nT upd_same) (.cons (h2.mono z) (.cons (h2'.mono z) .nil))⟩
  stop := fun H' x => ⟨vs, ws, SqL.of (x _ _ h), SqL.of (x _ _ h'), by rw [q.length, q'.length]; unfold zipD; simp; omega⟩
def dEnum : List D → Rs (List D)
  | [.list ds] => .ok (enumD ds)
  | _ => .no
def dZip : List D → Rs (List D)
  | [.list ds, .list es] => .ok (zipD ds es)
  | _ => .no
variable {elts : List Expr} {kt : Nat} {tpos : Pos}
theorem i_enum (F : Fam Xs P w K mg base N sc fnn k) {p : Pos} (hm : mg "enumerate" = none) (ha : EAB cv W Xs [a] fs) (hg : glB sc "enumerate" = true := by decide +kernel) (hs : ∀ env, starEach [a] env = [(false, eval a env)] := by intro _; rfl) : EI cv W Xs (.Tuple elts kt tpos) (.Call (.Name "enumerate" p) [a] [] pos) (apI dEnum fs) := by
  obtain ⟨t, h1, h2⟩ := ha
  refine ⟨iEnum K t, fun j => by have := pi_enum (elts := elts) (kk := kt) (tpos := tpos) (p := p) (pos := pos) (F.gl_ok hg j) (F.none hm j) (h1 j) (hs _); rw [F.kk j] at this; exact this, fun O σ ρ H R r p => h2 O σ ρ H _ r ?_⟩
  unfold apI at p
  cases ea : fs ρ with
  | no => rw [ea] at p; exact p
  | er c => rw [ea] at p; exact p
  | ok ds =>
    rw [ea, Rs.bind_ok] at p
    intro vs H1 x1 q1
    unfold dEnum at p
    split at p
    · obtain ⟨v, rfl, q⟩ := q1.one
      obtain ⟨l, ws, rfl, h3, h4⟩ := q.list
      exact ⟨l, ws, rfl, SqL.of h3, p _ H1 x1 (itd_enum h3 h4)⟩
    · exact p.elim
theorem is_enum (F : Fam Xs P w K mg base N sc fnn k) {p : Pos} (hm : mg "enumerate" = none) (ha : EA cv W Xs [a] fs) (hg : glB sc "enumerate" = true := by decide +kernel) (hs : ∀ env, starEach [a] env = [(false, eval a env)] := by intro _; rfl) : EIS cv W Xs (.Tuple elts kt tpos) (.Call (.Name "enumerate" p) [a] [] pos) (apI dEnum fs) := by
  obtain ⟨t, h1, h2⟩ := ha
  refine ⟨iEnum K t, fun j => by have := pi_enum (elts := elts) (kk := kt) (tpos := tpos) (p := p) (pos := pos) (F.gl_ok hg j) (F.none hm j) (h1 j) (hs _); rw [F.kk j] at this; exact this, fun O σ ρ H R r p => h2 O σ ρ H _ r ?_⟩
  unfold apI at p
  cases ea : fs ρ with
  | no => rw [ea] at p; exact p
  | er c => rw [ea] at p; exact p
  | ok ds =>
    rw [ea, Rs.bind_ok] at p
    intro vs H1 x1 q1
    unfold dEnum at p
    split at p
    · cases q1 with
      | cons q t =>
        cases t
        cases q with
        | lst h3 h4 => exact ⟨_, _, rfl, SqL.of (hide_le _ _ h3), p _ H1 x1 (itd_enum h3 h4)⟩
    · exact p.elim
theorem i_zip (F : Fam Xs P w K mg base N sc fnn k) {p : Pos} (hm : mg "zip" = none) (ha : EAB cv W Xs [a, b] fs) (hg : glB sc "zip" = true := by decide +kernel) (hs : ∀ env, starEach [a, b] env = (false, eval a env) :: starEach [b] env := by intro _; rfl) (hpl : ∀ env, (backTo pos (starEach [b] env)).any (·.1) = false := by intro _; rfl) : EI cv W Xs (.Tuple elts kt tpos) (.Call (.Name "zip" p) [a, b] [] pos) (apI dZip fs) := by
  obtain ⟨t, h1, h2⟩ := ha
  refine ⟨iZip K t, fun j => by have := pi_zip (elts := elts) (kk := kt) (tpos := tpos) (p := p) (pos := pos) (F.gl_ok hg j) (F.none hm j) (h1 j) (hs _) (hpl _); rw [F.kk j] at this; exact this, fun O σ ρ H R r p => h2 O σ ρ H _ r ?_⟩
  unfold apI at p
  cases ea : fs ρ with
  | no => rw [ea] at p; exact p
  | er c => rw [ea] at p; exact p
  | ok ds =>
    rw [ea, Rs.bind_ok] at p
    intro vs H1 x1 q1
    unfold dZip at p
    split at p
    · obtain ⟨v, v', rfl, q, q'⟩ := q1.two
      obtain ⟨l, ws, rfl, h3, h4⟩ := q.list
      obtain ⟨l', ws', rfl, h3', h4'⟩ := q'.list
      exact ⟨l, l', ws, ws', rfl, SqL.of h3, SqL.of h3', p _ H1 x1 (itd_zip h3 h3' h4 h4')⟩
    · exact p.elim
theorem is_zip (F : Fam Xs P w K mg base N sc fnn k) {p : Pos} (hm : mg "zip" = none) (ha : EA cv W Xs [a, b] fs) (hg : glB sc "zip" = true := by decide +kernel) (hs : ∀ env, starEach [a, b] env = (false, eval a env) :: starEach [b] env := by intro _; rfl) (hpl : ∀ env, (backTo pos (starEach [b] env)).any (·.1) = false := by intro _; rfl) : EIS cv W Xs (.Tuple elts kt tpos) (.Call (.Name "zip" p) [a, b] [] pos) (apI dZip fs) := by
  obtain ⟨t, h1, h2⟩ := ha
  refine ⟨iZip K t, fun j => by have := pi_zip (elts := elts) (kk := kt) (tpos := tpos) (p := p) (pos := pos) (F.gl_ok hg j) (F.none hm j) (h1 j) (hs _) (hpl _); rw [F.kk j] at this; exact this, fun O σ ρ H R r p => h2 O σ ρ H _ r ?_⟩
  unfold apI at p
  cases ea : fs ρ with
  | no => rw [ea] at p; exact p
  | er c => rw [ea] at p; exact p
  | ok ds =>
    rw [ea, Rs.bind_ok] at p
    intro vs H1 x1 q1
    unfold dZip at p
    split at p
    · cases q1 with
      | cons q t =>
        cases t with
        | cons q' t' =>
          cases t'
          cases q with
          | lst h3 h4 =>
            cases q' with
            | lst h3' h4' => exact ⟨_, _, _, _, rfl, SqL.of (hide_le _ _ h3), SqL.of (hide_le _ _ h3'), p _ H1 x1 (itd_zip h3 h3' h4 h4')⟩
    · exact p.elim

/-! ### list comprehensions -/
def compL (T : Tg) (ft : En → Rs Bool) (fe : En → Rs D) (ρ : En) : List D → Rs (List D)
  | [] => .ok []
  | d :: r => match T.asg d ρ with
    | none => .no
    | some ρ1 => (ft ρ1).noEr.bind fun b => if b = true then (fe ρ1).noEr.bind fun y => (compL T ft fe ρ r).bind fun ys => .ok (y :: ys) else compL T ft fe ρ r
def fComp (it : En → Rs (List D)) (T : Tg) (ft : En → Rs Bool) (fe : En → Rs D) (vs : List Nat) : En → Rs D := fun ρ => (it ρ).bind fun items =>
  if items.length ≤ LIM then (compL T ft fe (wipeE ρ vs) items).noEr.bind fun ys => .ok (.list ys) else .no
def ETs (cv : Nat → Value) (W : WX) (Xs : ι → Cx) (es : List Expr) (f : En → Rs Bool) : Prop := ∃ t, (∀ j, PTs (Xs j) es t) ∧ SndT cv W t f
theorem ts_nil : ETs cv W Xs [] tTrue := ⟨tYes, fun _ => pts_nil, fun O σ ρ H Q r p => p H (Ex.refl H)⟩
theorem ts_one {ft : En → Rs Bool} (h : ET cv W Xs c ft) : ETs cv W Xs [c] ft := by
  obtain ⟨t, h1, h2⟩ := h
  exact ⟨t, fun j => pts_one (h1 j), h2⟩
theorem noEr_ok {α : Type} {r : Rs α} {a : α} (h : r.noEr = .ok a) : r = .ok a := by
  cases r with
  | ok b => exact h
  | er c => cases h
  | no => cases h
theorem snd_comp {ti : TI} {g : TG} {tt : TT} {te : TE} {it : En → Rs (List D)} {ft : En → Rs Bool} {vs : List Nat} (hi : SndI cv W ti it) (hg : SndG g T) (ht : SndT cv W' tt ft) (he : SndE cv W' te fe) (hv : ∀ i ∈ T.ix, i ∈ vs) : SndF cv W (tLc ti g tt te vs) (fComp it T ft fe vs) := by
  intro O σ ρ H Q R p
  refine hi O σ ρ H _ R ?_
  unfold fComp at p
  cases ei : it ρ with
  | no => rw [ei] at p; exact p
  | er c => rw [ei] at p; exact p
  | ok items =>
    rw [ei, Rs.bind_ok] at p
    by_cases hl : items.length ≤ LIM
    · rw [if_pos hl] at p
      intro J H1 x1 dd A hA
      cases ec : (compL T ft fe (wipeE ρ vs) items).noEr with
      | no => rw [ec] at p; exact p.elim
      | er c => cases hz : compL T ft fe (wipeE ρ vs) items <;> rw [hz] at ec <;> cases ec
      | ok total =>
        rw [ec, Rs.bind_ok] at p
        have ec := noEr_ok ec
        have R1 := R.mono x1
        refine ⟨fun i m H' => m + i = items.length ∧ Ex H1 H' ∧ ∃ ws ds rest, H' A = some (.lst ws) ∧ DqAll (hide (A :: O) H') ws ds ∧ ds.length ≤ i ∧ compL T ft fe (wipeE ρ vs) (items.drop i) = .ok rest ∧ ds ++ rest = total,
          ⟨items.length, by omega, Ex.new hA, [], [], total, upd_same, .nil, Nat.le_refl _, by simpa using ec, rfl⟩, ?_⟩
        rintro i m H' ⟨hm, x2, ws, ds, rest, hD, qs, hlen, hcomp, htot⟩
        have hAO : A ∉ O := R1.fresh hA
        have mv : Ex (hide O H1) (hide (A :: O) H') := (hide_cons hA).trans (hide_ex x2)
        by_cases hlt : i < items.length
        · refine .inr ?_
          have hd : items[i]? = some items[i] := List.getElem?_eq_getElem hlt
          obtain ⟨hgo, hy⟩ := dd.go i _ H' x2 hd
          refine ⟨hgo, fun H3 => ∃ m', m' < m ∧ m' + (i + 1) = items.length ∧ Ex H1 H3 ∧ ∃ ws ds rest, H3 A = some (.lst ws) ∧ DqAll (hide (A :: O) H3) ws ds ∧ ds.length ≤ i + 1 ∧ compL T ft fe (wipeE ρ vs) (items.drop (i + 1)) = .ok rest ∧ ds ++ rest = total,
            fun H3 ⟨m', h1, h2, h3⟩ => ⟨m', h1, h2, h3⟩, fun x H3 hyl => ?_⟩
          obtain ⟨x3, hq⟩ := hy x H3 hyl
          have od3 : ∀ a ∈ A :: O, H' a ≠ none := by
            intro a ha z
            rcases List.mem_cons.mp ha with rfl | ha
            · rw [hD] at z; cases z
            · exact R1.od a ha (x2.free z)
          have qx : Dq (hide (A :: O) H3) x items[i] := hq _ (mv.trans (hide_ex x3)) fun a o n1 n2 => hide_some.mpr ⟨fun z => od3 a z n1, n2⟩
          -- the turn in the meaning
          rw [List.drop_eq_getElem_cons hlt] at hcomp
          unfold compL at hcomp
          cases ea : T.asg items[i] (wipeE ρ vs) with
          | none => rw [ea] at hcomp; cases hcomp
          | some ρ1 =>
            rw [ea] at hcomp
            unfold Tg.asg at ea
            cases ep : T.parts items[i] with
            | none => rw [ep] at ea; cases ea
            | some es =>
              rw [ep] at ea
              cases ea
              dsimp only at hcomp
              refine hg x items[i] es (wipe σ vs) H3 _ (hide (A :: O) H3) qx hide_le ep fun us hus => ?_
              refine ⟨wipe_setV σ vs T.ix us hv, ?_⟩
              have RW : RepE (A :: O) (wipe σ vs) (wipeE ρ vs) H3 := by
                refine RepE.wipe ⟨R1.len, fun a ha z => od3 a ha (x3.free z), NT.mono x3 od3 (NT.cons hD lst_nt (R1.nt.mono x2 R1.od)), fun j s e => ?_⟩ vs
                obtain ⟨v, l, q1, q2⟩ := R1.sl j s e
                refine ⟨v, l, q1, ?_⟩
                exact q2.moved' (mv.trans (hide_ex x3)) fun a _ u q => x3 _ _ (x2 _ _ q)
              have R2 := RW.setD (is := T.ix) hus
              refine ht (A :: O) _ _ H3 _ R2 ?_
              cases eb : ft (setD (wipeE ρ vs) T.ix es) with
              | no => rw [eb] at hcomp; cases hcomp
              | er c => rw [eb] at hcomp; cases hcomp
              | ok bb =>
                simp only [eb, Rs.noEr_ok, Rs.bind_ok] at hcomp
                intro H4 x4
                cases bb with
                | false =>
                  rw [if_neg (by decide)] at hcomp ⊢
                  exact ⟨m - 1, by omega, by omega, (x2.trans x3).trans x4, ws, ds, rest, x4 _ _ (x3 _ _ hD), qs.mono (hide_ex (x3.trans x4)), by omega, hcomp, htot⟩
                | true =>
                  rw [if_pos rfl] at hcomp ⊢
                  refine he (A :: O) _ _ H4 _ (R2.mono x4) ?_
                  cases ee : fe (setD (wipeE ρ vs) T.ix es) with
                  | no => rw [ee] at hcomp; cases hcomp
                  | er c => rw [ee] at hcomp; cases hcomp
                  | ok y =>
                    simp only [ee, Rs.noEr_ok, Rs.bind_ok] at hcomp
                    intro v H5 x5 q5
                    have hD5 := x5 _ _ (x4 _ _ (x3 _ _ hD))
                    refine ⟨ws, hD5, ?_, ?_⟩
                    · rw [qs.length]
                      exact lim_lt (by omega)
                    · cases er : compL T ft fe (wipeE ρ vs) (items.drop (i + 1)) with
                      | no => rw [er] at hcomp; cases hcomp
                      | er c => rw [er] at hcomp; cases hcomp
                      | ok ys =>
                        rw [er, Rs.bind_ok] at hcomp
                        cases hcomp
                        refine ⟨m - 1, by omega, by omega, ?_, ws ++ [v], ds ++ [y], ys, upd_same, ?_, by simp; omega, rfl, by rw [← htot]; simp⟩
                        · intro a o ha
                          rw [upd_ne (ne_of_none ha hA)]
                          exact x5 _ _ (x4 _ _ (x3 _ _ (x2 _ _ ha)))
                        · refine DqAll.mono (hide_own (by simp)) ((qs.mono (hide_ex ((x3.trans x4).trans x5))).append (.cons q5 .nil))
        · have ei : i = items.length := by omega
          subst ei
          refine .inl ⟨dd.stop H' x2, ?_⟩
          rw [List.drop_length] at hcomp
          cases hcomp
          rw [List.append_nil] at htot
          subst htot
          exact p A ws _ H' rfl (x1.trans x2) (x1.free hA) hD qs
    · rw [if_neg hl] at p
      exact fun _ _ _ _ => p.elim
end
end DL

namespace DL
open PySem L2
variable [SC]
section
variable {ι : Type} {cv : Nat → Value} {W W' : WX} {Xs : ι → Cx} {P : Program} {w : World} {K : PySem.W.Frag} {mg : Str → Option Value} {base : Heap} {N : List Str} {sc : Scope} {fnn : Str → Bool} {k : Nat}
variable {e a b c tg iter elt : Expr} {es ifs : List Expr} {f fa fb fc fe : En → Rs D} {fs : En → Rs (List D)} {ft : En → Rs Bool} {it : En → Rs (List D)} {pos : Pos} {is : List Nat} {T : Tg} {scope : Scope}

/-- [elt for tg in iter if ..] -/
theorem f_comp (F : Fam Xs P w K mg base N sc fnn k) (own : List (Str × Nat)) (hi : EI cv W Xs tg iter it)
    (hg : Fam (blkF Xs scope) P w K mg base N (relS scope sc) (fun x => scope.names.lookup x == Option.some NameKind.cell) k → EG (blkF Xs scope) tg T)
    (ht : Fam (blkF Xs scope) P w K mg base N (relS scope sc) (fun x => scope.names.lookup x == Option.some NameKind.cell) k → ETs cv W' (blkF Xs scope) ifs ft)
    (he : Fam (blkF Xs scope) P w K mg base N (relS scope sc) (fun x => scope.names.lookup x == Option.some NameKind.cell) k → EE cv W' (blkF Xs scope) elt fe)
    (ok : blkC N sc scope own = true := by decide +kernel) (hv : ∀ i ∈ T.ix, i ∈ own.map (·.2) := by decide) (hs : ∀ env x, foldedSetIterable iter env x = pure x := by intro _ _; rfl) :
    EF cv W Xs (.ListComp elt [⟨tg, iter, ifs, 0⟩] scope pos) (fComp it T ft fe (own.map (·.2))) := by
  obtain ⟨ti, h1, h2⟩ := hi
  obtain ⟨g, h3, h4⟩ := hg (F.blk scope)
  obtain ⟨tt, h5, h6⟩ := ht (F.blk scope)
  obtain ⟨te, h7, h8⟩ := he (F.blk scope)
  refine ⟨tLc ti g tt te (own.map (·.2)), fun j => ?_, snd_comp h2 h4 h6 h8 hv⟩
  refine pe_lc (F.calm j) (F.ndj j) (h1 j) ?_ (fun s H C cl fp => h3 (j, s, H, C, cl, fp)) (fun s H C cl fp => h5 (j, s, H, C, cl, fp)) (fun s H C cl fp => h7 (j, s, H, C, cl, fp)) (hs _)
  rw [F.nm j, F.scp j]
  exact blkOk_by ok

/-! ### isinstance -/
def tyName : D → String
  | .none => "NoneType"
  | .bool _ => "bool"
  | .int _ => "int"
  | .str _ => "str"
  | .list _ => "list"
  | .tuple _ => "tuple"
  | .dict _ => "dict"
def isiB (a T : String) : Bool := a == T || (a == "bool" && T == "int")
def dIsi (T : String) (d : D) : Rs D := .ok (.bool (isiB (tyName d) T))
def TyGood (T : String) : Prop := ∀ d : D, kitB (tyName d) T = some (isiB (tyName d) T)
def tyNames : List String := ["NoneType", "bool", "int", "str", "list", "tuple", "dict"]
theorem tyName_mem (d : D) : tyName d ∈ tyNames := by cases d <;> simp [tyName, tyNames]
theorem tg_of {T : String} (h : (tyNames.all fun a => decide (kitB a T = some (isiB a T))) = true) : TyGood T := fun d => of_decide_eq_true (List.all_eq_true.mp h _ (tyName_mem d))
theorem tg_int : TyGood "int" := tg_of (by decide +kernel)
theorem tg_bool : TyGood "bool" := tg_of (by decide +kernel)
theorem tg_list : TyGood "list" := tg_of (by decide +kernel)
theorem tg_tuple : TyGood "tuple" := tg_of (by decide +kernel)
theorem tg_str : TyGood "str" := tg_of (by decide +kernel)
theorem DB.ty {O : List Addr} {H : Hp} {v : V} {d : D} (h : DB O H v d) : TyX K H v (.type (tyName d)) := by
  have q := h.all
  cases q with
  | non => exact .base .non
  | bl b => exact .base (.bl b)
  | int i => exact .base (.int i)
  | str x => exact .base (.str x)
  | lst h1 _ => exact .base (.lst h1)
  | tup h1 _ => exact .base (.tup h1)
theorem e_isi (F : Fam Xs P w K mg base N sc fnn k) {p pp : Pos} {x : Str} {TN : String} (tg : TyGood TN) (hm : mg "isinstance" = none) (hmx : mg x = none) (hvx : bootBuiltins x = some (.type TN)) (ha : EB cv W Xs a fa)
    (hg : glB sc "isinstance" = true := by decide +kernel) (hgx : glB sc x = true := by decide +kernel) (hnx : x ≠ "__name__" := by decide) (hdx : (x == ("__debug__" : Str)) = false := by decide)
    (hs : ∀ env, starEach [a, .Name x pp] env = (false, eval a env) :: starEach [.Name x pp] env := by intro _; rfl) : EE cv W Xs (.Call (.Name "isinstance" p) [a, .Name x pp] [] pos) (ap1 (dIsi TN) fa) := by
  obtain ⟨ta, h1, h2⟩ := ha
  refine ⟨tCB (rIsi K) (tCons ta (tCons (tC (.ty TN)) tNil)), fun j => ?_, fun O σ ρ H Q R p => h2 O σ ρ H _ R ?_⟩
  · have hc := call_isi (X := Xs j)
    rw [F.kk j] at hc
    exact pe_callB hc (F.gl_ok hg j) (F.none hm j) PyProof.Rows.boot_isinstance (pa_cons (h1 j) (pa_cons (pe_bltn (v := .ty TN) (F.gl_ok hgx j) (F.none hmx j) hvx rfl hnx hdx) pa_nil rfl) (hs _)) (by decide) (by decide) (hs _) rfl
  · unfold ap1 at p
    cases ea : fa ρ with
    | no => rw [ea] at p; exact p
    | er c => rw [ea] at p; exact p
    | ok d =>
      rw [ea, Rs.bind_ok] at p
      intro v H1 x1 q1
      exact ⟨v, .ty TN, _, _, _, rfl, .ty TN, q1.ty, kit_ty (tg d), p _ H1 x1 (.bl _)⟩

/-! ### built-in functions -/
def dLen : List D → Rs D
  | [.list ds] => .ok (.int (ds.length : Nat))
  | [.tuple ds] => .ok (.int (ds.length : Nat))
  | [.str z] => if z.length ≤ LIM then .ok (.int (z.length : Nat)) else .no
  | _ => .no
def rLenA (K : PySem.W.Frag) : List V → Hp → VK → Prop := fun xs H Q => (∃ p ys, xs = [.ref p] ∧ (SqL K H p ys ∨ SqT K H p ys) ∧ Q (.int (ys.length : Nat)) H) ∨ (∃ z, xs = [.str z] ∧ z.length ≤ sizeLine ∧ Q (.int (z.length : Nat)) H)
theorem cle_len : ClE (rLenA K) dLen := by
  intro O vs H Q ds od q p
  unfold dLen at p
  split at p
  · obtain ⟨v, rfl, qq⟩ := q.one
    obtain ⟨l, ws, rfl, h3, h4⟩ := qq.list
    exact .inl ⟨l, ws, rfl, .inl (SqL.of h3), by rw [h4.length]; exact p _ H (Ex.refl H) (.int _)⟩
  · obtain ⟨v, rfl, qq⟩ := q.one
    obtain ⟨l, ws, rfl, h3, h4⟩ := qq.tuple
    exact .inl ⟨l, ws, rfl, .inr (SqT.of h3.2), by rw [h4.length]; exact p _ H (Ex.refl H) (.int _)⟩
  · obtain ⟨v, rfl, qq⟩ := q.one
    split at p
    · exact .inr ⟨_, by rw [qq.str], lim_size ‹_›, p _ H (Ex.refl H) (.int _)⟩
    · exact p.elim
  · exact p.elim
theorem noer_len : Noer1 dLen := fun x c => by unfold dLen; split <;> (try split) <;> simp
theorem e_len (F : Fam Xs P w K mg base N sc fnn k) {p : Pos} (hm : mg "len" = none) (ha : EB cv W Xs a fa) (hg : glB sc "len" = true := by decide +kernel) (hs : ∀ env, starEach [a] env = (false, eval a env) :: starEach [] env := by intro _; rfl) :
    EE cv W Xs (.Call (.Name "len" p) [a] [] pos) (apL dLen (fCons fa fNil)) :=
  e_callB F (fun j => by have h := call_len_seq (X := Xs j); rw [F.kk j] at h; exact h.or call_len_str) (cle_len (K := K)) noer_len hm PySem.boot_len (ab_one ha hs) hg (by decide) (by decide) hs (by intro _; rfl)
def dAbs : List D → Rs D
  | [.int i] => .ok (.int (if i < 0 then -i else i))
  | _ => .no
theorem noer_abs : Noer1 dAbs := fun x c => by unfold dAbs; split <;> simp
theorem cle_abs : ClE (fun xs H Q => ∃ i, xs = [.int i] ∧ Q (.int (if i < 0 then -i else i)) H) dAbs := by
  intro O vs H Q ds od q p
  unfold dAbs at p
  split at p
  · obtain ⟨v, rfl, qq⟩ := q.one
    exact ⟨_, by rw [qq.int], p _ H (Ex.refl H) (.int _)⟩
  · exact p.elim
theorem e_abs (F : Fam Xs P w K mg base N sc fnn k) {p : Pos} (hm : mg "abs" = none) (ha : EB cv W Xs a fa) (hg : glB sc "abs" = true := by decide +kernel) (hs : ∀ env, starEach [a] env = (false, eval a env) :: starEach [] env := by intro _; rfl) :
    EE cv W Xs (.Call (.Name "abs" p) [a] [] pos) (apL dAbs (fCons fa fNil)) :=
  e_callB F (fun j => call_abs) cle_abs noer_abs hm PyProof.Rows.boot_abs (ab_one ha hs) hg (by decide) (by decide) hs (by intro _; rfl)
def intsOf : List D → Option (List Int)
  | [] => some []
  | .int i :: r => (intsOf r).map (i :: ·)
  | _ => none
theorem intsOf_eq : ∀ {ds : List D} {ns : List Int}, intsOf ds = some ns → ds = ns.map PyData.int
  | [], ns, h => by cases h; rfl
  | d :: ds, ns, h => by
    cases d with
    | int i =>
      unfold intsOf at h
      cases e : intsOf ds with
      | none => rw [e] at h; cases h
      | some ms => rw [e] at h; cases h; rw [intsOf_eq e]; rfl
    | _ => cases h
theorem intsOf_map : ∀ ns : List Int, intsOf (ns.map PyData.int) = some ns
  | [] => rfl
  | n :: ns => by
    show (intsOf (ns.map PyData.int)).map (n :: ·) = _
    rw [intsOf_map ns]
    rfl
def boolsOf : List D → Option (List Bool)
  | [] => some []
  | .bool i :: r => (boolsOf r).map (i :: ·)
  | _ => none
theorem boolsOf_eq : ∀ {ds : List D} {ns : List Bool}, boolsOf ds = some ns → ds = ns.map PyData.bool
  | [], ns, h => by cases h; rfl
  | d :: ds, ns, h => by
    cases d with
    | bool i =>
      unfold boolsOf at h
      cases e : boolsOf ds with
      | none => rw [e] at h; cases h
      | some ms => rw [e] at h; cases h; rw [boolsOf_eq e]; rfl
    | _ => cases h
theorem boolsOf_map : ∀ ns : List Bool, boolsOf (ns.map PyData.bool) = some ns
  | [] => rfl
  | n :: ns => by
    show (boolsOf (ns.map PyData.bool)).map (n :: ·) = _
    rw [boolsOf_map ns]
    rfl
def maxI : List Int → Int
  | [] => 0
  | [x] => x
  | x :: r => max x (maxI r)
def minI : List Int → Int
  | [] => 0
  | [x] => x
  | x :: r => min x (minI r)
theorem maxI_spec : ∀ (ns : List Int), ns ≠ [] → maxI ns ∈ ns ∧ ∀ y ∈ ns, y ≤ maxI ns
  | [], h => absurd rfl h
  | [x], _ => by simp [maxI]
  | x :: y :: r, _ => by
    obtain ⟨h1, h2⟩ := maxI_spec (y :: r) (by simp)
    have e : maxI (x :: y :: r) = max x (maxI (y :: r)) := rfl
    refine ⟨?_, fun z hz => ?_⟩
    · rw [e]
      by_cases h : x ≤ maxI (y :: r)
      · rw [Int.max_eq_right h]; exact List.mem_cons_of_mem _ h1
      · rw [Int.max_eq_left (by omega)]; simp
    · rw [e]
      rcases List.mem_cons.mp hz with rfl | hz
      · omega
      · have := h2 z hz; omega
theorem minI_spec : ∀ (ns : List Int), ns ≠ [] → minI ns ∈ ns ∧ ∀ y ∈ ns, minI ns ≤ y
  | [], h => absurd rfl h
  | [x], _ => by simp [minI]
  | x :: y :: r, _ => by
    obtain ⟨h1, h2⟩ := minI_spec (y :: r) (by simp)
    have e : minI (x :: y :: r) = min x (minI (y :: r)) := rfl
    refine ⟨?_, fun z hz => ?_⟩
    · rw [e]
      by_cases h : x ≤ minI (y :: r)
      · rw [Int.min_eq_left h]; simp
      · rw [Int.min_eq_right (by omega)]; exact List.mem_cons_of_mem _ h1
    · rw [e]
      rcases List.mem_cons.mp hz with rfl | hz
      · omega
      · have := h2 z hz; omega
def dMax : List D → Rs D
  | [.list ds] => match intsOf ds with
    | some ns => if ns ≠ [] then .ok (.int (maxI ns)) else .no
    | none => .no
  | [.int i, .int j] => .ok (.int (if j > i then j else i))
  | _ => .no
def dMin : List D → Rs D
  | [.list ds] => match intsOf ds with
    | some ns => if ns ≠ [] then .ok (.int (minI ns)) else .no
    | none => .no
  | [.int i, .int j] => .ok (.int (if j < i then j else i))
  | _ => .no
theorem noer_max : Noer1 dMax := fun x c => by unfold dMax; split <;> (try split) <;> (try split) <;> simp
theorem noer_min : Noer1 dMin := fun x c => by unfold dMin; split <;> (try split) <;> (try split) <;> simp
theorem cle_max : ClE (fun xs H Q => rMax K xs H Q ∨ (∃ i j, xs = [.int i, .int j] ∧ Q (.int (if j > i then j else i)) H)) dMax := by
  intro O vs H Q ds od q p
  unfold dMax at p
  split at p
  · split at p
    · split at p
      · rename_i _ ns h hn
        have e := intsOf_eq h
        subst e
        obtain ⟨v, rfl, qq⟩ := q.one
        obtain ⟨l, ws, rfl, h3, h4⟩ := qq.list
        have e := h4.ints
        subst e
        refine .inl ⟨l, ns, rfl, SqL.of h3, List.length_pos_iff.mpr hn, fun m hm1 hm2 => ?_⟩
        obtain ⟨h5, h6⟩ := maxI_spec ns hn
        have e : m = maxI ns := Int.le_antisymm (h6 m hm1) (hm2 _ h5)
        subst e
        exact p _ H (Ex.refl H) (.int _)
      · exact p.elim
    · exact p.elim
  · obtain ⟨v, v', rfl, q1, q2⟩ := q.two
    exact .inr ⟨_, _, by rw [q1.int, q2.int], p _ H (Ex.refl H) (.int _)⟩
  · exact p.elim
theorem cle_min : ClE (fun xs H Q => rMin K xs H Q ∨ (∃ i j, xs = [.int i, .int j] ∧ Q (.int (if j < i then j else i)) H)) dMin := by
  intro O vs H Q ds od q p
  unfold dMin at p
  split at p
  · split at p
    · split at p
      · rename_i _ ns h hn
        have e := intsOf_eq h
        subst e
        obtain ⟨v, rfl, qq⟩ := q.one
        obtain ⟨l, ws, rfl, h3, h4⟩ := qq.list
        have e := h4.ints
        subst e
        refine .inl ⟨l, ns, rfl, SqL.of h3, List.length_pos_iff.mpr hn, fun m hm1 hm2 => ?_⟩
        obtain ⟨h5, h6⟩ := minI_spec ns hn
        have e : m = minI ns := Int.le_antisymm (hm2 _ h5) (h6 m hm1)
        subst e
        exact p _ H (Ex.refl H) (.int _)
      · exact p.elim
    · exact p.elim
  · obtain ⟨v, v', rfl, q1, q2⟩ := q.two
    exact .inr ⟨_, _, by rw [q1.int, q2.int], p _ H (Ex.refl H) (.int _)⟩
  · exact p.elim
theorem e_max1 (F : Fam Xs P w K mg base N sc fnn k) {p : Pos} (hm : mg "max" = none) (ha : EB cv W Xs a fa) (hg : glB sc "max" = true := by decide +kernel) (hs : ∀ env, starEach [a] env = (false, eval a env) :: starEach [] env := by intro _; rfl) :
    EE cv W Xs (.Call (.Name "max" p) [a] [] pos) (apL dMax (fCons fa fNil)) :=
  e_callB F (fun j => by have h := cr_max (X := Xs j) (F.calm j); rw [F.kk j] at h; exact h.or (call_max2 (F.calm j))) (cle_max (K := K)) noer_max hm PyProof.Rows.boot_max (ab_one ha hs) hg (by decide) (by decide) hs (by intro _; rfl)
theorem e_max2 (F : Fam Xs P w K mg base N sc fnn k) {p : Pos} (hm : mg "max" = none) (ha : EB cv W Xs a fa) (hb : EB cv W Xs b fb) (hg : glB sc "max" = true := by decide +kernel) (hs : ∀ env, starEach [a, b] env = (false, eval a env) :: starEach [b] env := by intro _; rfl) (hs2 : ∀ env, starEach [b] env = (false, eval b env) :: starEach [] env := by intro _; rfl) (hpl : ∀ env, (backTo pos (starEach [b] env)).any (·.1) = false := by intro _; rfl) :
    EE cv W Xs (.Call (.Name "max" p) [a, b] [] pos) (apL dMax (fCons fa (fCons fb fNil))) :=
  e_callB F (fun j => by have h := cr_max (X := Xs j) (F.calm j); rw [F.kk j] at h; exact h.or (call_max2 (F.calm j))) (cle_max (K := K)) noer_max hm PyProof.Rows.boot_max (ab_cons ha (ab_one hb hs2) hs) hg (by decide) (by decide) hs hpl
theorem e_min1 (F : Fam Xs P w K mg base N sc fnn k) {p : Pos} (hm : mg "min" = none) (ha : EB cv W Xs a fa) (hg : glB sc "min" = true := by decide +kernel) (hs : ∀ env, starEach [a] env = (false, eval a env) :: starEach [] env := by intro _; rfl) :
    EE cv W Xs (.Call (.Name "min" p) [a] [] pos) (apL dMin (fCons fa fNil)) :=
  e_callB F (fun j => by have h := cr_min (X := Xs j) (F.calm j); rw [F.kk j] at h; exact h.or (call_min2 (F.calm j))) (cle_min (K := K)) noer_min hm PyProof.Rows.boot_min (ab_one ha hs) hg (by decide) (by decide) hs (by intro _; rfl)
theorem e_min2 (F : Fam Xs P w K mg base N sc fnn k) {p : Pos} (hm : mg "min" = none) (ha : EB cv W Xs a fa) (hb : EB cv W Xs b fb) (hg : glB sc "min" = true := by decide +kernel) (hs : ∀ env, starEach [a, b] env = (false, eval a env) :: starEach [b] env := by intro _; rfl) (hs2 : ∀ env, starEach [b] env = (false, eval b env) :: starEach [] env := by intro _; rfl) (hpl : ∀ env, (backTo pos (starEach [b] env)).any (·.1) = false := by intro _; rfl) :
    EE cv W Xs (.Call (.Name "min" p) [a, b] [] pos) (apL dMin (fCons fa (fCons fb fNil))) :=
  e_callB F (fun j => by have h := cr_min (X := Xs j) (F.calm j); rw [F.kk j] at h; exact h.or (call_min2 (F.calm j))) (cle_min (K := K)) noer_min hm PyProof.Rows.boot_min (ab_cons ha (ab_one hb hs2) hs) hg (by decide) (by decide) hs hpl
def dSum : List D → Rs D
  | [.list ds] => match intsOf ds with
    | some ns => .ok (.int ns.sum)
    | none => .no
  | _ => .no
theorem noer_sum : Noer1 dSum := fun x c => by unfold dSum; split <;> (try split) <;> simp
theorem cle_sum : ClE (rSum K) dSum := by
  intro O vs H Q ds od q p
  unfold dSum at p
  split at p
  · split at p
    · rename_i _ ns h
      have e := intsOf_eq h
      subst e
      obtain ⟨v, rfl, qq⟩ := q.one
      obtain ⟨l, ws, rfl, h3, h4⟩ := qq.list
      have e := h4.ints
      subst e
      exact ⟨l, ns, rfl, SqL.of h3, p _ H (Ex.refl H) (.int _)⟩
    · exact p.elim
  · exact p.elim
theorem e_sum (F : Fam Xs P w K mg base N sc fnn k) {p : Pos} (hm : mg "sum" = none) (ha : EB cv W Xs a fa) (hg : glB sc "sum" = true := by decide +kernel) (hs : ∀ env, starEach [a] env = (false, eval a env) :: starEach [] env := by intro _; rfl) :
    EE cv W Xs (.Call (.Name "sum" p) [a] [] pos) (apL dSum (fCons fa fNil)) :=
  e_callB F (fun j => by have h := cr_sum (X := Xs j) (F.calm j); rw [F.kk j] at h; exact h) cle_sum noer_sum hm PyProof.Rows.boot_sum (ab_one ha hs) hg (by decide) (by decide) hs (by intro _; rfl)
def dAll : List D → Rs D
  | [.list ds] => match boolsOf ds with
    | some ns => .ok (.bool (ns.all id))
    | none => .no
  | _ => .no
theorem noer_all : Noer1 dAll := fun x c => by unfold dAll; split <;> (try split) <;> simp
theorem cle_all : ClE (rAll K) dAll := by
  intro O vs H Q ds od q p
  unfold dAll at p
  split at p
  · split at p
    · rename_i _ ns h
      have e := boolsOf_eq h
      subst e
      obtain ⟨v, rfl, qq⟩ := q.one
      obtain ⟨l, ws, rfl, h3, h4⟩ := qq.list
      have e := h4.bools
      subst e
      exact ⟨l, ns, rfl, SqL.of h3, p _ H (Ex.refl H) (.bl _)⟩
    · exact p.elim
  · exact p.elim
theorem e_all (F : Fam Xs P w K mg base N sc fnn k) {p : Pos} (hm : mg "all" = none) (ha : EB cv W Xs a fa) (hg : glB sc "all" = true := by decide +kernel) (hs : ∀ env, starEach [a] env = (false, eval a env) :: starEach [] env := by intro _; rfl) :
    EE cv W Xs (.Call (.Name "all" p) [a] [] pos) (apL dAll (fCons fa fNil)) :=
  e_callB F (fun j => by have h := cr_all (X := Xs j) (F.calm j); rw [F.kk j] at h; exact h) cle_all noer_all hm PyProof.Rows.boot_all (ab_one ha hs) hg (by decide) (by decide) hs (by intro _; rfl)
/-! sorted of ints -/
def insI (x : Int) : List Int → List Int
  | [] => [x]
  | y :: r => if x ≤ y then x :: y :: r else y :: insI x r
def sortI : List Int → List Int
  | [] => []
  | x :: r => insI x (sortI r)
theorem insI_perm (x : Int) : ∀ l : List Int, (insI x l).Perm (x :: l)
  | [] => List.Perm.refl _
  | y :: r => by
    unfold insI
    split
    · exact List.Perm.refl _
    · exact ((insI_perm x r).cons y).trans (List.Perm.swap x y r)
theorem sortI_perm : ∀ l : List Int, (sortI l).Perm l
  | [] => List.Perm.refl _
  | x :: r => (insI_perm x _).trans ((sortI_perm r).cons x)
theorem insI_sorted (x : Int) : ∀ l : List Int, l.Pairwise (· ≤ ·) → (insI x l).Pairwise (· ≤ ·)
  | [], _ => by simp [insI]
  | y :: r, h => by
    unfold insI
    split
    · rename_i hxy
      rw [List.pairwise_cons]
      refine ⟨fun z hz => ?_, h⟩
      rcases List.mem_cons.mp hz with rfl | hz
      · exact hxy
      · exact Int.le_trans hxy ((List.pairwise_cons.mp h).1 z hz)
    · rename_i hxy
      rw [List.pairwise_cons] at h ⊢
      refine ⟨fun z hz => ?_, insI_sorted x r h.2⟩
      have := (insI_perm x r).mem_iff.mp hz
      rcases List.mem_cons.mp this with rfl | hz'
      · omega
      · exact h.1 z hz'
theorem sortI_sorted : ∀ l : List Int, (sortI l).Pairwise (· ≤ ·)
  | [] => by simp [sortI]
  | x :: r => insI_sorted x _ (sortI_sorted r)
theorem sorted_unique : ∀ {l m : List Int}, l.Perm m → l.Pairwise (· ≤ ·) → m.Pairwise (· ≤ ·) → l = m
  | [], m, h, _, _ => by rw [List.nil_perm] at h; exact h.symm
  | x :: l, [], h, _, _ => by have := h.length_eq; simp at this
  | x :: l, y :: m, h, hl, hm => by
    rw [List.pairwise_cons] at hl hm
    have e : x = y := by
      have hx : x ∈ y :: m := h.mem_iff.mp (by simp)
      have hy : y ∈ x :: l := h.mem_iff.mpr (by simp)
      rcases List.mem_cons.mp hx with q | q
      · exact q
      · rcases List.mem_cons.mp hy with q' | q'
        · exact q'.symm
        · exact Int.le_antisymm (hl.1 y q') (hm.1 x q)
    subst e
    rw [sorted_unique ((List.perm_cons x).mp h) hl.2 hm.2]
def dSorted : List D → Rs D
  | [.list ds] => match intsOf ds with
    | some ns => .ok (.list ((sortI ns).map PyData.int))
    | none => .no
  | _ => .no
theorem noer_sorted : Noer1 dSorted := fun x c => by unfold dSorted; split <;> (try split) <;> simp
theorem clf_sorted : ClF (rSortedI K) dSorted := by
  intro O vs H Q ds od q p
  unfold dSorted at p
  split at p
  · split at p
    · rename_i _ ns h
      have e := intsOf_eq h
      subst e
      obtain ⟨v, rfl, qq⟩ := q.one
      obtain ⟨l, ws, rfl, h3, h4⟩ := qq.list
      have e := h4.ints
      subst e
      refine ⟨l, ns, rfl, SqL.of h3, fun ms q hp hs hq => ?_⟩
      have e : ms = sortI ns := sorted_unique (hp.trans (sortI_perm ns).symm) hs (sortI_sorted ns)
      subst e
      exact p q _ _ _ rfl (Ex.new hq) hq upd_same (DqAll.ofInts _)
    · exact p.elim
  · exact p.elim
theorem f_sorted (F : Fam Xs P w K mg base N sc fnn k) {p : Pos} (hm : mg "sorted" = none) (ha : EB cv W Xs a fa) (hg : glB sc "sorted" = true := by decide +kernel) (hs : ∀ env, starEach [a] env = (false, eval a env) :: starEach [] env := by intro _; rfl) :
    EF cv W Xs (.Call (.Name "sorted" p) [a] [] pos) (apL dSorted (fCons fa fNil)) :=
  e_callBF F (fun j => by have h := cr_sortedI (X := Xs j); rw [F.kk j] at h; exact h) clf_sorted noer_sorted hm PyProof.Rows.boot_sorted (ab_one ha hs) hg (by decide) (by decide) hs (by intro _; rfl)
/-! list(x), tuple(x), list(range(..)) -/
def dList : List D → Rs D
  | [.list ds] => .ok (.list ds)
  | [.tuple ds] => .ok (.list ds)
  | _ => .no
theorem noer_list : Noer1 dList := fun x c => by unfold dList; split <;> simp
theorem clf_list : ClF (fun xs H Q => ∃ p ys, xs = [.ref p] ∧ (SqL K H p ys ∨ SqT K H p ys) ∧ ∀ l, H l = none → Q (.ref l) (upd H l (.lst ys))) dList := by
  intro O vs H Q ds od q p
  unfold dList at p
  split at p
  · obtain ⟨v, rfl, qq⟩ := q.one
    obtain ⟨l, ws, rfl, h3, h4⟩ := qq.list
    exact ⟨l, ws, rfl, .inl (SqL.of h3), fun q hq => p q _ _ _ rfl (Ex.new hq) hq upd_same (h4.mono (hide_new hq))⟩
  · obtain ⟨v, rfl, qq⟩ := q.one
    obtain ⟨l, ws, rfl, h3, h4⟩ := qq.tuple
    exact ⟨l, ws, rfl, .inr (SqT.of h3.2), fun q hq => p q _ _ _ rfl (Ex.new hq) hq upd_same (h4.mono (hide_new hq))⟩
  · exact p.elim
theorem f_list (F : Fam Xs P w K mg base N sc fnn k) {p : Pos} (hm : mg "list" = none) (ha : EB cv W Xs a fa) (hg : glB sc "list" = true := by decide +kernel) (hs : ∀ env, starEach [a] env = (false, eval a env) :: starEach [] env := by intro _; rfl) :
    EF cv W Xs (.Call (.Name "list" p) [a] [] pos) (apL dList (fCons fa fNil)) :=
  e_callTyF F (fun j => by have h := call_list_of (X := Xs j); rw [F.kk j] at h; exact h) clf_list noer_list hm PyProof.Rows.boot_list (ab_one ha hs) hg (by decide) (by decide) hs (by intro _; rfl)
def dTuple : List D → Rs D
  | [.list ds] => .ok (.tuple ds)
  | [.tuple ds] => .ok (.tuple ds)
  | _ => .no
theorem noer_tuple : Noer1 dTuple := fun x c => by unfold dTuple; split <;> simp
theorem cle_tuple : ClE (fun xs H Q => ∃ p ys, xs = [.ref p] ∧ ((SqL K H p ys ∧ ∀ l, H l = none → Q (.ref l) (upd H l (.tup ys))) ∨ (SqT K H p ys ∧ Q (.ref p) H))) dTuple := by
  intro O vs H Q ds od q p
  unfold dTuple at p
  split at p
  · obtain ⟨v, rfl, qq⟩ := q.one
    obtain ⟨l, ws, rfl, h3, h4⟩ := qq.list
    exact ⟨l, ws, rfl, .inl ⟨SqL.of h3, fun q hq => p _ _ (Ex.new hq) (.tup (hide_some.mpr ⟨fun z => od q z hq, upd_same⟩) (h4.mono (hide_ex (Ex.new hq))))⟩⟩
  · obtain ⟨v, rfl, qq⟩ := q.one
    obtain ⟨l, ws, rfl, h3, h4⟩ := qq.tuple
    exact ⟨l, ws, rfl, .inr ⟨SqT.of h3.2, p _ H (Ex.refl H) (.tup (hide_some.mpr h3) h4)⟩⟩
  · exact p.elim
theorem e_tuple (F : Fam Xs P w K mg base N sc fnn k) {p : Pos} (hm : mg "tuple" = none) (ha : EB cv W Xs a fa) (hg : glB sc "tuple" = true := by decide +kernel) (hs : ∀ env, starEach [a] env = (false, eval a env) :: starEach [] env := by intro _; rfl) :
    EE cv W Xs (.Call (.Name "tuple" p) [a] [] pos) (apL dTuple (fCons fa fNil)) :=
  e_callTy F (fun j => by have h := call_tuple_of (X := Xs j); rw [F.kk j] at h; exact h) cle_tuple noer_tuple hm PyProof.Rows.boot_tuple (ab_one ha hs) hg (by decide) (by decide) hs (by intro _; rfl)
theorem DqAll.range {H : Hp} (a b : Int) : DqAll H (rgV a b) (rangeD a (b - a).toNat) := by
  unfold rgV rangeD
  generalize List.range (b - a).toNat = l
  induction l with
  | nil => exact .nil
  | cons x l ih => exact .cons (.int _) ih
def dRange : D → D → Rs D
  | .int i, .int j => if (-(2 ^ 62) ≤ i ∧ i < 2 ^ 62 ∧ -(2 ^ 62) ≤ j ∧ j < 2 ^ 62) ∧ (j - i).toNat ≤ LIM then .ok (.list (rangeD i (j - i).toNat)) else .no
  | _, _ => .no
theorem f_list_range2 (F : Fam Xs P w K mg base N sc fnn k) {p pp ppos : Pos} (hm : mg "list" = none) (hmr : mg "range" = none) (ha : EB cv W Xs a fa) (hb : EB cv W Xs b fb) (hg : glB sc "list" = true := by decide +kernel) (hgr : glB sc "range" = true := by decide +kernel)
    (hs : ∀ env, starEach [a, b] env = (false, eval a env) :: starEach [b] env := by intro _; rfl) (hs2 : ∀ env, starEach [b] env = (false, eval b env) :: starEach [] env := by intro _; rfl) (hpl : ∀ env, (backTo ppos (starEach [b] env)).any (·.1) = false := by intro _; rfl) :
    EF cv W Xs (.Call (.Name "list" p) [.Call (.Name "range" pp) [a, b] [] ppos] [] pos) (ap2 dRange fa fb) := by
  obtain ⟨ta, h1, h2⟩ := ha
  obtain ⟨tb, h3, h4⟩ := hb
  refine ⟨tLstRg (tRg2 ta tb), fun j => pe_listRg (F.calm j) (F.gl_ok hg j) (F.none hm j) (prg_2 (F.gl_ok hgr j) (F.none hmr j) (h1 j) (h3 j) (hs _) (hs2 _) (hpl _)) rfl, fun O σ ρ H Q R p => h2 O σ ρ H _ R ?_⟩
  unfold ap2 at p
  cases ea : fa ρ with
  | no => rw [ea] at p; exact p
  | er c => rw [ea] at p; exact p
  | ok d =>
    rw [ea, Rs.bind_ok] at p
    intro x H1 x1 q1
    refine h4 O σ ρ H1 _ (R.mono x1) ?_
    cases eb : fb ρ with
    | no => rw [eb] at p; exact p
    | er c => rw [eb] at p; exact fun H2 x2 => p H2 (x1.trans x2)
    | ok e =>
      rw [eb, Rs.bind_ok] at p
      intro y H2 x2 q2
      unfold dRange at p
      split at p
      · split at p
        · rename_i hc
          obtain ⟨⟨b1, b2, b3, b4⟩, b5⟩ := hc
          refine ⟨_, _, q1.int, q2.int, ⟨b1, b2, b3, b4, Nat.le_trans b5 (by decide)⟩, fun q hq => ?_⟩
          exact p q _ _ _ rfl ((x1.trans x2).trans (Ex.new hq)) ((x1.trans x2).free hq) upd_same (DqAll.range _ _)
        · exact p.elim
      · exact p.elim
theorem f_list_range1 (F : Fam Xs P w K mg base N sc fnn k) {p pp ppos : Pos} (hm : mg "list" = none) (hmr : mg "range" = none) (ha : EB cv W Xs a fa) (hg : glB sc "list" = true := by decide +kernel) (hgr : glB sc "range" = true := by decide +kernel)
    (hs : ∀ env, starEach [a] env = (false, eval a env) :: starEach [] env := by intro _; rfl) :
    EF cv W Xs (.Call (.Name "list" p) [.Call (.Name "range" pp) [a] [] ppos] [] pos) (ap2 dRange (fC (.int 0)) fa) := by
  obtain ⟨ta, h1, h2⟩ := ha
  refine ⟨tLstRg (tRg1 ta), fun j => pe_listRg (F.calm j) (F.gl_ok hg j) (F.none hm j) (prg_1 (F.gl_ok hgr j) (F.none hmr j) (h1 j) (hs _)) rfl, fun O σ ρ H Q R p => h2 O σ ρ H _ R ?_⟩
  unfold ap2 fC at p
  rw [Rs.bind_ok] at p
  cases ea : fa ρ with
  | no => rw [ea] at p; exact p
  | er c => rw [ea] at p; exact p
  | ok d =>
    rw [ea, Rs.bind_ok] at p
    intro x H1 x1 q1
    unfold dRange at p
    split at p
    · rename_i e0
      cases e0
      split at p
      · rename_i hc
        obtain ⟨⟨b1, b2, b3, b4⟩, b5⟩ := hc
        refine ⟨_, q1.int, ⟨b1, b2, b3, b4, Nat.le_trans b5 (by decide)⟩, fun q hq => ?_⟩
        exact p q _ _ _ rfl (x1.trans (Ex.new hq)) (x1.free hq) upd_same (DqAll.range _ _)
      · exact p.elim
    · exact p.elim
/-! methods of lists that look -/
def apML (g : List D → List D → Rs D) (fo : En → Rs D) (fs : En → Rs (List D)) : En → Rs D := fun ρ => (fo ρ).bind fun x => match x with
  | .list xs => (fs ρ).bind fun ds => g xs ds
  | _ => .no
def dIndex (xs ds : List D) : Rs D := match ds with
  | [d] => if SeqAt.shaped (.list xs) = true ∧ SeqAt.shaped d = true then (match xs.findIdx? fun z => PyData.eqv z d with | some j => .ok (.int (j : Nat)) | none => .no) else .no
  | _ => .no
def dCount (xs ds : List D) : Rs D := match intsOf xs, ds with
  | some ns, [.int k] => .ok (.int (ns.count k : Nat))
  | _, _ => .no
def MlE (r : V → List V → Hp → VK → Prop) (g : List D → List D → Rs D) : Prop := ∀ O x vs H Q xs ds, (∀ a ∈ O, H a ≠ none) → DB O H x (.list xs) → DBAll O H vs ds → OkE O H Q (g xs ds) → r x vs H Q
theorem snd_bm {to : TE} {t : TA} {r : V → List V → Hp → VK → Prop} {g : List D → List D → Rs D} (ho : SndB cv W to fa) (h : SndAB cv W t fs) (hr : MlE r g) (hn : Noer g) : SndE cv W (tBM K "list" r to t) (apML g fa fs) := by
  intro O σ ρ H Q R p
  refine ho O σ ρ H _ R ?_
  unfold apML at p
  cases ea : fa ρ with
  | no => rw [ea] at p; exact p
  | er c => rw [ea] at p; exact p
  | ok d =>
    rw [ea, Rs.bind_ok] at p
    intro x H1 x1 q1
    cases d with
    | list xs =>
      dsimp only at p
      obtain ⟨l, ws, e1, h3, h4⟩ := q1.list
      refine ⟨by rw [e1]; exact Or.inl ⟨rfl, ws, SqL.of h3⟩, ?_⟩
      refine h O σ ρ H1 _ (R.mono x1) ?_
      cases eb : fs ρ with
      | no => rw [eb] at p; exact p
      | er c => rw [eb] at p; exact fun H2 x2 => p H2 (x1.trans x2)
      | ok ds =>
        rw [eb, Rs.bind_ok] at p
        intro vs H2 x2 q2
        refine hr O x vs H2 Q xs ds ((R.mono x1).mono x2).od (q1.mono x2) q2 ?_
        cases eg : g xs ds with
        | no => rw [eg] at p; exact p
        | er c => exact absurd eg (hn xs ds c)
        | ok z => rw [eg] at p; exact fun v H3 x3 q3 => p v H3 ((x1.trans x2).trans x3) q3
    | _ => exact p.elim
variable {o : Expr} {fo : En → Rs D} {name : Str} {apos cpos : Pos}
theorem e_bmL (F : Fam Xs P w K mg base N sc fnn k) {id : String} {r : V → List V → Hp → VK → Prop} {g : List D → List D → Rs D} (slot : PySem.Slot "list" name id) (hty : typeOf (.builtin id) = pure (.type "method_descriptor")) (hm : ∀ j, MtR (Xs j) id r) (hr : MlE r g) (hn : Noer g) (ho : EB cv W Xs o fo) (ha : EAB cv W Xs (e :: es) fs)
    (hbase : ∀ env, attributeBase o name env (eval o env) = eval o env)
    (hfew : ∀ env, ((backTo cpos (starEach (e :: es) env)).all (fun x => !x.1) && (backToKw cpos (keywordEach [] env)).all (fun x => x.1.isSome)
      && decide ((e :: es).length + ([] : List Keyword).length + (if ([] : List Keyword).isEmpty then 0 else 1) < 30)) = true)
    (hline : (apos.endLine == cpos.line) = true) (hs : ∀ env, starEach (e :: es) env = (false, eval e env) :: starEach es env) (hplain : ∀ env, (backTo cpos (starEach es env)).any (·.1) = false) :
    EE cv W Xs (.Call (.Attribute o name apos) (e :: es) [] cpos) (apML g fo fs) := by
  obtain ⟨to, h1, h2⟩ := ho
  obtain ⟨t, h3, h4⟩ := ha
  refine ⟨tBM K "list" r to t, fun j => ?_, snd_bm h2 h4 hr hn⟩
  have := pe_bm PySem.F.plainAttrs_list slot hty (hm j) (h1 j) (h3 j) (hbase _) (hfew _) hline (hs _) (hplain _)
  rw [F.kk j] at this
  exact this
theorem findIdx?_spec {xs : List D} {p : D → Bool} {j : Nat} (h : xs.findIdx? p = some j) : ∃ z, xs[j]? = some z ∧ p z = true ∧ ∀ (m : Nat) (z' : D), m < j → xs[m]? = some z' → p z' = false := by
  rw [List.findIdx?_eq_some_iff_getElem] at h
  obtain ⟨h1, h2, h3⟩ := h
  refine ⟨xs[j], List.getElem?_eq_getElem h1, h2, fun m z hm e => ?_⟩
  have hm' : m < xs.length := by omega
  rw [List.getElem?_eq_getElem hm'] at e
  cases e
  simpa using h3 m hm
theorem mle_index : MlE (rIndexD K) dIndex := by
  intro O x vs H Q xs ds od hx q p
  unfold dIndex at p
  split at p
  · split at p
    · split at p
      · rename_i hc _ j hj
        obtain ⟨v, rfl, qq⟩ := q.one
        obtain ⟨z, h1, h2, h3⟩ := findIdx?_spec hj
        obtain ⟨l, ws, e1, h4, h5⟩ := hx.list
        subst e1
        exact ⟨l, v, _, xs, j, z, rfl, rfl, hx.all.dp, qq.all.dp, hc.1, hc.2, h1, h2, h3, p _ H (Ex.refl H) (.int _)⟩
      · exact p.elim
    · exact p.elim
  · exact p.elim
theorem noer_index : Noer dIndex := fun x y c => by unfold dIndex; split <;> (try split) <;> (try split) <;> simp
theorem noer_count : Noer dCount := fun x y c => by unfold dCount; split <;> simp
theorem mle_count : MlE (rCntI K) dCount := by
  intro O x vs H Q xs ds od hx q p
  unfold dCount at p
  split at p
  · rename_i ns kk h
    have e := intsOf_eq h
    subst e
    obtain ⟨v, rfl, qq⟩ := q.one
    obtain ⟨l, ws, e1, h4, h5⟩ := hx.list
    subst e1
    have e := h5.ints
    subst e
    exact ⟨l, ns, kk, rfl, by rw [qq.int], SqL.of h4, p _ H (Ex.refl H) (.int _)⟩
  · exact p.elim
theorem e_index (F : Fam Xs P w K mg base N sc fnn k) (ho : EB cv W Xs o fo) (ha : EB cv W Xs a fa)
    (hbase : ∀ env, attributeBase o "index" env (eval o env) = eval o env := by intro _; rfl)
    (hline : (apos.endLine == cpos.line) = true := by rfl) (hs : ∀ env, starEach [a] env = (false, eval a env) :: starEach [] env := by intro _; rfl) :
    EE cv W Xs (.Call (.Attribute o "index" apos) [a] [] cpos) (apML dIndex fo (fCons fa fNil)) :=
  e_bmL F PySem.F.slot_list_index PySem.F.type_list_index (fun j => by have h := mt_indexD (X := Xs j) (F.units j); rw [F.kk j] at h; exact h) mle_index noer_index ho (ab_one ha hs) hbase (by intro env; rw [hs]; rfl) hline hs (by intro _; rfl)
theorem e_count (F : Fam Xs P w K mg base N sc fnn k) (ho : EB cv W Xs o fo) (ha : EB cv W Xs a fa)
    (hbase : ∀ env, attributeBase o "count" env (eval o env) = eval o env := by intro _; rfl)
    (hline : (apos.endLine == cpos.line) = true := by rfl) (hs : ∀ env, starEach [a] env = (false, eval a env) :: starEach [] env := by intro _; rfl) :
    EE cv W Xs (.Call (.Attribute o "count" apos) [a] [] cpos) (apML dCount fo (fCons fa fNil)) :=
  e_bmL F PySem.F.slot_list_count PySem.F.type_list_count (fun j => by have h := mt_lcount (X := Xs j); rw [F.kk j] at h; exact h) mle_count noer_count ho (ab_one ha hs) hbase (by intro env; rw [hs]; rfl) hline hs (by intro _; rfl)
end
end DL

namespace DL
open PySem L2
variable [SC]

/-! ### statements: meanings -/
inductive Out where
  | nx (ρ : En) | rt (d : D) | rs (d : D) (ρ : En) | bk (ρ : En) | ct (ρ : En) | ex (c : Nat) (ρ : En) | no
def ofR {α : Type} (r : Rs α) (ρ : En) (k : α → Out) : Out := match r with
  | .ok a => k a
  | .er c => .ex c ρ
  | .no => .no
@[simp] theorem ofR_ok {α : Type} (a : α) (ρ : En) (k : α → Out) : ofR (.ok a) ρ k = k a := rfl
@[simp] theorem ofR_er {α : Type} (c : Nat) (ρ : En) (k : α → Out) : ofR (.er c : Rs α) ρ k = .ex c ρ := rfl
@[simp] theorem ofR_no {α : Type} (ρ : En) (k : α → Out) : ofR (.no : Rs α) ρ k = .no := rfl
def sNil : En → Out := fun ρ => .nx ρ
def sSeq (F G : En → Out) : En → Out := fun ρ => match F ρ with
  | .nx ρ' => G ρ'
  | o => o
def sSet (i : Nat) (f : En → Rs D) : En → Out := fun ρ => ofR (f ρ) ρ fun d => .nx (ρ.set i (some (.sh d)))
def sOwn (i : Nat) (f : En → Rs D) : En → Out := fun ρ => ofR (f ρ) ρ fun d => match d with
  | .list ds => .nx (ρ.set i (some (.ow ds)))
  | _ => .no
def sAsg (T : Tg) (f : En → Rs D) : En → Out := fun ρ => ofR (f ρ) ρ fun d => match T.asg d ρ with
  | some ρ' => .nx ρ'
  | none => .no
def sPar (is : List Nat) (fs : En → Rs (List D)) : En → Out := fun ρ => ofR (fs ρ) ρ fun ds => if ds.length = is.length then .nx (setD ρ is ds) else .no
def sIf (c : En → Rs Bool) (F G : En → Out) : En → Out := fun ρ => ofR (c ρ) ρ fun b => if b = true then F ρ else G ρ
def sRet (f : En → Rs D) : En → Out := fun ρ => ofR (f ρ) ρ .rt
def sRetN : En → Out := fun _ => .rt .none
def sRetO (i : Nat) : En → Out := fun ρ => match ρ[i]? with
  | some (some (.ow ds)) => .rt (.list ds)
  | _ => .no
def sExp (f : En → Rs D) : En → Out := fun ρ => ofR (f ρ) ρ fun _ => .nx ρ
def sNo : En → Out := fun _ => .no
def sApp (i : Nat) (f : En → Rs D) : En → Out := fun ρ => match ρ[i]? with
  | some (some (.ow ds)) => ofR (f ρ) ρ fun d => if ds.length < LIM then .nx (ρ.set i (some (.ow (ds ++ [d])))) else .no
  | _ => .no
def sRem (i : Nat) (f : En → Rs D) : En → Out := fun ρ => match ρ[i]? with
  | some (some (.ow ds)) => ofR (f ρ) ρ fun d => match intsOf ds, d with
    | some ns, .int k => match ns.findIdx? (· == k) with
      | some j => .nx (ρ.set i (some (.ow ((ns.eraseIdx j).map PyData.int))))
      | none => .no
    | _, _ => .no
  | _ => .no
def sSetI (i : Nat) (fk f : En → Rs D) : En → Out := fun ρ => ofR (f ρ) ρ fun d => match ρ[i]? with
  | some (some (.ow ds)) => ofR (fk ρ) ρ fun e => match e with
    | .int k => match ixN ds.length k with
      | some j => .nx (ρ.set i (some (.ow (ds.set j d))))
      | none => .no
    | _ => .no
  | _ => .no
/-- x[k] += e, ints -/
def sAugI (i : Nat) (fk f : En → Rs D) : En → Out := fun ρ => match ρ[i]? with
  | some (some (.ow ds)) => ofR (fk ρ) ρ fun e => match e with
    | .int k => match ixN ds.length k with
      | some j => ofR (f ρ) ρ fun d => match ds[j]?, d with
        | some (.int u), .int v => .nx (ρ.set i (some (.ow (ds.set j (.int (u + v))))))
        | _, _ => .no
      | none => .no
    | _ => .no
  | _ => .no
/-- x += e, ints -/
def sAug (i : Nat) (g : D → D → Rs D) (f : En → Rs D) : En → Out := fun ρ => match ρ[i]? with
  | some (some (.sh x)) => ofR (f ρ) ρ fun d => ofR (g x d) ρ fun z => .nx (ρ.set i (some (.sh z)))
  | _ => .no
/-- x += [..], x an own list -/
def sExt (i : Nat) (f : En → Rs D) : En → Out := fun ρ => match ρ[i]? with
  | some (some (.ow ds)) => ofR (f ρ) ρ fun d => match d with
    | .list es => if ds.length + es.length ≤ LIM then .nx (ρ.set i (some (.ow (ds ++ es)))) else .no
    | _ => .no
  | _ => .no
/-- x[a], x[b] = (e, e') -/
def sSwap (i : Nat) (fa fb : En → Rs D) (fs : En → Rs (List D)) : En → Out := fun ρ => ofR (fs ρ) ρ fun ws => match ws, ρ[i]? with
  | [d, e], some (some (.ow ds)) => ofR (fa ρ) ρ fun x => match x with
    | .int ka => match ixN ds.length ka with
      | some ja => match fb (ρ.set i (some (.ow (ds.set ja d)))) with
        | .ok (.int kb) => match ixN ds.length kb with
          | some jb => .nx (ρ.set i (some (.ow ((ds.set ja d).set jb e))))
          | none => .no
        | _ => .no
      | none => .no
    | _ => .no
  | _, _ => .no
/-- from here on x is shared -/
def sFrz (i : Nat) (F : En → Out) : En → Out := fun ρ => match ρ[i]? with
  | some (some (.ow ds)) => F (ρ.set i (some (.sh (.list ds))))
  | _ => .no
def forL (T : Tg) (vs : List Nat) (body : En → Out) : List D → En → Out
  | [], ρ => .nx ρ
  | d :: r, ρ => match T.asg d ρ with
    | none => .no
    | some ρ1 => match body ρ1 with
      | .nx ρ' => forL T vs body r (wipeE ρ' vs)
      | .ct ρ' => forL T vs body r (wipeE ρ' vs)
      | .bk ρ' => .nx (wipeE ρ' vs)
      | o => o
def sFor (it : En → Rs (List D)) (T : Tg) (vs : List Nat) (body : En → Out) : En → Out := fun ρ => ofR (it ρ) ρ fun items => forL T vs body items (wipeE ρ vs)
def whileL (c : En → Rs Bool) (vs : List Nat) (body : En → Out) : Nat → En → Out
  | 0, _ => .no
  | n + 1, ρ => ofR (c ρ) ρ fun b => if b = true then (match body ρ with
      | .nx ρ' => whileL c vs body n (wipeE ρ' vs)
      | .ct ρ' => whileL c vs body n (wipeE ρ' vs)
      | .bk ρ' => .nx (wipeE ρ' vs)
      | o => o) else .nx ρ
def sWhile (n : Nat) (c : En → Rs Bool) (vs : List Nat) (body : En → Out) : En → Out := fun ρ => whileL c vs body n (wipeE ρ vs)

/-! ### the state of a body -/
structure RepS (Oc : List Addr) (H0 : Hp) (O : List Addr) (σ : St) (ρ : En) (H : Hp) : Prop where
  len : σ.length = ρ.length
  base : Ex H0 H
  oc : ∀ a ∈ Oc, a ∈ O
  oh : ∀ a ∈ Oc, H0 a ≠ none
  od : ∀ a ∈ O, H a ≠ none
  nt : NT O H
  fp : ∃ fp : Nat → List Addr, (∀ (i : Nat) (s : Sl), ρ[i]? = some (some s) → ∃ v, σ[i]? = some (some v) ∧ SlR O H s v (fp i)) ∧ (∀ i j a, a ∈ fp i → a ∈ fp j → i = j) ∧ ∀ i a, a ∈ fp i → a ∈ O ∧ H0 a = none
section
variable {Oc O : List Addr} {H0 H H' : Hp} {σ : St} {ρ : En} {i : Nat}
theorem RepS.e (h : RepS Oc H0 O σ ρ H) : RepE O σ ρ H := by
  obtain ⟨fp, h1, h2, h3⟩ := h.fp
  exact ⟨h.len, h.od, h.nt, fun i s e => by
    obtain ⟨v, q1, q2⟩ := h1 i s e
    exact ⟨v, _, q1, q2⟩⟩
theorem RepS.mono (h : RepS Oc H0 O σ ρ H) (x : Ex H H') : RepS Oc H0 O σ ρ H' := by
  obtain ⟨fp, h1, h2, h3⟩ := h.fp
  exact ⟨h.len, h.base.trans x, h.oc, h.oh, fun a ha z => h.od a ha (x.free z), h.nt.mono x h.od, fp, fun i s e => by
    obtain ⟨v, q1, q2⟩ := h1 i s e
    exact ⟨v, q1, q2.mono x⟩, h2, h3⟩
theorem RepS.forget (h : RepS Oc H0 O σ ρ H) (vs : List Nat) : RepS Oc H0 O σ (wipeE ρ vs) H := by
  obtain ⟨fp, h1, h2, h3⟩ := h.fp
  refine ⟨by rw [wipeE_length]; exact h.len, h.base, h.oc, h.oh, h.od, h.nt, fp, fun i s e => ?_, h2, h3⟩
  by_cases hi : i ∈ vs
  · exact absurd e (wipeE_not ρ vs i hi s)
  · rw [wipeE_get ρ vs i hi] at e
    exact h1 i s e
/-- a slot is stored; the cells that it owns are new ones -/
theorem RepS.put {O' : List Addr} {v : V} {s : Sl} {l : List Addr} (h : RepS Oc H0 O σ ρ H) (x : Ex H H') (ho : ∀ a ∈ O, a ∈ O') (hl : ∀ a ∈ l, a ∈ O' ∧ a ∉ O ∧ H0 a = none) (od : ∀ a ∈ O', H' a ≠ none) (nt : NT O' H') (e : Ex (hide O H) (hide O' H')) (q : SlR O' H' s v l) :
    RepS Oc H0 O' (σ.set i (some v)) (ρ.set i (some s)) H' := by
  obtain ⟨fp, h1, h2, h3⟩ := h.fp
  refine ⟨by rw [List.length_set, List.length_set]; exact h.len, h.base.trans x, fun a ha => ho a (h.oc a ha), h.oh, od, nt, fun j => if j = i then l else fp j, fun j s' ej => ?_, fun j j' a => ?_, fun j a => ?_⟩
  · by_cases hj : j = i
    · subst hj
      rw [List.getElem?_set, if_pos rfl] at ej ⊢
      by_cases hlt : j < ρ.length
      · rw [if_pos hlt] at ej
        rw [if_pos (h.len ▸ hlt)]
        cases ej
        exact ⟨v, rfl, by simpa using q⟩
      · rw [if_neg hlt] at ej
        cases ej
    · rw [List.getElem?_set_ne (Ne.symm hj)] at ej ⊢
      obtain ⟨u, q1, q2⟩ := h1 j s' ej
      refine ⟨u, q1, ?_⟩
      show SlR O' H' s' u (if j = i then l else fp j)
      rw [if_neg hj]
      exact q2.moved' e fun a _ u q => x _ _ q
  · intro ha hb
    by_cases hj : j = i
    · by_cases hj' : j' = i
      · rw [hj, hj']
      · simp only [hj, if_true] at ha
        simp only [hj', if_false] at hb
        exact absurd (h3 j' a hb).1 (hl a ha).2.1
    · by_cases hj' : j' = i
      · simp only [hj', if_true] at hb
        simp only [hj, if_false] at ha
        exact absurd (h3 j a ha).1 (hl a hb).2.1
      · simp only [hj, hj', if_false] at ha hb
        exact h2 j j' a ha hb
  · intro ha
    by_cases hj : j = i
    · simp only [hj, if_true] at ha
      exact ⟨(hl a ha).1, (hl a ha).2.2⟩
    · simp only [hj, if_false] at ha
      exact ⟨ho a (h3 j a ha).1, (h3 j a ha).2⟩
theorem RepS.set {v : V} {d : D} (h : RepS Oc H0 O σ ρ H) (q : Dq (hide O H) v d) : RepS Oc H0 O (σ.set i (some v)) (ρ.set i (some (.sh d))) H :=
  h.put (Ex.refl H) (fun _ z => z) (l := []) (fun a z => by simp at z) h.od h.nt (Ex.refl _) ⟨rfl, q⟩
theorem RepS.setD : ∀ {is : List Nat} {σ : St} {ρ : En} {vs : List V} {ds : List D}, RepS Oc H0 O σ ρ H → DqAll (hide O H) vs ds → RepS Oc H0 O (setV σ is vs) (setD ρ is ds) H
  | [], σ, ρ, vs, ds, h, q => h
  | i :: is, σ, ρ, _, _, h, .nil => h
  | i :: is, σ, ρ, _, _, h, .cons q r => by
    unfold setV DL.setD
    exact RepS.setD (h.set q) r
theorem RepS.own {p : Addr} {vs : List V} {ds : List D} (h : RepS Oc H0 O σ ρ H) (x : Ex H H') (hp : H p = none) (h2 : H' p = some (.lst vs)) (q : DqAll (hide (p :: O) H') vs ds) :
    RepS Oc H0 (p :: O) (σ.set i (some (.ref p))) (ρ.set i (some (.ow ds))) H' ∧ Ex (hide O H) (hide (p :: O) H') := by
  have e : Ex (hide O H) (hide (p :: O) H') := (hide_cons hp).trans (hide_ex x)
  refine ⟨h.put x (fun a z => List.mem_cons_of_mem _ z) (l := [p]) (fun a z => ?_) (fun a z => ?_) (NT.cons h2 lst_nt (h.nt.mono x h.od)) e ⟨p, vs, rfl, rfl, h2, q⟩, e⟩
  · rcases List.mem_singleton.mp z with rfl
    exact ⟨by simp, fun z => h.od a z hp, h.base.free hp⟩
  · rcases List.mem_cons.mp z with rfl | z
    · rw [h2]; simp
    · exact fun y => h.od a z (x.free y)
/-- what stands at an owned slot -/
theorem RepS.at_own {ds : List D} (h : RepS Oc H0 O σ ρ H) (e : ρ[i]? = some (some (.ow ds))) : ∃ a vs, σ[i]? = some (some (.ref a)) ∧ a ∈ O ∧ H0 a = none ∧ H a = some (.lst vs) ∧ DqAll (hide O H) vs ds := by
  obtain ⟨fp, h1, h2, h3⟩ := h.fp
  obtain ⟨v, q1, a, vs, q2, q3, q4, q5⟩ := h1 i _ e
  subst q2
  obtain ⟨g1, g2⟩ := h3 i a (by rw [q3]; simp)
  exact ⟨a, vs, q1, g1, g2, q4, q5⟩
/-- the owned list is changed -/
theorem RepS.mut {ds es : List D} {a : Addr} {ws : List V} (h : RepS Oc H0 O σ ρ H) (e : ρ[i]? = some (some (.ow ds))) (ea : σ[i]? = some (some (.ref a))) (q : DqAll (hide O H) ws es) :
    RepS Oc H0 O σ (ρ.set i (some (.ow es))) (upd H a (.lst ws)) ∧ Ex (hide O H) (hide O (upd H a (.lst ws))) := by
  obtain ⟨fp, h1, h2, h3⟩ := h.fp
  obtain ⟨v, q1, b, vs, q2, q3, q4, q5⟩ := h1 i _ e
  subst q2
  rw [ea] at q1
  cases q1
  obtain ⟨g1, g2⟩ := h3 i a (by rw [q3]; simp)
  have ex : Ex (hide O H) (hide O (upd H a (.lst ws))) := hide_own g1
  refine ⟨⟨by rw [List.length_set]; exact h.len, fun b o hb => ?_, h.oc, h.oh, fun b hb => ?_, h.nt.upd lst_nt, fp, fun j s ej => ?_, h2, h3⟩, ex⟩
  · rw [upd_ne (ne_of_none hb g2)]
    exact h.base b o hb
  · by_cases hba : b = a
    · subst hba; rw [upd_same]; simp
    · rw [upd_ne hba]; exact h.od b hb
  · by_cases hj : i = j
    · subst hj
      have hlt : i < ρ.length := by
        rw [List.getElem?_eq_some_iff] at e
        exact e.1
      rw [List.getElem?_set, if_pos rfl, if_pos hlt] at ej
      cases ej
      exact ⟨_, ea, a, ws, rfl, q3, upd_same, q.mono ex⟩
    · rw [List.getElem?_set_ne hj] at ej
      obtain ⟨u, p1, p2⟩ := h1 j s ej
      refine ⟨u, p1, ?_⟩
      have ne : ∀ b ∈ fp j, b ≠ a := fun b hb z => hj (h2 i j a (by rw [q3]; simp) (z ▸ hb))
      exact p2.moved ex fun b hb => upd_ne (ne b hb)
/-- the owned list becomes shared -/
theorem RepS.frz {ds : List D} (h : RepS Oc H0 O σ ρ H) (e : ρ[i]? = some (some (.ow ds))) : ∃ O', RepS Oc H0 O' σ (ρ.set i (some (.sh (.list ds)))) H ∧ Ex (hide O H) (hide O' H) := by
  obtain ⟨fp, h1, h2, h3⟩ := h.fp
  obtain ⟨v, q1, a, vs, q2, q3, q4, q5⟩ := h1 i _ e
  subst q2
  obtain ⟨g1, g2⟩ := h3 i a (by rw [q3]; simp)
  have hs : ∀ b ∈ O.filter (fun b => decide (b ≠ a)), b ∈ O := fun b hb => (List.mem_filter.mp hb).1
  have ex : Ex (hide O H) (hide (O.filter (fun b => decide (b ≠ a))) H) := hide_sub hs
  refine ⟨O.filter (fun b => decide (b ≠ a)), ⟨by rw [List.length_set]; exact h.len, h.base, fun b hb => ?_, h.oh, fun b hb => h.od b (hs b hb), fun b hb => h.nt b (hs b hb), fun j => if j = i then [] else fp j, fun j s ej => ?_, fun j j' b => ?_, fun j b => ?_⟩, ex⟩
  · exact List.mem_filter.mpr ⟨h.oc b hb, decide_eq_true fun z => h.oh b hb (by rw [z]; exact g2)⟩
  · by_cases hj : j = i
    · subst hj
      have hlt : j < ρ.length := by
        rw [List.getElem?_eq_some_iff] at e
        exact e.1
      rw [List.getElem?_set, if_pos rfl, if_pos hlt] at ej
      cases ej
      refine ⟨_, q1, by simp, .lst (hide_some.mpr ⟨?_, q4⟩) (q5.mono ex)⟩
      intro z
      simpa using (List.mem_filter.mp z).2
    · rw [List.getElem?_set_ne (Ne.symm hj)] at ej
      obtain ⟨u, p1, p2⟩ := h1 j s ej
      refine ⟨u, p1, ?_⟩
      show SlR _ H s u (if j = i then [] else fp j)
      rw [if_neg hj]
      exact p2.moved ex fun b hb => rfl
  · intro hb hb'
    by_cases hj : j = i
    · simp [hj] at hb
    · by_cases hj' : j' = i
      · simp [hj'] at hb'
      · simp only [hj, hj', if_false] at hb hb'
        exact h2 j j' b hb hb'
  · intro hb
    by_cases hj : j = i
    · simp [hj] at hb
    · simp only [hj, if_false] at hb
      obtain ⟨p1, p2⟩ := h3 j b hb
      refine ⟨List.mem_filter.mpr ⟨p1, decide_eq_true fun z => ?_⟩, p2⟩
      subst z
      exact hj (h2 j i b hb (by rw [q3]; simp))
end

/-! ### what a statement's meaning says of its reading -/
/-- ways to hand back: data; a new list; anything -/
inductive RM where
  | dat | lst | any
def Ret (Oc : List Addr) (H0 : Hp) : RM → Hp → V → D → Prop
  | .dat, H', v, d => Dq (hide Oc H') v d
  | .any, _, _, _ => True
  | .lst, H', v, d => ∃ p vs ds, v = .ref p ∧ d = .list ds ∧ H0 p = none ∧ H' p = some (.lst vs) ∧ DqAll (hide (p :: Oc) H') vs ds
def PosS (cv : Nat → Value) (W : WX) (fr : RM) (Oc : List Addr) (H0 : Hp) (O : List Addr) (H : Hp) (Z : Ends) : Out → Prop
  | .nx ρ' => ∀ O' σ' H', RepS Oc H0 O' σ' ρ' H' → Ex (hide O H) (hide O' H') → Z.nx σ' H'
  | .rt d => ∀ v H', Ex H0 H' → Ret Oc H0 fr H' v d → Z.rt v H'
  | .rs d ρ' => ∀ v O' σ' H', RepS Oc H0 O' σ' ρ' H' → Ex (hide O H) (hide O' H') → Dq (hide O' H') v d → Z.rt v H'
  | .bk ρ' => ∀ O' σ' H', RepS Oc H0 O' σ' ρ' H' → Ex (hide O H) (hide O' H') → Z.bk σ' H'
  | .ct ρ' => ∀ O' σ' H', RepS Oc H0 O' σ' ρ' H' → Ex (hide O H) (hide O' H') → Z.ct σ' H'
  | .ex c ρ' => ∀ O' σ' H', RepS Oc H0 O' σ' ρ' H' → Ex (hide O H) (hide O' H') → W (cv c) none σ' H'
  | .no => False
def SndS (cv : Nat → Value) (W : WX) (fr : RM) (t : TS) (F : En → Out) : Prop := ∀ Oc H0 O σ ρ H Z, RepS Oc H0 O σ ρ H → PosS cv W fr Oc H0 O H Z (F ρ) → t Z σ H
section
variable {ι : Type} (cv : Nat → Value) (W : WX) (fr : RM) (Xs : ι → Cx)
def SS (s : Stmt) (F : En → Out) : Prop := ∃ t, (∀ j, PS (Xs j) s t) ∧ SndS cv W fr t F
def SSs (ss : List Stmt) (F : En → Out) : Prop := ∃ t, (∀ j, PSs (Xs j) ss t) ∧ SndS cv W fr t F
end
section
variable {cv : Nat → Value} {W : WX} {fr : RM} {Oc O O2 : List Addr} {H0 H H2 : Hp} {σ : St} {ρ : En} {Z : Ends}
/-- the same wish a little later -/
theorem PosS.later (e : Ex (hide O H) (hide O2 H2)) : ∀ {o : Out}, PosS cv W fr Oc H0 O H Z o → PosS cv W fr Oc H0 O2 H2 Z o
  | .nx ρ', p => fun O' σ' H' r x => p O' σ' H' r (e.trans x)
  | .rt d, p => p
  | .rs d ρ', p => fun v O' σ' H' r x => p v O' σ' H' r (e.trans x)
  | .bk ρ', p => fun O' σ' H' r x => p O' σ' H' r (e.trans x)
  | .ct ρ', p => fun O' σ' H' r x => p O' σ' H' r (e.trans x)
  | .ex c ρ', p => fun O' σ' H' r x => p O' σ' H' r (e.trans x)
  | .no, p => p
/-- an expression in a statement -/
theorem posE_of {r : Rs D} {k : D → Out} {Q : VK} (R : RepS Oc H0 O σ ρ H) (p : PosS cv W fr Oc H0 O H Z (ofR r ρ k)) (h : ∀ d, r = .ok d → ∀ v H2, Ex H H2 → Dq (hide O H2) v d → PosS cv W fr Oc H0 O H Z (k d) → Q v H2) : PosE cv W O σ H Q r := by
  cases r with
  | ok d => exact fun v H2 x q => h d rfl v H2 x q p
  | er c => exact fun H2 x => p O σ H2 (R.mono x) (hide_ex x)
  | no => exact p
theorem posB_of {r : Rs D} {k : D → Out} {Q : VK} (R : RepS Oc H0 O σ ρ H) (p : PosS cv W fr Oc H0 O H Z (ofR r ρ k)) (h : ∀ d, r = .ok d → ∀ v H2, Ex H H2 → DB O H2 v d → PosS cv W fr Oc H0 O H Z (k d) → Q v H2) : PosB cv W O σ H Q r := by
  cases r with
  | ok d => exact fun v H2 x q => h d rfl v H2 x q p
  | er c => exact fun H2 x => p O σ H2 (R.mono x) (hide_ex x)
  | no => exact p
theorem posF_of {r : Rs D} {k : D → Out} {Q : VK} (R : RepS Oc H0 O σ ρ H) (p : PosS cv W fr Oc H0 O H Z (ofR r ρ k)) (h : ∀ ds, r = .ok (.list ds) → ∀ q vs H2, Ex H H2 → H q = none → H2 q = some (.lst vs) → DqAll (hide (q :: O) H2) vs ds → PosS cv W fr Oc H0 O H Z (k (.list ds)) → Q (.ref q) H2) : PosF cv W O σ H Q r := by
  cases r with
  | ok d => exact fun q vs ds H2 e x n1 h2 q2 => by subst e; exact h ds rfl q vs H2 x n1 h2 q2 p
  | er c => exact fun H2 x => p O σ H2 (R.mono x) (hide_ex x)
  | no => exact p
theorem posT_of {r : Rs Bool} {k : Bool → Out} {Q : Bool → Hp → Prop} (R : RepS Oc H0 O σ ρ H) (p : PosS cv W fr Oc H0 O H Z (ofR r ρ k)) (h : ∀ b, r = .ok b → ∀ H2, Ex H H2 → PosS cv W fr Oc H0 O H Z (k b) → Q b H2) : PosT cv W O σ H Q r := by
  cases r with
  | ok d => exact fun H2 x => h d rfl H2 x p
  | er c => exact fun H2 x => p O σ H2 (R.mono x) (hide_ex x)
  | no => exact p
theorem posA_of {r : Rs (List D)} {k : List D → Out} {Q : List V → Hp → Prop} (R : RepS Oc H0 O σ ρ H) (p : PosS cv W fr Oc H0 O H Z (ofR r ρ k)) (h : ∀ ds, r = .ok ds → ∀ vs H2, Ex H H2 → DqAll (hide O H2) vs ds → PosS cv W fr Oc H0 O H Z (k ds) → Q vs H2) : PosA cv W O σ H Q r := by
  cases r with
  | ok d => exact fun v H2 x q => h d rfl v H2 x q p
  | er c => exact fun H2 x => p O σ H2 (R.mono x) (hide_ex x)
  | no => exact p
end
end DL

namespace DL
open PySem L2
variable [SC]
section
variable {ι : Type} {cv : Nat → Value} {W W' : WX} {fr : RM} {Xs : ι → Cx} {P : Program} {w : World} {K : PySem.W.Frag} {mg : Str → Option Value} {base : Heap} {N : List Str} {sc : Scope} {fnn : Str → Bool} {k : Nat}
variable {e a b c tg iter elt : Expr} {es ifs : List Expr} {f fa fb fc fe fk : En → Rs D} {fs : En → Rs (List D)} {ft : En → Rs Bool} {it : En → Rs (List D)} {pos ppos npos : Pos} {is : List Nat} {T : Tg} {scope : Scope} {st : Stmt} {rest ss ss' : List Stmt} {F G : En → Out} {te : TE} {i : Nat} {x : Str}

theorem s_nil : SSs cv W fr Xs [] sNil := ⟨tNext, fun _ => pss_nil, fun Oc H0 O σ ρ H Z R p => p O σ H R (Ex.refl _)⟩
theorem s_one (h : SS cv W fr Xs st F) : SSs cv W fr Xs [st] F := by
  obtain ⟨t, h1, h2⟩ := h
  exact ⟨t, fun j => pss_one (h1 j), h2⟩
theorem s_cons (h : SS cv W fr Xs st F) (hr : SSs cv W fr Xs rest G) : SSs cv W fr Xs (st :: rest) (sSeq F G) := by
  obtain ⟨t, h1, h2⟩ := h
  obtain ⟨u, h3, h4⟩ := hr
  refine ⟨_, fun j => pss_cons (h1 j) (h3 j), fun Oc H0 O σ ρ H Z R p => h2 Oc H0 O σ ρ H _ R ?_⟩
  unfold sSeq at p
  cases e : F ρ with
  | nx ρ' => rw [e] at p; exact fun O' σ' H' R' x => h4 Oc H0 O' σ' ρ' H' Z R' (p.later x)
  | rt d => rw [e] at p; exact p
  | rs d ρ' => rw [e] at p; exact p
  | bk ρ' => rw [e] at p; exact p
  | ct ρ' => rw [e] at p; exact p
  | ex c ρ' => rw [e] at p; exact p
  | no => rw [e] at p; exact p
theorem s_frz (i : Nat) (h : SS cv W fr Xs st F) : SS cv W fr Xs st (sFrz i F) := by
  obtain ⟨t, h1, h2⟩ := h
  refine ⟨t, h1, fun Oc H0 O σ ρ H Z R p => ?_⟩
  unfold sFrz at p
  split at p
  · rename_i ds e
    obtain ⟨O', R', x⟩ := R.frz e
    exact h2 Oc H0 O' σ _ H Z R' (p.later x)
  · exact p.elim
theorem s_never : SS cv W fr Xs st sNo := ⟨tNever, fun _ => ps_never, fun Oc H0 O σ ρ H Z R p => p.elim⟩
theorem snd_set (h : SndE cv W te f) : SndS cv W fr (tAsg te (gName i)) (sSet i f) := fun Oc H0 O σ ρ H Z R p => h O σ ρ H _ R.e (posE_of R p fun d _ v H2 x q p => p O _ H2 ((R.mono x).set q) (hide_ex x))
theorem snd_own (h : SndF cv W te f) : SndS cv W fr (tAsg te (gName i)) (sOwn i f) := fun Oc H0 O σ ρ H Z R p => h O σ ρ H _ R.e (posF_of R p fun ds _ q vs H2 x n1 h2 q2 p => by
  obtain ⟨R', e⟩ := R.own (i := i) x n1 h2 q2
  exact p _ _ H2 R' e)
/-- x = e -/
theorem s_set (Fm : Fam Xs P w K mg base N sc fnn k) (i : Nat) (h : EE cv W Xs e f) (hN : N[i]? = some x := by rfl) (hx : stB fnn sc x = true := by decide +kernel) (hs : ∀ env, swapsWith e (some (.Name x npos)) pos.line env = pure false := by intro _; rfl) :
    SS cv W fr Xs (.Assign [.Name x npos] e pos) (sSet i f) := by
  obtain ⟨t, h1, h2⟩ := h
  exact ⟨_, fun j => ps_set (Fm.ndj j) (Fm.at hN j) (Fm.loc hx j) (h1 j) (hs _) (Fm.hf hx j), snd_set h2⟩
theorem s_own (Fm : Fam Xs P w K mg base N sc fnn k) (i : Nat) (h : EF cv W Xs e f) (hN : N[i]? = some x := by rfl) (hx : stB fnn sc x = true := by decide +kernel) (hs : ∀ env, swapsWith e (some (.Name x npos)) pos.line env = pure false := by intro _; rfl) :
    SS cv W fr Xs (.Assign [.Name x npos] e pos) (sOwn i f) := by
  obtain ⟨t, h1, h2⟩ := h
  exact ⟨_, fun j => ps_set (Fm.ndj j) (Fm.at hN j) (Fm.loc hx j) (h1 j) (hs _) (Fm.hf hx j), snd_own h2⟩
/-- x = [elt for tg in iter if ..], x a plain local -/
theorem lc_set (Fm : Fam Xs P w K mg base N sc fnn k) (i : Nat) (own : List (Str × Nat)) (hi : EI cv W Xs tg iter it)
    (hg : Fam (blkF Xs scope) P w K mg base N (relS scope sc) (fun x => scope.names.lookup x == Option.some NameKind.cell) k → EG (blkF Xs scope) tg T)
    (ht : Fam (blkF Xs scope) P w K mg base N (relS scope sc) (fun x => scope.names.lookup x == Option.some NameKind.cell) k → ETs cv W' (blkF Xs scope) ifs ft)
    (he : Fam (blkF Xs scope) P w K mg base N (relS scope sc) (fun x => scope.names.lookup x == Option.some NameKind.cell) k → EE cv W' (blkF Xs scope) elt fe)
    (hN : N[i]? = some x) (hx : isLoc sc x = true) (hk : sc.kind = .function) (hl : (npos.line == ppos.line) = true) (ha : (scope.names.any fun (n, k) => n == x && (k == .local || k == .cell)) = false)
    (ok : blkC N sc scope own = true) (hv : ∀ i ∈ T.ix, i ∈ own.map (·.2)) (hs : ∀ env x, foldedSetIterable iter env x = pure x) :
    ∃ te, (∀ j, PS (Xs j) (.Assign [.Name x npos] (.ListComp elt [⟨tg, iter, ifs, 0⟩] scope ppos) pos) (tAsg te (gName i))) ∧ SndF cv W te (fComp it T ft fe (own.map (·.2))) := by
  obtain ⟨ti, h1, h2⟩ := hi
  obtain ⟨g, h3, h4⟩ := hg (Fm.blk scope)
  obtain ⟨tt, h5, h6⟩ := ht (Fm.blk scope)
  obtain ⟨te, h7, h8⟩ := he (Fm.blk scope)
  refine ⟨tLc ti g tt te (own.map (·.2)), fun j => ?_, snd_comp h2 h4 h6 h8 hv⟩
  have hy : (Xs j).env.scope.names.lookup x = some .local := by rw [Fm.scp j]; exact isLoc_of hx
  refine ps_setLc (Fm.calm j) (Fm.ndj j) (Fm.at hN j) hy (sw_true (by rw [Fm.scp j]; exact hk) hy hl ha) (h1 j) ?_ (fun s H C cl fp => h3 (j, s, H, C, cl, fp)) (fun s H C cl fp => h5 (j, s, H, C, cl, fp)) (fun s H C cl fp => h7 (j, s, H, C, cl, fp)) (hs _)
  rw [Fm.nm j, Fm.scp j]
  exact blkOk_by ok
theorem s_setLc (Fm : Fam Xs P w K mg base N sc fnn k) (i : Nat) (own : List (Str × Nat)) (hi : EI cv W Xs tg iter it)
    (hg : Fam (blkF Xs scope) P w K mg base N (relS scope sc) (fun x => scope.names.lookup x == Option.some NameKind.cell) k → EG (blkF Xs scope) tg T)
    (ht : Fam (blkF Xs scope) P w K mg base N (relS scope sc) (fun x => scope.names.lookup x == Option.some NameKind.cell) k → ETs cv W' (blkF Xs scope) ifs ft)
    (he : Fam (blkF Xs scope) P w K mg base N (relS scope sc) (fun x => scope.names.lookup x == Option.some NameKind.cell) k → EE cv W' (blkF Xs scope) elt fe)
    (hN : N[i]? = some x := by rfl) (hx : isLoc sc x = true := by decide +kernel) (hk : sc.kind = .function := by decide +kernel) (hl : (npos.line == ppos.line) = true := by decide +kernel) (ha : (scope.names.any fun (n, k) => n == x && (k == .local || k == .cell)) = false := by decide +kernel)
    (ok : blkC N sc scope own = true := by decide +kernel) (hv : ∀ i ∈ T.ix, i ∈ own.map (·.2) := by decide) (hs : ∀ env x, foldedSetIterable iter env x = pure x := by intro _ _; rfl) :
    SS cv W fr Xs (.Assign [.Name x npos] (.ListComp elt [⟨tg, iter, ifs, 0⟩] scope ppos) pos) (sSet i (fComp it T ft fe (own.map (·.2)))) := by
  obtain ⟨te, h1, h2⟩ := lc_set (npos := npos) (pos := pos) (ppos := ppos) Fm i own hi hg ht he hN hx hk hl ha ok hv hs
  exact ⟨_, h1, snd_set h2.e⟩
theorem s_ownLc (Fm : Fam Xs P w K mg base N sc fnn k) (i : Nat) (own : List (Str × Nat)) (hi : EI cv W Xs tg iter it)
    (hg : Fam (blkF Xs scope) P w K mg base N (relS scope sc) (fun x => scope.names.lookup x == Option.some NameKind.cell) k → EG (blkF Xs scope) tg T)
    (ht : Fam (blkF Xs scope) P w K mg base N (relS scope sc) (fun x => scope.names.lookup x == Option.some NameKind.cell) k → ETs cv W' (blkF Xs scope) ifs ft)
    (he : Fam (blkF Xs scope) P w K mg base N (relS scope sc) (fun x => scope.names.lookup x == Option.some NameKind.cell) k → EE cv W' (blkF Xs scope) elt fe)
    (hN : N[i]? = some x := by rfl) (hx : isLoc sc x = true := by decide +kernel) (hk : sc.kind = .function := by decide +kernel) (hl : (npos.line == ppos.line) = true := by decide +kernel) (ha : (scope.names.any fun (n, k) => n == x && (k == .local || k == .cell)) = false := by decide +kernel)
    (ok : blkC N sc scope own = true := by decide +kernel) (hv : ∀ i ∈ T.ix, i ∈ own.map (·.2) := by decide) (hs : ∀ env x, foldedSetIterable iter env x = pure x := by intro _ _; rfl) :
    SS cv W fr Xs (.Assign [.Name x npos] (.ListComp elt [⟨tg, iter, ifs, 0⟩] scope ppos) pos) (sOwn i (fComp it T ft fe (own.map (·.2)))) := by
  obtain ⟨te, h1, h2⟩ := lc_set (npos := npos) (pos := pos) (ppos := ppos) Fm i own hi hg ht he hN hx hk hl ha ok hv hs
  exact ⟨_, h1, snd_own h2⟩
/-- tg = e, by parts -/
theorem s_asg (h : EE cv W Xs e f) (hg : EG Xs tg T) (hs : ∀ env, swapsWithSole [tg] e pos.line env = pure false := by intro _; rfl) (hw : ∀ j, swappedStores [tg] e (Xs j).env = pure none := by intro _; rfl)
    (h1 : ∀ env, (assignEach [tg] env).map (·.2) = [assign tg env] := by intro _; rfl) : SS cv W fr Xs (.Assign [tg] e pos) (sAsg T f) := by
  obtain ⟨t, h2, h3⟩ := h
  obtain ⟨g, h4, h5⟩ := hg
  refine ⟨_, fun j => ps_asg (h2 j) (h4 j) (hs _) (hw j) (h1 _), fun Oc H0 O σ ρ H Z R p => h3 O σ ρ H _ R.e (posE_of R p fun d hr0 v H2 x q p => ?_)⟩
  unfold Tg.asg at p
  cases ep : T.parts d with
  | none => rw [ep] at p; exact p.elim
  | some ds =>
    rw [ep] at p
    exact h5 v d ds σ H2 _ _ q hide_le ep fun ws hws => p O _ H2 ((R.mono x).setD hws) (hide_ex x)
/-- the names of a tuple of targets that are plain locals on one line -/
def swNames (sc : Scope) (ts : List Expr) : List Str := ts.filterMap fun
  | .Name id pos => if sc.names.lookup id == some .local && pos.line == (ts.head?.map (·.pos.line)).getD 0 then some id else none
  | _ => none
theorem swapped_none {ts vs : List Expr} {kt k2 : Nat} {pt p2 : Pos} {env : Env} (he : env.scope = sc) (h : ((swNames sc ts).length != ts.length) = true) : swappedStores [.Tuple ts kt pt] (.Tuple vs k2 p2) env = pure none := by
  unfold swappedStores
  have e1 : ∀ id, env.kindOf id = sc.names.lookup id := fun id => by unfold Env.kindOf; rw [he]
  dsimp only
  split
  · rfl
  · split
    · rfl
    · simp only [e1]
      generalize hq : List.filterMap _ ts = l
      have e2 : l = swNames sc ts := by rw [← hq]; rfl
      rw [e2, if_pos (by rw [h]; rfl)]
theorem swapped_some {ts vs : List Expr} {ns : List Str} {kt k2 : Nat} {pt p2 : Pos} {env : Env} (he : env.scope = sc) (hk : sc.kind = .function) (hn : swNames sc ts = ns) (hl : ns.length = ts.length) (hd : (ns.eraseDups.length != ns.length) = false) (h2 : (ts.length == 2 || ts.length == 3) = true) (hv : (vs.length != ts.length) = false)
    (hst : (vs.any fun | .Starred .. => true | _ => false) = false) (hf : vs.all (foldedForSure 8) = false) (hc : vs.all (constantsAlone 8) = false) : swappedStores [.Tuple ts kt pt] (.Tuple vs k2 p2) env = pure (some ns) := by
  unfold swappedStores
  have e1 : ∀ id, env.kindOf id = sc.names.lookup id := fun id => by unfold Env.kindOf; rw [he]
  have e3 : (env.blockKind != ScopeKind.function) = false := by unfold Env.blockKind; rw [he, hk]; rfl
  dsimp only
  rw [h2, hv, e3]
  rw [if_neg (by decide)]
  generalize hq0 : vs.any _ = l0
  have hst' : l0 = false := by rw [← hq0]; exact hst
  rw [if_neg (by rw [hst']; decide)]
  simp only [e1]
  generalize hq : List.filterMap _ ts = l
  have e2 : l = swNames sc ts := by rw [← hq]; rfl
  rw [e2, hn, hd, hl, if_neg (by simp), hf, hc, if_neg (by decide), if_neg (by decide)]
theorem s_asgT (Fm : Fam Xs P w K mg base N sc fnn k) {ts vs : List Expr} {kt k2 : Nat} {pt p2 : Pos} (h : EE cv W Xs (.Tuple vs k2 p2) f) (hg : EG Xs (.Tuple ts kt pt) T) (hw : ((swNames sc ts).length != ts.length) = true := by decide +kernel)
    (h1 : ∀ env, (assignEach [.Tuple ts kt pt] env).map (·.2) = [assign (.Tuple ts kt pt) env] := by intro _; rfl) : SS cv W fr Xs (.Assign [.Tuple ts kt pt] (.Tuple vs k2 p2) pos) (sAsg T f) :=
  s_asg h hg (fun _ => rfl) (fun j => swapped_none (Fm.scp j) hw) h1
/-- x, y = e, e' with plain locals -/
theorem s_par2 (Fm : Fam Xs P w K mg base N sc fnn k) (i i' : Nat) {y : Str} {px py pt p2 : Pos} {kt k2 : Nat} (ha : EA cv W Xs [a, b] fs) (hi : N[i]? = some x := by rfl) (hj : N[i']? = some y := by rfl) (hij : i ≠ i' := by decide) (hx : isLoc sc x = true := by decide +kernel) (hy : isLoc sc y = true := by decide +kernel) (hk : sc.kind = .function := by decide +kernel)
    (hn : swNames sc [.Name x px, .Name y py] = [x, y] := by decide +kernel) (hd : (([x, y] : List Str).eraseDups.length != ([x, y] : List Str).length) = false := by decide +kernel) (hst : ([a, b].any fun | .Starred .. => true | _ => false) = false := by rfl) (hf : [a, b].all (foldedForSure 8) = false := by rfl) (hc : [a, b].all (constantsAlone 8) = false := by rfl) :
    SS cv W fr Xs (.Assign [.Tuple [.Name x px, .Name y py] kt pt] (.Tuple [a, b] k2 p2) pos) (sPar [i, i'] fs) := by
  obtain ⟨t, h1, h2⟩ := ha
  refine ⟨tPar i i' t, fun j => ps_par (Fm.calm j) (Fm.ndj j) (Fm.at hi j) (Fm.at hj j) hij (by rw [Fm.scp j]; exact isLoc_of hx) (by rw [Fm.scp j]; exact isLoc_of hy) (h1 j) (swapped_some (Fm.scp j) hk hn rfl hd rfl rfl hst hf hc) rfl, fun Oc H0 O σ ρ H Z R p => h2 O σ ρ H _ R.e (posA_of R p fun ds _ vs H2 x q p => ?_)⟩
  by_cases hl : ds.length = 2
  · rw [if_pos (by exact hl)] at p
    match vs, ds, q, hl with
    | [v, v'], [d, d'], q, _ => exact ⟨v, v', rfl, p O _ H2 ((R.mono x).setD (is := [i, i']) q) (hide_ex x)⟩
    | [], [d, d'], q, _ => cases q
    | [_], [d, d'], q, _ => cases q; rename_i q; cases q
    | _ :: _ :: _ :: _, [d, d'], q, _ => have := q.length; simp at this
  · rw [if_neg (by exact hl)] at p
    exact p.elim
theorem s_par3 (Fm : Fam Xs P w K mg base N sc fnn k) (i i' i'' : Nat) {y z : Str} {px py pz pt p2 : Pos} {kt k2 : Nat} (ha : EA cv W Xs [a, b, c] fs) (hi : N[i]? = some x := by rfl) (hj : N[i']? = some y := by rfl) (hl : N[i'']? = some z := by rfl) (hij : i ≠ i' := by decide) (hil : i ≠ i'' := by decide) (hjl : i' ≠ i'' := by decide) (hx : isLoc sc x = true := by decide +kernel) (hy : isLoc sc y = true := by decide +kernel) (hz : isLoc sc z = true := by decide +kernel) (hk : sc.kind = .function := by decide +kernel)
    (hn : swNames sc [.Name x px, .Name y py, .Name z pz] = [x, y, z] := by decide +kernel) (hd : (([x, y, z] : List Str).eraseDups.length != ([x, y, z] : List Str).length) = false := by decide +kernel) (hst : ([a, b, c].any fun | .Starred .. => true | _ => false) = false := by rfl) (hf : [a, b, c].all (foldedForSure 8) = false := by rfl) (hc : [a, b, c].all (constantsAlone 8) = false := by rfl) :
    SS cv W fr Xs (.Assign [.Tuple [.Name x px, .Name y py, .Name z pz] kt pt] (.Tuple [a, b, c] k2 p2) pos) (sPar [i, i', i''] fs) := by
  obtain ⟨t, h1, h2⟩ := ha
  refine ⟨_, fun j => ps_par3 (Fm.calm j) (Fm.ndj j) (Fm.at hi j) (Fm.at hj j) (Fm.at hl j) hij hil hjl (by rw [Fm.scp j]; exact isLoc_of hx) (by rw [Fm.scp j]; exact isLoc_of hy) (by rw [Fm.scp j]; exact isLoc_of hz) (h1 j) (swapped_some (Fm.scp j) hk hn rfl hd rfl rfl hst hf hc) rfl, fun Oc H0 O σ ρ H Z R p => h2 O σ ρ H _ R.e (posA_of R p fun ds _ vs H2 x q p => ?_)⟩
  by_cases hl : ds.length = 3
  · rw [if_pos (by exact hl)] at p
    match vs, ds, q, hl with
    | [v, v', v''], [d, d', d''], q, _ => exact ⟨v, v', v'', rfl, p O _ H2 ((R.mono x).setD (is := [i, i', i'']) q) (hide_ex x)⟩
    | [], [d, d', d''], q, _ => cases q
    | [_], [d, d', d''], q, _ => have := q.length; simp at this
    | [_, _], [d, d', d''], q, _ => have := q.length; simp at this
    | _ :: _ :: _ :: _ :: _, [d, d', d''], q, _ => have := q.length; simp at this
  · rw [if_neg (by exact hl)] at p
    exact p.elim
theorem s_if (h : ET cv W Xs c ft) (h1 : SSs cv W fr Xs ss F) (h2 : SSs cv W fr Xs ss' G) : SS cv W fr Xs (.If c ss ss' pos) (sIf ft F G) := by
  obtain ⟨t, h3, h4⟩ := h
  obtain ⟨u, h5, h6⟩ := h1
  obtain ⟨v, h7, h8⟩ := h2
  refine ⟨_, fun j => ps_if (h3 j) (h5 j) (h7 j), fun Oc H0 O σ ρ H Z R p => h4 O σ ρ H _ R.e (posT_of R p fun b _ H2 x p => ?_)⟩
  cases b with
  | true => rw [if_pos rfl] at p ⊢; exact h6 Oc H0 O σ ρ H2 Z (R.mono x) (p.later (hide_ex x))
  | false => rw [if_neg (by decide)] at p ⊢; exact h8 Oc H0 O σ ρ H2 Z (R.mono x) (p.later (hide_ex x))
theorem s_ret (h : EE cv W Xs e f) : SS cv W .dat Xs (.Return (some e) pos) (sRet f) := by
  obtain ⟨t, h1, h2⟩ := h
  refine ⟨_, fun j => ps_ret (h1 j), fun Oc H0 O σ ρ H Z R p => h2 O σ ρ H _ R.e (posE_of R p fun d hr0 v H2 x q p => ?_)⟩
  exact p v H2 (R.base.trans x) (q.mono (hide_sub R.oc))
theorem s_retF (h : EF cv W Xs e f) : SS cv W .lst Xs (.Return (some e) pos) (sRet f) := by
  obtain ⟨t, h1, h2⟩ := h
  refine ⟨_, fun j => ps_ret (h1 j), fun Oc H0 O σ ρ H Z R p => h2 O σ ρ H _ R.e (posF_of R p fun ds _ q vs H2 x n1 g1 g2 p => ?_)⟩
  refine p _ H2 (R.base.trans x) ⟨q, vs, ds, rfl, rfl, R.base.free n1, g1, g2.mono (hide_sub fun a ha => ?_)⟩
  rcases List.mem_cons.mp ha with rfl | ha
  · simp
  · exact List.mem_cons_of_mem _ (R.oc a ha)
theorem s_retO (Fm : Fam Xs P w K mg base N sc fnn k) (i : Nat) (hN : N[i]? = some x := by rfl) (hv : visB sc x = true := by decide +kernel) (hd : (x == ("__debug__" : Str)) = false := by decide) (hcd : (x == ("__classdict__" : Str)) = false := by decide) : SS cv W .lst Xs (.Return (some (.Name x npos)) pos) (sRetO i) := by
  refine ⟨_, fun j => ps_ret (pe_var (Fm.at hN j) (Fm.vis hv j) hd hcd), fun Oc H0 O σ ρ H Z R p => ?_⟩
  unfold sRetO at p
  split at p
  · rename_i ds e
    obtain ⟨a, vs, h1, h2, h3, h4, h5⟩ := R.at_own e
    refine ⟨_, h1, p _ H R.base ⟨a, vs, ds, rfl, rfl, h3, h4, h5.mono (hide_sub fun b hb => ?_)⟩⟩
    rcases List.mem_cons.mp hb with rfl | hb
    · exact h2
    · exact R.oc b hb
  · exact p.elim
theorem s_retN : SS cv W .dat Xs (.Return none pos) sRetN := ⟨tRetN, fun _ => ps_retN, fun Oc H0 O σ ρ H Z R p => p _ H R.base .non⟩
theorem s_expr (h : EE cv W Xs e f) (hs : ∀ env, swapsWith e none pos.line env = pure false := by intro _; rfl) : SS cv W fr Xs (.Expr e pos) (sExp f) := by
  obtain ⟨t, h1, h2⟩ := h
  exact ⟨_, fun j => ps_expr (h1 j) (hs _), fun Oc H0 O σ ρ H Z R p => h2 O σ ρ H _ R.e (posE_of R p fun d _ v H2 x q p => p O σ H2 (R.mono x) (hide_ex x))⟩
theorem s_pass : SS cv W fr Xs (.Pass pos) sNil := ⟨_, fun _ => ps_pass, fun Oc H0 O σ ρ H Z R p => p O σ H R (Ex.refl _)⟩
variable {apos cpos opos : Pos}
/-- x.append(e) -/
theorem s_app (Fm : Fam Xs P w K mg base N sc fnn k) (i : Nat) (h : EE cv W Xs e f) (hN : N[i]? = some x := by rfl) (hv : visB sc x = true := by decide +kernel) (hd : (x == ("__debug__" : Str)) = false := by decide) (hcd : (x == ("__classdict__" : Str)) = false := by decide)
    (hline : (apos.endLine == cpos.line) = true := by rfl) (hs : ∀ env, starEach [e] env = (false, eval e env) :: starEach [] env := by intro _; rfl) :
    SS cv W fr Xs (.Expr (.Call (.Attribute (.Name x opos) "append" apos) [e] [] cpos) pos) (sApp i f) := by
  obtain ⟨t, h1, h2⟩ := h
  refine ⟨tDrop (tBM K "list" rAppend (tVar i) (tCons t tNil)), fun j => ?_, fun Oc H0 O σ ρ H Z R p => ?_⟩
  · have := ps_expr (pos := pos) (pe_bm (X := Xs j) (cpos := cpos) (apos := apos) PySem.F.plainAttrs_list PySem.F.slot_list_append PySem.F.type_list_append mt_append (pe_var (pos := opos) (Fm.at hN j) (Fm.vis hv j) hd hcd) (pa_cons (h1 j) pa_nil (hs _)) rfl (by rw [hs]; rfl) hline (hs _) rfl) rfl
    rw [Fm.kk j] at this
    exact this
  · unfold sApp at p
    split at p
    · rename_i ds e
      obtain ⟨a, vs, g1, g2, g3, g4, g5⟩ := R.at_own e
      refine ⟨_, g1, Or.inl ⟨rfl, vs, SqL.of g4⟩, h2 O σ ρ H _ R.e (posE_of R p fun d hr0 v H2 x q p => ?_)⟩
      by_cases hl : ds.length < LIM
      · rw [if_pos hl] at p
        refine ⟨a, vs, v, rfl, rfl, x _ _ g4, by rw [g5.length]; exact lim_lt hl, ?_⟩
        obtain ⟨R', ex⟩ := (R.mono x).mut e g1 (ws := vs ++ [v]) (es := ds ++ [d]) ((g5.mono (hide_ex x)).append (.cons q .nil))
        exact p O σ _ R' ((hide_ex x).trans ex)
      · rw [if_neg hl] at p
        exact p.elim
    · exact p.elim
/-- x.remove(e), a list of ints -/
theorem s_rem (Fm : Fam Xs P w K mg base N sc fnn k) (i : Nat) (h : EE cv W Xs e f) (hN : N[i]? = some x := by rfl) (hv : visB sc x = true := by decide +kernel) (hd : (x == ("__debug__" : Str)) = false := by decide) (hcd : (x == ("__classdict__" : Str)) = false := by decide)
    (hline : (apos.endLine == cpos.line) = true := by rfl) (hs : ∀ env, starEach [e] env = (false, eval e env) :: starEach [] env := by intro _; rfl) :
    SS cv W fr Xs (.Expr (.Call (.Attribute (.Name x opos) "remove" apos) [e] [] cpos) pos) (sRem i f) := by
  obtain ⟨t, h1, h2⟩ := h
  refine ⟨tDrop (tBM K "list" rRemI (tVar i) (tCons t tNil)), fun j => ?_, fun Oc H0 O σ ρ H Z R p => ?_⟩
  · have := ps_expr (pos := pos) (pe_bm (X := Xs j) (cpos := cpos) (apos := apos) PySem.F.plainAttrs_list PySem.F.slot_list_remove PySem.F.type_list_remove mt_remove (pe_var (pos := opos) (Fm.at hN j) (Fm.vis hv j) hd hcd) (pa_cons (h1 j) pa_nil (hs _)) rfl (by rw [hs]; rfl) hline (hs _) rfl) rfl
    rw [Fm.kk j] at this
    exact this
  · unfold sRem at p
    split at p
    · rename_i ds e
      obtain ⟨a, vs, g1, g2, g3, g4, g5⟩ := R.at_own e
      refine ⟨_, g1, Or.inl ⟨rfl, vs, SqL.of g4⟩, h2 O σ ρ H _ R.e (posE_of R p fun d hr0 v H2 x q p2 => ?_)⟩
      split at p2
      · rename_i ns kk hi
        have e1 := intsOf_eq hi
        subst e1
        have e2 := g5.ints
        subst e2
        split at p2
        · rename_i j hj
          rw [List.findIdx?_eq_some_iff_getElem] at hj
          obtain ⟨j1, j2, j3⟩ := hj
          have hjk : ns[j]? = some kk := by rw [List.getElem?_eq_getElem j1]; simpa using j2
          cases q
          refine ⟨a, ns, kk, j, rfl, rfl, x _ _ g4, hjk, fun m hm z => ?_, ?_⟩
          · have hm' : m < ns.length := by omega
            have := j3 m hm
            rw [List.getElem?_eq_getElem hm'] at z
            cases z
            simp at this
          · obtain ⟨R', ex⟩ := (R.mono x).mut e g1 (ws := (ns.eraseIdx j).map V.int) (es := (ns.eraseIdx j).map PyData.int) (DqAll.ofInts _)
            exact p2 O σ _ R' ((hide_ex x).trans ex)
        · exact p2.elim
      · exact p2.elim
    · exact p.elim
/-- x[k] = e -/
theorem s_setI (Fm : Fam Xs P w K mg base N sc fnn k) (i : Nat) (hk : EB cv W Xs b fk) (h : EE cv W Xs e f) (hN : N[i]? = some x := by rfl) (hv : visB sc x = true := by decide +kernel) (hd : (x == ("__debug__" : Str)) = false := by decide) (hcd : (x == ("__classdict__" : Str)) = false := by decide)
    (ha : ∀ env v, assign (.Subscript (.Name x opos) b apos) env v = (do
      let ov ← holding [v] (eval (.Name x opos) env)
      let iv ← holding [v, ov] (eval b env)
      standAt apos
      holding [v, ov, iv] (setItem ov iv v)
      release [v, ov, iv] []) := by intro _ _; rfl) (hs : ∀ env, swapsWithSole [.Subscript (.Name x opos) b apos] e pos.line env = pure false := by intro _; rfl) (hw : ∀ env, swappedStores [.Subscript (.Name x opos) b apos] e env = pure none := by intro _; rfl)
    (h1 : ∀ env, (assignEach [.Subscript (.Name x opos) b apos] env).map (·.2) = [assign (.Subscript (.Name x opos) b apos) env] := by intro _; rfl) :
    SS cv W fr Xs (.Assign [.Subscript (.Name x opos) b apos] e pos) (sSetI i fk f) := by
  obtain ⟨t, g1, g2⟩ := h
  obtain ⟨tk, g3, g4⟩ := hk
  refine ⟨tAsg t (gSub (tVar i) tk rSetL), fun j => ps_asg (g1 j) (pg_sub (pe_var (Fm.at hN j) (Fm.vis hv j) hd hcd) (g3 j) set_list (ha _)) (hs _) (hw _) (h1 _), fun Oc H0 O σ ρ H Z R p => g2 O σ ρ H _ R.e (posE_of R p fun d hr0 v H2 x q p => ?_)⟩
  split at p
  · rename_i ds e
    obtain ⟨a, vs, q1, q2, q3, q4, q5⟩ := R.at_own e
    refine ⟨_, q1, g4 O σ ρ H2 _ (R.mono x).e (posB_of (R.mono x) (p.later (hide_ex x)) fun dk hr1 u H3 x3 qk p => ?_)⟩
    split at p
    · split at p
      · rename_i kk _ j hj
        refine ⟨a, vs, kk, j, rfl, qk.int, x3 _ _ (x _ _ q4), by rw [q5.length]; exact hj, ?_⟩
        obtain ⟨R', ex⟩ := ((R.mono x).mono x3).mut e q1 (ws := vs.set j v) (es := ds.set j d) ((q5.mono (hide_ex (x.trans x3))).set j (q.mono (hide_ex x3)))
        exact p O σ _ R' ((hide_ex x3).trans ex)
      · exact p.elim
    · exact p.elim
  · exact p.elim
/-- x op= e -/
theorem s_aug (Fm : Fam Xs P w K mg base N sc fnn k) {op : Operator} {r : R2} {g : D → D → Rs D} (ho : ∀ j, OpR (Xs j) (inplaceOp op) r) (hr : OpE r g) (hn : Noer g) (i : Nat) (h : EB cv W Xs e f) (hN : N[i]? = some x := by rfl) (hx : stB fnn sc x = true := by decide +kernel) :
    SS cv W fr Xs (.AugAssign (.Name x npos) op e pos) (sAug i g f) := by
  obtain ⟨t, h1, h2⟩ := h
  refine ⟨tAug i t r, fun j => ps_aug (Fm.ndj j) (Fm.at hN j) (Fm.loc hx j) (h1 j) (ho j) (Fm.hf hx j), fun Oc H0 O σ ρ H Z R p => ?_⟩
  unfold sAug at p
  split at p
  · rename_i d0 e0
    obtain ⟨v0, l0, q1, q2⟩ := R.e.sl i _ e0
    refine ⟨v0, q1, h2 O σ ρ H _ R.e (posB_of R p fun d hr0 v H2 x q p => ?_)⟩
    refine hr O v0 v H2 _ d0 d (R.mono x).od (.inl (q2.2.mono (hide_ex x))) q ?_
    cases eg : g d0 d with
    | no => rw [eg] at p; exact p
    | er c => exact absurd eg (hn d0 d c)
    | ok z => rw [eg] at p; exact fun u H3 x3 q3 => p O _ H3 (((R.mono x).mono x3).set q3) (hide_ex (x.trans x3))
  · exact p.elim
/-- x += [..], x an own list -/
theorem s_ext (Fm : Fam Xs P w K mg base N sc fnn k) (i : Nat) (h : EB cv W Xs e f) (hN : N[i]? = some x := by rfl) (hx : stB fnn sc x = true := by decide +kernel) :
    SS cv W fr Xs (.AugAssign (.Name x npos) .Add e pos) (sExt i f) := by
  obtain ⟨t, h1, h2⟩ := h
  refine ⟨tAug i t rExt2, fun j => ps_aug (Fm.ndj j) (Fm.at hN j) (Fm.loc hx j) (h1 j) iop_ext (Fm.hf hx j), fun Oc H0 O σ ρ H Z R p => ?_⟩
  unfold sExt at p
  split at p
  · rename_i ds e
    obtain ⟨a, vs, q1, q2, q3, q4, q5⟩ := R.at_own e
    refine ⟨_, q1, h2 O σ ρ H _ R.e (posB_of R p fun d hr0 v H2 x q p => ?_)⟩
    split at p
    · split at p
      · rename_i es hl
        obtain ⟨b, ws, rfl, h3, h4⟩ := q.list
        refine ⟨a, b, vs, ws, rfl, rfl, x _ _ q4, h3, by rw [q5.length, h4.length]; exact lim_size hl, ?_⟩
        obtain ⟨R', ex⟩ := (R.mono x).mut e q1 (ws := vs ++ ws) (es := ds ++ es) ((q5.mono (hide_ex x)).append h4)
        have e2 : σ.set i (some (.ref a)) = σ := by
          apply List.ext_getElem?
          intro j
          by_cases hj : i = j
          · subst hj
            rw [List.getElem?_set, if_pos rfl, q1]
            have : i < σ.length := by
              rw [List.getElem?_eq_some_iff] at q1
              exact q1.1
            rw [if_pos this]
          · rw [List.getElem?_set_ne hj]
        show Z.nx (σ.set i (some (.ref a))) _
        rw [e2]
        exact p O σ _ R' ((hide_ex x).trans ex)
      · exact p.elim
    · exact p.elim
  · exact p.elim
end
end DL

namespace DL
open PySem L2
variable [SC]
section
variable {ι : Type} {cv : Nat → Value} {W W' : WX} {fr : RM} {Xs : ι → Cx} {P : Program} {w : World} {K : PySem.W.Frag} {mg : Str → Option Value} {base : Heap} {N : List Str} {sc : Scope} {fnn : Str → Bool} {k : Nat}
variable {e a b c tg iter elt : Expr} {es ifs : List Expr} {f fa fb fc fe fk : En → Rs D} {fs : En → Rs (List D)} {ft : En → Rs Bool} {it : En → Rs (List D)} {pos ppos npos opos apos : Pos} {is : List Nat} {T : Tg} {scope : Scope} {st : Stmt} {rest ss ss' : List Stmt} {F G : En → Out} {te : TE} {i : Nat} {x : Str}

/-! ### for -/
theorem s_for (Fm : Fam Xs P w K mg base N sc fnn k) (hp : ∀ j, PassesOwn (model (Xs j).prog (Xs j).w) (Xs j).A (Xs j).env (Xs j).xe) (vs : List Nat) (hi : EIS cv W Xs tg iter it) (hg : EG Xs tg T) (hb : SSs cv W fr Xs ss F)
    (hf : ∀ env x, foldedSetIterable iter env x = pure x := by intro _ _; rfl) : SS cv W fr Xs (.For tg iter ss [] pos) (sFor it T vs F) := by
  obtain ⟨ti, h1, h2⟩ := hi
  obtain ⟨g, h3, h4⟩ := hg
  obtain ⟨tb, h5, h6⟩ := hb
  refine ⟨tFor ti g tb, fun j => ps_for (hp j) (Fm.calm j) (h1 j) (h3 j) (h5 j) (hf _), fun Oc H0 O σ ρ H Z R p => h2 O σ ρ H _ R.e ?_⟩
  unfold sFor at p
  cases ei : it ρ with
  | no => rw [ei] at p; exact p
  | er c => rw [ei] at p; exact fun H2 x => p O σ H2 (R.mono x) (hide_ex x)
  | ok items =>
    rw [ei, ofR_ok] at p
    intro J H1 x1 dd
    generalize ho : forL T vs F items (wipeE ρ vs) = out at p
    refine ⟨fun i m σ' H' => m + i = items.length ∧ ∃ O' ρ', RepS Oc H0 O' σ' ρ' H' ∧ Ex (hide O H1) (hide O' H') ∧ forL T vs F (items.drop i) ρ' = out,
      ⟨items.length, by omega, O, wipeE ρ vs, (R.mono x1).forget vs, Ex.refl _, by simpa using ho⟩, ?_⟩
    rintro i m σ' H' ⟨hm, O', ρ', R', x2, hout⟩
    have x2' : Ex (hide O H1) H' := x2.trans hide_le
    by_cases hlt : i < items.length
    · have hd : items[i]? = some items[i] := List.getElem?_eq_getElem hlt
      obtain ⟨hgo, hy⟩ := dd.go i _ H' x2' hd
      refine .inr ⟨hgo, fun σ3 H3 => ∃ m', m' < m ∧ m' + (i + 1) = items.length ∧ ∃ O' ρ', RepS Oc H0 O' σ3 ρ' H3 ∧ Ex (hide O H1) (hide O' H3) ∧ forL T vs F (items.drop (i + 1)) ρ' = out,
        fun σ3 H3 ⟨m', g1, g2, g3⟩ => ⟨m', g1, g2, g3⟩, fun y H3 hyl => ?_⟩
      obtain ⟨x3, hq⟩ := hy y H3 hyl
      have qx : Dq (hide O' H3) y items[i] := hq _ (x2.trans (hide_ex x3)) fun a o n1 n2 => hide_some.mpr ⟨fun z => R'.od a z n1, n2⟩
      rw [List.drop_eq_getElem_cons hlt] at hout
      unfold forL at hout
      cases ea : T.asg items[i] ρ' with
      | none => rw [ea] at hout; subst hout; exact p.elim
      | some ρ1 =>
        rw [ea] at hout
        dsimp only at hout
        unfold Tg.asg at ea
        cases ep : T.parts items[i] with
        | none => rw [ep] at ea; cases ea
        | some es =>
          rw [ep] at ea
          cases ea
          refine h4 y items[i] es σ' H3 _ (hide O' H3) qx hide_le ep fun us hus => ?_
          have R3 := (R'.mono x3).setD (is := T.ix) hus
          refine h6 Oc H0 O' _ _ H3 _ R3 ?_
          cases eb : F (setD ρ' T.ix es) with
          | nx ρ2 =>
            rw [eb] at hout
            exact fun O4 σ4 H4 R4 x4 => ⟨m - 1, by omega, by omega, O4, _, R4.forget vs, (x2.trans (hide_ex x3)).trans x4, hout⟩
          | ct ρ2 =>
            rw [eb] at hout
            exact fun O4 σ4 H4 R4 x4 => ⟨m - 1, by omega, by omega, O4, _, R4.forget vs, (x2.trans (hide_ex x3)).trans x4, hout⟩
          | bk ρ2 =>
            rw [eb] at hout
            subst hout
            exact fun O4 σ4 H4 R4 x4 => p O4 σ4 H4 (R4.forget vs) (((hide_ex x1).trans (x2.trans (hide_ex x3))).trans x4)
          | rt d => rw [eb] at hout; subst hout; exact p
          | rs d ρ2 =>
            rw [eb] at hout
            subst hout
            exact fun v O4 σ4 H4 R4 x4 => p v O4 σ4 H4 R4 (((hide_ex x1).trans (x2.trans (hide_ex x3))).trans x4)
          | ex c ρ2 =>
            rw [eb] at hout
            subst hout
            exact fun O4 σ4 H4 R4 x4 => p O4 σ4 H4 R4 (((hide_ex x1).trans (x2.trans (hide_ex x3))).trans x4)
          | no => rw [eb] at hout; subst hout; exact p.elim
    · have ei : i = items.length := by omega
      subst ei
      rw [List.drop_length] at hout
      subst hout
      exact .inl ⟨dd.stop H' x2', p O' σ' H' R' ((hide_ex x1).trans x2)⟩
/-! ### while -/
theorem s_while (hp : ∀ j, PassesOwn (model (Xs j).prog (Xs j).w) (Xs j).A (Xs j).env (Xs j).xe) (n : Nat) (vs : List Nat) (hc : ET cv W Xs c ft) (hb : SSs cv W fr Xs ss F) : SS cv W fr Xs (.While c ss [] pos) (sWhile n ft vs F) := by
  obtain ⟨tc, h1, h2⟩ := hc
  obtain ⟨tb, h5, h6⟩ := hb
  refine ⟨tWhile tc tb, fun j => ps_while (hp j) (h1 j) (h5 j), fun Oc H0 O σ ρ H Z R p => ?_⟩
  unfold sWhile at p
  generalize ho : whileL ft vs F n (wipeE ρ vs) = out at p
  refine ⟨fun m σ' H' => ∃ O' ρ', RepS Oc H0 O' σ' ρ' H' ∧ Ex (hide O H) (hide O' H') ∧ whileL ft vs F m ρ' = out, ⟨n, O, _, R.forget vs, Ex.refl _, ho⟩, ?_⟩
  rintro m σ' H' ⟨O', ρ', R', x2, hout⟩
  cases m with
  | zero => subst hout; exact p.elim
  | succ m =>
    refine h2 O' σ' ρ' H' _ R'.e ?_
    unfold whileL at hout
    cases ec : ft ρ' with
    | no => rw [ec] at hout; subst hout; exact p.elim
    | er c => rw [ec] at hout; subst hout; exact fun H3 x3 => p O' σ' H3 (R'.mono x3) (x2.trans (hide_ex x3))
    | ok b =>
      rw [ec, ofR_ok] at hout
      intro H3 x3
      cases b with
      | false =>
        rw [if_neg (by decide)] at hout ⊢
        subst hout
        exact p O' σ' H3 (R'.mono x3) (x2.trans (hide_ex x3))
      | true =>
        rw [if_pos rfl] at hout ⊢
        refine ⟨fun σ4 H4 => ∃ O' ρ', RepS Oc H0 O' σ4 ρ' H4 ∧ Ex (hide O H) (hide O' H4) ∧ whileL ft vs F m ρ' = out, fun σ4 H4 h => ⟨m, Nat.lt_succ_self m, h⟩, ?_⟩
        refine h6 Oc H0 O' σ' ρ' H3 _ (R'.mono x3) ?_
        cases eb : F ρ' with
        | nx ρ2 =>
          rw [eb] at hout
          exact fun O4 σ4 H4 R4 x4 => ⟨O4, _, R4.forget vs, (x2.trans (hide_ex x3)).trans x4, hout⟩
        | ct ρ2 =>
          rw [eb] at hout
          exact fun O4 σ4 H4 R4 x4 => ⟨O4, _, R4.forget vs, (x2.trans (hide_ex x3)).trans x4, hout⟩
        | bk ρ2 =>
          rw [eb] at hout
          subst hout
          exact fun O4 σ4 H4 R4 x4 => p O4 σ4 H4 (R4.forget vs) ((x2.trans (hide_ex x3)).trans x4)
        | rt d => rw [eb] at hout; subst hout; exact p
        | rs d ρ2 =>
          rw [eb] at hout
          subst hout
          exact fun v O4 σ4 H4 R4 x4 => p v O4 σ4 H4 R4 ((x2.trans (hide_ex x3)).trans x4)
        | ex c ρ2 =>
          rw [eb] at hout
          subst hout
          exact fun O4 σ4 H4 R4 x4 => p O4 σ4 H4 R4 ((x2.trans (hide_ex x3)).trans x4)
        | no => rw [eb] at hout; subst hout; exact p.elim

/-! ### x[k] += e ; x[a], x[b] = (e, e') -/
theorem gets_list {X : Cx} : PGet X (rIxL X.K) := by
  intro pins s σ H x y v u Q I rx ry h
  obtain ⟨p, xs, i, z, rfl, rfl, hq, he, q⟩ := h
  cases rx
  obtain ⟨t, rfl⟩ := ry
  obtain ⟨its, r, pl, hz⟩ := I.list hq
  obtain ⟨j, h1, h2, h3, h4, h5⟩ := L2.atI_get he
  obtain ⟨w, ew, rw'⟩ := r.get h2
  have hl := r.length
  have hn := line63
  have fin : EP X pins σ Q w s := ⟨z, H, I, rw', q⟩
  by_cases h0 : 0 ≤ i
  · have hj : i.toNat = j := by
      rw [seqIndex_of h0 h5] at h1
      exact Option.some.inj h1
    exact wpAny_getItem_list pl.isList h0 (by omega) (by rw [hj]; simpa using ew) fin
  · have hj : (i + (its.toArray.size : Int)).toNat = j := by
      rw [seqIndex_neg (by omega) h4] at h1
      rw [List.size_toArray, ← hl]
      exact Option.some.inj h1
    exact wpAny_getItem_list_neg pl.isList (by omega) (by rw [List.size_toArray] <;> omega) (by omega) (by rw [hj]; simpa using ew) fin
theorem s_augI (Fm : Fam Xs P w K mg base N sc fnn k) (i : Nat) (hk : EB cv W Xs b fk) (h : EB cv W Xs e f) (hN : N[i]? = some x := by rfl) (hv : visB sc x = true := by decide +kernel) (hd : (x == ("__debug__" : Str)) = false := by decide) (hcd : (x == ("__classdict__" : Str)) = false := by decide)
    (ha : ∀ ov iv new, augStore b ov iv new = (do holding [new, ov, iv] (setItem ov iv new); release [new, ov, iv] []; pure .next) := by intros; rfl) :
    SS cv W fr Xs (.AugAssign (.Subscript (.Name x opos) b apos) .Add e pos) (sAugI i fk f) := by
  obtain ⟨t, g1, g2⟩ := h
  obtain ⟨tk, g3, g4⟩ := hk
  refine ⟨tAugS (tVar i) tk t (rIxL K) (ipI fun i j => i + j) rSetL, fun j => ps_augS (pe_var (Fm.at hN j) (Fm.vis hv j) hd hcd) (g3 j) (by have := gets_list (X := Xs j); rw [Fm.kk j] at this; exact this) (g1 j) ip_add set_list ha, fun Oc H0 O σ ρ H Z R p => ?_⟩
  unfold sAugI at p
  split at p
  · rename_i ds e
    obtain ⟨a, vs, q1, q2, q3, q4, q5⟩ := R.at_own e
    refine ⟨_, q1, g4 O σ ρ H _ R.e (posB_of R p fun dk hr1 u H2 x2 qk p2 => ?_)⟩
    split at p2
    · split at p2
      · rename_i kk _ jj hj
        have hjl : jj < ds.length := (ixN_seq hj).2.1
        have hdj : atI ds kk = some ds[jj] := by
          unfold atI
          rw [hj]
          exact List.getElem?_eq_getElem hjl
        obtain ⟨v0, a1, a2⟩ := atI_get (q5.mono (hide_ex x2)) hdj
        refine ⟨a, vs, kk, v0, rfl, qk.int, SqL.of (x2 _ _ q4), a1, ?_⟩
        refine g2 O σ ρ H2 _ (R.mono x2).e (posB_of (R.mono x2) (p2.later (hide_ex x2)) fun d hr2 v H3 x3 q p3 => ?_)
        rw [List.getElem?_eq_getElem hjl] at p3
        split at p3
        · rename_i uu vv e1
          have e1 := Option.some.inj e1
          rw [e1] at a2
          cases a2
          refine ⟨uu, vv, rfl, q.int, a, vs, kk, jj, rfl, qk.int, x3 _ _ (x2 _ _ q4), by rw [q5.length]; exact hj, ?_⟩
          obtain ⟨R', ex⟩ := ((R.mono x2).mono x3).mut e q1 (ws := vs.set jj (.int (uu + vv))) (es := ds.set jj (.int (uu + vv))) ((q5.mono (hide_ex (x2.trans x3))).set jj (.int _))
          exact p3 O σ _ R' ((hide_ex x3).trans ex)
        · exact p3.elim
      · exact p2.elim
    · exact p2.elim
  · exact p.elim
theorem s_swap (Fm : Fam Xs P w K mg base N sc fnn k) (i : Nat) {vs : List Expr} {kt k2 : Nat} {pt p2 opos' apos' : Pos} (h : EA cv W Xs vs fs) (ha : EB cv W Xs a fa) (hb : EB cv W Xs b fb) (hN : N[i]? = some x := by rfl) (hv : visB sc x = true := by decide +kernel) (hd : (x == ("__debug__" : Str)) = false := by decide) (hcd : (x == ("__classdict__" : Str)) = false := by decide)
    (hsa : ∀ env v, assign (.Subscript (.Name x opos) a apos) env v = (do
      let ov ← holding [v] (eval (.Name x opos) env)
      let iv ← holding [v, ov] (eval a env)
      standAt apos
      holding [v, ov, iv] (setItem ov iv v)
      release [v, ov, iv] []) := by intro _ _; rfl)
    (hsb : ∀ env v, assign (.Subscript (.Name x opos') b apos') env v = (do
      let ov ← holding [v] (eval (.Name x opos') env)
      let iv ← holding [v, ov] (eval b env)
      standAt apos'
      holding [v, ov, iv] (setItem ov iv v)
      release [v, ov, iv] []) := by intro _ _; rfl)
    (hw : ((swNames sc [.Subscript (.Name x opos) a apos, .Subscript (.Name x opos') b apos']).length != 2) = true := by decide +kernel)
    (h1 : ∀ env, (assignEach [.Tuple [.Subscript (.Name x opos) a apos, .Subscript (.Name x opos') b apos'] kt pt] env).map (·.2) = [assign (.Tuple [.Subscript (.Name x opos) a apos, .Subscript (.Name x opos') b apos'] kt pt) env] := by intro _; rfl)
    (ha1 : ∀ env, (assignEach [.Subscript (.Name x opos) a apos, .Subscript (.Name x opos') b apos'] env).map (·.2) = assign (.Subscript (.Name x opos) a apos) env :: (assignEach [.Subscript (.Name x opos') b apos'] env).map (·.2) := by intro _; rfl)
    (ha2 : ∀ env, (assignEach [.Subscript (.Name x opos') b apos'] env).map (·.2) = assign (.Subscript (.Name x opos') b apos') env :: (assignEach [] env).map (·.2) := by intro _; rfl)
    (hn : ∀ env, (assignEach [.Subscript (.Name x opos) a apos, .Subscript (.Name x opos') b apos'] env).length = 2 := by intro _; rfl) (hst : ∀ env, (assignEach [.Subscript (.Name x opos) a apos, .Subscript (.Name x opos') b apos'] env).findIdx? (·.1) = none := by intro _; rfl) :
    SS cv W fr Xs (.Assign [.Tuple [.Subscript (.Name x opos) a apos, .Subscript (.Name x opos') b apos'] kt pt] (.Tuple vs k2 p2) pos) (sSwap i fa fb fs) := by
  obtain ⟨t, g1, g2⟩ := h
  obtain ⟨ta, g3, g4⟩ := ha
  obtain ⟨tb, g5, g6⟩ := hb
  refine ⟨tAsg (tTup t) (gTup K 2 (gCons (gSub (tVar i) ta rSetL) (gCons (gSub (tVar i) tb rSetL) gNil))), fun j => ?_, fun Oc H0 O σ ρ H Z R p => g2 O σ ρ H _ R.e (posA_of R p fun ws hr0 us H2 x2 qs p2 => ?_)⟩
  · have := ps_asg (pos := pos) (pe_tup (x1 := k2) (pos := p2) (g1 j)) (pg_tup (pos := pt) (k := kt) (Fm.calm j) (pgs_cons (pg_sub (pe_var (Fm.at hN j) (Fm.vis hv j) hd hcd) (g3 j) set_list (hsa _)) (pgs_cons (pg_sub (pe_var (Fm.at hN j) (Fm.vis hv j) hd hcd) (g5 j) set_list (hsb _)) pgs_nil (ha2 _)) (ha1 _)) (hn _) (hst _)) rfl (swapped_none (Fm.scp j) hw) (h1 _)
    rw [Fm.kk j] at this
    exact this
  · split at p2
    · rename_i d e ds he
      have hus : us.length = 2 := by rw [qs.length]; rfl
      refine ⟨by rw [hus]; decide, fun T hT => ?_⟩
      obtain ⟨al, vl, q1, q2, q3, q4, q5⟩ := R.at_own he
      cases qs with
      | cons qd qs =>
        cases qs with
        | cons qe qs =>
          cases qs
          rename_i v1 v2
          have xT : Ex H2 (upd H2 T (.tup [v1, v2])) := Ex.new hT
          have x3 := x2.trans xT
          refine ⟨T, _, rfl, SqT.of upd_same, rfl, v1, [v2], rfl, ⟨_, q1, ?_⟩⟩
          have R3 := R.mono x3
          refine g4 O σ ρ _ _ R3.e (posB_of R3 (p2.later (hide_ex x3)) fun da hr1 ua H4 x4 qa p3 => ?_)
          split at p3
          · split at p3
            · rename_i ka _ ja hja
              refine ⟨al, vl, ka, ja, rfl, qa.int, x4 _ _ (x3 _ _ q4), by rw [q5.length]; exact hja, v2, [], rfl, ⟨_, q1, ?_⟩⟩
              have qd4 := qd.mono (hide_ex (xT.trans x4))
              obtain ⟨R4, ex4⟩ := (R3.mono x4).mut he q1 (ws := vl.set ja v1) (es := ds.set ja d) ((q5.mono (hide_ex (x3.trans x4))).set ja qd4)
              have he4 : (ρ.set i (some (.ow (ds.set ja d))))[i]? = some (some (.ow (ds.set ja d))) := by
                have hlt : i < ρ.length := by
                  rw [List.getElem?_eq_some_iff] at he
                  exact he.1
                rw [List.getElem?_set, if_pos rfl, if_pos hlt]
              refine g6 O σ _ _ _ R4.e ?_
              cases hr : fb (ρ.set i (some (.ow (ds.set ja d)))) with
              | no => rw [hr] at p3; exact p3.elim
              | er c => rw [hr] at p3; exact p3.elim
              | ok db =>
                intro ub H5 x5 qb
                rw [hr] at p3
                split at p3
                · split at p3
                  · rename_i kb e5 _ jb hjb
                    cases e5
                    refine ⟨al, vl.set ja v1, kb, jb, rfl, qb.int, x5 _ _ upd_same, by rw [List.length_set, q5.length]; exact hjb, rfl, ?_⟩
                    obtain ⟨R5, ex5⟩ := (R4.mono x5).mut he4 q1 (ws := (vl.set ja v1).set jb v2) (es := (ds.set ja d).set jb e) ((((q5.mono (hide_ex (x3.trans x4))).set ja qd4).mono (ex4.trans (hide_ex x5))).set jb ((qe.mono (hide_ex (xT.trans x4))).mono (ex4.trans (hide_ex x5))))
                    rw [List.set_set] at R5
                    exact p3 O σ _ R5 ((hide_ex x4).trans (ex4.trans ((hide_ex x5).trans ex5)))
                  · exact p3.elim
                · exact p3.elim
            · exact p3.elim
          · exact p3.elim
    · exact p2.elim
end
end DL

namespace DL
open PySem L2
variable [SC]

/-! ### defs -/
def startE (n : Nat) (ds : List D) : En := ds.map (fun d => some (.sh d)) ++ List.replicate (n - ds.length) none
def callF (n : Nat) (F : En → Out) (ds : List D) : Rs D := match F (startE n ds) with
  | .rt d => .ok d
  | .nx _ => .ok .none
  | .ex c _ => .er c
  | _ => .no
/-- a def that owns what it hands back: its last statement returns -/
def callR (n : Nat) (F : En → Out) (ds : List D) : Rs D := match F (startE n ds) with
  | .rt d => .ok d
  | .ex c _ => .er c
  | _ => .no
def sp0 (np : Nat) (g : List D → Rs D) : Sp := fun vs H Q _ => vs.length = np ∧ ∃ O ds, (∀ a ∈ O, H a ≠ none) ∧ NT O H ∧ DqAll (hide O H) vs ds ∧ OkE O H Q (g ds)
def spF (np : Nat) (g : List D → Rs D) : Sp := fun vs H Q _ => vs.length = np ∧ ∃ O ds, (∀ a ∈ O, H a ≠ none) ∧ NT O H ∧ DqAll (hide O H) vs ds ∧ OkF O H Q (g ds)
def Known (P : Program) (w : World) (K : PySem.W.Frag) (mg : Str → Option Value) (base : Heap) (kc : Nat) (x : Str) (ps : List Str) (sp : Sp) : Prop :=
  ∃ f fd, FnOk P w K mg base CX0 kc f fd ps sp ∧ mg x = some (.ref f) ∧ PySem.W.keepIn K (.ref f) = true ∧ Binds K fd ps []
abbrev cv0 : Nat → Value := fun _ => .none
abbrev W0 : WX := fun _ _ _ _ => False
theorem start_rep {O : List Addr} {H : Hp} {N : List Str} {vs : List V} {ds : List D} (od : ∀ a ∈ O, H a ≠ none) (nt : NT O H) (q : DqAll (hide O H) vs ds) : RepS O H O (L2.start N vs) (startE N.length ds) H := by
  refine ⟨by simp [L2.start, startE, q.length], Ex.refl H, fun _ z => z, od, od, nt, fun _ => [], fun i s e => ?_, fun i j a z => by simp at z, fun i a z => by simp at z⟩
  unfold startE at e
  unfold L2.start
  by_cases hi : i < ds.length
  · rw [List.getElem?_append_left (by simpa using hi), List.getElem?_map, List.getElem?_eq_getElem hi] at e
    have e := Option.some.inj (Option.some.inj e)
    subst e
    obtain ⟨v, h1, h2⟩ := q.get i (List.getElem?_eq_getElem hi)
    refine ⟨v, ?_, rfl, h2⟩
    rw [List.getElem?_append_left (by simpa [q.length] using hi), List.getElem?_map, h1]
    rfl
  · rw [List.getElem?_append_right (by simpa using hi), List.getElem?_replicate] at e
    split at e <;> simp at e
section
variable {P : Program} {w : World} {K : PySem.W.Frag} {mg : Str → Option Value} {base : Heap} {N ps : List Str} {k : Nat} {x qual : Str} {st : Stmt} {f : Addr} {fd : FuncData} {F : En → Out}
theorem fam_of {cdv : Value} {A : Around} {outer : List Env} {s : Shared} {H : Hp} {E : XK} (S : FnScope N ps (defScope st)) (hr : Room k (A.deeper (PyProof.Rows.envOfC qual (defScope st) s.heap.objs.size f cdv))) :
    Fam (fun _ : Unit => (cxOf CX0 P w K mg base N qual (defScope st) f cdv A outer s H E).nox) P w K mg base N (defScope st) (fun _ => true) k where
  prog := fun _ => rfl
  wd := fun _ => rfl
  kk := fun _ => rfl
  gl := fun _ => rfl
  bs := fun _ => rfl
  nm := fun _ => rfl
  scp := fun _ => rfl
  calm := fun _ => rfl
  nd := S.nd
  room := fun _ => hr
  fn := fun _ _ => rfl
theorem ok_fn (Fn : Fun K x qual st f fd) (S : FnScope N ps (defScope st))
    (hb : ∀ (Xs : Unit → Cx), Fam Xs P w K mg base N (defScope st) (fun _ => true) k → (∀ j, PassesOwn (model (Xs j).prog (Xs j).w) (Xs j).A (Xs j).env (Xs j).xe) → SSs cv0 W0 .dat Xs (defBody st) F) :
    FnOk P w K mg base CX0 (k + 1) f fd ps (sp0 ps.length (callF N.length F)) := by
  refine Fn.ok S (fun vs H Q E h => h.1) (fun cdv A outer s H vs Q E hr h => ?_)
  obtain ⟨hl, O, ds, od, nt, q, p⟩ := h
  obtain ⟨t, h1, h2⟩ := hb _ (fam_of S hr) (fun _ => PassesOwn.never)
  refine ⟨t, h1 (), h2 O H O _ _ H _ (start_rep od nt q) ?_⟩
  unfold callF at p
  cases e : F (startE N.length ds) with
  | rt d => rw [e] at p; exact fun v H' x q => p v H' x q
  | nx ρ' => rw [e] at p; exact fun O' σ' H' R x => p .non H' R.base .non
  | rs d ρ' => rw [e] at p; exact p.elim
  | bk ρ' => rw [e] at p; exact p.elim
  | ct ρ' => rw [e] at p; exact p.elim
  | ex c ρ' => rw [e] at p; exact p.elim
  | no => rw [e] at p; exact p.elim
theorem ok_fnF (Fn : Fun K x qual st f fd) (S : FnScope N ps (defScope st))
    (hb : ∀ (Xs : Unit → Cx), Fam Xs P w K mg base N (defScope st) (fun _ => true) k → (∀ j, PassesOwn (model (Xs j).prog (Xs j).w) (Xs j).A (Xs j).env (Xs j).xe) → SSs cv0 W0 .lst Xs (defBody st) F) :
    FnOk P w K mg base CX0 (k + 1) f fd ps (spF ps.length (callR N.length F)) := by
  refine Fn.ok S (fun vs H Q E h => h.1) (fun cdv A outer s H vs Q E hr h => ?_)
  obtain ⟨hl, O, ds, od, nt, q, p⟩ := h
  obtain ⟨t, h1, h2⟩ := hb _ (fam_of S hr) (fun _ => PassesOwn.never)
  refine ⟨t, h1 (), h2 O H O _ _ H _ (start_rep od nt q) ?_⟩
  unfold callR at p
  cases e : F (startE N.length ds) with
  | rt d =>
    rw [e] at p
    rintro v H' x ⟨q, ws, es, rfl, e1, n1, g1, g2⟩
    exact p q ws es H' e1 x n1 g1 g2
  | nx ρ' => rw [e] at p; exact p.elim
  | rs d ρ' => rw [e] at p; exact p.elim
  | bk ρ' => rw [e] at p; exact p.elim
  | ct ρ' => rw [e] at p; exact p.elim
  | ex c ρ' => rw [e] at p; exact p.elim
  | no => rw [e] at p; exact p.elim
theorem known (Fn : Fun K x qual st f fd) (hm : mg x = some (.ref f)) {sp : Sp} (b : Binds K fd ps []) (G : FnOk P w K mg base CX0 k f fd ps sp) : Known P w K mg base k x ps sp := ⟨f, fd, G, hm, Fn.kp, b⟩
theorem Known.mono {sp : Sp} {k' : Nat} (h : Known P w K mg base k x ps sp) (hk : k ≤ k') : Known P w K mg base k' x ps sp := by
  obtain ⟨f, fd, G, h1, h2, h3⟩ := h
  exact ⟨f, fd, G.mono hk, h1, h2, h3⟩
end
section
variable {ι : Type} {cv : Nat → Value} {W W' : WX} {fr : RM} {Xs : ι → Cx} {P : Program} {w : World} {K : PySem.W.Frag} {mg : Str → Option Value} {base : Heap} {N ps : List Str} {sc : Scope} {fnn : Str → Bool} {k kc : Nat}
variable {e a b c : Expr} {es : List Expr} {f fa fb : En → Rs D} {fs : En → Rs (List D)} {pos p : Pos} {x : Str} {g : List D → Rs D}
def callG (np : Nat) (g : List D → Rs D) (ds : List D) : Rs D := if ds.length = np then (g ds).noEr else .no
theorem snd_call {t : TA} {E : XK} (h : SndA cv W t fs) : SndE cv W (tCall (sp0 ps.length g) [] E t) (apL (callG ps.length g) fs) := by
  intro O σ ρ H Q R p
  refine h O σ ρ H _ R ?_
  unfold apL at p
  cases ea : fs ρ with
  | no => rw [ea] at p; exact p
  | er c => rw [ea] at p; exact p
  | ok ds =>
    rw [ea, Rs.bind_ok] at p
    intro vs H1 x1 q1
    rw [List.append_nil]
    unfold callG at p
    by_cases hl : ds.length = ps.length
    · rw [if_pos hl] at p
      refine ⟨by rw [q1.length]; exact hl, O, ds, (R.mono x1).od, (R.mono x1).nt, q1, ?_⟩
      cases eg : g ds with
      | no => rw [eg] at p; exact p
      | er c => rw [eg] at p; exact p
      | ok z => rw [eg] at p; exact fun v H2 x2 q2 => p v H2 (x1.trans x2) q2
    · rw [if_neg hl] at p
      exact p.elim
theorem snd_callF {t : TA} {E : XK} (h : SndA cv W t fs) : SndF cv W (tCall (spF ps.length g) [] E t) (apL (callG ps.length g) fs) := by
  intro O σ ρ H Q R p
  refine h O σ ρ H _ R ?_
  unfold apL at p
  cases ea : fs ρ with
  | no => rw [ea] at p; exact p
  | er c => rw [ea] at p; exact p
  | ok ds =>
    rw [ea, Rs.bind_ok] at p
    intro vs H1 x1 q1
    rw [List.append_nil]
    unfold callG at p
    by_cases hl : ds.length = ps.length
    · rw [if_pos hl] at p
      refine ⟨by rw [q1.length]; exact hl, O, ds, (R.mono x1).od, (R.mono x1).nt, q1, ?_⟩
      cases eg : g ds with
      | no => rw [eg] at p; exact p
      | er c => rw [eg] at p; exact p
      | ok z => rw [eg] at p; exact fun q ws es' H2 e1 x2 n1 => p q ws es' H2 e1 (x1.trans x2) (x1.free n1)
    · rw [if_neg hl] at p
      exact p.elim
theorem e_call (Fm : Fam Xs P w K mg base N sc fnn k) (G : Known P w K mg base kc x ps (sp0 ps.length g)) (ha : EA cv W Xs (e :: es) fs) (hk : kc ≤ k := by decide) (hg : glB sc x = true := by decide +kernel)
    (hd : (x == ("__debug__" : Str)) = false := by decide) (hs : ∀ env, starEach (e :: es) env = (false, eval e env) :: starEach es env := by intro _; rfl) (hpl : ∀ env, (backTo pos (starEach es env)).any (·.1) = false := by intro _; rfl) :
    EE cv W Xs (.Call (.Name x p) (e :: es) [] pos) (apL (callG ps.length g) fs) := by
  obtain ⟨f, fd, G, hm, kp, b⟩ := G
  obtain ⟨t, h1, h2⟩ := ha
  refine ⟨tCall (sp0 ps.length g) [] E0 t, fun j => ?_, snd_call h2⟩
  refine pe_call (fd := fd) (CX := CX0) (k := kc) (ps := ps) ?_ ((Fm.room j).mono hk) (Fm.gl_ok hg j) (Fm.some hm j) (by rw [Fm.kk j]; exact kp) (by rw [Fm.kk j]; exact b) .nil pass0 (h1 j) hd (hs _) (hpl _)
  rw [Fm.prog j, Fm.wd j, Fm.kk j, Fm.gl j, Fm.bs j]
  exact G
theorem f_call (Fm : Fam Xs P w K mg base N sc fnn k) (G : Known P w K mg base kc x ps (spF ps.length g)) (ha : EA cv W Xs (e :: es) fs) (hk : kc ≤ k := by decide) (hg : glB sc x = true := by decide +kernel)
    (hd : (x == ("__debug__" : Str)) = false := by decide) (hs : ∀ env, starEach (e :: es) env = (false, eval e env) :: starEach es env := by intro _; rfl) (hpl : ∀ env, (backTo pos (starEach es env)).any (·.1) = false := by intro _; rfl) :
    EF cv W Xs (.Call (.Name x p) (e :: es) [] pos) (apL (callG ps.length g) fs) := by
  obtain ⟨f, fd, G, hm, kp, b⟩ := G
  obtain ⟨t, h1, h2⟩ := ha
  refine ⟨tCall (spF ps.length g) [] E0 t, fun j => ?_, snd_callF h2⟩
  refine pe_call (fd := fd) (CX := CX0) (k := kc) (ps := ps) ?_ ((Fm.room j).mono hk) (Fm.gl_ok hg j) (Fm.some hm j) (by rw [Fm.kk j]; exact kp) (by rw [Fm.kk j]; exact b) .nil pass0 (h1 j) hd (hs _) (hpl _)
  rw [Fm.prog j, Fm.wd j, Fm.kk j, Fm.gl j, Fm.bs j]
  exact G
end
end DL
namespace DL
open PySem L2
variable [SC]
/-! in-place operators on ints -/
def dAddI : D → D → Rs D
  | .int i, .int j => .ok (.int (i + j))
  | _, _ => .no
def dSubI : D → D → Rs D
  | .int i, .int j => .ok (.int (i - j))
  | _, _ => .no
def dMulI : D → D → Rs D
  | .int i, .int j => if (-(2 ^ 64) < i ∧ i < 2 ^ 64) ∨ (-(2 ^ 64) < j ∧ j < 2 ^ 64) then .ok (.int (i * j)) else .no
  | _, _ => .no
def dFdivI : D → D → Rs D
  | .int i, .int j => if 0 < j ∧ j < 1073741824 then .ok (.int (i / j)) else .no
  | _, _ => .no
def dModI : D → D → Rs D
  | .int i, .int j => if 0 < j then .ok (.int (i % j)) else .no
  | _, _ => .no
theorem noer_addI : Noer dAddI := fun x y c => by unfold dAddI; split <;> simp
theorem noer_subI : Noer dSubI := fun x y c => by unfold dSubI; split <;> simp
theorem noer_mulI : Noer dMulI := fun x y c => by unfold dMulI; split <;> (try split) <;> simp
theorem noer_fdivI : Noer dFdivI := fun x y c => by unfold dFdivI; split <;> (try split) <;> simp
theorem noer_modI : Noer dModI := fun x y c => by unfold dModI; split <;> (try split) <;> simp
theorem ope_addI : OpE (rI0 fun i j => .int (i + j)) dAddI := by
  intro O x y H Q d e od hx hy p
  unfold dAddI at p
  split at p
  · exact ⟨_, _, hx.int, hy.int, p _ H (Ex.refl H) (.int _)⟩
  · exact p.elim
theorem ope_subI : OpE (rI0 fun i j => .int (i - j)) dSubI := by
  intro O x y H Q d e od hx hy p
  unfold dSubI at p
  split at p
  · exact ⟨_, _, hx.int, hy.int, p _ H (Ex.refl H) (.int _)⟩
  · exact p.elim
theorem ope_mulI : OpE (rI CMul fun i j => .int (i * j)) dMulI := by
  intro O x y H Q d e od hx hy p
  unfold dMulI at p
  split at p
  · split at p
    · exact ⟨_, _, hx.int, hy.int, ‹_›, p _ H (Ex.refl H) (.int _)⟩
    · exact p.elim
  · exact p.elim
theorem ope_fdivI : OpE (rI CDiv fun i j => .int (i / j)) dFdivI := by
  intro O x y H Q d e od hx hy p
  unfold dFdivI at p
  split at p
  · split at p
    · exact ⟨_, _, hx.int, hy.int, ‹_›, p _ H (Ex.refl H) (.int _)⟩
    · exact p.elim
  · exact p.elim
theorem ope_modI : OpE (rI (fun _ j => 0 < j) fun i j => .int (i % j)) dModI := by
  intro O x y H Q d e od hx hy p
  unfold dModI at p
  split at p
  · split at p
    · exact ⟨_, _, hx.int, hy.int, ‹_›, p _ H (Ex.refl H) (.int _)⟩
    · exact p.elim
  · exact p.elim
end DL
namespace DL
open PySem L2
variable [SC]
section
variable {P : Program} {w : World} {K : PySem.W.Frag} {mg : Str → Option Value} {base : Heap} {N ps : List Str} {k : Nat} {x : Str} {st : Stmt} {F : En → Out}
/-- no defaults: how the arguments bind -/
def BindsB (x : Str) (st : Stmt) (ps : List Str) : Prop := ∀ (kV doc pm : Value) (an : Option Addr) (cdv ct : Value) (us : List Value), us.length = ps.length → bindArgs (PySem.W.fnOf x x (defArgs st) (defBody st) (defScope st) .none kV doc pm an cdv ct) ⟨us, []⟩ = pure (ps.zip us)
theorem known_fn (h : ∃ f fd, Fun K x x st f fd ∧ mg x = some (.ref f)) (S : FnScope N ps (defScope st)) (B : BindsB x st ps) (np nN kk : Nat) (hnp : ps.length = np) (hnN : N.length = nN) (hk : k + 1 = kk)
    (hb : ∀ (Xs : Unit → Cx), Fam Xs P w K mg base N (defScope st) (fun _ => true) k → (∀ j, PassesOwn (model (Xs j).prog (Xs j).w) (Xs j).A (Xs j).env (Xs j).xe) → SSs cv0 W0 .dat Xs (defBody st) F) :
    Known P w K mg base kk x ps (sp0 np (callF nN F)) := by
  subst hnp hnN hk
  obtain ⟨f, fd, Fn, hm⟩ := h
  exact known Fn hm (Fn.binds B) (ok_fn Fn S hb)
theorem known_fnF (h : ∃ f fd, Fun K x x st f fd ∧ mg x = some (.ref f)) (S : FnScope N ps (defScope st)) (B : BindsB x st ps) (np nN kk : Nat) (hnp : ps.length = np) (hnN : N.length = nN) (hk : k + 1 = kk)
    (hb : ∀ (Xs : Unit → Cx), Fam Xs P w K mg base N (defScope st) (fun _ => true) k → (∀ j, PassesOwn (model (Xs j).prog (Xs j).w) (Xs j).A (Xs j).env (Xs j).xe) → SSs cv0 W0 .lst Xs (defBody st) F) :
    Known P w K mg base kk x ps (spF np (callR nN F)) := by
  subst hnp hnN hk
  obtain ⟨f, fd, Fn, hm⟩ := h
  exact known Fn hm (Fn.binds B) (ok_fnF Fn S hb)
theorem known_none (h : ∃ f fd, Fun K x x st f fd ∧ mg x = some (.ref f)) (S : FnScope N ps (defScope st)) (B : BindsB x st ps) (np kk : Nat) (hnp : ps.length = np) (hk : k + 1 = kk) : Known P w K mg base kk x ps (sp0 np fun _ => .no) := by
  have := known_fn (P := P) (w := w) (base := base) (F := sNo) (k := k) h S B np N.length kk hnp rfl hk fun Xs F hp => ⟨tNever, fun _ => pss_never, fun _ _ _ _ _ _ _ _ p => p.elim⟩
  exact this
end
end DL
namespace DL
open PySem L2
variable [SC]
theorem top_fun {K : PySem.W.Frag} {h : Heap} {mg : Str → Option Value} (X : K.In h) (G : h.Ns mainGlobals mg) {x : Str} {st : Stmt} {f : Addr} {od an : Option Addr} {sl : Array (Option Value)} {oc kV dc pm cd ct : Value}
    (a : PySem.W.nsIn K mainGlobals x = some (some (.ref f))) (l : K.lookup f = some ⟨oc, od, .func (PySem.W.fnOf x x (defArgs st) (defBody st) (defScope st) .none kV dc pm an cd ct), sl⟩) (c : PySem.W.codeIn K cd x = true) (k : PySem.W.keepIn K (.ref f) = true) :
    ∃ f fd, Fun K x x st f fd ∧ mg x = some (.ref f) := ⟨f, _, fun_mk l c k, PySem.W.mg_of X G a⟩
theorem top_int {K : PySem.W.Frag} {h : Heap} {mg : Str → Option Value} (X : K.In h) (G : h.Ns mainGlobals mg) {x : Str} {i : Int} {t : Tok} (a : PySem.W.nsIn K mainGlobals x = some (some (.int i t))) : ∃ t, mg x = some (.int i t) := ⟨t, PySem.W.mg_of X G a⟩
theorem top_str {K : PySem.W.Frag} {h : Heap} {mg : Str → Option Value} (X : K.In h) (G : h.Ns mainGlobals mg) {x : Str} {i : Str} {t : Tok} (a : PySem.W.nsIn K mainGlobals x = some (some (.str i t))) : ∃ t, mg x = some (.str i t) := ⟨t, PySem.W.mg_of X G a⟩
end DL

namespace DL
open PySem L2
variable [SC]

/-! ### with draws: what holds for every draw -/
abbrev WE := En → (D → Prop) → Prop
abbrev WA := En → (List D → Prop) → Prop
abbrev WT := En → (Bool → Prop) → Prop
def MonoE {α : Type} (w : En → (α → Prop) → Prop) : Prop := ∀ ρ (A B : α → Prop), (∀ d, A d → B d) → w ρ A → w ρ B
/-- all but the draws' cells stands -/
def Fr (ρ : En) (H H2 : Hp) : Prop := ∀ a o, H a = some o → (∀ (i : Nat) ad an, ρ[i]? = some (some (.dr ad an)) → a ≠ ad ∧ a ≠ an) → H2 a = some o
structure Later (O : List Addr) (ρ : En) (H H2 : Hp) : Prop where
  ex : Ex (hide O H) (hide O H2)
  fr : Fr ρ H H2
  dr : ∀ (i : Nat) ad an, ρ[i]? = some (some (.dr ad an)) → DrSt H2 ad an
section
variable {Oc O O' : List Addr} {H0 H H1 H2 : Hp} {σ : St} {ρ : En}
theorem Fr.trans (a : Fr ρ H H1) (b : Fr ρ H1 H2) : Fr ρ H H2 := fun x o h n => b x o (a x o h n) n
theorem Later.trans (a : Later O ρ H H1) (b : Later O ρ H1 H2) : Later O ρ H H2 := ⟨a.ex.trans b.ex, a.fr.trans b.fr, b.dr⟩
theorem RepS.drs (R : RepS Oc H0 O σ ρ H) : ∀ (i : Nat) ad an, ρ[i]? = some (some (.dr ad an)) → DrSt H ad an := fun i ad an e => by
  obtain ⟨fp, h1, h2, h3⟩ := R.fp
  obtain ⟨v, q1, q2⟩ := h1 i _ e
  exact q2.2.2
theorem RepS.later_ex (R : RepS Oc H0 O σ ρ H) (x : Ex H H2) : Later O ρ H H2 := ⟨hide_ex x, fun a o h _ => x a o h, (R.mono x).drs⟩
theorem RepS.later_refl (R : RepS Oc H0 O σ ρ H) : Later O ρ H H := R.later_ex (Ex.refl H)
theorem RepS.back (R : RepS Oc H0 O σ ρ H) (ho : ∀ a ∈ O, a ∈ O') (od : ∀ a ∈ O', a ∉ O → H2 a ≠ none) (nt : ∀ a ∈ O', a ∉ O → ∀ xs, H2 a ≠ some (.tup xs)) (ex : Ex (hide O H) (hide O' H2)) (fr : Fr ρ H H2) (dr : ∀ (i : Nat) ad an, ρ[i]? = some (some (.dr ad an)) → DrSt H2 ad an) : RepS Oc H0 O' σ ρ H2 := by
  obtain ⟨fp, h1, h2, h3⟩ := R.fp
  have key : ∀ a o, H a = some o → H2 a ≠ none := fun a o h z => by
    by_cases q : ∀ (i : Nat) ad an, ρ[i]? = some (some (.dr ad an)) → a ≠ ad ∧ a ≠ an
    · rw [fr a o h q] at z
      cases z
    · apply q
      intro i ad an e
      obtain ⟨d1, c, nums, d2, d3, d4⟩ := dr i ad an e
      refine ⟨fun y => ?_, fun y => ?_⟩
      · subst y; rw [d2] at z; cases z
      · subst y; rw [d3] at z; cases z
  refine ⟨R.len, fun a o h => ?_, fun a ha => ho a (R.oc a ha), R.oh, fun a ha => ?_, fun a ha xs z => ?_, fp, fun i s e => ?_, h2, fun i a ha => ⟨ho a (h3 i a ha).1, (h3 i a ha).2⟩⟩
  · refine fr a o (R.base a o h) fun i ad an e => ?_
    obtain ⟨v, q1, q2, q3, q4⟩ := h1 i _ e
    refine ⟨fun y => ?_, fun y => ?_⟩
    · subst y
      have := (h3 i a (by rw [q3]; simp)).2
      rw [h] at this; cases this
    · subst y
      have := (h3 i a (by rw [q3]; simp)).2
      rw [h] at this; cases this
  · by_cases q : a ∈ O
    · cases h : H a with
      | none => exact absurd h (R.od a q)
      | some o => exact key a o h
    · exact od a ha q
  · by_cases q : a ∈ O
    · cases h : H a with
      | none => exact R.od a q h
      | some o =>
        by_cases q2 : ∀ (i : Nat) ad an, ρ[i]? = some (some (.dr ad an)) → a ≠ ad ∧ a ≠ an
        · have := fr a o h q2
          rw [z] at this
          cases this
          exact R.nt a q xs h
        · apply q2
          intro i ad an e
          obtain ⟨d1, c, nums, d2, d3, d4⟩ := dr i ad an e
          refine ⟨fun y => ?_, fun y => ?_⟩
          · subst y; rw [d2] at z; cases z
          · subst y; rw [d3] at z; cases z
    · exact nt a ha q xs z
  · obtain ⟨v, q1, q2⟩ := h1 i s e
    refine ⟨v, q1, ?_⟩
    by_cases hd : ∃ ad an, s = .dr ad an
    · obtain ⟨ad, an, rfl⟩ := hd
      exact ⟨q2.1, q2.2.1, dr i ad an e⟩
    · refine q2.moved' ex fun a ha u g3 => fr a u g3 fun j ad an e' => ?_
      obtain ⟨v', p1, p2, p3, p4⟩ := h1 j _ e'
      have ne : ∀ b ∈ fp j, a ≠ b := fun b hb z => by
        subst z
        have := h2 i j a ha hb
        subst this
        rw [e] at e'
        cases e'
        exact hd ⟨_, _, rfl⟩
      exact ⟨ne _ (by rw [p3]; simp), ne _ (by rw [p3]; simp)⟩
theorem RepS.later (R : RepS Oc H0 O σ ρ H) (l : Later O ρ H H2) : RepS Oc H0 O σ ρ H2 := R.back (fun _ z => z) (fun a h n => absurd h n) (fun a h n => absurd h n) l.ex l.fr l.dr
/-- where the block's own names are forgotten -/
theorem later_wipe (R : RepS Oc H0 O σ ρ H) {vs : List Nat} {is : List Nat} {ds : List D} (hv : ∀ i ∈ is, i ∈ vs) (fr : Fr (setD (wipeE ρ vs) is ds) H H2) (dr : ∀ (i : Nat) ad an, (setD (wipeE ρ vs) is ds)[i]? = some (some (.dr ad an)) → DrSt H2 ad an) :
    Fr ρ H H2 ∧ ∀ (i : Nat) ad an, ρ[i]? = some (some (.dr ad an)) → DrSt H2 ad an := by
  have key : ∀ (is : List Nat) (ρ' : En) (ds : List D) (i : Nat) ad an, (setD ρ' is ds)[i]? = some (some (.dr ad an)) → ρ'[i]? = some (some (.dr ad an)) := by
    intro is
    induction is with
    | nil => intro ρ' ds i ad an h; cases ds <;> exact h
    | cons j is ih =>
      intro ρ' ds i ad an h
      cases ds with
      | nil => exact h
      | cons d ds =>
        unfold setD at h
        have := ih _ ds i ad an h
        by_cases e : j = i
        · subst e
          rw [List.getElem?_set] at this
          rw [if_pos rfl] at this
          split at this <;> simp at this
        · rw [List.getElem?_set_ne e] at this
          exact this
  have sub : ∀ (i : Nat) ad an, (setD (wipeE ρ vs) is ds)[i]? = some (some (.dr ad an)) → ρ[i]? = some (some (.dr ad an)) := by
    intro i ad an h
    have h := key is _ ds i ad an h
    by_cases hi : i ∈ vs
    · exact absurd h (wipeE_not ρ vs i hi _)
    · rw [wipeE_get ρ vs i hi] at h
      exact h
  have keep : ∀ (is : List Nat) (ρ' : En) (ds : List D) (i : Nat), i ∉ is → (setD ρ' is ds)[i]? = ρ'[i]? := by
    intro is
    induction is with
    | nil => intro ρ' ds i h; cases ds <;> rfl
    | cons j is ih =>
      intro ρ' ds i h
      cases ds with
      | nil => rfl
      | cons d ds =>
        unfold setD
        rw [ih _ ds i (fun z => h (List.mem_cons_of_mem _ z)), List.getElem?_set_ne (fun z => h (by simp [z]))]
  refine ⟨fun a o h n => fr a o h fun i ad an e => n i ad an (sub i ad an e), fun i ad an e => ?_⟩
  by_cases hi : i ∈ vs
  · obtain ⟨fp, h1, h2, h3⟩ := R.fp
    obtain ⟨v, q1, q2, q3, q4⟩ := h1 i _ e
    have ne : ∀ b ∈ fp i, ∀ (j : Nat) ad' an', (setD (wipeE ρ vs) is ds)[j]? = some (some (.dr ad' an')) → b ≠ ad' ∧ b ≠ an' := by
      intro b hb j ad' an' e'
      have e2 := sub j ad' an' e'
      obtain ⟨v', p1, p2, p3, p4⟩ := h1 j _ e2
      have hij : i ≠ j := fun z => by
        subst z
        have := key is _ ds i ad' an' e'
        exact wipeE_not ρ vs i hi _ this
      refine ⟨fun z => hij (h2 i j b hb (by rw [p3, z]; simp)), fun z => hij (h2 i j b hb (by rw [p3, z]; simp))⟩
    exact q4.mono (fun o h => fr _ _ h (ne ad (by rw [q3]; simp))) (fun o h => fr _ _ h (ne an (by rw [q3]; simp)))
  · refine dr i ad an ?_
    rw [keep is _ ds i (fun z => hi (hv i z)), wipeE_get ρ vs i hi]
    exact e
end
def SndWE (t : TE) (w : WE) : Prop := ∀ Oc H0 O σ ρ H Q, RepS Oc H0 O σ ρ H → w ρ (fun d => ∀ v H2, Later O ρ H H2 → Dq (hide O H2) v d → Q v H2) → t σ H Q
def SndWA (t : TA) (w : WA) : Prop := ∀ Oc H0 O σ ρ H Q, RepS Oc H0 O σ ρ H → w ρ (fun ds => ∀ vs H2, Later O ρ H H2 → DqAll (hide O H2) vs ds → Q vs H2) → t σ H Q
def SndWT (t : TT) (w : WT) : Prop := ∀ Oc H0 O σ ρ H Q, RepS Oc H0 O σ ρ H → w ρ (fun b => ∀ H2, Later O ρ H H2 → Q b H2) → t σ H Q
def SndWI (t : TI) (w : WA) : Prop := ∀ Oc H0 O σ ρ H R, RepS Oc H0 O σ ρ H → w ρ (fun items => ∀ J H2, Later O ρ H H2 → ItD J (fun _ => none) (fun _ => none) items → R J H2) → t σ H R
section
variable {ι : Type} (Xs : ι → Cx)
def EWE (e : Expr) (w : WE) : Prop := ∃ t, (∀ j, PE (Xs j) e t) ∧ SndWE t w ∧ MonoE w
def EWA (es : List Expr) (w : WA) : Prop := ∃ t, (∀ j, PA (Xs j) es t) ∧ SndWA t w ∧ MonoE w
def EWT (e : Expr) (w : WT) : Prop := ∃ t, (∀ j, PT (Xs j) e t) ∧ SndWT t w ∧ MonoE w
def EWI (tg iter : Expr) (w : WA) : Prop := ∃ t, (∀ j, PI (Xs j) tg iter t) ∧ SndWI t w ∧ MonoE w
end
/-! meanings -/
def lf {α : Type} (f : En → Rs α) : En → (α → Prop) → Prop := fun ρ Q => ∃ d, f ρ = .ok d ∧ Q d
def wOp (g : D → D → Rs D) (a b : WE) : WE := fun ρ Q => a ρ fun x => b ρ fun y => ∃ z, g x y = .ok z ∧ Q z
def wNil : WA := fun _ Q => Q []
def wCons (a : WE) (r : WA) : WA := fun ρ Q => a ρ fun d => r ρ fun ds => Q (d :: ds)
def wApL (g : List D → Rs D) (a : WA) : WE := fun ρ Q => a ρ fun ds => ∃ z, g ds = .ok z ∧ Q z
def wVal (a : WE) : WT := fun ρ Q => a ρ fun d => ∃ b, d = .bool b ∧ Q b
def wIfE (c : WT) (a b : WE) : WE := fun ρ Q => c ρ fun k => if k = true then a ρ Q else b ρ Q
def wRng1 (a : WE) : WA := fun ρ Q => a ρ fun d => ∃ n : Int, d = .int n ∧ -(2 ^ 62) ≤ n ∧ n < 2 ^ 62 ∧ Q (rangeD 0 n.toNat)
def wCompL (T : Tg) (we : WE) (ρ : En) : List D → (List D → Prop) → Prop
  | [], Q => Q []
  | d :: r, Q => match T.asg d ρ with
    | none => False
    | some ρ1 => we ρ1 fun y => wCompL T we ρ r fun ys => Q (y :: ys)
def wComp (wi : WA) (T : Tg) (we : WE) (vs : List Nat) : WE := fun ρ Q => wi ρ fun items => items.length ≤ LIM ∧ wCompL T we (wipeE ρ vs) items fun ys => Q (.list ys)
section
variable {ι : Type} {cv : Nat → Value} {W : WX} {Xs : ι → Cx} {P : Program} {w : World} {K : PySem.W.Frag} {mg : Str → Option Value} {base : Heap} {N ps : List Str} {sc : Scope} {fnn : Str → Bool} {k kc : Nat}
variable {e a b c tg iter elt : Expr} {es : List Expr} {f : En → Rs D} {fs : En → Rs (List D)} {ft : En → Rs Bool} {we wa wb : WE} {ws wi : WA} {wt : WT} {pos p : Pos} {x : Str} {T : Tg} {scope : Scope} {g : List D → Rs D}
theorem mono_lf {α : Type} {f : En → Rs α} : MonoE (lf f) := fun ρ A B h ⟨d, e, q⟩ => ⟨d, e, h d q⟩
theorem we_lift (h : EE cv W Xs e f) : EWE Xs e (lf f) := by
  obtain ⟨t, h1, h2⟩ := h
  refine ⟨t, h1, fun Oc H0 O σ ρ H Q R p => h2 O σ ρ H Q R.e ?_, mono_lf⟩
  obtain ⟨d, e, q⟩ := p
  rw [e]
  exact fun v H2 x qv => q v H2 (R.later_ex x) qv
theorem wt_lift (h : ET cv W Xs e ft) : EWT Xs e (lf ft) := by
  obtain ⟨t, h1, h2⟩ := h
  refine ⟨t, h1, fun Oc H0 O σ ρ H Q R p => h2 O σ ρ H Q R.e ?_, mono_lf⟩
  obtain ⟨d, e, q⟩ := p
  rw [e]
  exact fun H2 x => q H2 (R.later_ex x)
theorem wa_lift (h : EA cv W Xs es fs) : EWA Xs es (lf fs) := by
  obtain ⟨t, h1, h2⟩ := h
  refine ⟨t, h1, fun Oc H0 O σ ρ H Q R p => h2 O σ ρ H Q R.e ?_, mono_lf⟩
  obtain ⟨d, e, q⟩ := p
  rw [e]
  exact fun v H2 x qv => q v H2 (R.later_ex x) qv
theorem snd_wop {ta tb : TE} {r : R2} {g : D → D → Rs D} (ha : SndWE ta wa) (ma : MonoE wa) (hb : SndWE tb wb) (mb : MonoE wb) (hg : OpE r g) : SndWE (tOp r ta tb) (wOp g wa wb) := by
  intro Oc H0 O σ ρ H Q R p
  refine ha Oc H0 O σ ρ H _ R (ma _ _ _ (fun d q v H1 l1 q1 => ?_) p)
  refine hb Oc H0 O σ ρ H1 _ (R.later l1) (mb _ _ _ (fun d' q' v' H2 l2 q2 => ?_) q)
  obtain ⟨z, ez, qz⟩ := q'
  refine hg O v v' H2 Q d d' (R.later (l1.trans l2)).od (.inl (q1.mono l2.ex)) (.inl q2) ?_
  rw [ez]
  exact fun u H3 x3 q3 => qz u H3 ((l1.trans l2).trans ((R.later (l1.trans l2)).later_ex x3)) q3
theorem mono_wOp {g : D → D → Rs D} (ma : MonoE wa) (mb : MonoE wb) : MonoE (wOp g wa wb) := fun ρ A B h p => ma _ _ _ (fun x q => mb _ _ _ (fun y ⟨z, e, qz⟩ => ⟨z, e, h z qz⟩) q) p
theorem we_op {op : Operator} {r : R2} {g : D → D → Rs D} (ho : ∀ j, OpR (Xs j) (binaryOp op) r) (hg : OpE r g) (ha : EWE Xs a wa) (hb : EWE Xs b wb) : EWE Xs (.BinOp a op b pos) (wOp g wa wb) := by
  obtain ⟨ta, h1, h2, h3⟩ := ha
  obtain ⟨tb, h4, h5, h6⟩ := hb
  exact ⟨_, fun j => pe_op (ho j) (h1 j) (h4 j), snd_wop h2 h3 h5 h6 hg, mono_wOp h3 h6⟩
theorem we_add (ha : EWE Xs a wa) (hb : EWE Xs b wb) : EWE Xs (.BinOp a .Add b pos) (wOp dAddI wa wb) := we_op (fun _ => op_add) ope_addI ha hb
theorem we_sub (ha : EWE Xs a wa) (hb : EWE Xs b wb) : EWE Xs (.BinOp a .Sub b pos) (wOp dSubI wa wb) := we_op (fun _ => op_sub) ope_subI ha hb
theorem wt_cmp {op : CmpOp} {r : R2} {g : D → D → Rs D} (ho : ∀ j, OpR (Xs j) (compareOp op) r) (hg : OpE r g) (hm : behindInMarks op b = false) (ha : EWE Xs a wa) (hb : EWE Xs b wb) : EWT Xs (.Compare a [op] [b] pos) (wVal (wOp g wa wb)) := by
  obtain ⟨ta, h1, h2, h3⟩ := ha
  obtain ⟨tb, h4, h5, h6⟩ := hb
  refine ⟨_, fun j => pt_cmpR (ho j) (h1 j) (h4 j) hm, fun Oc H0 O σ ρ H Q R p => snd_wop h2 h3 h5 h6 hg Oc H0 O σ ρ H _ R (mono_wOp h3 h6 _ _ _ (fun d q v H2 l q2 => ?_) p), fun ρ A B h p => mono_wOp h3 h6 _ _ _ (fun d ⟨k, e, q⟩ => ⟨k, e, h k q⟩) p⟩
  obtain ⟨k, rfl, q⟩ := q
  cases q2
  exact ⟨k, rfl, q H2 l⟩
theorem wt_eq (F : Fam Xs P w K mg base N sc fnn k) (ha : EWE Xs a wa) (hb : EWE Xs b wb) : EWT Xs (.Compare a [.Eq] [b] pos) (wVal (wOp dEq wa wb)) := wt_cmp F.opEq ope_eq (nomark _) ha hb
theorem wt_ne (F : Fam Xs P w K mg base N sc fnn k) (ha : EWE Xs a wa) (hb : EWE Xs b wb) : EWT Xs (.Compare a [.NotEq] [b] pos) (wVal (wOp dNe wa wb)) := wt_cmp F.opNe ope_ne (nomark _) ha hb
theorem wt_gt (ha : EWE Xs a wa) (hb : EWE Xs b wb) : EWT Xs (.Compare a [.Gt] [b] pos) (wVal (wOp dGt wa wb)) := wt_cmp (fun _ => op_gt) ope_gt (nomark _) ha hb
theorem wa_nil : EWA Xs [] wNil := ⟨tNil, fun _ => pa_nil, fun Oc H0 O σ ρ H Q R p => p [] H R.later_refl .nil, fun ρ A B h p => h _ p⟩
theorem wa_cons (ha : EWE Xs e we) (hr : EWA Xs es ws) (hs : ∀ env, starEach (e :: es) env = (false, eval e env) :: starEach es env := by intro _; rfl) : EWA Xs (e :: es) (wCons we ws) := by
  obtain ⟨ta, h1, h2, h3⟩ := ha
  obtain ⟨tb, h4, h5, h6⟩ := hr
  refine ⟨_, fun j => pa_cons (h1 j) (h4 j) (hs _), fun Oc H0 O σ ρ H Q R p => h2 Oc H0 O σ ρ H _ R (h3 _ _ _ (fun d q v H1 l1 q1 => ?_) p), fun ρ A B h p => h3 _ _ _ (fun d q => h6 _ _ _ (fun ds q => h _ q) q) p⟩
  exact h5 Oc H0 O σ ρ H1 _ (R.later l1) (h6 _ _ _ (fun ds q vs H2 l2 q2 => q (v :: vs) H2 (l1.trans l2) (.cons (q1.mono l2.ex) q2)) q)
theorem mono_wApL (m : MonoE ws) : MonoE (wApL g ws) := fun ρ A B h p => m _ _ _ (fun ds ⟨z, e, q⟩ => ⟨z, e, h z q⟩) p
theorem we_tup (h : EWA Xs es ws) {x1} : EWE Xs (.Tuple es x1 pos) (wApL dTup ws) := by
  obtain ⟨t, h1, h2, h3⟩ := h
  refine ⟨_, fun j => pe_tup (h1 j), fun Oc H0 O σ ρ H Q R p => h2 Oc H0 O σ ρ H _ R (h3 _ _ _ (fun ds q vs H1 l1 q1 => ?_) p), mono_wApL h3⟩
  obtain ⟨z, e, q⟩ := q
  unfold dTup at e
  split at e
  · cases e
    have R1 := R.later l1
    refine ⟨by rw [q1.length]; exact lim_size ‹_›, fun u hu => ?_⟩
    exact q _ _ (l1.trans (R1.later_ex (Ex.new hu))) (.tup (hide_some.mpr ⟨fun z => R1.od u z hu, upd_same⟩) (q1.mono (hide_ex (Ex.new hu))))
  · cases e
theorem we_lst (h : EWA Xs es ws) : EWE Xs (.List es pos) (wApL dLst ws) := by
  obtain ⟨t, h1, h2, h3⟩ := h
  refine ⟨_, fun j => pe_lst (h1 j), fun Oc H0 O σ ρ H Q R p => h2 Oc H0 O σ ρ H _ R (h3 _ _ _ (fun ds q vs H1 l1 q1 => ?_) p), mono_wApL h3⟩
  obtain ⟨z, e, q⟩ := q
  unfold dLst at e
  split at e
  · cases e
    have R1 := R.later l1
    refine ⟨by rw [q1.length]; exact lim_size ‹_›, fun u hu => ?_⟩
    exact q _ _ (l1.trans (R1.later_ex (Ex.new hu))) (.lst (hide_some.mpr ⟨fun z => R1.od u z hu, upd_same⟩) (q1.mono (hide_ex (Ex.new hu))))
  · cases e
theorem we_call (Fm : Fam Xs P w K mg base N sc fnn k) (G : Known P w K mg base kc x ps (sp0 ps.length g)) (ha : EWA Xs (e :: es) ws) (hk : kc ≤ k := by decide) (hg : glB sc x = true := by decide +kernel)
    (hd : (x == ("__debug__" : Str)) = false := by decide) (hs : ∀ env, starEach (e :: es) env = (false, eval e env) :: starEach es env := by intro _; rfl) (hpl : ∀ env, (backTo pos (starEach es env)).any (·.1) = false := by intro _; rfl) :
    EWE Xs (.Call (.Name x p) (e :: es) [] pos) (wApL (callG ps.length g) ws) := by
  obtain ⟨f, fd, G, hm, kp, b⟩ := G
  obtain ⟨t, h1, h2, h3⟩ := ha
  refine ⟨tCall (sp0 ps.length g) [] E0 t, fun j => ?_, fun Oc H0 O σ ρ H Q R p => h2 Oc H0 O σ ρ H _ R (h3 _ _ _ (fun ds q vs H1 l1 q1 => ?_) p), mono_wApL h3⟩
  · refine pe_call (fd := fd) (CX := CX0) (k := kc) (ps := ps) ?_ ((Fm.room j).mono hk) (Fm.gl_ok hg j) (Fm.some hm j) (by rw [Fm.kk j]; exact kp) (by rw [Fm.kk j]; exact b) .nil pass0 (h1 j) hd (hs _) (hpl _)
    rw [Fm.prog j, Fm.wd j, Fm.kk j, Fm.gl j, Fm.bs j]
    exact G
  · obtain ⟨z, e, q⟩ := q
    unfold callG at e
    split at e
    · rename_i hl
      have R1 := R.later l1
      rw [List.append_nil]
      refine ⟨by rw [q1.length]; exact hl, O, ds, R1.od, R1.nt, q1, ?_⟩
      rw [noEr_ok e]
      exact fun v H2 x2 q2 => q v H2 (l1.trans (R1.later_ex x2)) q2
    · cases e
theorem we_ifx (hc : EWT Xs c wt) (ha : EWE Xs a wa) (hb : EWE Xs b wb) : EWE Xs (.IfExp c a b pos) (wIfE wt wa wb) := by
  obtain ⟨tc, h7, h8, h9⟩ := hc
  obtain ⟨ta, h1, h2, h3⟩ := ha
  obtain ⟨tb, h4, h5, h6⟩ := hb
  refine ⟨_, fun j => pe_ifExp (h7 j) (h1 j) (h4 j), fun Oc H0 O σ ρ H Q R p => h8 Oc H0 O σ ρ H _ R (h9 _ _ _ (fun b q H1 l1 => ?_) p), fun ρ A B h p => h9 _ _ _ (fun b q => ?_) p⟩
  · cases b with
    | true => rw [if_pos rfl] at q ⊢; exact h2 Oc H0 O σ ρ H1 _ (R.later l1) (h3 _ _ _ (fun d q v H2 l2 q2 => q v H2 (l1.trans l2) q2) q)
    | false => rw [if_neg (by decide)] at q ⊢; exact h5 Oc H0 O σ ρ H1 _ (R.later l1) (h6 _ _ _ (fun d q v H2 l2 q2 => q v H2 (l1.trans l2) q2) q)
  · cases b with
    | true => rw [if_pos rfl] at q ⊢; exact h3 _ _ _ h q
    | false => rw [if_neg (by decide)] at q ⊢; exact h6 _ _ _ h q
theorem wi_range1 (F : Fam Xs P w K mg base N sc fnn k) {p : Pos} (hm : mg "range" = none) (ha : EWE Xs a wa) (hg : glB sc "range" = true := by decide +kernel) (hs : ∀ env, starEach [a] env = [(false, eval a env)] := by intro _; rfl) : EWI Xs tg (.Call (.Name "range" p) [a] [] pos) (wRng1 wa) := by
  obtain ⟨t, h1, h2, h3⟩ := ha
  refine ⟨_, fun j => pi_range1 (F.gl_ok hg j) (F.none hm j) (pa_cons (h1 j) pa_nil (hs _)) (hs _), fun Oc H0 O σ ρ H Rr R p => h2 Oc H0 O σ ρ H _ R (h3 _ _ _ (fun d q v H1 l1 q1 => ?_) p), fun ρ A B h p => h3 _ _ _ (fun d ⟨n, e, b1, b2, q⟩ => ⟨n, e, b1, b2, h _ q⟩) p⟩
  obtain ⟨n, rfl, b1, b2, q⟩ := q
  cases q1
  exact ⟨n, rfl, b1, b2, q _ H1 l1 itd_range⟩
theorem mono_wCompL (m : MonoE we) : ∀ (items : List D) (ρ : En) (A B : List D → Prop), (∀ ds, A ds → B ds) → wCompL T we ρ items A → wCompL T we ρ items B
  | [], ρ, A, B, h, p => h _ p
  | d :: r, ρ, A, B, h, p => by
    unfold wCompL at p ⊢
    split at p
    · exact p
    · exact m _ _ _ (fun y q => mono_wCompL m r ρ _ _ (fun ys q => h _ q) q) p
theorem snd_wcomp {ti : TI} {g : TG} {te : TE} {vs : List Nat} (hi : SndWI ti wi) (mi : MonoE wi) (hg : SndG g T) (he : SndWE te we) (me : MonoE we) (hv : ∀ i ∈ T.ix, i ∈ vs) : SndWE (tLc ti g tYes te vs) (wComp wi T we vs) := by
  intro Oc H0 O σ ρ H Q R p
  refine hi Oc H0 O σ ρ H _ R (mi _ _ _ (fun items q J H1 l1 dd A hA => ?_) p)
  obtain ⟨hl, hcomp⟩ := q
  have R1 := R.later l1
  have hAO : A ∉ O := fun z => R1.od A z hA
  refine ⟨fun i m H' => m + i = items.length ∧ Ex (hide O H1) (hide (A :: O) H') ∧ Fr ρ H1 H' ∧ (∀ (i : Nat) ad an, ρ[i]? = some (some (.dr ad an)) → DrSt H' ad an) ∧ ∃ ws ds, H' A = some (.lst ws) ∧ DqAll (hide (A :: O) H') ws ds ∧ ds.length ≤ i ∧
      wCompL T we (wipeE ρ vs) (items.drop i) (fun ys => ∀ v H2, Later O ρ H H2 → Dq (hide O H2) v (.list (ds ++ ys)) → Q v H2),
    ⟨items.length, by omega, hide_new hA, fun a o h _ => (Ex.new hA) a o h, fun i ad an e => (R1.drs i ad an e).mono (Ex.new hA _) (Ex.new hA _), [], [], upd_same, .nil, Nat.le_refl _, by simpa using hcomp⟩, ?_⟩
  rintro i m H' ⟨hm, ex, fr, dr, ws, ds, hD, qs, hlen, hc⟩
  have od' : ∀ H3, Ex H' H3 → ∀ a ∈ A :: O, a ∉ O → H3 a ≠ none := fun H3 x a ha hn z => by
    rcases List.mem_cons.mp ha with rfl | ha
    · rw [x _ _ hD] at z; cases z
    · exact hn ha
  have nt' : ∀ H3, Ex H' H3 → ∀ a ∈ A :: O, a ∉ O → ∀ xs, H3 a ≠ some (.tup xs) := by
    intro H3 x a ha hn xs z
    rcases List.mem_cons.mp ha with rfl | ha
    · rw [x _ _ hD] at z; cases z
    · exact hn ha
  by_cases hlt : i < items.length
  · refine .inr ?_
    obtain ⟨hgo, hy⟩ := dd.go i _ H' (fun a o h => by cases h) (List.getElem?_eq_getElem hlt)
    refine ⟨hgo, fun H3 => ∃ m', m' < m ∧ m' + (i + 1) = items.length ∧ Ex (hide O H1) (hide (A :: O) H3) ∧ Fr ρ H1 H3 ∧ (∀ (i : Nat) ad an, ρ[i]? = some (some (.dr ad an)) → DrSt H3 ad an) ∧ ∃ ws ds, H3 A = some (.lst ws) ∧ DqAll (hide (A :: O) H3) ws ds ∧ ds.length ≤ i + 1 ∧
        wCompL T we (wipeE ρ vs) (items.drop (i + 1)) (fun ys => ∀ v H2, Later O ρ H H2 → Dq (hide O H2) v (.list (ds ++ ys)) → Q v H2),
      fun H3 ⟨m', h1, h2, h3⟩ => ⟨m', h1, h2, h3⟩, fun y H3 hyl => ?_⟩
    obtain ⟨x3, hq⟩ := hy y H3 hyl
    have RA : RepS Oc H0 (A :: O) σ ρ H3 := R1.back (fun a ha => List.mem_cons_of_mem _ ha) (od' H3 x3) (nt' H3 x3) (ex.trans (hide_ex x3)) (fr.trans fun a o h _ => x3 a o h) (fun i ad an e => (dr i ad an e).mono (x3 _) (x3 _))
    have qx : Dq (hide (A :: O) H3) y items[i] := hq _ (fun a o h => by cases h) fun a o n1 n2 => hide_some.mpr ⟨fun z => by
      rcases List.mem_cons.mp z with rfl | z
      · rw [hD] at n1; cases n1
      · exact (R1.back (O' := A :: O) (fun a ha => List.mem_cons_of_mem _ ha) (od' H' (Ex.refl _)) (nt' H' (Ex.refl _)) ex fr dr).od a (List.mem_cons_of_mem _ z) n1, n2⟩
    rw [List.drop_eq_getElem_cons hlt] at hc
    unfold wCompL at hc
    cases ea : T.asg items[i] (wipeE ρ vs) with
    | none => rw [ea] at hc; exact hc.elim
    | some ρ1 =>
      rw [ea] at hc
      dsimp only at hc
      unfold Tg.asg at ea
      cases ep : T.parts items[i] with
      | none => rw [ep] at ea; cases ea
      | some es =>
        rw [ep] at ea
        cases ea
        refine hg y items[i] es (wipe σ vs) H3 _ (hide (A :: O) H3) qx hide_le ep fun us hus => ⟨wipe_setV σ vs T.ix us hv, ?_⟩
        unfold tYes
        dsimp only
        rw [if_pos rfl]
        have RW : RepS Oc H0 (A :: O) (wipe σ vs) (wipeE ρ vs) H3 := by
          obtain ⟨fp, h1, h2, h3⟩ := RA.fp
          refine ⟨by rw [L2.wipe_length, wipeE_length]; exact RA.len, RA.base, RA.oc, RA.oh, RA.od, RA.nt, fp, fun j s e => ?_, h2, h3⟩
          by_cases hj : j ∈ vs
          · exact absurd e (wipeE_not ρ vs j hj s)
          · rw [wipeE_get ρ vs j hj] at e
            rw [wipe_get σ vs j hj]
            exact h1 j s e
        have R2 := RW.setD (is := T.ix) hus
        refine he Oc H0 (A :: O) _ _ H3 _ R2 (me _ _ _ (fun d q v H4 l4 q4 => ?_) hc)
        obtain ⟨fr4, dr4⟩ := later_wipe RA hv l4.fr l4.dr
        have nA : ∀ (i : Nat) ad an, (setD (wipeE ρ vs) T.ix es)[i]? = some (some (.dr ad an)) → A ≠ ad ∧ A ≠ an := by
          intro j ad an ej
          obtain ⟨d1, c, nums, d2, d3, d4⟩ := R2.drs j ad an ej
          obtain ⟨fp, h1, h2, h3⟩ := R2.fp
          obtain ⟨v', p1, p2, p3, p4⟩ := h1 j _ ej
          -- the draws' cells stood before A was made
          have key : ∀ b ∈ fp j, A ≠ b := by
            intro b hb z
            have sub : ρ[j]? = some (some (.dr ad an)) := by
              have kk : ∀ (is : List Nat) (ρ' : En) (ds : List D) (i : Nat) ad an, (setD ρ' is ds)[i]? = some (some (.dr ad an)) → ρ'[i]? = some (some (.dr ad an)) := by
                intro is
                induction is with
                | nil => intro ρ' ds i ad an h; cases ds <;> exact h
                | cons j is ih =>
                  intro ρ' ds i ad an h
                  cases ds with
                  | nil => exact h
                  | cons d ds =>
                    unfold setD at h
                    have := ih _ ds i ad an h
                    by_cases e : j = i
                    · subst e
                      rw [List.getElem?_set] at this
                      rw [if_pos rfl] at this
                      split at this <;> simp at this
                    · rw [List.getElem?_set_ne e] at this
                      exact this
              have h := kk T.ix _ es j ad an ej
              by_cases hi : j ∈ vs
              · exact absurd h (wipeE_not ρ vs j hi _)
              · rw [wipeE_get ρ vs j hi] at h
                exact h
            obtain ⟨_, _, _, g2, g3, _⟩ := R1.drs j ad an sub
            rw [p3] at hb
            rcases List.mem_cons.mp hb with y | hb
            · rw [← y, ← z, hA] at g2; cases g2
            · rw [List.mem_singleton] at hb
              rw [← hb, ← z, hA] at g3; cases g3
          exact ⟨key ad (by rw [p3]; simp), key an (by rw [p3]; simp)⟩
        have hD4 : H4 A = some (.lst ws) := l4.fr A _ (x3 _ _ hD) nA
        refine ⟨ws, hD4, ?_, m - 1, by omega, by omega, ?_, ?_, ?_, ws ++ [v], ds ++ [d], upd_same, ?_, by simp; omega, ?_⟩
        · rw [qs.length]
          exact lim_lt (by omega)
        · exact ((ex.trans (hide_ex x3)).trans l4.ex).trans (hide_own (by simp))
        · intro a o h n
          rw [upd_ne (ne_of_none h hA)]
          exact fr4 a o (x3 _ _ (fr a o h n)) n
        · intro j ad an ej
          obtain ⟨_, _, _, g2, g3, _⟩ := R1.drs j ad an ej
          refine (dr4 j ad an ej).mono (fun o h => ?_) (fun o h => ?_)
          · rw [upd_ne (ne_of_none g2 hA)]; exact h
          · rw [upd_ne (ne_of_none g3 hA)]; exact h
        · refine DqAll.mono (hide_own (by simp)) (DqAll.append ((qs.mono (hide_ex x3)).mono l4.ex) (.cons q4 .nil))
        · have e2 : ∀ ys : List D, ds ++ [d] ++ ys = ds ++ d :: ys := fun ys => by simp
          simp only [e2]
          exact q
  · have ei : i = items.length := by omega
    subst ei
    rw [List.drop_length] at hc
    refine .inl ⟨dd.stop H' (fun a o h => by cases h), ?_⟩
    have hc : ∀ v H2, Later O ρ H H2 → Dq (hide O H2) v (.list (ds ++ [])) → Q v H2 := hc
    rw [List.append_nil] at hc
    exact hc _ H' (l1.trans ⟨ex.trans (hide_sub fun a ha => List.mem_cons_of_mem _ ha), fr, dr⟩) (.lst (hide_some.mpr ⟨hAO, hD⟩) (qs.mono (hide_sub fun a ha => List.mem_cons_of_mem _ ha)))
theorem mono_wComp {vs : List Nat} (mi : MonoE wi) (me : MonoE we) : MonoE (wComp wi T we vs) := fun ρ A B h p => mi _ _ _ (fun items ⟨hl, q⟩ => ⟨hl, mono_wCompL me _ _ _ _ (fun ys q => h _ q) q⟩) p
theorem we_comp (F : Fam Xs P w K mg base N sc fnn k) (own : List (Str × Nat)) (hi : EWI Xs tg iter wi)
    (hg : Fam (blkF Xs scope) P w K mg base N (relS scope sc) (fun x => scope.names.lookup x == Option.some NameKind.cell) k → EG (blkF Xs scope) tg T)
    (he : Fam (blkF Xs scope) P w K mg base N (relS scope sc) (fun x => scope.names.lookup x == Option.some NameKind.cell) k → EWE (blkF Xs scope) elt we)
    (ok : blkC N sc scope own = true := by decide +kernel) (hv : ∀ i ∈ T.ix, i ∈ own.map (·.2) := by decide) (hs : ∀ env x, foldedSetIterable iter env x = pure x := by intro _ _; rfl) :
    EWE Xs (.ListComp elt [⟨tg, iter, [], 0⟩] scope pos) (wComp wi T we (own.map (·.2))) := by
  obtain ⟨ti, h1, h2, m1⟩ := hi
  obtain ⟨g, h3, h4⟩ := hg (F.blk scope)
  obtain ⟨te, h7, h8, m2⟩ := he (F.blk scope)
  refine ⟨tLc ti g tYes te (own.map (·.2)), fun j => ?_, snd_wcomp h2 m1 h4 h8 m2 hv, mono_wComp m1 m2⟩
  refine pe_lc (F.calm j) (F.ndj j) (h1 j) ?_ (fun s H C cl fp => h3 (j, s, H, C, cl, fp)) (fun s H C cl fp => pts_nil) (fun s H C cl fp => h7 (j, s, H, C, cl, fp)) (hs _)
  rw [F.nm j, F.scp j]
  exact blkOk_by ok
end
end DL

namespace DL
open PySem L2
variable [SC]

/-! ### statements with draws -/
structure WO where
  nx : En → Prop
  rt : D → Prop
  bk : En → Prop := fun _ => False
  ct : En → Prop := fun _ => False
structure WO.Le (A B : WO) : Prop where
  nx : ∀ ρ, A.nx ρ → B.nx ρ
  rt : ∀ d, A.rt d → B.rt d
  bk : ∀ ρ, A.bk ρ → B.bk ρ
  ct : ∀ ρ, A.ct ρ → B.ct ρ
abbrev WS := En → WO → Prop
def MonoS (w : WS) : Prop := ∀ ρ A B, WO.Le A B → w ρ A → w ρ B
def wEnds (Oc : List Addr) (H0 : Hp) (O : List Addr) (H : Hp) (Z : Ends) : WO where
  nx := fun ρ' => ∀ O' σ' H', RepS Oc H0 O' σ' ρ' H' → Ex (hide O H) (hide O' H') → Z.nx σ' H'
  rt := fun d => ∀ v H', Ex H0 H' → Dq (hide Oc H') v d → Z.rt v H'
  bk := fun ρ' => ∀ O' σ' H', RepS Oc H0 O' σ' ρ' H' → Ex (hide O H) (hide O' H') → Z.bk σ' H'
  ct := fun ρ' => ∀ O' σ' H', RepS Oc H0 O' σ' ρ' H' → Ex (hide O H) (hide O' H') → Z.ct σ' H'
theorem wEnds.later {Oc O O2 : List Addr} {H0 H H2 : Hp} {Z : Ends} (e : Ex (hide O H) (hide O2 H2)) : WO.Le (wEnds Oc H0 O H Z) (wEnds Oc H0 O2 H2 Z) :=
  ⟨fun ρ p O' σ' H' r x => p O' σ' H' r (e.trans x), fun d p => p, fun ρ p O' σ' H' r x => p O' σ' H' r (e.trans x), fun ρ p O' σ' H' r x => p O' σ' H' r (e.trans x)⟩
def SndWS (t : TS) (w : WS) : Prop := ∀ Oc H0 O σ ρ H Z, RepS Oc H0 O σ ρ H → w ρ (wEnds Oc H0 O H Z) → t Z σ H
section
variable {ι : Type} (Xs : ι → Cx)
def WSt (s : Stmt) (w : WS) : Prop := ∃ t, (∀ j, PS (Xs j) s t) ∧ SndWS t w ∧ MonoS w
def WSs (ss : List Stmt) (w : WS) : Prop := ∃ t, (∀ j, PSs (Xs j) ss t) ∧ SndWS t w ∧ MonoS w
end
def ls (F : En → Out) : WS := fun ρ K => match F ρ with
  | .nx ρ' => K.nx ρ'
  | .rt d => K.rt d
  | .bk ρ' => K.bk ρ'
  | .ct ρ' => K.ct ρ'
  | _ => False
def wSeq (a b : WS) : WS := fun ρ K => a ρ { K with nx := fun ρ' => b ρ' K }
def wSkip : WS := fun ρ K => K.nx ρ
def wSet (i : Nat) (w : WE) : WS := fun ρ K => w ρ fun d => K.nx (ρ.set i (some (.sh d)))
def wAsg (T : Tg) (w : WE) : WS := fun ρ K => w ρ fun d => ∃ ρ', T.asg d ρ = some ρ' ∧ K.nx ρ'
def wPar (is : List Nat) (w : WA) : WS := fun ρ K => w ρ fun ds => ds.length = is.length ∧ K.nx (setD ρ is ds)
def wIfS (c : WT) (a b : WS) : WS := fun ρ K => c ρ fun k => if k = true then a ρ K else b ρ K
def wRet (w : WE) : WS := fun ρ K => w ρ K.rt
def wExp (w : WE) : WS := fun ρ K => w ρ fun _ => K.nx ρ
def wForL (T : Tg) (vs : List Nat) (body : WS) : List D → En → WO → Prop
  | [], ρ, K => K.nx ρ
  | d :: r, ρ, K => ∃ ρ1, T.asg d ρ = some ρ1 ∧ body ρ1 ⟨fun ρ' => wForL T vs body r (wipeE ρ' vs) K, K.rt, fun ρ' => K.nx (wipeE ρ' vs), fun ρ' => wForL T vs body r (wipeE ρ' vs) K⟩
def wFor (it : En → Rs (List D)) (T : Tg) (vs : List Nat) (body : WS) : WS := fun ρ K => ∃ items, it ρ = .ok items ∧ wForL T vs body items (wipeE ρ vs) K
section
variable {ι : Type} {cv : Nat → Value} {W : WX} {Xs : ι → Cx} {P : Program} {w : World} {K : PySem.W.Frag} {mg : Str → Option Value} {base : Heap} {N ps : List Str} {sc : Scope} {fnn : Str → Bool} {k kc : Nat}
variable {e a b c tg iter elt : Expr} {es : List Expr} {f : En → Rs D} {fs it : En → Rs (List D)} {ft : En → Rs Bool} {we wa wb : WE} {ws wi : WA} {wt : WT} {pos p npos ppos : Pos} {x : Str} {T : Tg} {scope : Scope} {st : Stmt} {rest ss ss' : List Stmt} {F : En → Out} {u v : WS} {te : TE} {i : Nat}
theorem mono_ls : MonoS (ls F) := fun ρ A B h p => by
  unfold ls at p ⊢
  split at p
  · exact h.nx _ p
  · exact h.rt _ p
  · exact h.bk _ p
  · exact h.ct _ p
  · exact p
theorem snd_ls {t : TS} (h : SndS cv W .dat t F) : SndWS t (ls F) := fun Oc H0 O σ ρ H Z R p => h Oc H0 O σ ρ H Z R (by
  unfold ls at p
  cases e : F ρ with
  | nx ρ' => rw [e] at p; exact p
  | rt d => rw [e] at p; exact p
  | rs d ρ' => rw [e] at p; exact p.elim
  | bk ρ' => rw [e] at p; exact p
  | ct ρ' => rw [e] at p; exact p
  | ex c ρ' => rw [e] at p; exact p.elim
  | no => rw [e] at p; exact p.elim)
theorem ws_lift (h : SS cv W .dat Xs st F) : WSt Xs st (ls F) := by
  obtain ⟨t, h1, h2⟩ := h
  exact ⟨t, h1, snd_ls h2, mono_ls⟩
theorem ws_lifts (h : SSs cv W .dat Xs ss F) : WSs Xs ss (ls F) := by
  obtain ⟨t, h1, h2⟩ := h
  exact ⟨t, h1, snd_ls h2, mono_ls⟩
theorem ws_nil : WSs Xs [] wSkip := ⟨tNext, fun _ => pss_nil, fun Oc H0 O σ ρ H Z R p => p O σ H R (Ex.refl _), fun ρ A B h p => h.nx _ p⟩
theorem ws_one (h : WSt Xs st u) : WSs Xs [st] u := by
  obtain ⟨t, h1, h2, h3⟩ := h
  exact ⟨t, fun j => pss_one (h1 j), h2, h3⟩
theorem ws_cons (h : WSt Xs st u) (hr : WSs Xs rest v) : WSs Xs (st :: rest) (wSeq u v) := by
  obtain ⟨t, h1, h2, h3⟩ := h
  obtain ⟨t', h4, h5, h6⟩ := hr
  refine ⟨_, fun j => pss_cons (h1 j) (h4 j), fun Oc H0 O σ ρ H Z R p => h2 Oc H0 O σ ρ H _ R (h3 ρ _ _ ?_ p), fun ρ A B h p => h3 ρ _ _ ?_ p⟩
  · exact ⟨fun ρ' q O' σ' H' R' x => h5 Oc H0 O' σ' ρ' H' Z R' (h6 _ _ _ (wEnds.later x) q), fun _ q => q, fun _ q => q, fun _ q => q⟩
  · exact ⟨fun ρ' q => h6 _ _ _ h q, h.rt, h.bk, h.ct⟩
theorem snd_wset (h : SndWE te we) (m : MonoE we) : SndWS (tAsg te (gName i)) (wSet i we) := fun Oc H0 O σ ρ H Z R p => h Oc H0 O σ ρ H _ R (m _ _ _ (fun d q v H2 l q2 => q O _ H2 ((R.later l).set q2) l.ex) p)
theorem mono_wSet (m : MonoE we) : MonoS (wSet i we) := fun ρ A B h p => m _ _ _ (fun d q => h.nx _ q) p
theorem ws_set (Fm : Fam Xs P w K mg base N sc fnn k) (i : Nat) (h : EWE Xs e we) (hN : N[i]? = some x := by rfl) (hx : stB fnn sc x = true := by decide +kernel) (hs : ∀ env, swapsWith e (some (.Name x npos)) pos.line env = pure false := by intro _; rfl) :
    WSt Xs (.Assign [.Name x npos] e pos) (wSet i we) := by
  obtain ⟨t, h1, h2, h3⟩ := h
  exact ⟨_, fun j => ps_set (Fm.ndj j) (Fm.at hN j) (Fm.loc hx j) (h1 j) (hs _) (Fm.hf hx j), snd_wset h2 h3, mono_wSet h3⟩
/-- x = e, where x is a cell and e a comprehension -/
theorem ws_setC (Fm : Fam Xs P w K mg base N sc fnn k) (i : Nat) (h : EWE Xs e we) (hN : N[i]? = some x := by rfl) (hx : stB fnn sc x = true := by decide +kernel) (hs : ∀ j, swapsWith e (some (.Name x npos)) pos.line (Xs j).env = pure false) :
    WSt Xs (.Assign [.Name x npos] e pos) (wSet i we) := by
  obtain ⟨t, h1, h2, h3⟩ := h
  exact ⟨_, fun j => ps_set (Fm.ndj j) (Fm.at hN j) (Fm.loc hx j) (h1 j) (hs j) (Fm.hf hx j), snd_wset h2 h3, mono_wSet h3⟩
/-- x = [elt for tg in iter], x a plain local -/
theorem ws_setLc (Fm : Fam Xs P w K mg base N sc fnn k) (i : Nat) (own : List (Str × Nat)) (hi : EWI Xs tg iter wi)
    (hg : Fam (blkF Xs scope) P w K mg base N (relS scope sc) (fun x => scope.names.lookup x == Option.some NameKind.cell) k → EG (blkF Xs scope) tg T)
    (he : Fam (blkF Xs scope) P w K mg base N (relS scope sc) (fun x => scope.names.lookup x == Option.some NameKind.cell) k → EWE (blkF Xs scope) elt we)
    (hN : N[i]? = some x := by rfl) (hx : isLoc sc x = true := by decide +kernel) (hk : sc.kind = .function := by decide +kernel) (hl : (npos.line == ppos.line) = true := by decide +kernel) (ha : (scope.names.any fun (n, k) => n == x && (k == .local || k == .cell)) = false := by decide +kernel)
    (ok : blkC N sc scope own = true := by decide +kernel) (hv : ∀ i ∈ T.ix, i ∈ own.map (·.2) := by decide) (hs : ∀ env x, foldedSetIterable iter env x = pure x := by intro _ _; rfl) :
    WSt Xs (.Assign [.Name x npos] (.ListComp elt [⟨tg, iter, [], 0⟩] scope ppos) pos) (wSet i (wComp wi T we (own.map (·.2)))) := by
  obtain ⟨ti, h1, h2, m1⟩ := hi
  obtain ⟨g, h3, h4⟩ := hg (Fm.blk scope)
  obtain ⟨te, h7, h8, m2⟩ := he (Fm.blk scope)
  refine ⟨tAsg (tLc ti g tYes te (own.map (·.2))) (gName i), fun j => ?_, snd_wset (snd_wcomp h2 m1 h4 h8 m2 hv) (mono_wComp m1 m2), mono_wSet (mono_wComp m1 m2)⟩
  have hy : (Xs j).env.scope.names.lookup x = some .local := by rw [Fm.scp j]; exact isLoc_of hx
  refine ps_setLc (Fm.calm j) (Fm.ndj j) (Fm.at hN j) hy (sw_true (by rw [Fm.scp j]; exact hk) hy hl ha) (h1 j) ?_ (fun s H C cl fp => h3 (j, s, H, C, cl, fp)) (fun s H C cl fp => pts_nil) (fun s H C cl fp => h7 (j, s, H, C, cl, fp)) (hs _)
  rw [Fm.nm j, Fm.scp j]
  exact blkOk_by ok
theorem ws_asg (h : EWE Xs e we) (hg : EG Xs tg T) (hs : ∀ env, swapsWithSole [tg] e pos.line env = pure false := by intro _; rfl) (hw : ∀ j, swappedStores [tg] e (Xs j).env = pure none := by intro _; rfl)
    (h1 : ∀ env, (assignEach [tg] env).map (·.2) = [assign tg env] := by intro _; rfl) : WSt Xs (.Assign [tg] e pos) (wAsg T we) := by
  obtain ⟨t, h2, h3, m⟩ := h
  obtain ⟨g, h4, h5⟩ := hg
  refine ⟨_, fun j => ps_asg (h2 j) (h4 j) (hs _) (hw j) (h1 _), fun Oc H0 O σ ρ H Z R p => h3 Oc H0 O σ ρ H _ R (m _ _ _ (fun d q v H2 l q2 => ?_) p), fun ρ A B h p => m _ _ _ (fun d ⟨ρ', e, q⟩ => ⟨ρ', e, h.nx _ q⟩) p⟩
  obtain ⟨ρ', e, q⟩ := q
  unfold Tg.asg at e
  cases ep : T.parts d with
  | none => rw [ep] at e; cases e
  | some ds =>
    rw [ep] at e
    cases e
    exact h5 v d ds σ H2 _ _ q2 hide_le ep fun ws hws => q O _ H2 ((R.later l).setD hws) l.ex
theorem ws_asgT (Fm : Fam Xs P w K mg base N sc fnn k) {ts vs : List Expr} {kt k2 : Nat} {pt p2 : Pos} (h : EWE Xs (.Tuple vs k2 p2) we) (hg : EG Xs (.Tuple ts kt pt) T) (hw : ((swNames sc ts).length != ts.length) = true := by decide +kernel)
    (h1 : ∀ env, (assignEach [.Tuple ts kt pt] env).map (·.2) = [assign (.Tuple ts kt pt) env] := by intro _; rfl) : WSt Xs (.Assign [.Tuple ts kt pt] (.Tuple vs k2 p2) pos) (wAsg T we) :=
  ws_asg h hg (fun _ => rfl) (fun j => swapped_none (Fm.scp j) hw) h1
theorem mono_wPar {is : List Nat} (m : MonoE ws) : MonoS (wPar is ws) := fun ρ A B h p => m _ _ _ (fun ds ⟨e, q⟩ => ⟨e, h.nx _ q⟩) p
theorem ws_par2 (Fm : Fam Xs P w K mg base N sc fnn k) (i i' : Nat) {y : Str} {px py pt p2 : Pos} {kt k2 : Nat} (ha : EWA Xs [a, b] ws) (hi : N[i]? = some x := by rfl) (hj : N[i']? = some y := by rfl) (hij : i ≠ i' := by decide) (hx : isLoc sc x = true := by decide +kernel) (hy : isLoc sc y = true := by decide +kernel) (hk : sc.kind = .function := by decide +kernel)
    (hn : swNames sc [.Name x px, .Name y py] = [x, y] := by decide +kernel) (hd : (([x, y] : List Str).eraseDups.length != ([x, y] : List Str).length) = false := by decide +kernel) (hst : ([a, b].any fun | .Starred .. => true | _ => false) = false := by rfl) (hf : [a, b].all (foldedForSure 8) = false := by rfl) (hc : [a, b].all (constantsAlone 8) = false := by rfl) :
    WSt Xs (.Assign [.Tuple [.Name x px, .Name y py] kt pt] (.Tuple [a, b] k2 p2) pos) (wPar [i, i'] ws) := by
  obtain ⟨t, h1, h2, m⟩ := ha
  refine ⟨tPar i i' t, fun j => ps_par (Fm.calm j) (Fm.ndj j) (Fm.at hi j) (Fm.at hj j) hij (by rw [Fm.scp j]; exact isLoc_of hx) (by rw [Fm.scp j]; exact isLoc_of hy) (h1 j) (swapped_some (Fm.scp j) hk hn rfl hd rfl rfl hst hf hc) rfl, fun Oc H0 O σ ρ H Z R p => h2 Oc H0 O σ ρ H _ R (m _ _ _ (fun ds q vs H2 l q2 => ?_) p), mono_wPar m⟩
  obtain ⟨hl, q⟩ := q
  match vs, ds, q2, hl with
  | [v, v'], [d, d'], q2, _ => exact ⟨v, v', rfl, q O _ H2 ((R.later l).setD (is := [i, i']) q2) l.ex⟩
  | [], [d, d'], q2, _ => cases q2
  | [_], [d, d'], q2, _ => have := q2.length; simp at this
  | _ :: _ :: _ :: _, [d, d'], q2, _ => have := q2.length; simp at this
theorem ws_par3 (Fm : Fam Xs P w K mg base N sc fnn k) (i i' i'' : Nat) {y z : Str} {px py pz pt p2 : Pos} {kt k2 : Nat} (ha : EWA Xs [a, b, c] ws) (hi : N[i]? = some x := by rfl) (hj : N[i']? = some y := by rfl) (hl : N[i'']? = some z := by rfl) (hij : i ≠ i' := by decide) (hil : i ≠ i'' := by decide) (hjl : i' ≠ i'' := by decide) (hx : isLoc sc x = true := by decide +kernel) (hy : isLoc sc y = true := by decide +kernel) (hz : isLoc sc z = true := by decide +kernel) (hk : sc.kind = .function := by decide +kernel)
    (hn : swNames sc [.Name x px, .Name y py, .Name z pz] = [x, y, z] := by decide +kernel) (hd : (([x, y, z] : List Str).eraseDups.length != ([x, y, z] : List Str).length) = false := by decide +kernel) (hst : ([a, b, c].any fun | .Starred .. => true | _ => false) = false := by rfl) (hf : [a, b, c].all (foldedForSure 8) = false := by rfl) (hc : [a, b, c].all (constantsAlone 8) = false := by rfl) :
    WSt Xs (.Assign [.Tuple [.Name x px, .Name y py, .Name z pz] kt pt] (.Tuple [a, b, c] k2 p2) pos) (wPar [i, i', i''] ws) := by
  obtain ⟨t, h1, h2, m⟩ := ha
  refine ⟨_, fun j => ps_par3 (Fm.calm j) (Fm.ndj j) (Fm.at hi j) (Fm.at hj j) (Fm.at hl j) hij hil hjl (by rw [Fm.scp j]; exact isLoc_of hx) (by rw [Fm.scp j]; exact isLoc_of hy) (by rw [Fm.scp j]; exact isLoc_of hz) (h1 j) (swapped_some (Fm.scp j) hk hn rfl hd rfl rfl hst hf hc) rfl, fun Oc H0 O σ ρ H Z R p => h2 Oc H0 O σ ρ H _ R (m _ _ _ (fun ds q vs H2 l q2 => ?_) p), mono_wPar m⟩
  obtain ⟨hl, q⟩ := q
  match vs, ds, q2, hl with
  | [v, v', v''], [d, d', d''], q2, _ => exact ⟨v, v', v'', rfl, q O _ H2 ((R.later l).setD (is := [i, i', i'']) q2) l.ex⟩
  | [], [d, d', d''], q2, _ => cases q2
  | [_], [d, d', d''], q2, _ => have := q2.length; simp at this
  | [_, _], [d, d', d''], q2, _ => have := q2.length; simp at this
  | _ :: _ :: _ :: _ :: _, [d, d', d''], q2, _ => have := q2.length; simp at this
theorem ws_if (h : EWT Xs c wt) (ha : WSs Xs ss u) (hb : WSs Xs ss' v) : WSt Xs (.If c ss ss' pos) (wIfS wt u v) := by
  obtain ⟨t, h1, h2, m⟩ := h
  obtain ⟨ta, h3, h4, m1⟩ := ha
  obtain ⟨tb, h5, h6, m2⟩ := hb
  refine ⟨_, fun j => ps_if (h1 j) (h3 j) (h5 j), fun Oc H0 O σ ρ H Z R p => h2 Oc H0 O σ ρ H _ R (m _ _ _ (fun b q H2 l => ?_) p), fun ρ A B h p => m _ _ _ (fun b q => ?_) p⟩
  · cases b with
    | true => rw [if_pos rfl] at q ⊢; exact h4 Oc H0 O σ ρ H2 Z (R.later l) (m1 _ _ _ (wEnds.later l.ex) q)
    | false => rw [if_neg (by decide)] at q ⊢; exact h6 Oc H0 O σ ρ H2 Z (R.later l) (m2 _ _ _ (wEnds.later l.ex) q)
  · cases b with
    | true => rw [if_pos rfl] at q ⊢; exact m1 _ _ _ h q
    | false => rw [if_neg (by decide)] at q ⊢; exact m2 _ _ _ h q
theorem ws_ret (h : EWE Xs e we) : WSt Xs (.Return (some e) pos) (wRet we) := by
  obtain ⟨t, h1, h2, m⟩ := h
  exact ⟨_, fun j => ps_ret (h1 j), fun Oc H0 O σ ρ H Z R p => h2 Oc H0 O σ ρ H _ R (m _ _ _ (fun d q v H2 l q2 => q v H2 (R.later l).base (q2.mono (hide_sub R.oc))) p), fun ρ A B h p => m _ _ _ h.rt p⟩
theorem ws_expr (h : EWE Xs e we) (hs : ∀ env, swapsWith e none pos.line env = pure false := by intro _; rfl) : WSt Xs (.Expr e pos) (wExp we) := by
  obtain ⟨t, h1, h2, m⟩ := h
  exact ⟨_, fun j => ps_expr (h1 j) (hs _), fun Oc H0 O σ ρ H Z R p => h2 Oc H0 O σ ρ H _ R (m _ _ _ (fun d q v H2 l q2 => q O σ H2 (R.later l) l.ex) p), fun ρ A B h p => m _ _ _ (fun d q => h.nx _ q) p⟩
theorem mono_wForL {vs : List Nat} (m : MonoS u) : ∀ (items : List D) (ρ : En) (A B : WO), WO.Le A B → wForL T vs u items ρ A → wForL T vs u items ρ B
  | [], ρ, A, B, h, p => h.nx _ p
  | d :: r, ρ, A, B, h, p => by
    unfold wForL at p ⊢
    obtain ⟨ρ1, e, p⟩ := p
    refine ⟨ρ1, e, m ρ1 _ _ ?_ p⟩
    exact ⟨fun ρ' q => mono_wForL m r _ A B h q, h.rt, fun ρ' q => h.nx _ q, fun ρ' q => mono_wForL m r _ A B h q⟩
theorem ws_for (Fm : Fam Xs P w K mg base N sc fnn k) (hp : ∀ j, PassesOwn (model (Xs j).prog (Xs j).w) (Xs j).A (Xs j).env (Xs j).xe) (vs : List Nat) (hi : EIS cv W Xs tg iter it) (hg : EG Xs tg T) (hb : WSs Xs ss u)
    (hf : ∀ env x, foldedSetIterable iter env x = pure x := by intro _ _; rfl) : WSt Xs (.For tg iter ss [] pos) (wFor it T vs u) := by
  obtain ⟨ti, h1, h2⟩ := hi
  obtain ⟨g, h3, h4⟩ := hg
  obtain ⟨tb, h5, h6, m⟩ := hb
  refine ⟨tFor ti g tb, fun j => ps_for (hp j) (Fm.calm j) (h1 j) (h3 j) (h5 j) (hf _), fun Oc H0 O σ ρ H Z R p => h2 O σ ρ H _ R.e ?_, fun ρ A B h ⟨items, e, p⟩ => ⟨items, e, mono_wForL m _ _ _ _ h p⟩⟩
  obtain ⟨items, ei, p⟩ := p
  rw [ei]
  intro J H1 x1 dd
  refine ⟨fun i m σ' H' => m + i = items.length ∧ ∃ O' ρ', RepS Oc H0 O' σ' ρ' H' ∧ Ex (hide O H1) (hide O' H') ∧ wForL T vs u (items.drop i) ρ' (wEnds Oc H0 O' H' Z),
    ⟨items.length, by omega, O, wipeE ρ vs, (R.mono x1).forget vs, Ex.refl _, mono_wForL m _ _ _ _ (wEnds.later (hide_ex x1)) (by simpa using p)⟩, ?_⟩
  rintro i mm σ' H' ⟨hm, O', ρ', R', x2, hw⟩
  have x2' : Ex (hide O H1) H' := x2.trans hide_le
  by_cases hlt : i < items.length
  · obtain ⟨hgo, hy⟩ := dd.go i _ H' x2' (List.getElem?_eq_getElem hlt)
    refine .inr ⟨hgo, fun σ3 H3 => ∃ m', m' < mm ∧ m' + (i + 1) = items.length ∧ ∃ O' ρ', RepS Oc H0 O' σ3 ρ' H3 ∧ Ex (hide O H1) (hide O' H3) ∧ wForL T vs u (items.drop (i + 1)) ρ' (wEnds Oc H0 O' H3 Z),
      fun σ3 H3 ⟨m', g1, g2, g3⟩ => ⟨m', g1, g2, g3⟩, fun y H3 hyl => ?_⟩
    obtain ⟨x3, hq⟩ := hy y H3 hyl
    have qx : Dq (hide O' H3) y items[i] := hq _ (x2.trans (hide_ex x3)) fun a o n1 n2 => hide_some.mpr ⟨fun z => R'.od a z n1, n2⟩
    rw [List.drop_eq_getElem_cons hlt] at hw
    unfold wForL at hw
    obtain ⟨ρ1, ea, hw⟩ := hw
    unfold Tg.asg at ea
    cases ep : T.parts items[i] with
    | none => rw [ep] at ea; cases ea
    | some es =>
      rw [ep] at ea
      cases ea
      refine h4 y items[i] es σ' H3 _ (hide O' H3) qx hide_le ep fun us hus => ?_
      refine h6 Oc H0 O' _ _ H3 _ ((R'.mono x3).setD (is := T.ix) hus) (m _ _ _ ?_ hw)
      refine ⟨fun ρ2 q O4 σ4 H4 R4 x4 => ?_, fun d q => q, fun ρ2 q O4 σ4 H4 R4 x4 => ?_, fun ρ2 q O4 σ4 H4 R4 x4 => ?_⟩
      · exact ⟨mm - 1, by omega, by omega, O4, _, R4.forget vs, (x2.trans (hide_ex x3)).trans x4, mono_wForL m _ _ _ _ (wEnds.later ((hide_ex x3).trans x4)) q⟩
      · exact q O4 σ4 H4 (R4.forget vs) ((hide_ex x3).trans x4)
      · exact ⟨mm - 1, by omega, by omega, O4, _, R4.forget vs, (x2.trans (hide_ex x3)).trans x4, mono_wForL m _ _ _ _ (wEnds.later ((hide_ex x3).trans x4)) q⟩
  · have ei : i = items.length := by omega
    subst ei
    rw [List.drop_length] at hw
    exact .inl ⟨dd.stop H' x2', hw O' σ' H' R' (Ex.refl _)⟩

/-! ### draws -/
def DrEx (ad an : Addr) (H H' : Hp) : Prop := ∀ a o, H a = some o → a ≠ ad → a ≠ an → H' a = some o
def intR (n : Int) : List Int := (List.range n.toNat).map fun (i : Nat) => 1 + (i : Int)
def spStart (K : PySem.W.Frag) : Sp := fun vs H Q _ => ∃ (a : Addr) (ns : List Int), vs = [.ref a] ∧ SqL K H a (ns.map V.int) ∧ ns.length ≤ 63 ∧ ∀ ad an H', Ex H H' → H ad = none → H an = none → DrSt H' ad an → Q (.ref ad) H'
def spDraw : Sp := fun vs H Q _ => ∃ ad an n, vs = [.ref ad, .int n] ∧ DrSt H ad an ∧ 0 < n ∧ n < 1073741824 ∧ ∀ r H', 0 ≤ r → r < n → DrEx ad an H H' → DrSt H' ad an → Q (.int r) H'
def spPick : Sp := fun vs H Q _ => ∃ (ad an b : Addr) (xs : List V), vs = [.ref ad, .ref b] ∧ DrSt H ad an ∧ H b = some (.lst xs) ∧ b ≠ ad ∧ b ≠ an ∧ xs ≠ [] ∧ xs.length < 1073741824 ∧ ∀ x H', x ∈ xs → DrEx ad an H H' → DrSt H' ad an → Q x H'
def spRank : Sp := fun vs H Q _ => ∃ ad an n, vs = [.ref ad, .int n] ∧ DrSt H ad an ∧ 0 ≤ n ∧ n ≤ 1000 ∧ ∀ (l : List Int) p H', l.Perm (intR n) → DrEx ad an H H' → DrSt H' ad an → H p = none → H' p = some (.lst (l.map V.int)) → Q (.ref p) H'
theorem DrEx.trans {ad an : Addr} {H H1 H2 : Hp} (a : DrEx ad an H H1) (b : DrEx ad an H1 H2) : DrEx ad an H H2 := fun x o h n m => b x o (a x o h n m) n m
theorem DrEx.of {ad an : Addr} {H H1 : Hp} (a : Ex H H1) : DrEx ad an H H1 := fun x o h _ _ => a x o h
def wDraw (i : Nat) (b : WE) : WE := fun ρ Q => (∃ ad an, ρ[i]? = some (some (.dr ad an))) ∧ b ρ fun d => ∃ n, d = .int n ∧ 0 < n ∧ n < 1073741824 ∧ ∀ r, 0 ≤ r → r < n → Q (.int r)
def wRank (i : Nat) (b : WE) : WE := fun ρ Q => (∃ ad an, ρ[i]? = some (some (.dr ad an))) ∧ b ρ fun d => ∃ n, d = .int n ∧ 0 ≤ n ∧ n ≤ 1000 ∧ ∀ l : List Int, l.Perm (intR n) → Q (.list (l.map PyData.int))
def wPick (i : Nat) (b : WE) : WE := fun ρ Q => (∃ ad an, ρ[i]? = some (some (.dr ad an))) ∧ b ρ fun d => ∃ ds, d = .list ds ∧ ds ≠ [] ∧ ds.length < 1073741824 ∧ ∀ x ∈ ds, Q x
theorem later_dr {Oc O : List Addr} {H0 H H2 : Hp} {σ : St} {ρ : En} {ad an : Addr} (R : RepS Oc H0 O σ ρ H) (e : ρ[i]? = some (some (.dr ad an))) (x : DrEx ad an H H2) (d : DrSt H2 ad an) : Later O ρ H H2 := by
  obtain ⟨fp, h1, h2, h3⟩ := R.fp
  obtain ⟨v, q1, q2, q3, q4⟩ := h1 i _ e
  have o1 : ad ∈ O := (h3 i ad (by rw [q3]; simp)).1
  have o2 : an ∈ O := (h3 i an (by rw [q3]; simp)).1
  refine ⟨fun a o h => ?_, fun a o h n => x a o h (n i ad an e).1 (n i ad an e).2, fun j ad' an' e' => ?_⟩
  · obtain ⟨g1, g2⟩ := hide_some.mp h
    exact hide_some.mpr ⟨g1, x a o g2 (fun z => g1 (z ▸ o1)) (fun z => g1 (z ▸ o2))⟩
  · by_cases hj : i = j
    · subst hj
      rw [e] at e'
      cases e'
      exact d
    · obtain ⟨v', p1, p2, p3, p4⟩ := h1 j _ e'
      have ne : ∀ b ∈ fp j, b ≠ ad ∧ b ≠ an := fun b hb => ⟨fun z => hj (h2 i j b (by rw [q3, z]; simp) hb), fun z => hj (h2 i j b (by rw [q3, z]; simp) hb)⟩
      exact p4.mono (fun o h => x _ _ h (ne ad' (by rw [p3]; simp)).1 (ne ad' (by rw [p3]; simp)).2) (fun o h => x _ _ h (ne an' (by rw [p3]; simp)).1 (ne an' (by rw [p3]; simp)).2)
theorem RepS.at_dr {Oc O : List Addr} {H0 H : Hp} {σ : St} {ρ : En} {ad an : Addr} (R : RepS Oc H0 O σ ρ H) (e : ρ[i]? = some (some (.dr ad an))) : σ[i]? = some (some (.ref ad)) ∧ ad ∈ O ∧ an ∈ O := by
  obtain ⟨fp, h1, h2, h3⟩ := R.fp
  obtain ⟨v, q1, q2, q3, q4⟩ := h1 i _ e
  subst q2
  exact ⟨q1, (h3 i ad (by rw [q3]; simp)).1, (h3 i an (by rw [q3]; simp)).1⟩
variable {y : Str} {qpos : Pos} {ps : List Str}
theorem pe_dcall (Fm : Fam Xs P w K mg base N sc fnn k) {sp : Sp} {tb : TE} (i : Nat) (G : Known P w K mg base kc x ps sp) (h1 : ∀ j, PE (Xs j) b tb) (hN : N[i]? = some y) (hv : visB sc y = true) (hk : kc ≤ k) (hg : glB sc x = true)
    (hd : (x == ("__debug__" : Str)) = false) (hdy : (y == ("__debug__" : Str)) = false) (hcd : (y == ("__classdict__" : Str)) = false) (hs : ∀ env, starEach [b] env = (false, eval b env) :: starEach [] env) :
    ∀ j, PE (Xs j) (.Call (.Name x p) [.Name y qpos, b] [] pos) (tCall sp [] E0 (tCons (tVar i) (tCons tb tNil))) := by
  intro j
  obtain ⟨f, fd, G, hm, kp, bb⟩ := G
  refine pe_call (fd := fd) (CX := CX0) (k := kc) (ps := ps) ?_ ((Fm.room j).mono hk) (Fm.gl_ok hg j) (Fm.some hm j) (by rw [Fm.kk j]; exact kp) (by rw [Fm.kk j]; exact bb) .nil pass0 (pa_cons (pe_var (Fm.at hN j) (Fm.vis hv j) hdy hcd) (pa_cons (h1 j) pa_nil (hs _)) rfl) hd rfl (by rw [hs]; rfl)
  rw [Fm.prog j, Fm.wd j, Fm.kk j, Fm.gl j, Fm.bs j]
  exact G
theorem we_draw (Fm : Fam Xs P w K mg base N sc fnn k) (i : Nat) (G : Known P w K mg base kc x ps spDraw) (hb : EWE Xs b wb) (hN : N[i]? = some y := by rfl) (hv : visB sc y = true := by decide +kernel) (hk : kc ≤ k := by decide) (hg : glB sc x = true := by decide +kernel)
    (hd : (x == ("__debug__" : Str)) = false := by decide) (hdy : (y == ("__debug__" : Str)) = false := by decide) (hcd : (y == ("__classdict__" : Str)) = false := by decide) (hs : ∀ env, starEach [b] env = (false, eval b env) :: starEach [] env := by intro _; rfl) :
    EWE Xs (.Call (.Name x p) [.Name y qpos, b] [] pos) (wDraw i wb) := by
  obtain ⟨tb, h1, h2, m⟩ := hb
  refine ⟨_, pe_dcall Fm i G h1 hN hv hk hg hd hdy hcd hs, fun Oc H0 O σ ρ H Q R p => ?_, fun ρ A B h ⟨e, p⟩ => ⟨e, m _ _ _ (fun d ⟨n, e, g1, g2, q⟩ => ⟨n, e, g1, g2, fun r r1 r2 => h _ (q r r1 r2)⟩) p⟩⟩
  obtain ⟨⟨ad, an, e⟩, p⟩ := p
  obtain ⟨es, o1, o2⟩ := R.at_dr e
  refine ⟨_, es, h2 Oc H0 O σ ρ H _ R (m _ _ _ (fun d q v H1 l1 q1 => ?_) p)⟩
  obtain ⟨n, rfl, g1, g2, q⟩ := q
  cases q1
  have R1 := R.later l1
  exact ⟨ad, an, n, rfl, R1.drs i ad an e, g1, g2, fun r H2 r1 r2 x d => q r r1 r2 _ H2 (l1.trans (later_dr R1 e x d)) (.int r)⟩
theorem we_rank (Fm : Fam Xs P w K mg base N sc fnn k) (i : Nat) (G : Known P w K mg base kc x ps spRank) (hb : EWE Xs b wb) (hN : N[i]? = some y := by rfl) (hv : visB sc y = true := by decide +kernel) (hk : kc ≤ k := by decide) (hg : glB sc x = true := by decide +kernel)
    (hd : (x == ("__debug__" : Str)) = false := by decide) (hdy : (y == ("__debug__" : Str)) = false := by decide) (hcd : (y == ("__classdict__" : Str)) = false := by decide) (hs : ∀ env, starEach [b] env = (false, eval b env) :: starEach [] env := by intro _; rfl) :
    EWE Xs (.Call (.Name x p) [.Name y qpos, b] [] pos) (wRank i wb) := by
  obtain ⟨tb, h1, h2, m⟩ := hb
  refine ⟨_, pe_dcall Fm i G h1 hN hv hk hg hd hdy hcd hs, fun Oc H0 O σ ρ H Q R p => ?_, fun ρ A B h ⟨e, p⟩ => ⟨e, m _ _ _ (fun d ⟨n, e, g1, g2, q⟩ => ⟨n, e, g1, g2, fun l r1 => h _ (q l r1)⟩) p⟩⟩
  obtain ⟨⟨ad, an, e⟩, p⟩ := p
  obtain ⟨es, o1, o2⟩ := R.at_dr e
  refine ⟨_, es, h2 Oc H0 O σ ρ H _ R (m _ _ _ (fun d q v H1 l1 q1 => ?_) p)⟩
  obtain ⟨n, rfl, g1, g2, q⟩ := q
  cases q1
  have R1 := R.later l1
  refine ⟨ad, an, n, rfl, R1.drs i ad an e, g1, g2, fun l u H2 r1 x d n1 n2 => q l r1 _ H2 (l1.trans (later_dr R1 e x d)) (.lst (hide_some.mpr ⟨fun z => R1.od u z n1, n2⟩) (DqAll.ofInts l))⟩
theorem we_pick (Fm : Fam Xs P w K mg base N sc fnn k) (i : Nat) (G : Known P w K mg base kc x ps spPick) (hb : EWE Xs b wb) (hN : N[i]? = some y := by rfl) (hv : visB sc y = true := by decide +kernel) (hk : kc ≤ k := by decide) (hg : glB sc x = true := by decide +kernel)
    (hd : (x == ("__debug__" : Str)) = false := by decide) (hdy : (y == ("__debug__" : Str)) = false := by decide) (hcd : (y == ("__classdict__" : Str)) = false := by decide) (hs : ∀ env, starEach [b] env = (false, eval b env) :: starEach [] env := by intro _; rfl) :
    EWE Xs (.Call (.Name x p) [.Name y qpos, b] [] pos) (wPick i wb) := by
  obtain ⟨tb, h1, h2, m⟩ := hb
  refine ⟨_, pe_dcall Fm i G h1 hN hv hk hg hd hdy hcd hs, fun Oc H0 O σ ρ H Q R p => ?_, fun ρ A B h ⟨e, p⟩ => ⟨e, m _ _ _ (fun d ⟨n, e, g1, g2, q⟩ => ⟨n, e, g1, g2, fun l r1 => h _ (q l r1)⟩) p⟩⟩
  obtain ⟨⟨ad, an, e⟩, p⟩ := p
  obtain ⟨es, o1, o2⟩ := R.at_dr e
  refine ⟨_, es, h2 Oc H0 O σ ρ H _ R (m _ _ _ (fun d q v H1 l1 q1 => ?_) p)⟩
  obtain ⟨ds, rfl, g1, g2, q⟩ := q
  have R1 := R.later l1
  cases q1 with
  | lst a1 a2 =>
    obtain ⟨b1, b2⟩ := hide_some.mp a1
    refine ⟨ad, an, _, _, rfl, R1.drs i ad an e, b2, fun z => b1 (z ▸ o1), fun z => b1 (z ▸ o2), fun z => ?_, by rw [a2.length]; exact g2, fun u H2 hu x d => ?_⟩
    · rw [z] at a2
      cases a2
      exact g1 rfl
    · have l2 := later_dr R1 e x d
      obtain ⟨j, hj, ej⟩ := List.getElem_of_mem hu
      obtain ⟨dd, c1, c2⟩ := a2.get' j (v := u) (by rw [List.getElem?_eq_getElem hj, ej])
      exact q dd (List.mem_of_getElem? c1) _ H2 (l1.trans l2) (c2.mono l2.ex)
end

/-! ### the law -/
def spLaw (K : PySem.W.Frag) : Sp := fun vs H Q _ => ∃ (a : Addr) (ns : List Int), vs = [.ref a] ∧ SqL K H a (ns.map V.int) ∧ ns.length ≤ 63 ∧ ∀ H', Q (.bl true) H'
def lawOk (n i : Nat) (w : WS) : Prop := ∀ ad an, w ((List.replicate n none).set i (some (.dr ad an))) ⟨fun _ => False, fun d => d = .bool true, fun _ => False, fun _ => False⟩
section
variable {P : Program} {w : World} {K : PySem.W.Frag} {mg : Str → Option Value} {base : Heap} {N ps : List Str} {k kc i : Nat} {x y z : Str} {st s1 : Stmt} {rest : List Stmt} {u : WS} {p qpos pos npos apos : Pos} {sps : List Str}
theorem ps_start {ι : Type} {Xs : ι → Cx} {sc : Scope} {fnn : Str → Bool} (Fm : Fam Xs P w K mg base N sc fnn k) (i : Nat) (G : Known P w K mg base kc x sps (spStart K)) (hN : N[i]? = some y := by rfl) (h0 : N[0]? = some z := by rfl) (hx : stB fnn sc y = true := by decide +kernel) (hv : visB sc z = true := by decide +kernel) (hk : kc ≤ k := by decide) (hg : glB sc x = true := by decide +kernel)
    (hd : (x == ("__debug__" : Str)) = false := by decide) (hdy : (z == ("__debug__" : Str)) = false := by decide) (hcd : (z == ("__classdict__" : Str)) = false := by decide) : ∀ j, PS (Xs j) (.Assign [.Name y npos] (.Call (.Name x p) [.Name z qpos] [] apos) pos) (tAsg (tCall (spStart K) [] E0 (tCons (tVar 0) tNil)) (gName i)) := by
  intro j
  obtain ⟨f, fd, G, hm, kp, bb⟩ := G
  refine ps_set (Fm.ndj j) (Fm.at hN j) (Fm.loc hx j) (pe_call (fd := fd) (CX := CX0) (k := kc) (ps := sps) ?_ ((Fm.room j).mono hk) (Fm.gl_ok hg j) (Fm.some hm j) (by rw [Fm.kk j]; exact kp) (by rw [Fm.kk j]; exact bb) .nil pass0 (pa_cons (pe_var (Fm.at h0 j) (Fm.vis hv j) hdy hcd) pa_nil rfl) hd rfl rfl) rfl (Fm.hf hx j)
  rw [Fm.prog j, Fm.wd j, Fm.kk j, Fm.gl j, Fm.bs j]
  exact G
theorem law_fn (h : ∃ f fd, Fun K x x st f fd ∧ mg x = some (.ref f)) (S : FnScope N ps (defScope st)) (hps : ps.length = 1) (kk i : Nat) (hi : 0 < i) (hk : k + 1 = kk) (hN1 : N.length = n)
    (hb : ∀ (Xs : Unit → Cx), Fam Xs P w K mg base N (defScope st) (fun _ => true) k → (∀ j, PassesOwn (model (Xs j).prog (Xs j).w) (Xs j).A (Xs j).env (Xs j).xe) → ∃ s1 rest, defBody st = s1 :: rest ∧ (∀ j, PS (Xs j) s1 (tAsg (tCall (spStart K) [] E0 (tCons (tVar 0) tNil)) (gName i))) ∧ WSs Xs rest u)
    (hw : lawOk n i u) : ∃ f fd, Fun K x x st f fd ∧ mg x = some (.ref f) ∧ FnOk P w K mg base CX0 kk f fd ps (spLaw K) := by
  subst hk hN1
  obtain ⟨f, fd, Fn, hm⟩ := h
  refine ⟨f, fd, Fn, hm, Fn.ok S (fun vs H Q E h => ?_) (fun cdv A outer s H vs Q E hr h => ?_)⟩
  · obtain ⟨a, ns, rfl, _⟩ := h
    rw [hps]; rfl
  · obtain ⟨a, ns, rfl, hS, hl, q⟩ := h
    obtain ⟨s1, rest, eb, h1, t, h2, h3, m⟩ := hb _ (fam_of S hr) (fun _ => PassesOwn.never)
    rw [eb]
    refine ⟨_, pss_cons (h1 ()) (h2 ()), ?_⟩
    have hpos : 0 < N.length := by
      have := congrArg List.length S.pre
      rw [List.length_take, hps] at this
      omega
    have hσ : (L2.start N [V.ref a])[0]? = some (some (V.ref a)) := rfl
    refine ⟨_, hσ, a, ns, rfl, hS, hl, fun ad an H' x n1 n2 d => ?_⟩
    have hlen : (L2.start N [V.ref a]).length = N.length := by
      unfold L2.start
      simp
      omega
    have R0 : RepS [] H [] (L2.start N [V.ref a]) (List.replicate N.length none) H := by
      refine ⟨by rw [hlen, List.length_replicate], Ex.refl H, by simp, by simp, by simp, (fun _ z => by simp at z), fun _ => [], fun j s e => ?_, by simp, by simp⟩
      rw [List.getElem?_replicate] at e
      split at e <;> simp at e
    have R1 : RepS [] H [ad, an] ((L2.start N [V.ref a]).set i (some (.ref ad))) ((List.replicate N.length none).set i (some (.dr ad an))) H' := by
      refine R0.put (l := [ad, an]) x (by simp) (fun b hb => ⟨hb, by simp, ?_⟩) (fun b hb z => ?_) (fun b hb xs z => ?_) (fun b o e => ?_) ⟨rfl, rfl, d⟩
      · rcases List.mem_cons.mp hb with rfl | hb
        · exact n1
        · rw [List.mem_singleton] at hb
          subst hb
          exact n2
      · obtain ⟨_, c, nums, g1, g2, _⟩ := d
        rcases List.mem_cons.mp hb with rfl | hb
        · rw [g1] at z; cases z
        · rw [List.mem_singleton] at hb
          subst hb
          rw [g2] at z; cases z
      · obtain ⟨_, c, nums, g1, g2, _⟩ := d
        rcases List.mem_cons.mp hb with rfl | hb
        · rw [g1] at z; cases z
        · rw [List.mem_singleton] at hb
          subst hb
          rw [g2] at z; cases z
      · obtain ⟨_, g⟩ := hide_some.mp e
        refine hide_some.mpr ⟨fun hb => ?_, x _ _ g⟩
        rcases List.mem_cons.mp hb with rfl | hb
        · rw [n1] at g; cases g
        · rw [List.mem_singleton] at hb
          subst hb
          rw [n2] at g; cases g
    refine h3 [] H [ad, an] _ _ H' _ R1 (m _ _ _ ?_ (hw ad an))
    refine ⟨fun _ z => z.elim, fun dd e v H2 x2 q2 => ?_, fun _ z => z.elim, fun _ z => z.elim⟩
    subst e
    cases q2
    exact q H2
end
end DL

namespace DL
open PySem L2
variable [SC]
section
variable {P : Program} {w : World} {K : PySem.W.Frag} {mg : Str → Option Value} {base : Heap} {N ps : List Str} {k : Nat} {x : Str} {st : Stmt}
theorem known_sp (h : ∃ f fd, Fun K x x st f fd ∧ mg x = some (.ref f)) (S : FnScope N ps (defScope st)) (B : BindsB x st ps) {sp : Sp} (len : ∀ vs H Q E, sp vs H Q E → vs.length = ps.length) (kk : Nat) (hk : k + 1 = kk)
    (hb : ∀ (X : Cx), Fam (fun _ : Unit => X) P w K mg base N (defScope st) (fun _ => true) k → PassesOwn (model X.prog X.w) X.A X.env X.xe → ∀ vs H Q E, sp vs H Q E → ∃ t, PSs X (defBody st) t ∧ t { nx := fun _ H' => Q .non H', rt := Q } (L2.start N vs) H) :
    Known P w K mg base kk x ps sp := by
  subst hk
  obtain ⟨f, fd, Fn, hm⟩ := h
  refine known Fn hm (Fn.binds B) (Fn.ok S len fun cdv A outer s H vs Q E hr h => ?_)
  exact hb _ (fam_of S hr) PassesOwn.never vs H Q E h
end
section
variable {X : Cx} {P : Program} {w : World} {K : PySem.W.Frag} {mg : Str → Option Value} {base : Heap} {N : List Str} {sc : Scope} {fnn : Str → Bool} {k kc : Nat} {x : Str} {pos npos : Pos} {e b : Expr} {te : TE}
theorem vv (F : Fam (fun _ : Unit => X) P w K mg base N sc fnn k) (i : Nat) (hN : N[i]? = some x := by rfl) (hv : visB sc x = true := by decide +kernel) (hd : (x == ("__debug__" : Str)) = false := by decide) (hcd : (x == ("__classdict__" : Str)) = false := by decide) : PE X (.Name x pos) (tVar i) := pe_var (F.at hN ()) (F.vis hv ()) hd hcd
theorem sset (F : Fam (fun _ : Unit => X) P w K mg base N sc fnn k) (i : Nat) (h : PE X e te) (hN : N[i]? = some x := by rfl) (hx : stB fnn sc x = true := by decide +kernel) (hs : swapsWith e (some (.Name x npos)) pos.line X.env = pure false := by rfl) : PS X (.Assign [.Name x npos] e pos) (tAsg te (gName i)) := ps_set (F.ndj ()) (F.at hN ()) (F.loc hx ()) h hs (F.hf hx ())
theorem elen (F : Fam (fun _ : Unit => X) P w K mg base N sc fnn k) {p : Pos} (hm : mg "len" = none) (h : PE X e te) (hg : glB sc "len" = true := by decide +kernel) (hs : starEach [e] X.env = (false, eval e X.env) :: starEach [] X.env := by rfl) : PE X (.Call (.Name "len" p) [e] [] pos) (tCB (fun xs H Q => ∃ p ys, xs = [.ref p] ∧ (SqL X.K H p ys ∨ SqT X.K H p ys) ∧ Q (.int ys.length) H) (tCons te tNil)) :=
  pe_callB call_len_seq (F.gl_ok hg ()) (F.none hm ()) PySem.boot_len (pa_cons h pa_nil hs) (by decide) (by decide) hs rfl
theorem ecall2 (F : Fam (fun _ : Unit => X) P w K mg base N sc fnn k) {sp : Sp} {ps : List Str} {t : TA} {es : List Expr} {p : Pos} (G : Known P w K mg base kc x ps sp) (h : PA X (e :: es) t) (hk : kc ≤ k := by decide) (hg : glB sc x = true := by decide +kernel) (hd : (x == ("__debug__" : Str)) = false := by decide) (hs : starEach (e :: es) X.env = (false, eval e X.env) :: starEach es X.env := by rfl) (hpl : (backTo pos (starEach es X.env)).any (·.1) = false := by rfl) : PE X (.Call (.Name x p) (e :: es) [] pos) (tCall sp [] E0 t) := by
  obtain ⟨f, fd, G, hm, kp, bb⟩ := G
  refine pe_call (fd := fd) (CX := CX0) (k := kc) (ps := ps) ?_ ((F.room ()).mono hk) (F.gl_ok hg ()) (F.some hm ()) (by rw [F.kk ()]; exact kp) (by rw [F.kk ()]; exact bb) .nil pass0 h hd hs hpl
  rw [F.prog (), F.wd (), F.kk (), F.gl (), F.bs ()]
  exact G
end
/-! ### what the draws compute -/
theorem fmod_idx {c : Int} {n : Nat} (h : 0 < n) : 0 ≤ c.fmod n ∧ c.fmod n < n := by
  have : (0 : Int) < n := by omega
  exact ⟨Int.fmod_nonneg_of_pos c this, Int.fmod_lt_of_pos c this⟩
/-- the reading of _law_draw -/
def tDraw (K : PySem.W.Frag) : TS :=
  tSeq (tAsg (tOp (rIxL K) (tVar 0) (tC (.int 0))) (gName 2))
  (tSeq (tAsg (tOp (rI0 fun i j => .int (i + j)) (tOp (rIxL K) (tVar 0) (tC (.int 1))) (tC (.int 1))) (gSub (tVar 0) (tC (.int 1)) rSetL))
  (tSeq (tAsg (tOp (rI (fun _ j => j ≠ 0) fun i j => .int (i.fmod j)) (tOp (rIxL K) (tVar 0) (tC (.int 1))) (tCB (fun xs H Q => ∃ p ys, xs = [.ref p] ∧ (SqL K H p ys ∨ SqT K H p ys) ∧ Q (.int ys.length) H) (tCons (tVar 2) tNil))) (gName 3))
  (tSeq (tAsg (tOp (rIxL K) (tVar 2) (tVar 3)) (gName 4))
  (tSeq (tIfS (tTest (tOp (rI0 fun i j => .bl (decide (j ≤ i))) (tVar 4) (tC (.int 1000000000000000000))))
    (tSeq (tAsg (tOp (rI CDiv fun i j => .int (i / j)) (tVar 4) (tVar 1)) (gSub (tVar 2) (tVar 3) rSetL)) (tRet (tOp (rI (fun _ j => 0 < j) fun i j => .int (i % j)) (tVar 4) (tVar 1)))) tNext)
  (tSeq (tAsg (tOp (rI (fun _ j => 0 < j) fun i j => .int (i % j)) (tOp (rI0 fun i j => .int (i + j)) (tVar 4) (tOp (rI CMul fun i j => .int (i * j)) (tC (.int 104729)) (tOp (rIxL K) (tVar 0) (tC (.int 1))))) (tC (.int 4294967291))) (gName 5))
  (tSeq (tAsg (tOp (rI (fun _ j => 0 < j) fun i j => .int (i % j)) (tOp (rI CPow fun i j => .int (i ^ j.toNat)) (tVar 5) (tC (.int 5))) (tC (.int 4294967279))) (gName 5))
  (tRet (tOp (rI (fun _ j => 0 < j) fun i j => .int (i % j)) (tOp (rI CDiv fun i j => .int (i / j)) (tOp (rI (fun _ j => 0 < j) fun i j => .int (i % j)) (tOp (rI0 fun i j => .int (i + j)) (tOp (rI CMul fun i j => .int (i * j)) (tOp (rI CDiv fun i j => .int (i / j)) (tVar 5) (tC (.int 64))) (tC (.int 69621))) (tVar 5)) (tC (.int 4294967231))) (tC (.int 8))) (tVar 1)))))))))
theorem draw_reads {K : PySem.W.Frag} (vs : List V) (H : Hp) (Q : VK) (E : XK) (h : spDraw vs H Q E) : tDraw K { nx := fun _ H' => Q .non H', rt := Q } (L2.start ["draws", "limit", "numbers", "at", "cell", "mixed"] vs) H := by
  obtain ⟨ad, an, n, rfl, ⟨hne, c, nums, h1, h2, h3, h4⟩, n1, n2, q⟩ := h
  have hlen : 0 < (nums.map V.int).length := by rw [List.length_map]; exact List.length_pos_iff.mpr h3
  obtain ⟨i0, i1⟩ := fmod_idx (c := c + 1) hlen
  have hnn : (nums.map V.int).length = nums.length := List.length_map _
  have hat' : atI (nums.map V.int) ((c + 1).fmod ((nums.map V.int).length : Nat)) = some (.int (nums.getD ((c + 1).fmod ((nums.map V.int).length : Nat)).toNat 0)) := by
    unfold atI ixN
    rw [if_pos i0, if_pos i1]
    have : ((c + 1).fmod ((nums.map V.int).length : Nat)).toNat < nums.length := by omega
    show (nums.map V.int)[_]? = _
    rw [List.getElem?_map, List.getElem?_eq_getElem this, List.getD_eq_getElem?_getD, List.getElem?_eq_getElem this]
    rfl
  have hix : ixN (nums.map V.int).length ((c + 1).fmod ((nums.map V.int).length : Nat)) = some ((c + 1).fmod ((nums.map V.int).length : Nat)).toNat := by
    unfold ixN
    rw [if_pos i0, if_pos i1]
  generalize hcell : nums.getD ((c + 1).fmod ((nums.map V.int).length : Nat)).toNat 0 = cell at hat'
  let H1 : Hp := upd H ad (.lst [.ref an, .int (c + 1)])
  have g1 : H1 ad = some (.lst [.ref an, .int (c + 1)]) := upd_same
  have g2 : H1 an = some (.lst (nums.map V.int)) := by
    show upd H ad _ an = _
    rw [upd_ne (Ne.symm hne)]
    exact h2
  have x1 : DrEx ad an H H1 := fun a o e m1 m2 => by
    show upd H ad _ a = _
    rw [upd_ne m1]
    exact e
  have d1 : DrSt H1 ad an := ⟨hne, c + 1, nums, g1, g2, h3, h4⟩
  refine ⟨_, rfl, ad, _, 0, .ref an, rfl, rfl, SqL.of h1, rfl, ?_⟩
  refine ⟨_, rfl, ad, _, 1, .int c, rfl, rfl, SqL.of h1, rfl, c, 1, rfl, rfl, _, rfl, ad, _, 1, 1, rfl, rfl, h1, rfl, ?_⟩
  refine ⟨_, rfl, ad, _, 1, .int (c + 1), rfl, rfl, SqL.of g1, rfl, _, rfl, an, _, rfl, .inl (SqL.of g2), c + 1, _, rfl, rfl, by omega, ?_⟩
  refine ⟨.ref an, rfl, _, rfl, an, _, _, .int cell, rfl, rfl, SqL.of g2, hat', ?_⟩
  refine ⟨.int cell, rfl, cell, 1000000000000000000, rfl, rfl, decide (1000000000000000000 ≤ cell), rfl, ite2 (fun hc => ?_) (fun hc => ?_)⟩
  · refine ⟨.int cell, rfl, .int n, rfl, cell, n, rfl, rfl, ⟨n1, n2⟩, .ref an, rfl, _, rfl, an, _, _, _, rfl, rfl, g2, hix, ?_⟩
    refine ⟨.int cell, rfl, .int n, rfl, cell, n, rfl, rfl, n1, ?_⟩
    refine q _ _ (Int.emod_nonneg _ (by omega)) (Int.emod_lt_of_pos _ n1) (x1.trans fun a o e m1 m2 => ?_) ⟨hne, c + 1, nums.set ((c + 1).fmod ((nums.map V.int).length : Nat)).toNat (cell / n), ?_, ?_, ?_, ?_⟩
    · rw [upd_ne m2]
      exact e
    · rw [upd_ne hne]
      exact g1
    · rw [upd_same, List.map_set]
    · intro z
      have := congrArg List.length z
      rw [List.length_set] at this
      simp at this
      exact h3 this
    · rw [List.length_set]; exact h4
  · refine ⟨.int cell, rfl, .ref ad, rfl, ad, _, 1, .int (c + 1), rfl, rfl, SqL.of g1, rfl, 104729, c + 1, rfl, rfl, .inl ⟨by decide, by decide⟩, cell, _, rfl, rfl, _, 4294967291, rfl, rfl, (show (0 : Int) < 4294967291 by decide), ?_⟩
    have m1 : 0 ≤ (cell + 104729 * (c + 1)) % 4294967291 := Int.emod_nonneg _ (by decide)
    have m2 : (cell + 104729 * (c + 1)) % 4294967291 < 4294967291 := Int.emod_lt_of_pos _ (by decide)
    refine ⟨_, rfl, _, 5, rfl, rfl, ⟨by decide, by decide, show ((cell + 104729 * (c + 1)) % 4294967291).natAbs < 2 ^ 64 by omega⟩, _, 4294967279, rfl, rfl, (show (0 : Int) < 4294967279 by decide), ?_⟩
    refine ⟨_, rfl, _, 64, rfl, rfl, ⟨by decide, by decide⟩, _, 69621, rfl, rfl, .inr ⟨by decide, by decide⟩, _, rfl, _, _, rfl, rfl, _, 4294967231, rfl, rfl, (show (0 : Int) < 4294967231 by decide), _, 8, rfl, rfl, ⟨by decide, by decide⟩, .int n, rfl, _, n, rfl, rfl, n1, ?_⟩
    exact q _ _ (Int.emod_nonneg _ (by omega)) (Int.emod_lt_of_pos _ n1) x1 d1

/-! the other three -/
theorem shaped_ints (ns : List Int) : SeqAt.shaped (.list (ns.map PyData.int)) = true := by
  have h1 : ∀ l : List Int, PyData.canLayAll0 (l.map PyData.int) = true := by
    intro l
    induction l with
    | nil => rfl
    | cons x l ih => rw [List.map_cons, PyData.canLayAll0, ih]; rfl
  have h2 : ∀ l : List Int, PyData.depthAll (l.map PyData.int) = 0 := by
    intro l
    induction l with
    | nil => rfl
    | cons x l ih => rw [List.map_cons, PyData.depthAll, ih]; rfl
  unfold SeqAt.shaped
  rw [PyData.canLay0, h1, PyData.depth, h2]
  decide
theorem ne_nil_ints (ns : List Int) : (!PyData.eqv (.list (ns.map PyData.int)) (.list [])) = decide (ns ≠ []) := by
  cases ns with
  | nil => rfl
  | cons x r =>
    rw [List.map_cons, PyData.eqv, PyData.eqvAll]
    rfl
def tStart (K : PySem.W.Frag) : TS := tRet (tLst (tCons (tIf (tTest (tOp (rNeD K) (tVar 0) (tLst tNil))) (tCB (fun xs H Q => ∃ p ys, xs = [.ref p] ∧ (SqL K H p ys ∨ SqT K H p ys) ∧ ∀ l, H l = none → Q (.ref l) (upd H l (.lst ys))) (tCons (tVar 0) tNil)) (tLst (tCons (tC (.int 0)) tNil))) (tCons (tC (.int 0)) tNil)))
theorem SqL.ex {K : PySem.W.Frag} {H H' : Hp} {a : Addr} {xs : List V} (e : Ex H H') (h : SqL K H a xs) : SqL K H' a xs := by
  rcases h with (h | ⟨o, h⟩) | h
  · exact .inl (.inl (e _ _ h))
  · exact .inl (.inr ⟨o, e _ _ h⟩)
  · exact .inr h
theorem DpAll.ofInts {K : PySem.W.Frag} {H : Hp} : ∀ ns : List Int, DpAll K H (ns.map V.int) (ns.map PyData.int)
  | [] => .nil
  | n :: ns => .cons (.int n) (DpAll.ofInts ns)
theorem start_reads {K : PySem.W.Frag} (vs : List V) (H : Hp) (Q : VK) (E : XK) (h : spStart K vs H Q E) : tStart K { nx := fun _ H' => Q .non H', rt := Q } (L2.start ["script"] vs) H := by
  obtain ⟨a, ns, rfl, hS, hl, q⟩ := h
  have two : 2 ≤ sizeLine := by decide
  refine ⟨.ref a, rfl, (show 0 ≤ sizeLine from Nat.zero_le _), fun p np => ?_⟩
  have x0 : Ex H (upd H p (.lst [])) := Ex.new np
  refine ⟨.list (ns.map PyData.int), .list [], .lst (SqL.ex x0 hS) (DpAll.ofInts ns), .lst (SqL.of upd_same) .nil, shaped_ints ns, shaped_ints [], _, rfl, ?_⟩
  rw [ne_nil_ints]
  refine ite2 (fun hc => ?_) (fun hc => ?_)
  · have hne : ns ≠ [] := of_decide_eq_true hc
    refine ⟨.ref a, rfl, a, _, rfl, .inl (SqL.ex x0 hS), fun l nl => ?_⟩
    have x1 := x0.trans (Ex.new (o := .lst (ns.map V.int)) nl)
    refine ⟨two, fun d nd => ?_⟩
    have x2 := x1.trans (Ex.new (o := .lst [.ref l, .int 0]) nd)
    have ne : d ≠ l := fun z => by
      subst z
      rw [upd_same] at nd
      cases nd
    refine q d l _ x2 (x1.free nd) (x0.free nl) ⟨ne, 0, ns, upd_same, ?_, hne, by omega⟩
    rw [upd_ne (Ne.symm ne), upd_same]
  · refine ⟨(show 1 ≤ sizeLine by decide), fun l nl => ?_⟩
    have x1 := x0.trans (Ex.new (o := .lst [.int 0]) nl)
    refine ⟨two, fun d nd => ?_⟩
    have x2 := x1.trans (Ex.new (o := .lst [.ref l, .int 0]) nd)
    have ne : d ≠ l := fun z => by
      subst z
      rw [upd_same] at nd
      cases nd
    refine q d l _ x2 (x1.free nd) (x0.free nl) ⟨ne, 0, [0], upd_same, ?_, by simp, by simp⟩
    rw [upd_ne (Ne.symm ne), upd_same]
    rfl
def tPick (K : PySem.W.Frag) : TS := tRet (tOp (rIxL K) (tVar 1) (tCall spDraw [] E0 (tCons (tVar 0) (tCons (tCB (fun xs H Q => ∃ p ys, xs = [.ref p] ∧ (SqL K H p ys ∨ SqT K H p ys) ∧ Q (.int ys.length) H) (tCons (tVar 1) tNil)) tNil))))
theorem pick_reads {K : PySem.W.Frag} (vs : List V) (H : Hp) (Q : VK) (E : XK) (h : spPick vs H Q E) : tPick K { nx := fun _ H' => Q .non H', rt := Q } (L2.start ["draws", "choices"] vs) H := by
  obtain ⟨ad, an, b, xs, rfl, d, hb, n1, n2, hx, hl, q⟩ := h
  have hpos : 0 < xs.length := List.length_pos_iff.mpr hx
  refine ⟨.ref b, rfl, .ref ad, rfl, .ref b, rfl, b, xs, rfl, .inl (SqL.of hb), ad, an, _, rfl, d, (show (0 : Int) < xs.length by omega), (show (xs.length : Int) < 1073741824 by omega), fun r H' r1 r2 x d' => ?_⟩
  have hlt : r.toNat < xs.length := by omega
  refine ⟨b, xs, r, xs[r.toNat], rfl, rfl, SqL.of (x _ _ hb n1 n2), ?_, q _ H' (List.getElem_mem hlt) x d'⟩
  unfold atI ixN
  rw [if_pos r1, if_pos r2]
  exact List.getElem?_eq_getElem hlt
def tRank (K : PySem.W.Frag) : TS :=
  tSeq (tAsg (tLstRg (tRg2 (tC (.int 1)) (tOp (rI0 fun i j => .int (i + j)) (tVar 1) (tC (.int 1))))) (gName 2))
  (tSeq (tAsg (tLst tNil) (gName 3))
  (tSeq (tWhile (tTest (tOp (rNeD K) (tVar 2) (tLst tNil)))
    (tSeq (tAsg (tIf (tTest (tOp rEq (tCall spDraw [] E0 (tCons (tVar 0) (tCons (tC (.int 3)) tNil))) (tC (.int 0)))) (tOp (rIxL K) (tVar 2) (tC (.int 0))) (tCall spPick [] E0 (tCons (tVar 0) (tCons (tVar 2) tNil)))) (gName 4))
    (tSeq (tDrop (tBM K "list" rRemI (tVar 2) (tCons (tVar 4) tNil)))
    (tDrop (tBM K "list" rAppend (tVar 3) (tCons (tVar 4) tNil))))))
  (tRet (tVar 3))))
theorem rgV_ints (n : Int) (h : 0 ≤ n) : rgV 1 (n + 1) = (intR n).map V.int := by
  unfold rgV intR
  rw [List.map_map, show n + 1 - 1 = n by omega]
  rfl
theorem remove_at {l : List Int} {k : Int} (h : k ∈ l) : ∃ j, l[j]? = some k ∧ (∀ m, m < j → l[m]? ≠ some k) ∧ (l.eraseIdx j ++ [k]).Perm l ∧ (l.eraseIdx j).length + 1 = l.length := by
  induction l with
  | nil => simp at h
  | cons x l ih =>
    by_cases e : x = k
    · subst e
      exact ⟨0, rfl, fun m hm => by omega, by simpa using (List.perm_append_singleton x l), by simp⟩
    · have hk : k ∈ l := by
        rcases List.mem_cons.mp h with z | z
        · exact absurd z.symm e
        · exact z
      obtain ⟨j, h1, h2, h3, h4⟩ := ih hk
      refine ⟨j + 1, by simpa using h1, fun m hm => ?_, by simpa using h3.cons x, by simp; omega⟩
      cases m with
      | zero => simpa using e
      | succ m => simpa using h2 m (by omega)
theorem rank_reads {K : PySem.W.Frag} (vs : List V) (H : Hp) (Q : VK) (E : XK) (h : spRank vs H Q E) : tRank K { nx := fun _ H' => Q .non H', rt := Q } (L2.start ["draws", "size", "left", "found", "rank"] vs) H := by
  obtain ⟨ad, an, n, rfl, d, n0, n1, q⟩ := h
  have hsz : ∀ l : List Int, l.length ≤ 1000 → l.length < sizeLine := fun l hl => small1000 hl
  have hil : (intR n).length = n.toNat := by unfold intR; simp
  refine ⟨_, rfl, n, 1, rfl, rfl, 1, n + 1, rfl, rfl, ⟨by omega, by omega, by omega, by omega, by omega⟩, fun pl npl => ?_⟩
  refine ⟨(show 0 ≤ sizeLine from Nat.zero_le _), fun pf npf => ?_⟩
  have x1 : Ex H (upd H pl (.lst (rgV 1 (n + 1)))) := Ex.new npl
  have x2 := x1.trans (Ex.new (o := .lst []) npf)
  have nlf : pf ≠ pl := fun z => by
    subst z
    rw [upd_same] at npf
    cases npf
  have nf0 : H pf = none := x1.free npf
  have dn : ∀ H', DrSt H' ad an → H' ad ≠ none ∧ H' an ≠ none := fun H' d => by
    obtain ⟨_, c, nums, g1, g2, _⟩ := d
    exact ⟨by rw [g1]; simp, by rw [g2]; simp⟩
  have nla : pl ≠ ad := fun z => (dn H d).1 (z ▸ npl)
  have nln : pl ≠ an := fun z => (dn H d).2 (z ▸ npl)
  have nfa : pf ≠ ad := fun z => (dn H d).1 (z ▸ nf0)
  have nfn : pf ≠ an := fun z => (dn H d).2 (z ▸ nf0)
  refine ⟨fun m σ H' => ∃ (lft fnd : List Int) (y4 : Option V), m = lft.length ∧ σ = [some (.ref ad), some (.int n), some (.ref pl), some (.ref pf), y4] ∧ H' pl = some (.lst (lft.map V.int)) ∧ H' pf = some (.lst (fnd.map V.int)) ∧ (fnd ++ lft).Perm (intR n) ∧ DrSt H' ad an ∧ DrEx ad an H H',
    ⟨(intR n).length, intR n, [], none, rfl, rfl, ?_, ?_, List.Perm.refl _, d.mono (x2 _) (x2 _), DrEx.of x2⟩, ?_⟩
  · rw [upd_ne (Ne.symm nlf), upd_same, rgV_ints n n0]
  · rw [upd_same]; rfl
  · rintro m σ H' ⟨lft, fnd, y4, rfl, rfl, hl, hf, hp, dd, xx⟩
    refine ⟨.ref pl, rfl, (show 0 ≤ sizeLine from Nat.zero_le _), fun p np => ?_⟩
    have xp : Ex H' (upd H' p (.lst [])) := Ex.new np
    refine ⟨.list (lft.map PyData.int), .list [], .lst (SqL.of (xp _ _ hl)) (DpAll.ofInts lft), .lst (SqL.of upd_same) .nil, shaped_ints lft, shaped_ints [], _, rfl, ?_⟩
    rw [ne_nil_ints]
    refine ite2 (fun hc => ?_) (fun hc => ?_)
    · have hne : lft ≠ [] := of_decide_eq_true hc
      refine ⟨fun σ' H3 => ∃ m', m' < lft.length ∧ ∃ (lft fnd : List Int) (y4 : Option V), m' = lft.length ∧ σ' = [some (.ref ad), some (.int n), some (.ref pl), some (.ref pf), y4] ∧ H3 pl = some (.lst (lft.map V.int)) ∧ H3 pf = some (.lst (fnd.map V.int)) ∧ (fnd ++ lft).Perm (intR n) ∧ DrSt H3 ad an ∧ DrEx ad an H H3, fun σ' H3 h => h, ?_⟩
      have key : ∀ (r : Int) (H3 : Hp), r ∈ lft → DrEx ad an H' H3 → DrSt H3 ad an → tSeq (tDrop (tBM K "list" rRemI (tVar 2) (tCons (tVar 4) tNil))) (tDrop (tBM K "list" rAppend (tVar 3) (tCons (tVar 4) tNil)))
          { nx := fun σ' H3 => ∃ m', m' < lft.length ∧ ∃ (lft fnd : List Int) (y4 : Option V), m' = lft.length ∧ σ' = [some (.ref ad), some (.int n), some (.ref pl), some (.ref pf), y4] ∧ H3 pl = some (.lst (lft.map V.int)) ∧ H3 pf = some (.lst (fnd.map V.int)) ∧ (fnd ++ lft).Perm (intR n) ∧ DrSt H3 ad an ∧ DrEx ad an H H3, rt := Q, bk := tRet (tVar 3) { nx := fun _ H' => Q .non H', rt := Q }, ct := fun σ' H3 => ∃ m', m' < lft.length ∧ ∃ (lft fnd : List Int) (y4 : Option V), m' = lft.length ∧ σ' = [some (.ref ad), some (.int n), some (.ref pl), some (.ref pf), y4] ∧ H3 pl = some (.lst (lft.map V.int)) ∧ H3 pf = some (.lst (fnd.map V.int)) ∧ (fnd ++ lft).Perm (intR n) ∧ DrSt H3 ad an ∧ DrEx ad an H H3 }
          [some (.ref ad), some (.int n), some (.ref pl), some (.ref pf), some (.int r)] H3 := by
        intro r H3 hr x3 d3
        obtain ⟨j, j1, j2, j3, j4⟩ := remove_at hr
        have hl3 := x3 _ _ hl nla nln
        have hf3 := x3 _ _ hf nfa nfn
        have hfl : fnd.length + lft.length = (intR n).length := by rw [← List.length_append]; exact hp.length_eq
        refine ⟨.ref pl, rfl, Or.inl ⟨rfl, _, SqL.of hl3⟩, .int r, rfl, pl, lft, r, j, rfl, rfl, hl3, j1, j2, ?_⟩
        have hf4 : (upd H3 pl (.lst ((lft.eraseIdx j).map V.int))) pf = some (.lst (fnd.map V.int)) := by rw [upd_ne nlf]; exact hf3
        refine ⟨.ref pf, rfl, Or.inl ⟨rfl, _, SqL.of hf4⟩, .int r, rfl, pf, fnd.map V.int, .int r, rfl, rfl, hf4, by rw [List.length_map]; exact hsz fnd (by omega), ?_⟩
        refine ⟨(lft.eraseIdx j).length, by omega, lft.eraseIdx j, fnd ++ [r], _, rfl, rfl, ?_, ?_, ?_, ?_, ?_⟩
        · rw [upd_ne (Ne.symm nlf), upd_same]
        · rw [upd_same, List.map_append]; rfl
        · refine List.Perm.trans ?_ hp
          rw [List.append_assoc]
          refine List.Perm.append_left fnd ?_
          refine List.Perm.trans ?_ j3
          exact List.perm_append_comm
        · exact d3.mono (fun o e => by rw [upd_ne (Ne.symm nfa), upd_ne (Ne.symm nla)]; exact e) (fun o e => by rw [upd_ne (Ne.symm nfn), upd_ne (Ne.symm nln)]; exact e)
        · intro a o e m1 m2
          rw [upd_ne (ne_of_none e nf0), upd_ne (ne_of_none e npl)]
          exact (xx.trans x3) a o e m1 m2
      have dp : DrSt (upd H' p (.lst [])) ad an := dd.mono (xp _) (xp _)
      refine ⟨.ref ad, rfl, ad, an, 3, rfl, dp, by decide, by decide, fun r H3 r1 r2 x3 d3 => ⟨rfl, _, rfl, ite2 (fun hc => ?_) (fun hc => ?_)⟩⟩
      · have x4 : DrEx ad an H' H3 := (DrEx.of xp).trans x3
        obtain ⟨l0, lr, rfl⟩ : ∃ l0 lr, lft = l0 :: lr := by
          cases lft with
          | nil => exact absurd rfl hne
          | cons z r => exact ⟨z, r, rfl⟩
        exact ⟨.ref pl, rfl, pl, _, 0, .int l0, rfl, rfl, SqL.of (x4 _ _ hl nla nln), by unfold atI ixN; simp, key l0 H3 (by simp) x4 d3⟩
      · have x4 : DrEx ad an H' H3 := (DrEx.of xp).trans x3
        have hlen : lft.length ≤ 1000 := by
          have := hp.length_eq
          rw [List.length_append] at this
          omega
        refine ⟨.ref ad, rfl, .ref pl, rfl, ad, an, pl, lft.map V.int, rfl, d3, x4 _ _ hl nla nln, nla, nln, by simpa using hne, by rw [List.length_map]; omega, fun v H4 hv x5 d5 => ?_⟩
        obtain ⟨r', hr', rfl⟩ := List.mem_map.mp hv
        exact key r' H4 hr' (x4.trans x5) d5
    · have he : lft = [] := by
        cases lft with
        | nil => rfl
        | cons z r => exact absurd (decide_eq_true (by simp)) hc
      subst he
      rw [List.append_nil] at hp
      exact ⟨.ref pf, rfl, q fnd pf _ hp (xx.trans (DrEx.of xp)) (dd.mono (xp _) (xp _)) nf0 (xp _ _ hf)⟩
end DL
namespace DL
open PySem L2
variable [SC]
def isCell (sc : Scope) (x : Str) : Bool := match sc.names.lookup x with
  | some .cell => true
  | _ => false
theorem swaps_cell {sc : Scope} {env : Env} {x : Str} {npos ppos : Pos} {l : Nat} {elt : Expr} {gs : List Comprehension} {scope : Scope} (he : env.scope = sc) (h : isCell sc x = true) : swapsWith (.ListComp elt gs scope ppos) (some (.Name x npos)) l env = pure false := by
  have hk : env.kindOf x = some .cell := by
    unfold Env.kindOf
    rw [he]
    unfold isCell at h
    split at h <;> simp_all
  unfold swapsWith
  simp only [hk]
  have : ((some NameKind.cell : Option NameKind) == some NameKind.local) = false := by decide
  rw [this, Bool.and_false, Bool.false_and, Bool.false_and]
section
variable {ι : Type} {cv : Nat → Value} {W : WX} {fr : RM} {Xs : ι → Cx} {P : Program} {w : World} {K : PySem.W.Frag} {mg : Str → Option Value} {base : Heap} {N : List Str} {sc : Scope} {fnn : Str → Bool} {k : Nat} {elt : Expr} {gs : List Comprehension} {scope : Scope} {f : En → Rs D} {we : WE} {pos ppos npos : Pos} {x : Str}
theorem s_setC (Fm : Fam Xs P w K mg base N sc fnn k) (i : Nat) (h : EE cv W Xs (.ListComp elt gs scope ppos) f) (hN : N[i]? = some x := by rfl) (hx : stB fnn sc x = true := by decide +kernel) (hc : isCell sc x = true := by decide +kernel) :
    SS cv W fr Xs (.Assign [.Name x npos] (.ListComp elt gs scope ppos) pos) (sSet i f) := by
  obtain ⟨t, h1, h2⟩ := h
  exact ⟨_, fun j => ps_set (Fm.ndj j) (Fm.at hN j) (Fm.loc hx j) (h1 j) (swaps_cell (Fm.scp j) hc) (Fm.hf hx j), snd_set h2⟩
theorem s_ownC (Fm : Fam Xs P w K mg base N sc fnn k) (i : Nat) (h : EF cv W Xs (.ListComp elt gs scope ppos) f) (hN : N[i]? = some x := by rfl) (hx : stB fnn sc x = true := by decide +kernel) (hc : isCell sc x = true := by decide +kernel) :
    SS cv W fr Xs (.Assign [.Name x npos] (.ListComp elt gs scope ppos) pos) (sOwn i f) := by
  obtain ⟨t, h1, h2⟩ := h
  exact ⟨_, fun j => ps_set (Fm.ndj j) (Fm.at hN j) (Fm.loc hx j) (h1 j) (swaps_cell (Fm.scp j) hc) (Fm.hf hx j), snd_own h2⟩
theorem ws_setCell (Fm : Fam Xs P w K mg base N sc fnn k) (i : Nat) (h : EWE Xs (.ListComp elt gs scope ppos) we) (hN : N[i]? = some x := by rfl) (hx : stB fnn sc x = true := by decide +kernel) (hc : isCell sc x = true := by decide +kernel) :
    WSt Xs (.Assign [.Name x npos] (.ListComp elt gs scope ppos) pos) (wSet i we) := ws_setC Fm i h hN hx fun j => swaps_cell (Fm.scp j) hc
end
end DL

namespace DL
open PySem L2
variable [SC]
/-! ### xs[::-1], the order of lists of ints -/
section
variable {ι : Type} {cv : Nat → Value} {W : WX} {Xs : ι → Cx} {P : Program} {w : World} {K : PySem.W.Frag} {mg : Str → Option Value} {base : Heap} {N : List Str} {sc : Scope} {fnn : Str → Bool} {k : Nat} {e a b : Expr} {f fa fb : En → Rs D} {pos : Pos}
theorem DqAll.reverse {H : Hp} : ∀ {vs : List V} {ds : List D}, DqAll H vs ds → DqAll H vs.reverse ds.reverse
  | _, _, .nil => .nil
  | _, _, .cons h t => by
    rw [List.reverse_cons, List.reverse_cons]
    exact (DqAll.reverse t).append (.cons h .nil)
def dRev : D → Rs D
  | .list ds => .ok (.list ds.reverse)
  | _ => .no
theorem f_rev (F : Fam Xs P w K mg base N sc fnn k) {kk : Nat} {p1 p2 p3 : Pos} (h : EB cv W Xs e f) : EF cv W Xs (.Subscript e (.Slice none none (some (.UnaryOp .USub (.Constant (.int 1) kk p1) p2)) p3) pos) (ap1 dRev f) := by
  obtain ⟨t, h1, h2⟩ := h
  refine ⟨tRevL K t, fun j => by have := pe_revL (k := kk) (p1 := p1) (p2 := p2) (p3 := p3) (pos := pos) (h1 j); rw [F.kk j] at this; exact this, fun O σ ρ H Q R p => h2 O σ ρ H _ R ?_⟩
  unfold ap1 at p
  cases ea : f ρ with
  | no => rw [ea] at p; exact p
  | er c => rw [ea] at p; exact p
  | ok d =>
    rw [ea, Rs.bind_ok] at p
    intro v H1 x1 q1
    unfold dRev at p
    split at p
    · obtain ⟨l, ws, rfl, h3, h4⟩ := q1.list
      exact ⟨l, ws, rfl, SqL.of h3, fun q hq => p q _ _ _ rfl (x1.trans (Ex.new hq)) (x1.free hq) upd_same (h4.reverse.mono (hide_new hq))⟩
    · exact p.elim
theorem e_rev (F : Fam Xs P w K mg base N sc fnn k) {kk : Nat} {p1 p2 p3 : Pos} (h : EB cv W Xs e f) : EE cv W Xs (.Subscript e (.Slice none none (some (.UnaryOp .USub (.Constant (.int 1) kk p1) p2)) p3) pos) (ap1 dRev f) := (f_rev F h).e
def lexI : List Int → List Int → Bool
  | [], [] => false
  | [], _ :: _ => true
  | _ :: _, [] => false
  | x :: r, y :: s => if x = y then lexI r s else decide (x < y)
open PySem.SeqAt in
theorem firstLt_lex : ∀ (ns ms : List Int) (k : Nat) (e r : Nat → Bool), (∀ j, j < ns.length → j < ms.length → e (k + j) = decide (ns.getD j 0 = ms.getD j 0)) → (∀ j, j < ns.length → j < ms.length → r (k + j) = decide (ns.getD j 0 < ms.getD j 0)) →
    firstLt e r (decide (ns.length < ms.length)) ((List.range (min ns.length ms.length)).map (k + ·)) = lexI ns ms
  | [], [], k, e, r, _, _ => rfl
  | [], y :: s, k, e, r, _, _ => by simp [firstLt, lexI]
  | x :: t, [], k, e, r, _, _ => by simp [firstLt, lexI]
  | x :: t, y :: s, k, e, r, he, hr => by
    have e0 := he 0 (by simp) (by simp)
    have r0 := hr 0 (by simp) (by simp)
    simp only [Nat.add_zero, List.getD_cons_zero] at e0 r0
    have ih := firstLt_lex t s (k + 1) e r (fun j h1 h2 => by
      have := he (j + 1) (by simpa using h1) (by simpa using h2)
      rw [show k + (j + 1) = k + 1 + j by omega] at this
      simpa using this) (fun j h1 h2 => by
      have := hr (j + 1) (by simpa using h1) (by simpa using h2)
      rw [show k + (j + 1) = k + 1 + j by omega] at this
      simpa using this)
    have hm : min (x :: t).length (y :: s).length = min t.length s.length + 1 := by simp
    rw [hm, List.range_succ_eq_map, List.map_cons, List.map_map]
    unfold firstLt lexI
    rw [Nat.add_zero, e0, r0]
    by_cases h : x = y
    · rw [if_pos h, if_pos (decide_eq_true h)]
      rw [← ih]
      have : (fun x => k + x) ∘ Nat.succ = fun x => k + 1 + x := by
        funext z
        show k + (z + 1) = k + 1 + z
        omega
      rw [this]
      simp
    · rw [if_neg h, if_neg (by simpa using h)]
open PySem.SeqAt in
def rLtLI (K : PySem.W.Frag) : R2 := fun x y H Q => ∃ a b ns ms, x = .ref a ∧ y = .ref b ∧ SqL K H a (ns.map V.int) ∧ SqL K H b (ms.map V.int) ∧ Q (.bl (lexI ns ms)) H
theorem vals_int {ns : List Int} {its : List Value} (h : Vals (ns.map V.int) its) : ∀ j (h1 : j < its.toArray.size), ∃ t, its.toArray[j] = .int (ns.getD j 0) t := by
  intro j h1
  have hl := h.length
  rw [List.length_map] at hl
  have h1' : j < its.length := by simpa using h1
  have hj : j < ns.length := by omega
  obtain ⟨u, e1, e2⟩ := h.get (i := j) (x := .int (ns.getD j 0)) (by rw [List.getElem?_map, List.getElem?_eq_getElem hj, List.getD_eq_getElem?_getD, List.getElem?_eq_getElem hj]; rfl)
  obtain ⟨t, rfl⟩ := e2
  refine ⟨t, ?_⟩
  rw [List.getElem?_eq_getElem h1'] at e1
  simpa using Option.some.inj e1
open PySem.SeqAt in
theorem op_ltLI {X : Cx} (hu : X.A.units < cLine) : OpR X (compareOp .Lt) (rLtLI X.K) := by
  intro pins s σ H x y v u Q I rx ry h
  obtain ⟨a, b, ns, ms, rfl, rfl, ha, hb, q⟩ := h
  cases rx
  cases ry
  obtain ⟨its, r1, pl1, _⟩ := I.list ha
  obtain ⟨its2, r2, pl2, _⟩ := I.list hb
  have l1 := r1.length
  have l2 := r2.length
  rw [List.length_map] at l1 l2
  have key := RcLt.lists (A := X.A) (e := fun j => decide (ns.getD j 0 = ms.getD j 0)) (r := fun j => decide (ns.getD j 0 < ms.getD j 0)) pl1.isList pl2.isList hu
    (fun j h1 h2 => by
      obtain ⟨t, e1⟩ := vals_int r1 j h1
      obtain ⟨t', e2⟩ := vals_int r2 j h2
      rw [e1, e2]
      intro prog w E Q h
      exact wpAny_eqBool_int (by
        have : (ns.getD j 0 == ms.getD j 0) = decide (ns.getD j 0 = ms.getD j 0) := rfl
        rw [this]; exact h))
    (fun j h1 h2 _ => by
      obtain ⟨t, e1⟩ := vals_int r1 j h1
      obtain ⟨t', e2⟩ := vals_int r2 j h2
      rw [e1, e2]
      intro prog w E Q h
      exact PyProof.Rows.lt_int h)
  have fin := firstLt_lex ns ms 0 (fun j => decide (ns.getD j 0 = ms.getD j 0)) (fun j => decide (ns.getD j 0 < ms.getD j 0)) (fun j _ _ => by simp) (fun j _ _ => by simp)
  simp only [Nat.zero_add, List.map_id'] at fin
  have e3 : (decide (its.toArray.size < its2.toArray.size)) = decide (ns.length < ms.length) := by simp [l1, l2]
  have e4 : min its.toArray.size its2.toArray.size = min ns.length ms.length := by simp [l1, l2]
  rw [e3, e4, fin] at key
  exact key X.prog X.w X.xe _ ⟨.bl _, H, I, rfl, q⟩
def dLtL : D → D → Rs D
  | .list xs, .list ys => match intsOf xs, intsOf ys with
    | some ns, some ms => .ok (.bool (lexI ns ms))
    | _, _ => .no
  | _, _ => .no
theorem noer_ltL : Noer dLtL := fun x y c => by unfold dLtL; split <;> (try split) <;> simp
theorem ope_ltL : OpE (rLtLI K) dLtL := by
  intro O x y H Q d e od hx hy p
  unfold dLtL at p
  split at p
  · split at p
    · rename_i ns ms h1 h2
      have e1 := intsOf_eq h1
      have e2 := intsOf_eq h2
      subst e1 e2
      obtain ⟨l, ws, rfl, h3, h4⟩ := hx.list
      obtain ⟨l', ws', rfl, h3', h4'⟩ := hy.list
      have e := h4.ints
      have e' := h4'.ints
      subst e e'
      exact ⟨l, l', ns, ms, rfl, rfl, SqL.of h3, SqL.of h3', p _ H (Ex.refl H) (.bl _)⟩
    · exact p.elim
  · exact p.elim
theorem e_ltL (F : Fam Xs P w K mg base N sc fnn k) (ha : EB cv W Xs a fa) (hb : EB cv W Xs b fb) : EE cv W Xs (.Compare a [.Lt] [b] pos) (ap2 dLtL fa fb) :=
  e_cmpR (fun j => by have h := op_ltLI (X := Xs j) (F.units0 j); rw [F.kk j] at h; exact h) ope_ltL noer_ltL (nomark _) ha hb
theorem t_ltL (F : Fam Xs P w K mg base N sc fnn k) (ha : EB cv W Xs a fa) (hb : EB cv W Xs b fb) : ET cv W Xs (.Compare a [.Lt] [b] pos) (tVal (ap2 dLtL fa fb)) :=
  t_cmpR (fun j => by have h := op_ltLI (X := Xs j) (F.units0 j); rw [F.kk j] at h; exact h) ope_ltL noer_ltL (nomark _) ha hb
end
end DL

namespace DL
open PySem L2 PySem.W
variable [SC]
/-! ### min of a list of lists of ints -/
def rowD (r : List Int) : D := .list (r.map .int)
def minRow (r : List Int) (rs : List (List Int)) : List Int := rs.foldl (fun a y => if lexI y a = true then y else a) r
theorem lexI_lt : ∀ a b : List Int, lexI a b = decide (a < b)
  | [], [] => by simp [lexI]
  | [], _ :: _ => by simp [lexI]
  | _ :: _, [] => by simp [lexI]
  | x :: a, y :: b => by
    unfold lexI
    rw [lexI_lt a b]
    by_cases e : x = y
    · subst e
      rw [if_pos rfl, decide_eq_decide, List.cons_lt_cons_iff]
      simp
    · rw [if_neg e, decide_eq_decide, List.cons_lt_cons_iff]
      simp [e]
theorem rowD_lt (a b : List Int) : dataLt (rowD a) (rowD b) = lexI a b := by
  rw [lexI_lt]
  exact dataLt_ints a b
theorem minRow_data : ∀ (rs : List (List Int)) (r : List Int), minD (rowD r) (rs.map rowD) = rowD (minRow r rs)
  | [], r => rfl
  | y :: rs, r => by
    show minD (if dataLt (rowD y) (rowD r) = true then rowD y else rowD r) (rs.map rowD) = rowD (minRow (if lexI y r = true then y else r) rs)
    rw [rowD_lt]
    by_cases h : lexI y r = true
    · rw [if_pos h, if_pos h]; exact minRow_data rs y
    · rw [if_neg h, if_neg h]; exact minRow_data rs r
theorem rows_depth : ∀ rs : List (List Int), PyData.depthAll (rs.map rowD) ≤ 1
  | [] => by simp [PyData.depthAll]
  | r :: rs => by
    have := rows_depth rs
    have h0 := depth_ints r
    simp only [List.map_cons, PyData.depthAll, rowD, PyData.depth, h0]
    exact Nat.max_le.mpr ⟨by omega, this⟩
theorem rows_alike (rs : List (List Int)) : AlikeAll (rs.map rowD) := by
  constructor
  · intro x hx y hy
    obtain ⟨a, _, rfl⟩ := List.mem_map.mp hx
    obtain ⟨b, _, rfl⟩ := List.mem_map.mp hy
    show alikeAll _ _ = true
    exact alike_ints a b
  · intro x hx
    obtain ⟨a, _, rfl⟩ := List.mem_map.mp hx
    simp [rowD]
def rMinRows (K : PySem.W.Frag) : List V → Hp → VK → Prop := fun vs H Q => ∃ (a : Addr) (ws : List V) (r : List Int) (rs : List (List Int)), vs = [V.ref a] ∧ SqL K H a ws ∧ DpAll K H ws ((r :: rs).map rowD) ∧ ∀ (i : Nat) (w : V), ws[i]? = some w → ((r :: rs).map rowD)[i]? = some (rowD (minRow r rs)) → Q w H
theorem cr_minRows {X : Cx} (hc : X.calm = true) (hu : X.A.units + 64 < cLine) : CallR X (.builtin "min") (rMinRows X.K) := by
  intro pins s σ H vs us Q I r h
  obtain ⟨a, ws, r0, rs, rfl, hs, hd, q⟩ := h
  rw [Vals.ref1 r]
  obtain ⟨its, rv, hl, _⟩ := I.list hs
  obtain ⟨as, h4⟩ := Dp.readsAll I _ _ its hd rv
  have dp := rows_depth (r0 :: rs)
  refine min_list_data (vs := its.toArray) (x := rowD r0) (xs := rs.map rowD) (I.ok.hd hc) hl.isList (by simpa using h4) (rows_alike (r0 :: rs)) (by
    have : PyData.depthAll (rowD r0 :: rs.map rowD) ≤ 1 := dp
    omega) fun i v h' tk bs hv hr hk => ?_
  have hv' : its[i]? = some v := by simpa using hv
  obtain ⟨bs', r1, h5, _, _⟩ := readsAll_at (i := i) h4 v hv'
  have e := (PyProof.Rows.reads_det (fun b o hb _ => hk b o hb) r1 hr).1
  rw [minRow_data] at e
  have hi : i < ws.length := by
    rw [rv.length]
    rcases Nat.lt_or_ge i its.length with z | z
    · exact z
    · rw [List.getElem?_eq_none z] at hv'; exact absurd hv' (by simp)
  have hw : ws[i]? = some ws[i] := List.getElem?_eq_getElem hi
  obtain ⟨u, e1, e2⟩ := rv.get hw
  rw [hv'] at e1
  cases e1
  refine ⟨ws[i], H, I.kept hk, e2, q i _ hw ?_⟩
  rw [e, List.getD_eq_getElem?_getD, List.getElem?_eq_getElem h5]
  rfl
def rowOf : D → Option (List Int)
  | .list ds => intsOf ds
  | _ => none
def rowsOf : List D → Option (List (List Int))
  | [] => some []
  | d :: ds => (rowOf d).bind fun r => (rowsOf ds).bind fun rs => some (r :: rs)
theorem rowsOf_eq : ∀ {ds : List D} {rs : List (List Int)}, rowsOf ds = some rs → ds = rs.map rowD
  | [], _, h => by cases h; rfl
  | d :: ds, rs, h => by
    unfold rowsOf at h
    cases hd : rowOf d with
    | none => rw [hd] at h; cases h
    | some r =>
      rw [hd] at h
      cases ht : rowsOf ds with
      | none => rw [ht] at h; cases h
      | some rs' =>
        rw [ht] at h
        cases h
        rw [List.map_cons, rowsOf_eq ht]
        congr 1
        unfold rowOf at hd
        split at hd
        · rw [intsOf_eq hd]; rfl
        · cases hd
theorem rowsOf_map : ∀ rs : List (List Int), rowsOf (rs.map rowD) = some rs
  | [] => rfl
  | r :: rs => by
    show (intsOf (r.map PyData.int)).bind _ = _
    rw [intsOf_map]
    show (rowsOf (rs.map rowD)).bind _ = _
    rw [rowsOf_map rs]
    rfl
def dMinR : List D → Rs D
  | [.list ds] => match rowsOf ds with
    | some (r :: rs) => .ok (rowD (minRow r rs))
    | _ => .no
  | _ => .no
theorem noer_minR : Noer1 dMinR := fun x c => by unfold dMinR; split <;> (try split) <;> simp
theorem cle_minR {K : PySem.W.Frag} : ClE (rMinRows K) dMinR := by
  intro O vs H Q ds od q p
  unfold dMinR at p
  split at p
  · split at p
    · rename_i _ r rs h
      have e := rowsOf_eq h
      obtain ⟨v, rfl, qq⟩ := q.one
      obtain ⟨l, ws, rfl, h3, h4⟩ := qq.list
      rw [e] at h4
      refine ⟨l, ws, r, rs, rfl, SqL.of h3, (h4.mono hide_le).dp, fun i w hw hd => ?_⟩
      obtain ⟨d, e1, e2⟩ := h4.get' i hw
      rw [hd] at e1
      cases e1
      exact p w H (Ex.refl H) e2
    · exact p.elim
  · exact p.elim
section
variable {ι : Type} {cv : Nat → Value} {W : WX} {Xs : ι → Cx} {P : Program} {w : World} {K : PySem.W.Frag} {mg : Str → Option Value} {base : Heap} {N : List Str} {sc : Scope} {fnn : Str → Bool} {k : Nat} {e a b : Expr} {f fa fb : En → Rs D} {pos : Pos}
theorem e_minR (F : Fam Xs P w K mg base N sc fnn k) {p : Pos} (hm : mg "min" = none) (ha : EB cv W Xs a fa) (hg : glB sc "min" = true := by decide +kernel) (hs : ∀ env, starEach [a] env = (false, eval a env) :: starEach [] env := by intro _; rfl) :
    EE cv W Xs (.Call (.Name "min" p) [a] [] pos) (apL dMinR (fCons fa fNil)) :=
  e_callB F (fun j => by have h := cr_minRows (X := Xs j) (F.calm j) (F.units64 j); rw [F.kk j] at h; exact h) cle_minR noer_minR hm PyProof.Rows.boot_min (ab_one ha hs) hg (by decide) (by decide) hs (by intro _; rfl)
end
end DL

namespace DL
open PySem L2 PySem.W PySem.Spec PyProof.Rows
variable [SC]
/-! ### set(l), l a list of ints -/
abbrev emptyS (w : World) : Obj := { cls := .type "set", dict := none, data := .set #[] 0 (.fresh 0 0 (!w.params.followText "set-order")) }
section
variable {P : Program} {w : World} {A : Around} {E : Value → Shared → Prop} {s : Shared}
set_option maxHeartbeats 4000000 in
theorem set_of_list {a : Addr} {vs : Array Value} (is : List Int) {Q : Value → Shared → Prop} (hA : A.handled = none) (ha : s.heap.IsList a vs) (hv : IntsAre vs.toList is) (hsz : is.length + 1 < scanBound)
    (k : ∀ (g : Heap) (tk c : Nat), SetR w g s.heap.objs.size (fun j => decide (j ∈ is)) c → c ≤ is.length → (∀ b o, s.heap.get? b = some o → g.get? b = some o) → Q (.ref s.heap.objs.size) { s with heap := g, toks := tk }) : wpAny (model P w) A (call (.type "set") [.ref a]) Q E s := by
  have len : vs.size = is.length := by have z := hv.length; simpa using z
  obtain ⟨cc, tl, mro⟩ := F.called_set.mro
  have m1 := F.called_set.made
  have m2 := F.called_set.sub
  have m3 := F.called_set.notType
  have m4 := F.called_set.canCreate
  have m5 := F.typeCall_set_1 (.ref a)
  refine wpAny_call (codeAny_of_tree ?_)
  show wpAny _ _ (callAny (.type "set") _) _ _ _
  refine wpAny_pure ⟨Code.quiet_builtin _ (by decide +kernel), ?_⟩
  refine codeAny_builtin F.entry_type_call ?_
  rw [Around.under_plain (weight_type_call_type "set" [.ref a] [])
    rfl]
  repeat (any_goals (first | assumption | wp_step))
  refine codeAny_mono (code_set_led1 (.ref a) (E := E) (Q₁ := fun ob z => ob = .ref s.heap.objs.size ∧ z = { s with heap := s.heap.push (emptyS w) }) ⟨rfl, rfl⟩) fun r z hr => ?_
  cases r with
  | error e => exact hr
  | ok fl =>
    cases fl with
    | next => exact hr.elim
    | brk => exact hr.elim
    | cont => exact hr.elim
    | ret ob =>
      obtain ⟨rfl, rfl⟩ := hr
      have g0 : (s.heap.push (emptyS w)).get? s.heap.objs.size = some (emptyS w) := Heap.get?_push_size _ rfl
      have ty : Shared.TypeIs { s with heap := s.heap.push (emptyS w) } (.ref s.heap.objs.size) "set" := ⟨_, g0, rfl⟩
      have i1 := F.called_set.init.lookup
      have i2 := F.called_set.init.bind (.ref s.heap.objs.size)
      repeat (any_goals (first | assumption | wp_step))
      refine codeAny_mono (codeAny_call_builtin (R := wants (fun r z => r = .none ∧ ∃ g tk c, z = { s with heap := g, toks := tk } ∧ SetR w g s.heap.objs.size (fun j => decide (j ∈ is)) c ∧ c ≤ is.length ∧ ∀ b o, s.heap.get? b = some o → g.get? b = some o) E)
        F.called_set.init.plain F.entry_set_init (check_set_init_1 ty ?body)) fun r2 z2 hr2 => ?after
      case after =>
        cases r2 with
        | error e => exact hr2
        | ok f2 =>
          cases f2 with
          | next => exact hr2.elim
          | brk => exact hr2.elim
          | cont => exact hr2.elim
          | ret u =>
            obtain ⟨rfl, g, tk, c, rfl, R1, R2, R3⟩ := hr2
            repeat (any_goals (first | assumption | wp_step))
            exact k g tk c R1 R2 R3
      case body =>
        obtain ⟨ob, q0, q1, nn, q2⟩ := ha
        obtain ⟨b1, b2, b3, b4⟩ := ob
        dsimp only at q1 q2
        subst q1 q2
        have la : a < s.heap.objs.size := Heap.lt_size q0
        have q3 : (s.heap.push (emptyS w)).get? a = some ⟨.type "list", b2, .seq vs nn, b4⟩ := Heap.get?_push_of_some _ q0
        have l1 : (s.heap.push (emptyS w)).IsList a vs := ⟨_, q3, rfl, nn, rfl⟩
        have u1 := F.sub_list_set
        have u2 := F.sub_list_frozenset
        have u3 : (Value.type "list" == Value.type "dict") = false := rfl
        unfold Builtin.«set.__init__» noKeywords
        unfold Builtin.Frozenset.updateFrom
        generalize hp : pyIter = itF
        wp_walk
        subst hp
        refine wpAny_pyIter_list l1 (wpAny_bind (wpAny_runValue ?_))
        have h3 : A.in1.in1.in1.handled = none := by simp [hA]
        have sz : (s.heap.push (emptyS w)).objs.size = s.heap.objs.size + 1 := Heap.size_push ..
        have n1 : a ≠ (s.heap.push (emptyS w)).objs.size := by
          rw [sz]
          exact Nat.ne_of_lt (Nat.lt_succ_of_lt la)
        have n2 : s.heap.objs.size ∉ [(s.heap.push (emptyS w)).objs.size, a] := by
          rw [sz, List.mem_cons, List.mem_singleton]
          rintro (e | e)
          · exact Nat.ne_of_lt (Nat.lt_succ_self _) e
          · exact Nat.ne_of_gt la e
        refine set_update_ints ((Walks.list h3 _ a n1 vs).toS) s.heap.objs.size n2 is len hsz (fun i v e => ?_) (vs.size - 0) 0 _ (by omega) (Nat.zero_le _) ⟨⟨_, Heap.get?_push_size _ rfl, rfl, rfl⟩, l1.push _⟩ ⟨0, Nat.le_refl 0, setR_new_at (Heap.get?_push_of_some _ g0)⟩ fun z c mv hc R1 => ?_
        · have hi : i < is.length := by rw [← len]; exact (Array.getElem?_eq_some_iff.mp e).1
          obtain ⟨t, et⟩ := IntsAre.int_at hv i v (by rw [Array.getElem?_toList]; exact e)
          refine ⟨is[i], t, List.getElem?_eq_getElem hi, et.trans ?_⟩
          rw [List.getD_eq_getElem?_getD, List.getElem?_eq_getElem hi]
          rfl
        · obtain ⟨g, g2, d2, t2, o2⟩ := z
          have x1 : g2 = s.gens := mv.gens
          have x2 : d2 = s.drawn := mv.drawn
          have x3 : o2 = s.os := mv.os
          subst x1 x2 x3
          refine wpAny_pure ?_
          show wpAny _ _ (ret Value.none) _ _ _
          refine wpAny_pure ⟨rfl, g, t2, c, rfl, R1, by omega, fun b o e => ?_⟩
          have lb : b < s.heap.objs.size := Heap.lt_size e
          refine mv.heap b o ?_ (Heap.get?_push_of_some _ (Heap.get?_push_of_some _ e))
          rw [sz, List.mem_cons, List.mem_singleton]
          rintro (e' | e')
          · exact Nat.ne_of_lt lb e'
          · exact Nat.ne_of_lt (Nat.lt_succ_of_lt lb) e'
end
end DL

namespace DL
open PySem L2 PySem.W
variable [SC]
/-! ### sorted(set(l)), len(set(l)) -/
def insU (x : Int) : List Int → List Int
  | [] => [x]
  | y :: l => if x < y then x :: y :: l else if x = y then y :: l else y :: insU x l
def uniI : List Int → List Int
  | [] => []
  | x :: l => insU x (uniI l)
theorem mem_insU {z x : Int} : ∀ {l : List Int}, z ∈ insU x l ↔ z = x ∨ z ∈ l
  | [] => by simp [insU]
  | y :: l => by
    unfold insU
    split
    · simp
    · split
      · rename_i _ e
        subst e
        simp
      · rw [List.mem_cons, mem_insU, List.mem_cons]
        constructor
        · rintro (h | h | h)
          · exact .inr (.inl h)
          · exact .inl h
          · exact .inr (.inr h)
        · rintro (h | h | h)
          · exact .inr (.inl h)
          · exact .inl h
          · exact .inr (.inr h)
theorem insU_up {x : Int} : ∀ {l : List Int}, l.Pairwise (· < ·) → (insU x l).Pairwise (· < ·)
  | [], _ => by simp [insU]
  | y :: l, h => by
    rw [List.pairwise_cons] at h
    unfold insU
    split
    · rename_i c
      rw [List.pairwise_cons]
      refine ⟨fun z hz => ?_, List.pairwise_cons.mpr h⟩
      rcases List.mem_cons.mp hz with e | hz
      · rw [e]; exact c
      · have := h.1 z hz; omega
    · split
      · exact List.pairwise_cons.mpr h
      · rename_i c1 c2
        rw [List.pairwise_cons]
        refine ⟨fun z hz => ?_, insU_up h.2⟩
        rcases mem_insU.mp hz with e | hz
        · omega
        · exact h.1 z hz
theorem mem_uniI {z : Int} : ∀ {l : List Int}, z ∈ uniI l ↔ z ∈ l
  | [] => by simp [uniI]
  | x :: l => by
    unfold uniI
    rw [mem_insU, mem_uniI, List.mem_cons]
theorem uniI_up : ∀ l : List Int, (uniI l).Pairwise (· < ·)
  | [] => List.Pairwise.nil
  | x :: l => insU_up (uniI_up l)
theorem up_unique {a b : List Int} (ha : a.Pairwise (· < ·)) (hb : b.Pairwise (· < ·)) (h : ∀ z, z ∈ a ↔ z ∈ b) : a = b := by
  have na : a.Nodup := ha.imp fun h => by omega
  have nb : b.Nodup := hb.imp fun h => by omega
  have p : a.Perm b := (List.perm_ext_iff_of_nodup na nb).mpr h
  exact sorted_unique p (ha.imp fun h => by omega) (hb.imp fun h => by omega)
theorem setR_len {w : World} {h : Heap} {a : Addr} {is : List Int} {c : Nat} (R : SetR w h a (fun j => decide (j ∈ is)) c) : c = (uniI is).length := by
  obtain ⟨o, es, ep, t, _, _, _, _, nd, hm, _, _, hn, _⟩ := R
  have p : (es.toList.map keyOf).Perm (uniI is) := (List.perm_ext_iff_of_nodup nd ((uniI_up is).imp fun h => by omega)).mpr fun z => by
    rw [← hm z, decide_eq_true_iff, mem_uniI]
  have := p.length_eq
  rw [List.length_map, Array.length_toList] at this
  omega
def rSetL (K : PySem.W.Frag) (w : World) : List V → Hp → VK → Prop := fun vs H Q => ∃ (l : Addr) (ns : List Int), vs = [V.ref l] ∧ SqL K H l (ns.map V.int) ∧ ns.length ≤ 60 ∧ ∀ p, H p = none → Q (.ref p) (upd H p (SetO w p (fun j => decide (j ∈ ns)) (uniI ns).length))
theorem cr_setL {X : Cx} (hc : X.calm = true) : CallR X (.type "set") (rSetL X.K X.w) := by
  intro pins s σ H vs us Q I r h
  obtain ⟨l, ns, rfl, hs, hl, q⟩ := h
  rw [Vals.ref1 r]
  obtain ⟨its, rv, pl, _⟩ := I.list hs
  refine set_of_list (A := X.A) (vs := its.toArray) ns (I.ok.hd hc) pl.isList (by simpa using rv.ints) (by unfold scanBound; omega) fun g tk c R _ hk => ?_
  have e := setR_len R
  subst e
  exact ⟨.ref _, _, I.laid (t' := tk) hk (Nat.le_refl _) (setO_new R), rfl, q _ (I.hok.fresh (Nat.le_refl _))⟩
theorem uniI_le : ∀ l : List Int, (uniI l).length ≤ l.length
  | [] => Nat.le_refl _
  | x :: l => by
    have ih := uniI_le l
    have : ∀ (m : List Int), (insU x m).length ≤ m.length + 1 := by
      intro m
      induction m with
      | nil => simp [insU]
      | cons y m ih =>
        unfold insU
        split
        · simp
        · split
          · simp
          · simp; exact ih
    have := this (uniI l)
    unfold uniI
    rw [List.length_cons]
    omega
def rSLen (w : World) : List V → Hp → VK → Prop := fun vs H Q => ∃ (a : Addr) (S : Int → Bool) (n : Nat), vs = [V.ref a] ∧ H a = some (SetO w a S n) ∧ Q (.int n) H
theorem cr_sLen {X : Cx} : CallR X (.builtin "len") (rSLen X.w) := by
  intro pins s σ H vs us Q I r h
  obtain ⟨a, S, n, rfl, ha, q⟩ := h
  rw [Vals.ref1 r]
  obtain ⟨o, es, ep, t, ho, hex, hd, _, _, _, hb, hf, hn, _⟩ := setO_get I ha
  exact call_len_set ho hex hd hf (by unfold scanBound at hb; omega) ⟨.int n, H, I.tok _, ⟨_, by rw [hn]⟩, q⟩
def dSortSet : List D → Rs D
  | [.list ds] => match intsOf ds with
    | some ns => if ns.length ≤ 60 then .ok (.list ((uniI ns).map PyData.int)) else .no
    | none => .no
  | _ => .no
def dLenSet : List D → Rs D
  | [.list ds] => match intsOf ds with
    | some ns => if ns.length ≤ 60 then .ok (.int ((uniI ns).length : Nat)) else .no
    | none => .no
  | _ => .no
section
variable {ι : Type} {cv : Nat → Value} {W : WX} {Xs : ι → Cx} {P : Program} {w : World} {K : PySem.W.Frag} {mg : Str → Option Value} {base : Heap} {N : List Str} {sc : Scope} {fnn : Str → Bool} {k : Nat} {e a b : Expr} {f fa fb : En → Rs D} {pos p p2 q : Pos}
theorem f_sortSet (F : Fam Xs P w K mg base N sc fnn k) (hm : mg "sorted" = none) (hm2 : mg "set" = none) (ha : EB cv W Xs a fa) (hg : glB sc "sorted" = true := by decide +kernel) (hg2 : glB sc "set" = true := by decide +kernel) (hs : ∀ env, starEach [a] env = (false, eval a env) :: starEach [] env := by intro _; rfl) :
    EF cv W Xs (.Call (.Name "sorted" p) [.Call (.Name "set" p2) [a] [] q] [] pos) (apL dSortSet (fCons fa fNil)) := by
  obtain ⟨t, h1, h2⟩ := ab_one ha hs
  refine ⟨tCB (rSortedSet w) (tCons (tCB (rSetL K w) t) tNil), fun j => ?_, fun O σ ρ H Q R pp => ?_⟩
  · have c1 := cr_setL (X := Xs j) (F.calm j)
    rw [F.kk j, F.wd j] at c1
    have c2 := cr_sortedSet (X := Xs j) (F.calm j)
    rw [F.wd j] at c2
    exact pe_callB c2 (F.gl_ok hg j) (F.none hm j) PyProof.Rows.boot_sorted (pa_cons (pe_callTy c1 (F.gl_ok hg2 j) (F.none hm2 j) PyProof.Rows.boot_set (h1 j) (by decide) (by decide) (hs _) rfl) pa_nil) (by decide) (by decide) rfl rfl
  · refine h2 O σ ρ H _ R ?_
    unfold apL at pp
    cases ea : (fCons fa fNil) ρ with
    | no => rw [ea] at pp; exact pp
    | er c => rw [ea] at pp; exact pp
    | ok ds =>
      rw [ea, Rs.bind_ok] at pp
      intro vs H1 x1 q1
      unfold dSortSet at pp
      split at pp
      · split at pp
        · split at pp
          · rename_i _ ns hi hl
            have e := intsOf_eq hi
            subst e
            obtain ⟨v, rfl, qq⟩ := q1.one
            obtain ⟨l, ws, rfl, h3, h4⟩ := qq.list
            have e := h4.ints
            subst e
            have le := uniI_le ns
            refine ⟨l, ns, rfl, SqL.of h3, hl, fun p hp => ⟨p, _, _, rfl, upd_same, by omega, fun ms p' u1 u2 u3 hp' => ?_⟩⟩
            have e : ms = uniI ns := up_unique u1 (uniI_up ns) fun z => by rw [u2 z, decide_eq_true_iff, mem_uniI]
            subst e
            have np : H1 p' = none := (Ex.new hp).free hp'
            refine pp p' _ _ _ rfl (x1.trans ((Ex.new hp).trans (Ex.new hp'))) (x1.free np) upd_same ?_
            exact dq_ints _ _
          · exact pp.elim
        · exact pp.elim
      · exact pp.elim
where dq_ints (H : Hp) : ∀ ns : List Int, DqAll H (ns.map V.int) (ns.map PyData.int)
  | [] => .nil
  | n :: ns => .cons (.int n) (dq_ints H ns)
theorem e_lenSet (F : Fam Xs P w K mg base N sc fnn k) (hm : mg "len" = none) (hm2 : mg "set" = none) (ha : EB cv W Xs a fa) (hg : glB sc "len" = true := by decide +kernel) (hg2 : glB sc "set" = true := by decide +kernel) (hs : ∀ env, starEach [a] env = (false, eval a env) :: starEach [] env := by intro _; rfl) :
    EE cv W Xs (.Call (.Name "len" p) [.Call (.Name "set" p2) [a] [] q] [] pos) (apL dLenSet (fCons fa fNil)) := by
  obtain ⟨t, h1, h2⟩ := ab_one ha hs
  refine ⟨tCB (rSLen w) (tCons (tCB (rSetL K w) t) tNil), fun j => ?_, fun O σ ρ H Q R pp => ?_⟩
  · have c1 := cr_setL (X := Xs j) (F.calm j)
    rw [F.kk j, F.wd j] at c1
    have c2 := cr_sLen (X := Xs j)
    rw [F.wd j] at c2
    exact pe_callB c2 (F.gl_ok hg j) (F.none hm j) PySem.boot_len (pa_cons (pe_callTy c1 (F.gl_ok hg2 j) (F.none hm2 j) PyProof.Rows.boot_set (h1 j) (by decide) (by decide) (hs _) rfl) pa_nil) (by decide) (by decide) rfl rfl
  · refine h2 O σ ρ H _ R ?_
    unfold apL at pp
    cases ea : (fCons fa fNil) ρ with
    | no => rw [ea] at pp; exact pp
    | er c => rw [ea] at pp; exact pp
    | ok ds =>
      rw [ea, Rs.bind_ok] at pp
      intro vs H1 x1 q1
      unfold dLenSet at pp
      split at pp
      · split at pp
        · split at pp
          · rename_i _ ns hi hl
            have e := intsOf_eq hi
            subst e
            obtain ⟨v, rfl, qq⟩ := q1.one
            obtain ⟨l, ws, rfl, h3, h4⟩ := qq.list
            have e := h4.ints
            subst e
            exact ⟨l, ns, rfl, SqL.of h3, hl, fun p hp => ⟨p, _, _, rfl, upd_same, pp _ _ (x1.trans (Ex.new hp)) (.int _)⟩⟩
          · exact pp.elim
        · exact pp.elim
      · exact pp.elim
end
end DL

namespace DL
open PySem L2 PySem.W
variable [SC]
/-! ### sorted(l), l a list of pairs of ints -/
def pairD (p : Int × Int) : D := .tuple [.int p.1, .int p.2]
def pairOf : D → Option (Int × Int)
  | .tuple [.int a, .int b] => some (a, b)
  | _ => none
theorem pairOf_eq {d : D} {p : Int × Int} (h : pairOf d = some p) : d = pairD p := by
  unfold pairOf at h
  split at h
  · cases h; rfl
  · cases h
def pairsOf : List D → Option (List (Int × Int))
  | [] => some []
  | d :: ds => (pairOf d).bind fun p => (pairsOf ds).bind fun ps => some (p :: ps)
theorem pairsOf_eq : ∀ {ds : List D} {ps : List (Int × Int)}, pairsOf ds = some ps → ds = ps.map pairD
  | [], _, h => by cases h; rfl
  | d :: ds, ps, h => by
    unfold pairsOf at h
    cases hd : pairOf d with
    | none => rw [hd] at h; cases h
    | some p =>
      rw [hd] at h
      cases ht : pairsOf ds with
      | none => rw [ht] at h; cases h
      | some qs =>
        rw [ht] at h
        cases h
        rw [List.map_cons, pairsOf_eq ht, pairOf_eq hd]
theorem pairsOf_map : ∀ ps : List (Int × Int), pairsOf (ps.map pairD) = some ps
  | [] => rfl
  | p :: ps => by
    show (pairsOf (ps.map pairD)).bind _ = _
    rw [pairsOf_map ps]
    rfl
def leP (p q : Int × Int) : Prop := p.1 < q.1 ∨ (p.1 = q.1 ∧ p.2 ≤ q.2)
instance (p q : Int × Int) : Decidable (leP p q) := inferInstanceAs (Decidable (_ ∨ _))
def insP (p : Int × Int) : List (Int × Int) → List (Int × Int)
  | [] => [p]
  | q :: l => if leP p q then p :: q :: l else q :: insP p l
def sortP : List (Int × Int) → List (Int × Int)
  | [] => []
  | p :: l => insP p (sortP l)
theorem insP_perm (p : Int × Int) : ∀ l, (insP p l).Perm (p :: l)
  | [] => List.Perm.refl _
  | q :: l => by
    unfold insP
    split
    · exact List.Perm.refl _
    · exact ((insP_perm p l).cons q).trans (List.Perm.swap p q l)
theorem sortP_perm : ∀ l, (sortP l).Perm l
  | [] => List.Perm.refl _
  | p :: l => (insP_perm p (sortP l)).trans ((sortP_perm l).cons p)
theorem leP_total (p q : Int × Int) : leP p q ∨ leP q p := by unfold leP; omega
theorem leP_trans {p q r : Int × Int} (a : leP p q) (b : leP q r) : leP p r := by unfold leP at *; omega
theorem insP_sorted {p : Int × Int} : ∀ {l}, l.Pairwise leP → (insP p l).Pairwise leP
  | [], _ => by simp [insP]
  | q :: l, h => by
    rw [List.pairwise_cons] at h
    unfold insP
    split
    · rename_i c
      rw [List.pairwise_cons]
      refine ⟨fun z hz => ?_, List.pairwise_cons.mpr h⟩
      rcases List.mem_cons.mp hz with e | hz
      · rw [e]; exact c
      · exact leP_trans c (h.1 z hz)
    · rename_i c
      rw [List.pairwise_cons]
      refine ⟨fun z hz => ?_, insP_sorted h.2⟩
      rcases List.mem_cons.mp ((insP_perm p l).mem_iff.mp hz) with e | hz
      · rw [e]
        rcases leP_total p q with d | d
        · exact absurd d c
        · exact d
      · exact h.1 z hz
theorem sortP_sorted : ∀ l, (sortP l).Pairwise leP
  | [] => List.Pairwise.nil
  | p :: l => insP_sorted (sortP_sorted l)
theorem leP_anti {p q : Int × Int} (a : leP p q) (b : leP q p) : p = q := by
  unfold leP at *
  exact Prod.ext (by omega) (by omega)
theorem sortP_uniq : ∀ {a b : List (Int × Int)}, a.Perm b → a.Pairwise leP → b.Pairwise leP → a = b
  | [], b, p, _, _ => (List.Perm.eq_nil p.symm).symm
  | x :: a, [], p, _, _ => absurd p.length_eq (by simp)
  | x :: a, y :: b, p, ha, hb => by
    rw [List.pairwise_cons] at ha hb
    have e : x = y := by
      have h1 : x ∈ y :: b := p.mem_iff.mp (by simp)
      have h2 : y ∈ x :: a := p.mem_iff.mpr (by simp)
      rcases List.mem_cons.mp h1 with e | h1
      · exact e
      · rcases List.mem_cons.mp h2 with e | h2
        · exact e.symm
        · exact leP_anti (ha.1 y h2) (hb.1 x h1)
    subst e
    rw [sortP_uniq p.cons_inv ha.2 hb.2]
def dSortP : List D → Rs D
  | [.list ds] => match pairsOf ds with
    | some ps => .ok (.list ((sortP ps).map pairD))
    | none => .no
  | _ => .no
theorem noer_sortP : Noer1 dSortP := fun x c => by unfold dSortP; split <;> (try split) <;> simp
def keyH (H : Hp) : V → Int × Int
  | .ref t => match H t with
    | some (.tup [.int a, .int b]) => (a, b)
    | _ => (0, 0)
  | _ => (0, 0)
theorem dq_pair {H : Hp} {v : V} {p : Int × Int} (h : Dq H v (pairD p)) : ∃ t, v = .ref t ∧ H t = some (.tup [.int p.1, .int p.2]) := by
  cases h with
  | tup h1 h2 =>
    cases h2 with
    | cons a r =>
      cases r with
      | cons b r2 =>
        cases r2
        cases a
        cases b
        exact ⟨_, rfl, h1⟩
theorem dq_keys {H : Hp} : ∀ {ws : List V} {ps : List (Int × Int)}, DqAll H ws (ps.map pairD) → ws.map (keyH H) = ps ∧ ∀ w ∈ ws, Dq H w (pairD (keyH H w)) ∧ ∃ t, w = .ref t ∧ H t = some (.tup [.int (keyH H w).1, .int (keyH H w).2])
  | [], [], _ => ⟨rfl, by simp⟩
  | w :: ws, p :: ps, h => by
    cases h with
    | cons a r =>
      obtain ⟨i1, i2⟩ := dq_keys r
      obtain ⟨t, rfl, ht⟩ := dq_pair a
      have e : keyH H (.ref t) = p := by unfold keyH; dsimp only; rw [ht]
      refine ⟨by rw [List.map_cons, i1, e], fun w hw => ?_⟩
      rcases List.mem_cons.mp hw with z | z
      · rw [z, e]; exact ⟨a, t, rfl, ht⟩
      · exact i2 w z
theorem dq_of_keys {H : Hp} : ∀ {ys : List V}, (∀ y ∈ ys, Dq H y (pairD (keyH H y))) → DqAll H ys ((ys.map (keyH H)).map pairD)
  | [], _ => .nil
  | y :: ys, h => .cons (h y (by simp)) (dq_of_keys fun z hz => h z (List.mem_cons_of_mem _ hz))
theorem clf_sortP {K : PySem.W.Frag} : ClF (rSortedPO K) dSortP := by
  intro O vs H Q ds od q p
  unfold dSortP at p
  split at p
  · split at p
    · rename_i _ ps h
      have e := pairsOf_eq h
      subst e
      obtain ⟨v, rfl, qq⟩ := q.one
      obtain ⟨l, ws, rfl, h3, h4⟩ := qq.list
      obtain ⟨k1, k2⟩ := dq_keys h4
      refine ⟨l, ws, keyH (hide O H), rfl, SqL.of h3, fun x hx => ?_, fun ys q s1 s2 hq => ?_⟩
      · obtain ⟨_, t, e1, e2⟩ := k2 x hx
        exact ⟨t, e1, hide_le _ _ e2⟩
      · have e : ys.map (keyH (hide O H)) = sortP ps := by
          refine sortP_uniq ?_ ?_ (sortP_sorted ps)
          · rw [← k1]
            exact ((s2.perm.map _).trans (by rw [k1])).trans ((sortP_perm ps).symm.trans (by rw [k1]))
          · rw [List.pairwise_map]
            refine s1.imp fun {a b} z => ?_
            have := SrtO.lexB_no.mp z
            unfold leP
            omega
        have dq := dq_of_keys (H := hide O H) (ys := ys) fun y hy => (k2 y (s2.perm.mem_iff.mp hy)).1
        rw [e] at dq
        exact p q ys _ _ rfl (Ex.new hq) hq upd_same (dq.mono (hide_new hq))
    · exact p.elim
  · exact p.elim
section
variable {ι : Type} {cv : Nat → Value} {W : WX} {Xs : ι → Cx} {P : Program} {w : World} {K : PySem.W.Frag} {mg : Str → Option Value} {base : Heap} {N : List Str} {sc : Scope} {fnn : Str → Bool} {k : Nat} {e a b : Expr} {f fa fb : En → Rs D} {pos p : Pos}
theorem f_sortP (F : Fam Xs P w K mg base N sc fnn k) (hm : mg "sorted" = none) (ha : EB cv W Xs a fa) (hg : glB sc "sorted" = true := by decide +kernel) (hs : ∀ env, starEach [a] env = (false, eval a env) :: starEach [] env := by intro _; rfl) :
    EF cv W Xs (.Call (.Name "sorted" p) [a] [] pos) (apL dSortP (fCons fa fNil)) :=
  e_callBF F (fun j => by have h := cr_sortedPO (X := Xs j); rw [F.kk j] at h; exact h) clf_sortP noer_sortP hm PyProof.Rows.boot_sorted (ab_one ha hs) hg (by decide) (by decide) hs (by intro _; rfl)
end
end DL

/-! defs that raise -/
namespace DL
open PySem L2
variable [SC]

def xNm : Nat → Str
  | 0 => "BadRanking"
  | 1 => "BadScores"
  | 2 => "BadNumber"
  | 3 => "BadText"
  | _ => "NotFound"
abbrev cvM (mg : Str → Option Value) : Nat → Value := fun c => (mg (xNm c)).getD .none
def OkX (mg : Str → Option Value) (O : List Addr) (H : Hp) (Q : VK) (E : XK) : Rs D → Prop
  | .ok d => ∀ v H2, Ex H H2 → Dq (hide O H2) v d → Q v H2
  | .er c => ∀ H2, Ex H H2 → E (cvM mg c) none H2
  | .no => False
def OkXF (mg : Str → Option Value) (O : List Addr) (H : Hp) (Q : VK) (E : XK) : Rs D → Prop
  | .ok d => ∀ p vs ds H2, d = .list ds → Ex H H2 → H p = none → H2 p = some (.lst vs) → DqAll (hide (p :: O) H2) vs ds → Q (.ref p) H2
  | .er c => ∀ H2, Ex H H2 → E (cvM mg c) none H2
  | .no => False
def spX (mg : Str → Option Value) (np : Nat) (g : List D → Rs D) : Sp := fun vs H Q E => vs.length = np ∧ ∃ O ds, (∀ a ∈ O, H a ≠ none) ∧ NT O H ∧ DqAll (hide O H) vs ds ∧ OkX mg O H Q E (g ds)
def spXF (mg : Str → Option Value) (np : Nat) (g : List D → Rs D) : Sp := fun vs H Q E => vs.length = np ∧ ∃ O ds, (∀ a ∈ O, H a ≠ none) ∧ NT O H ∧ DqAll (hide O H) vs ds ∧ OkXF mg O H Q E (g ds)
def KnownX (P : Program) (w : World) (K : PySem.W.Frag) (mg : Str → Option Value) (base : Heap) (kc : Nat) (x : Str) (ps : List Str) (sp : Sp) : Prop :=
  ∃ f fd, FnOk P w K mg base (L2.CX P w) kc f fd ps sp ∧ mg x = some (.ref f) ∧ PySem.W.keepIn K (.ref f) = true ∧ Binds K fd ps []
def sEx (c : Nat) : En → Out := fun ρ => .ex c ρ
def callX (np : Nat) (g : List D → Rs D) (ds : List D) : Rs D := if ds.length = np then g ds else .no
/-- an exception class of the program -/
def XOk (K : PySem.W.Frag) (mg : Str → Option Value) (x : Str) : Prop :=
  ∃ C, mg x = some (.ref C) ∧ PySem.W.excIn K C [.type "ValueError", .type "Exception", .type "BaseException", .type "object"] "ValueError.__new__" = true ∧ PySem.W.keepIn K (.ref C) = true ∧
    PySem.W.subIn K (.ref C) (.type "BaseException") = some true ∧ PySem.W.typeIn K (.ref C) = some (.type "type")
section
variable {P : Program} {w : World} {K : PySem.W.Frag} {mg : Str → Option Value} {base : Heap} {N ps : List Str} {k : Nat} {x qual : Str} {st : Stmt} {f : Addr} {fd : FuncData} {F : En → Out}
theorem famX_of {cdv : Value} {A : Around} {outer : List Env} {s : Shared} {H : Hp} {E : XK} (S : FnScope N ps (defScope st)) (hr : Room k (A.deeper (PyProof.Rows.envOfC qual (defScope st) s.heap.objs.size f cdv))) :
    Fam (fun _ : Unit => cxOf (L2.CX P w) P w K mg base N qual (defScope st) f cdv A outer s H E) P w K mg base N (defScope st) (fun _ => true) k where
  prog := fun _ => rfl
  wd := fun _ => rfl
  kk := fun _ => rfl
  gl := fun _ => rfl
  bs := fun _ => rfl
  nm := fun _ => rfl
  scp := fun _ => rfl
  calm := fun _ => rfl
  nd := S.nd
  room := fun _ => hr
  fn := fun _ _ => rfl
theorem ok_fnX (Fn : Fun K x qual st f fd) (S : FnScope N ps (defScope st))
    (hb : ∀ (W : WX) (Xs : Unit → Cx), Fam Xs P w K mg base N (defScope st) (fun _ => true) k → (∀ j, Takes (Xs j) W) → (∀ j, PassesOwn (model (Xs j).prog (Xs j).w) (Xs j).A (Xs j).env (Xs j).xe) → (∀ j, (Xs j).stack = (Xs j).env :: (Xs j).outer ∧ (Xs j).env.frame = some (Xs j).env.locals ∧ (Xs j).ex = []) → SSs (cvM mg) W .dat Xs (defBody st) F) :
    FnOk P w K mg base (L2.CX P w) (k + 1) f fd ps (spX mg ps.length (callF N.length F)) := by
  refine Fn.okX S (fun vs H Q E h => h.1) (fun cdv A outer s H vs Q E hr h => ?_)
  obtain ⟨hl, O, ds, od, nt, q, p⟩ := h
  obtain ⟨t, h1, h2⟩ := hb (fun cls d _ H => E cls d H) _ (famX_of (E := E) S hr) (fun _ => takes_of rfl rfl rfl rfl) (fun _ => passes_of rfl) (fun _ => ⟨rfl, rfl, rfl⟩)
  refine ⟨t, h1 (), h2 O H O _ _ H _ (start_rep od nt q) ?_⟩
  unfold callF at p
  cases e : F (startE N.length ds) with
  | rt d => rw [e] at p; exact fun v H' x q => p v H' x q
  | nx ρ' => rw [e] at p; exact fun O' σ' H' R x => p .non H' R.base .non
  | rs d ρ' => rw [e] at p; exact p.elim
  | bk ρ' => rw [e] at p; exact p.elim
  | ct ρ' => rw [e] at p; exact p.elim
  | ex c ρ' => rw [e] at p; exact fun O' σ' H' R x => p H' R.base
  | no => rw [e] at p; exact p.elim
theorem ok_fnXF (Fn : Fun K x qual st f fd) (S : FnScope N ps (defScope st))
    (hb : ∀ (W : WX) (Xs : Unit → Cx), Fam Xs P w K mg base N (defScope st) (fun _ => true) k → (∀ j, Takes (Xs j) W) → (∀ j, PassesOwn (model (Xs j).prog (Xs j).w) (Xs j).A (Xs j).env (Xs j).xe) → (∀ j, (Xs j).stack = (Xs j).env :: (Xs j).outer ∧ (Xs j).env.frame = some (Xs j).env.locals ∧ (Xs j).ex = []) → SSs (cvM mg) W .lst Xs (defBody st) F) :
    FnOk P w K mg base (L2.CX P w) (k + 1) f fd ps (spXF mg ps.length (callR N.length F)) := by
  refine Fn.okX S (fun vs H Q E h => h.1) (fun cdv A outer s H vs Q E hr h => ?_)
  obtain ⟨hl, O, ds, od, nt, q, p⟩ := h
  obtain ⟨t, h1, h2⟩ := hb (fun cls d _ H => E cls d H) _ (famX_of (E := E) S hr) (fun _ => takes_of rfl rfl rfl rfl) (fun _ => passes_of rfl) (fun _ => ⟨rfl, rfl, rfl⟩)
  refine ⟨t, h1 (), h2 O H O _ _ H _ (start_rep od nt q) ?_⟩
  unfold callR at p
  cases e : F (startE N.length ds) with
  | rt d =>
    rw [e] at p
    rintro v H' x ⟨q, ws, es, rfl, e1, n1, g1, g2⟩
    exact p q ws es H' e1 x n1 g1 g2
  | nx ρ' => rw [e] at p; exact p.elim
  | rs d ρ' => rw [e] at p; exact p.elim
  | bk ρ' => rw [e] at p; exact p.elim
  | ct ρ' => rw [e] at p; exact p.elim
  | ex c ρ' => rw [e] at p; exact fun O' σ' H' R x => p H' R.base
  | no => rw [e] at p; exact p.elim
theorem knownX_fn (h : ∃ f fd, Fun K x x st f fd ∧ mg x = some (.ref f)) (S : FnScope N ps (defScope st)) (B : BindsB x st ps) (np nN kk : Nat) (hnp : ps.length = np) (hnN : N.length = nN) (hk : k + 1 = kk)
    (hb : ∀ (W : WX) (Xs : Unit → Cx), Fam Xs P w K mg base N (defScope st) (fun _ => true) k → (∀ j, Takes (Xs j) W) → (∀ j, PassesOwn (model (Xs j).prog (Xs j).w) (Xs j).A (Xs j).env (Xs j).xe) → (∀ j, (Xs j).stack = (Xs j).env :: (Xs j).outer ∧ (Xs j).env.frame = some (Xs j).env.locals ∧ (Xs j).ex = []) → SSs (cvM mg) W .dat Xs (defBody st) F) :
    KnownX P w K mg base kk x ps (spX mg np (callF nN F)) := by
  subst hnp hnN hk
  obtain ⟨f, fd, Fn, hm⟩ := h
  exact ⟨f, fd, ok_fnX Fn S hb, hm, Fn.kp, Fn.binds B⟩
theorem knownX_fnF (h : ∃ f fd, Fun K x x st f fd ∧ mg x = some (.ref f)) (S : FnScope N ps (defScope st)) (B : BindsB x st ps) (np nN kk : Nat) (hnp : ps.length = np) (hnN : N.length = nN) (hk : k + 1 = kk)
    (hb : ∀ (W : WX) (Xs : Unit → Cx), Fam Xs P w K mg base N (defScope st) (fun _ => true) k → (∀ j, Takes (Xs j) W) → (∀ j, PassesOwn (model (Xs j).prog (Xs j).w) (Xs j).A (Xs j).env (Xs j).xe) → (∀ j, (Xs j).stack = (Xs j).env :: (Xs j).outer ∧ (Xs j).env.frame = some (Xs j).env.locals ∧ (Xs j).ex = []) → SSs (cvM mg) W .lst Xs (defBody st) F) :
    KnownX P w K mg base kk x ps (spXF mg np (callR nN F)) := by
  subst hnp hnN hk
  obtain ⟨f, fd, Fn, hm⟩ := h
  exact ⟨f, fd, ok_fnXF Fn S hb, hm, Fn.kp, Fn.binds B⟩
theorem knownX_none (h : ∃ f fd, Fun K x x st f fd ∧ mg x = some (.ref f)) (S : FnScope N ps (defScope st)) (B : BindsB x st ps) (np kk : Nat) (hnp : ps.length = np) (hk : k + 1 = kk) : KnownX P w K mg base kk x ps (spX mg np fun _ => .no) := by
  have := knownX_fn (P := P) (w := w) (base := base) (F := sNo) (k := k) h S B np N.length kk hnp rfl hk fun W Xs F tk hp hq => ⟨tNever, fun _ => pss_never, fun _ _ _ _ _ _ _ _ p => p.elim⟩
  exact this
end
section
variable {ι : Type} {W : WX} {fr : RM} {Xs : ι → Cx} {P : Program} {w : World} {K : PySem.W.Frag} {mg : Str → Option Value} {base : Heap} {N ps : List Str} {sc : Scope} {fnn : Str → Bool} {k kc : Nat}
variable {e a b c : Expr} {es : List Expr} {f fa fb : En → Rs D} {fs : En → Rs (List D)} {pos p : Pos} {x : Str} {g : List D → Rs D}
theorem snd_callX {t : TA} (h : SndA (cvM mg) W t fs) : SndE (cvM mg) W (tCallS (spX mg ps.length g) (L2.WE W) t) (apL (callX ps.length g) fs) := by
  intro O σ ρ H Q R p
  refine h O σ ρ H _ R ?_
  unfold apL at p
  cases ea : fs ρ with
  | no => rw [ea] at p; exact p
  | er c => rw [ea] at p; exact p
  | ok ds =>
    rw [ea, Rs.bind_ok] at p
    intro vs H1 x1 q1
    unfold callX at p
    by_cases hl : ds.length = ps.length
    · rw [if_pos hl] at p
      refine ⟨by rw [q1.length]; exact hl, O, ds, (R.mono x1).od, (R.mono x1).nt, q1, ?_⟩
      cases eg : g ds with
      | no => rw [eg] at p; exact p
      | er c => rw [eg] at p; exact fun H2 x2 => p H2 (x1.trans x2)
      | ok z => rw [eg] at p; exact fun v H2 x2 q2 => p v H2 (x1.trans x2) q2
    · rw [if_neg hl] at p
      exact p.elim
theorem snd_callXF {t : TA} (h : SndA (cvM mg) W t fs) : SndF (cvM mg) W (tCallS (spXF mg ps.length g) (L2.WE W) t) (apL (callX ps.length g) fs) := by
  intro O σ ρ H Q R p
  refine h O σ ρ H _ R ?_
  unfold apL at p
  cases ea : fs ρ with
  | no => rw [ea] at p; exact p
  | er c => rw [ea] at p; exact p
  | ok ds =>
    rw [ea, Rs.bind_ok] at p
    intro vs H1 x1 q1
    unfold callX at p
    by_cases hl : ds.length = ps.length
    · rw [if_pos hl] at p
      refine ⟨by rw [q1.length]; exact hl, O, ds, (R.mono x1).od, (R.mono x1).nt, q1, ?_⟩
      cases eg : g ds with
      | no => rw [eg] at p; exact p
      | er c => rw [eg] at p; exact fun H2 x2 => p H2 (x1.trans x2)
      | ok z => rw [eg] at p; exact fun q ws es' H2 e1 x2 n1 => p q ws es' H2 e1 (x1.trans x2) (x1.free n1)
    · rw [if_neg hl] at p
      exact p.elim
theorem e_callX (Fm : Fam Xs P w K mg base N sc fnn k) (tk : ∀ j, Takes (Xs j) W) (G : KnownX P w K mg base kc x ps (spX mg ps.length g)) (ha : EA (cvM mg) W Xs (e :: es) fs) (hk : kc ≤ k := by decide) (hg : glB sc x = true := by decide +kernel)
    (hd : (x == ("__debug__" : Str)) = false := by decide) (hs : ∀ env, starEach (e :: es) env = (false, eval e env) :: starEach es env := by intro _; rfl) (hpl : ∀ env, (backTo pos (starEach es env)).any (·.1) = false := by intro _; rfl) :
    EE (cvM mg) W Xs (.Call (.Name x p) (e :: es) [] pos) (apL (callX ps.length g) fs) := by
  obtain ⟨f, fd, G, hm, kp, b⟩ := G
  obtain ⟨t, h1, h2⟩ := ha
  refine ⟨tCallS (spX mg ps.length g) (L2.WE W) t, fun j => ?_, snd_callX h2⟩
  refine pe_callS (fd := fd) (CX := L2.CX (Xs j).prog (Xs j).w) (k := kc) (ps := ps) ?_ ((Fm.room j).mono hk) (Fm.gl_ok hg j) (Fm.some hm j) (by rw [Fm.kk j]; exact kp) (by rw [Fm.kk j]; exact b) (passAt (tk j)) (h1 j) hd (hs _) (hpl _)
  rw [Fm.prog j, Fm.wd j, Fm.kk j, Fm.gl j, Fm.bs j]
  exact G
theorem f_callX (Fm : Fam Xs P w K mg base N sc fnn k) (tk : ∀ j, Takes (Xs j) W) (G : KnownX P w K mg base kc x ps (spXF mg ps.length g)) (ha : EA (cvM mg) W Xs (e :: es) fs) (hk : kc ≤ k := by decide) (hg : glB sc x = true := by decide +kernel)
    (hd : (x == ("__debug__" : Str)) = false := by decide) (hs : ∀ env, starEach (e :: es) env = (false, eval e env) :: starEach es env := by intro _; rfl) (hpl : ∀ env, (backTo pos (starEach es env)).any (·.1) = false := by intro _; rfl) :
    EF (cvM mg) W Xs (.Call (.Name x p) (e :: es) [] pos) (apL (callX ps.length g) fs) := by
  obtain ⟨f, fd, G, hm, kp, b⟩ := G
  obtain ⟨t, h1, h2⟩ := ha
  refine ⟨tCallS (spXF mg ps.length g) (L2.WE W) t, fun j => ?_, snd_callXF h2⟩
  refine pe_callS (fd := fd) (CX := L2.CX (Xs j).prog (Xs j).w) (k := kc) (ps := ps) ?_ ((Fm.room j).mono hk) (Fm.gl_ok hg j) (Fm.some hm j) (by rw [Fm.kk j]; exact kp) (by rw [Fm.kk j]; exact b) (passAt (tk j)) (h1 j) hd (hs _) (hpl _)
  rw [Fm.prog j, Fm.wd j, Fm.kk j, Fm.gl j, Fm.bs j]
  exact G
/-- raise X("..") -/
theorem s_raise (Fm : Fam Xs P w K mg base N sc fnn k) (tk : ∀ j, Takes (Xs j) W) (c : Nat) {m : Str} {i : Nat} {p2 pos' : Pos} (T : XOk K mg (xNm c)) (hx : xNm c = x := by rfl) (hg : glB sc x = true := by decide +kernel) (hd : (x == ("__debug__" : Str)) = false := by decide) :
    SS (cvM mg) W fr Xs (.Raise (some (.Call (.Name x p) [.Constant (.str m) i p2] [] pos)) none pos') (sEx c) := by
  subst hx
  obtain ⟨C, gC, q, kC, b, t⟩ := T
  refine ⟨_, fun j => ps_raise (Fm.calm j) (tk j) (pmk_own (C := C) PySem.F.excBase_ValueError (by rw [Fm.kk j]; exact q) (Fm.some gC j) (by rw [Fm.kk j]; exact kC) (raises_own (by rw [Fm.kk j]; exact b) (by rw [Fm.kk j]; exact t)) (Fm.gl_ok hg j) hd), fun Oc H0 O σ ρ H Z R p => ?_⟩
  have e : cvM mg c = .ref C := by show (mg (xNm c)).getD .none = _; rw [gC]; rfl
  have := p O σ H R (Ex.refl _)
  rw [e] at this
  exact this
end
end DL

/-! an exception that is caught and kept -/
namespace DL
open PySem L2 PySem.Spec PyProof.Rows
variable [SC]

theorem xh_ok {P : Program} {w : World} {T : Hp} {g : Heap} {z : Addr} {cl : Value} {ox : Obj} {fl : Array Value} (e : g.get? z = some ox) (c : Zc cl none ox) (d : ox.data = .fields fl) : ObjOk P w T g z (XH cl z) :=
  ⟨⟨ox, fl, e, c, d⟩, ⟨ox, e⟩, fun _ _ y k => by
    obtain ⟨o, f, q, r⟩ := y
    exact ⟨o, f, k o q, r⟩⟩
/-- an object of the heap, not of the entry's, gets tracked -/
theorem inv_track {X : Cx} {pins : List (Addr × Obj)} {sl : L2.St} {T : Hp} {s : Shared} {z : Addr} {cl : Value} {ox : Obj} {fl : Array Value} (I : Inv X pins sl T s) (e : s.heap.get? z = some ox) (c : Zc cl none ox) (d : ox.data = .fields fl) (nz : T z = none)
    (n0 : X.s_0.heap.get? z = none) (nL : z ≠ X.env.locals) (np : ∀ p ∈ X.pn ++ pins, p.1 ≠ z) : Inv X pins sl (upd T z (XH cl z)) s := by
  have ne0 : ∀ b o, X.s_0.heap.get? b = some o → b ≠ z := fun b o q y => by
    subst y
    rw [n0] at q
    cases q
  have neS : ∀ b o, T b = some o → b ≠ z := fun b o q => ne_of_none q nz
  have neC : ∀ x c, X.env.cells.lookup x = some c → c ≠ z := fun x c q y => by
    subst y
    obtain ⟨v, o, h1, h2⟩ := I.cell x _ q
    rw [e] at h1
    cases h1
    rw [d] at h2
    cases h2
  exact {
    ok := I.ok, os := I.os, bare := I.bare, loc := I.loc, cell := I.cell, len := I.len
    base := {
      keep := I.base.keep, slot := I.base.slot, there := I.base.there
      free := fun b o q n x => (upd_ne (ne0 b o q)).trans (I.base.free b o q n x)
      tups := fun b xs q => (upd_ne (neS b _ (I.base.tups b xs q))).trans (I.base.tups b xs q)
      frzs := fun b o u q => (upd_ne (neS b _ (I.base.frzs b o u q))).trans (I.base.frzs b o u q)
      tbls := fun b ps q => by
        obtain ⟨m, r⟩ := I.base.tbls b ps q
        exact ⟨m, (upd_ne (neS b _ r)).trans r⟩ }
    free := (upd_ne (Ne.symm nL)).trans I.free
    freeC := fun x c q => (upd_ne (neC x c q)).trans (I.freeC x c q)
    pin := fun p hp => by
      obtain ⟨a1, a2, a3⟩ := I.pin p hp
      exact ⟨a1, (upd_ne (np p hp)).trans a2, a3⟩
    hok := fun b o q => by
      by_cases hb : b = z
      · subst hb
        rw [upd_same] at q
        cases q
        exact xh_ok e c d
      · rw [upd_ne hb] at q
        exact (I.hok b o q).stay (fun _ _ _ y => y) (fun y r => by rw [upd_ne (ne_of_none r nz)]; exact r) fun y xs r => by rw [upd_ne (ne_of_none r nz)]; exact r }

/-- what 'except x as n: suite' wishes, where the exception is kept: slot i is n's -/
def wKeep (K : PySem.W.Frag) (c : Value) (i : Nat) (ts : Addr → TS) (Z : Ends) : WX := fun cl d sl T =>
  PySem.W.exmOne K cl c = some true ∧ d = none ∧ ∀ z, T z = none → ts z { nx := fun sl' T' => Z.nx (sl'.set i none) (upd T' z (XH cl z)), rt := fun _ _ => False, bk := fun _ _ => False, ct := fun _ _ => False } (sl.set i (some (.ref z))) T

section
variable {X : Cx} {x n : Str} {c : Value} {i : Nat} {body suite : List Stmt} {b₀ : Stmt} {np pos pos' : Pos} {tb : WX → TS} {ts : Addr → TS}
theorem ps_try_keep (hs : X.stack = X.env :: X.outer) (hf : X.env.frame = some X.env.locals) (hex : X.ex = []) (hN : X.N.Nodup) (hi : X.N[i]? = some n) (hln : X.env.kindOf n = some .local) (hc : Names X x c)
    (hb : ∀ (W : WX) (pn : List (Addr × Obj)) (xe : Value → Shared → Prop), Takes (X.tr pn xe) W → PassesOwn (model X.prog X.w) X.A X.env xe → PSs (X.tr pn xe) body (tb W))
    (hsu : ∀ (z : Addr) (ox : Obj) (pn : List (Addr × Obj)), PSs (X.suite z ((z, ox) :: pn)) (b₀ :: suite) (ts z)) :
    PS X (.Try body [.ExceptHandler (some (.Name x np)) (some n) (b₀ :: suite) pos'] [] [] pos) (fun Z sl T => tb (wKeep X.K c i ts Z) Z sl T) := by
  refine ⟨fun pins s sl T Z I h => ?_⟩
  have ok := I.ok
  have fr : X.A.frames = some (X.env :: X.outer) := ok.frames.trans (congrArg some hs)
  refine wpAny_Try_except (wpAny_mono ((hb (wKeep X.K c i ts Z) (X.pn ++ pins) (fun e s₁ => wpAny (model X.prog X.w) X.A (noteFrame e X.env) (fun _ s₂ => wpAny (model X.prog X.w) X.A (setFlight e none) (fun _ s₃ =>
    wpAny (model X.prog X.w) X.A (handleBy e X.env [.ExceptHandler (some (.Name x np)) (some n) (b₀ :: suite) pos']) (SP X pins Z) X.xe s₃) X.xe s₂) X.xe s₁) ?caught PassesOwn.looking).run [] s sl T Z (I.toTry _) h) ?fine fun _ _ y => y)
  case fine =>
    intro f s1 hsp
    cases f with
    | next =>
      obtain ⟨sl1, T1, J1, q1⟩ := hsp
      exact wpAny_execs_nil ⟨sl1, T1, J1.ofTry ok, q1⟩
    | brk =>
      obtain ⟨sl1, T1, J1, q1⟩ := hsp
      exact ⟨sl1, T1, J1.ofTry ok, q1⟩
    | cont =>
      obtain ⟨sl1, T1, J1, q1⟩ := hsp
      exact ⟨sl1, T1, J1.ofTry ok, q1⟩
    | ret u =>
      obtain ⟨v1, sl1, T1, J1, r1, q1⟩ := hsp
      exact ⟨v1, sl1, T1, J1.ofTry ok, r1, q1⟩
  case caught =>
    intro u s1 xx
    obtain ⟨z, B, sI, pins1, sl1, T1, cl, d, rfl, J0, nb, up, sky, nz, os, ag, hm, rfl, hyes⟩ := xx
    have J : Inv X pins sl1 T1 sI := J0.ofTry ok
    have sky2 : Sky B (X.env :: X.outer) z (Zc cl none) X.env.locals s1.heap := hs ▸ sky
    show wpAny (model X.prog X.w) X.A (noteFrame (.ref z) X.env) _ _ _
    refine Sky.land Zc.steady fr hf sky2 fun g2 fl2 up2 => ?_
    have J2 : Inv X pins sl1 T1 { s1 with heap := g2 } := J.landed nb fl2.1 (up.trans up2) os ag
    obtain ⟨o2, f2, e2, c2, d2⟩ := fl2.there
    have nfr : z ∉ frs (X.env :: X.outer) := fun hm => by
      obtain ⟨_, o', e', hn'⟩ := fl2.2.2.1.mem hm
      rw [e2] at e'
      cases e'
      exact hn' _ d2
    have nL : z ≠ X.env.locals := fun y => nfr (List.mem_filterMap.mpr ⟨X.env, by simp, by rw [hf, y]⟩)
    have nF : z ∉ X.fs := fun hm => by
      obtain ⟨e, he, q⟩ := List.mem_filterMap.mp hm
      exact nfr (List.mem_filterMap.mpr ⟨e, by simp [he], q⟩)
    have nI : sI.heap.get? z = none := by
      cases q : sI.heap.get? z with
      | none => rfl
      | some o =>
        have y := nb z o q (hs ▸ nfr)
        rw [fl2.2.1] at y
        cases y
    have n0 : X.s_0.heap.get? z = none := by
      cases q : X.s_0.heap.get? z with
      | none => rfl
      | some o =>
        obtain ⟨o', y⟩ := J.base.there z o q (by rw [hex]; exact fun y => nomatch y)
        rw [nI] at y
        cases y
    have npz : ∀ p ∈ X.pn ++ pins, p.1 ≠ z := fun p hp y => by
      have q := (J.pin p hp).1
      rw [y, nI] at q
      cases q
    have S2 := J2.suite e2 d2 nz nL nF
    refine wpAny_handleBy_cons (codeAny_handlers_test ?_) (by intro q; cases q)
    have LT : PySem.W.Looks (model X.prog X.w) g2 (typeOf (.ref z)) cl := fun _ _ _ _ kk qq => wpAny_typeOf_ref (kk _ _ e2) (by rw [c2.1]; exact qq)
    have LM := PySem.W.exm_one (M := model X.prog X.w) (J2.kIn) LT hm
    have test : ∀ {Q : Value → Shared → Prop} {E : Value → Shared → Prop}, Q c { s1 with heap := g2 } → wpAny (model X.prog X.w) (X.A.mark (some (.ref z))) (eval (.Name x np) X.env) Q E { s1 with heap := g2 } := fun {Q E} q => by
      obtain ⟨h1, h2, h3 | ⟨h3, h4, h5⟩⟩ := hc
      · exact ld_glob (X := X.suite z ((z, o2) :: (X.pn ++ pins))) S2 h1 h3 q h2
      · exact ld_blt (X := X.suite z ((z, o2) :: (X.pn ++ pins))) S2 h1 h3 h4 q h5 h2
    refine test (LM.here (codeAny_handlers_suite_as (HandSPX.lands_againZ fl2 fun g3 fl3 up3 => ?_)))
    have J3 : Inv X pins sl1 T1 { s1 with heap := g3 } := J.landed nb fl3.1 ((up.trans up2).trans up3) os ag
    obtain ⟨o3, f3, e3, c3, d3⟩ := fl3.there
    refine store_ok (X := X.suite z ((z, o3) :: (X.pn ++ pins))) (v := .ref z) (J3.suite e3 d3 nz nL nF) hN hi (.inl hln) rfl (fun s4 S4 => ?_) (.inr hln)
    refine wpAny_mono ((hsu z o3 (X.pn ++ pins)).run [] s4 _ T1 _ S4 (hyes z nz)) (fun f s5 hsp => ?_) fun _ _ y => y.elim
    cases f with
    | brk =>
      obtain ⟨_, _, _, q⟩ := hsp
      exact q.elim
    | cont =>
      obtain ⟨_, _, _, q⟩ := hsp
      exact q.elim
    | ret u =>
      obtain ⟨_, _, _, _, _, q⟩ := hsp
      exact q.elim
    | next =>
      obtain ⟨sl5, T5, S5, q5⟩ := hsp
      refine gone_ok (X := X.suite z ((z, o3) :: (X.pn ++ pins))) S5 hN hi hln fun s6 S6 => ?_
      obtain ⟨p1, p2, _⟩ := S6.pin (z, o3) (by simp)
      have J6 : Inv X pins _ T5 s6 := S6.unsuite ok
      exact ⟨_, _, inv_track J6 p1 c3 d3 p2 n0 nL npz, q5⟩
end
end DL

/-! count of equal data; isinstance of an exception -/
namespace DL
open PySem L2 PySem.Spec PyProof.Rows
variable [SC]

def rCntD (K : PySem.W.Frag) : V → List V → Hp → VK → Prop := fun x xs H Q => ∃ (a : Addr) (y : V) (d : PyData) (ds : List PyData), x = V.ref a ∧ xs = [y] ∧ Dp K H (V.ref a) (.list ds) ∧ Dp K H y d ∧
  SeqAt.shaped (.list ds) = true ∧ SeqAt.shaped d = true ∧ Q (.int (ds.countP (fun z => PyData.eqv z d) : Nat)) H
theorem mt_cntD {X : Cx} (hu : X.A.units + 65 < cLine) : MtR X "list.count" (rCntD X.K) := by
  intro pins s sl H x xs v us Q I rx rxs h
  obtain ⟨a, y, d, ds, rfl, rfl, hl, hy, s1, s2, q⟩ := h
  cases rx
  cases rxs with
  | cons ry rt =>
    rename_i uy ut
    cases rt
    obtain ⟨bs, r1⟩ := Dp.reads I d y uy hy ry
    have c1 : PyData.canLayAll0 ds = true := SeqAt.canLay_of_shaped s1
    have c2 : X.A.units + 1 + min (PyData.depthAll ds) d.depth < cLine := room_in_shaped s2 hu
    cases hl with
    | lst hs ha =>
      obtain ⟨its, rv, ⟨⟨cls, dd, data, sls⟩, n, ho, hc, hdn, hdt⟩, hlen⟩ := I.list hs
      simp only at hc hdt
      subst hc hdt
      obtain ⟨as, h4⟩ := Dp.readsAll I ds _ its ha rv
      have hmap : its.map (SeqAt.readOf s.heap) = ds := SeqAt.readsAll_map ds its as c1 h4
      refine call_meets PySem.F.slot_list_count ⟨_, ho, rfl⟩ PySem.F.entry_list_count (PySem.F.args_list_count_2 _ _)
        (SeqAt.list_countAt a its.toArray n dd sls uy (fun u => PyData.eqv (SeqAt.readOf s.heap u) d)) ⟨ho, SeqAt.items_eqAt (vs := its.toArray) (show ReadsAll s.heap its.toArray.toList ds as from h4) r1 c1 (SeqAt.canLay_of_shaped s2) c2, ?_⟩
      have ec : its.toArray.toList.countP (fun u => PyData.eqv (SeqAt.readOf s.heap u) d) = ds.countP (fun z => PyData.eqv z d) := by
        rw [← hmap, List.countP_map]
        rfl
      refine ⟨.int (ds.countP (fun z => PyData.eqv z d) : Nat), H, I.tok _, ⟨s.toks, ?_⟩, q⟩
      show Value.int ((its.toArray.toList.countP (fun u => PyData.eqv (SeqAt.readOf s.heap u) d) : Nat) : Int) s.toks = _
      rw [ec]
def dCountD (xs ds : List D) : Rs D := match ds with
  | [d] => if SeqAt.shaped (.list xs) = true ∧ SeqAt.shaped d = true then .ok (.int (xs.countP (fun z => PyData.eqv z d) : Nat)) else .no
  | _ => .no
theorem noer_countD : Noer dCountD := fun x y c => by unfold dCountD; split <;> (try split) <;> simp
theorem mle_countD {K : PySem.W.Frag} : MlE (rCntD K) dCountD := by
  intro O x vs H Q xs ds od hx q p
  unfold dCountD at p
  split at p
  · split at p
    · rename_i hc
      obtain ⟨v, rfl, qq⟩ := q.one
      obtain ⟨l, ws, e1, h4, h5⟩ := hx.list
      subst e1
      exact ⟨l, v, _, xs, rfl, rfl, hx.all.dp, qq.all.dp, hc.1, hc.2, p _ H (Ex.refl H) (.int _)⟩
    · exact p.elim
  · exact p.elim
section
variable {ι : Type} {cv : Nat → Value} {W : WX} {Xs : ι → Cx} {P : Program} {w : World} {K : PySem.W.Frag} {mg : Str → Option Value} {base : Heap} {N : List Str} {sc : Scope} {fnn : Str → Bool} {k : Nat} {o a : Expr} {fo fa : En → Rs D} {apos cpos pos : Pos}
theorem e_countD (F : Fam Xs P w K mg base N sc fnn k) (ho : EB cv W Xs o fo) (ha : EB cv W Xs a fa)
    (hbase : ∀ env, attributeBase o "count" env (eval o env) = eval o env := by intro _; rfl)
    (hline : (apos.endLine == cpos.line) = true := by rfl) (hs : ∀ env, starEach [a] env = (false, eval a env) :: starEach [] env := by intro _; rfl) :
    EE cv W Xs (.Call (.Attribute o "count" apos) [a] [] cpos) (apML dCountD fo (fCons fa fNil)) :=
  e_bmL F PySem.F.slot_list_count PySem.F.type_list_count (fun j => by have h := mt_cntD (X := Xs j) (F.units j); rw [F.kk j] at h; exact h) mle_countD noer_countD ho (ab_one ha hs) hbase (by intro env; rw [hs]; rfl) hline hs (by intro _; rfl)

/-! ### isinstance(caught, X) -/
def rIsX (K : PySem.W.Frag) : List V → Hp → VK → Prop := fun xs H Q => ∃ (z E : Addr) (t : V) (u : Value) (b : Bool), xs = [.ref z, t] ∧ H z = some (XH (.ref E) z) ∧ ExcC K E ∧ (∀ y, RelV t y → y = u) ∧ PySem.W.kitOne K (.ref E) u = some b ∧ Q (.bl b) H
theorem call_isX {X : Cx} : CallR X (.builtin "isinstance") (rIsX X.K) := by
  intro pins s sl H xs us Q I r h
  obtain ⟨z, E, t, u, b, rfl, hz, C, hu, e, q⟩ := h
  cases r with
  | cons rx rr =>
    cases rr with
    | cons rt rr =>
      cases rr
      cases rx
      have eu := hu _ rt
      subst eu
      obtain ⟨⟨ox, fl, g1, g2, g3⟩, _⟩ := I.hok z _ hz
      have J : PySem.W.InstAt s.heap z ox E none := by
        obtain ⟨oc, od, oda, osl⟩ := ox
        obtain ⟨y1, y2⟩ := g2
        dsimp only at y1 y2 g3
        subst y1 y2 g3
        exact ⟨g1, rfl, rfl, trivial⟩
      exact PySem.W.kia_one (PySem.W.handS_kitx_exc C.hg C.hk C.hs C.hd C.ha C.hn C.ht C.hm) I.kIn J e (fun y => nomatch y) fun tk => ⟨.bl b, H, I.kept (t' := tk) fun _ _ y => y, rfl, q⟩
open Classical in
/-- the slot holds an exception of the class cl: the answer is b -/
noncomputable def fIsX (cl : Value) (b : Bool) (i : Nat) : En → Rs D := fun ρ => match ρ[i]? with
  | some (some (.xo c)) => if c = cl then .ok (.bool b) else .no
  | _ => .no
theorem fIsX_at {cl : Value} {b : Bool} {i : Nat} {ρ : En} (h : ρ[i]? = some (some (.xo cl))) : fIsX cl b i ρ = .ok (.bool b) := by
  unfold fIsX
  rw [h]
  exact if_pos rfl
theorem snd_isX {i : Nat} {E : Addr} {b : Bool} {t : V} {u : Value} (C : ExcC K E) (hu : ∀ y, RelV t y → y = u) (hk : PySem.W.kitOne K (.ref E) u = some b) :
    SndE cv W (tCB (rIsX K) (tCons (tVar i) (tCons (tC t) tNil))) (fIsX (.ref E) b i) := by
  intro O σ ρ H Q R p
  unfold fIsX at p
  split at p
  · rename_i c e
    split at p
    · rename_i hc
      subst hc
      obtain ⟨v, l, h1, h2, z, h3, h4⟩ := R.sl i _ e
      subst h3
      exact ⟨_, h1, z, E, t, u, b, rfl, hide_le _ _ h4, C, hu, hk, p _ H (Ex.refl H) (.bl b)⟩
    · exact p.elim
  · exact p.elim
theorem e_isX (F : Fam Xs P w K mg base N sc fnn k) (i : Nat) {p pv pp : Pos} {x y : Str} {E T : Addr} {b : Bool} (C : ExcC K E) (hk : PySem.W.kitOne K (.ref E) (.ref T) = some b) (hm : mg "isinstance" = none) (hmx : mg x = some (.ref T)) (hN : N[i]? = some y := by rfl)
    (hv : visB sc y = true := by decide +kernel) (hd : (y == ("__debug__" : Str)) = false := by decide) (hcd : (y == ("__classdict__" : Str)) = false := by decide)
    (hg : glB sc "isinstance" = true := by decide +kernel) (hgx : glB sc x = true := by decide +kernel) (hdx : (x == ("__debug__" : Str)) = false := by decide) :
    EE cv W Xs (.Call (.Name "isinstance" p) [.Name y pv, .Name x pp] [] pos) (fIsX (.ref E) b i) := by
  refine ⟨_, fun j => ?_, snd_isX (t := .ref T) C (fun y r => by cases r; rfl) hk⟩
  have hc := call_isX (X := Xs j)
  rw [F.kk j] at hc
  exact pe_callB hc (F.gl_ok hg j) (F.none hm j) PyProof.Rows.boot_isinstance (pa_cons (pe_var (F.at hN j) (F.vis hv j) hd hcd) (pa_cons (pe_glob (v := .ref T) (F.gl_ok hgx j) (F.some hmx j) rfl hdx) pa_nil rfl) rfl) (by decide) (by decide) rfl rfl
theorem e_isXB (F : Fam Xs P w K mg base N sc fnn k) (i : Nat) {p pv pp : Pos} {x y : Str} {E : Addr} {TN : String} {b : Bool} (C : ExcC K E) (hk : PySem.W.kitOne K (.ref E) (.type TN) = some b) (hm : mg "isinstance" = none) (hmx : mg x = none) (hvx : bootBuiltins x = some (.type TN)) (hN : N[i]? = some y := by rfl)
    (hv : visB sc y = true := by decide +kernel) (hd : (y == ("__debug__" : Str)) = false := by decide) (hcd : (y == ("__classdict__" : Str)) = false := by decide)
    (hg : glB sc "isinstance" = true := by decide +kernel) (hgx : glB sc x = true := by decide +kernel) (hnx : x ≠ "__name__" := by decide) (hdx : (x == ("__debug__" : Str)) = false := by decide) :
    EE cv W Xs (.Call (.Name "isinstance" p) [.Name y pv, .Name x pp] [] pos) (fIsX (.ref E) b i) := by
  refine ⟨_, fun j => ?_, snd_isX (t := .ty TN) C (fun y r => by cases r; rfl) hk⟩
  have hc := call_isX (X := Xs j)
  rw [F.kk j] at hc
  exact pe_callB hc (F.gl_ok hg j) (F.none hm j) PyProof.Rows.boot_isinstance (pa_cons (pe_var (F.at hN j) (F.vis hv j) hd hcd) (pa_cons (pe_bltn (v := .ty TN) (F.gl_ok hgx j) (F.none hmx j) hvx rfl hnx hdx) pa_nil rfl) rfl) (by decide) (by decide) rfl rfl
end
end DL

/-! try .. except X as e: caught = e; the name of what was caught -/
namespace DL
open PySem L2
variable [SC]

def eNm : Nat → Str
  | 0 => "ranking"
  | 1 => "scores"
  | 2 => "number"
  | 3 => "text"
  | _ => "none"
def spErr (mg : Str → Option Value) : Sp := fun vs H Q _ => ∃ z c, c < 5 ∧ vs = [.ref z] ∧ H z = some (XH (cvM mg c) z) ∧ ∀ H2, Ex H H2 → Q (.str (eNm c)) H2
def startX (n : Nat) (cl : Value) : En := some (.xo cl) :: List.replicate (n - 1) none
section
variable {P : Program} {w : World} {K : PySem.W.Frag} {mg : Str → Option Value} {base : Heap} {N : List Str} {y : Str} {k : Nat} {x qual : Str} {st : Stmt} {f : Addr} {fd : FuncData} {F : En → Out}
theorem startX_rep {H : Hp} {z : Addr} {cl : Value} (hz : H z = some (XH cl z)) : RepS [] H [] (L2.start (y :: N) [.ref z]) (startX (y :: N).length cl) H := by
  refine ⟨by simp [L2.start, startX], Ex.refl H, fun _ z => z, (fun _ z => by simp at z), (fun _ z => by simp at z), (fun _ z => by simp at z), fun _ => [], fun i s e => ?_, (fun i j a z => by simp at z), (fun i a z => by simp at z)⟩
  unfold startX at e
  cases i with
  | zero =>
    cases e
    exact ⟨_, rfl, rfl, z, rfl, hide_some.mpr ⟨by simp, hz⟩⟩
  | succ i =>
    simp only [List.getElem?_cons_succ, List.getElem?_replicate] at e
    split at e <;> simp at e
theorem ok_err (Fn : Fun K x qual st f fd) (S : FnScope (y :: N) [y] (defScope st))
    (hb : ∀ c, c < 5 → ∀ (Xs : Unit → Cx), Fam Xs P w K mg base (y :: N) (defScope st) (fun _ => true) k → ∃ F, SSs cv0 W0 .dat Xs (defBody st) F ∧ F (startX (y :: N).length (cvM mg c)) = .rt (.str (eNm c))) :
    FnOk P w K mg base (L2.CX P w) (k + 1) f fd [y] (spErr mg) := by
  refine Fn.okX S (fun vs H Q E h => by obtain ⟨z, c, _, rfl, _⟩ := h; rfl) (fun cdv A outer s H vs Q E hr h => ?_)
  obtain ⟨z, c, hc, rfl, hz, q⟩ := h
  obtain ⟨F, ⟨t, h1, h2⟩, e⟩ := hb c hc _ (famX_of (E := E) S hr)
  refine ⟨t, h1 (), h2 [] H [] _ _ H _ (startX_rep hz) ?_⟩
  rw [e]
  intro v H' x g
  cases g
  exact q H' x
end
def KnownE (P : Program) (w : World) (K : PySem.W.Frag) (mg : Str → Option Value) (base : Heap) (kc : Nat) : Prop := ∃ ps, KnownX P w K mg base kc "_law_error" ps (spErr mg)
open Classical in
noncomputable def fErr (mg : Str → Option Value) (i : Nat) : En → Rs D := fun ρ => match ρ[i]? with
  | some (some (.xo cl)) => if h : ∃ c, c < 5 ∧ cl = cvM mg c then .ok (.str (eNm h.choose)) else .no
  | _ => .no
def tIsNo (i : Nat) : En → Rs Bool := fun ρ => match ρ[i]? with
  | some (some (.sh d)) => .ok (isNone d)
  | some (some (.xo _)) => .ok false
  | _ => .no
/-- the exception goes to the slot ic; i is the clause's own name -/
def sTry (mg : Str → Option Value) (i ic : Nat) (F : En → Out) : En → Out := fun ρ => match F ρ with
  | .ex c ρ' => if i < ρ'.length ∧ i ≠ ic then .nx (((ρ'.set i none).set ic (some (.xo (cvM mg c)))).set i none) else .no
  | o => o
section
variable {Oc O : List Addr} {H0 H H' : Hp} {σ : St} {ρ : En} {i : Nat}
theorem RepS.drop {v : Option V} (h : RepS Oc H0 O σ ρ H) : RepS Oc H0 O (σ.set i v) (ρ.set i none) H := by
  obtain ⟨fp, h1, h2, h3⟩ := h.fp
  refine ⟨by rw [List.length_set, List.length_set]; exact h.len, h.base, h.oc, h.oh, h.od, h.nt, fp, fun j s e => ?_, h2, h3⟩
  by_cases hj : j = i
  · subst hj
    rw [List.getElem?_set] at e
    simp at e
  · rw [List.getElem?_set_ne (Ne.symm hj)] at e ⊢
    exact h1 j s e
end
section
variable {ι : Type} {W : WX} {fr : RM} {Xs : ι → Cx} {P : Program} {w : World} {K : PySem.W.Frag} {mg : Str → Option Value} {base : Heap} {N ps : List Str} {sc : Scope} {fnn : Str → Bool} {k kc : Nat} {pos p : Pos}
theorem t_isNo {cv : Nat → Value} (Fm : Fam Xs P w K mg base N sc fnn k) (i : Nat) {n : Nat} {x : Str} {p2 : Pos} (hN : N[i]? = some x := by rfl) (hv : visB sc x = true := by decide +kernel) (hd : (x == ("__debug__" : Str)) = false := by decide) (hcd : (x == ("__classdict__" : Str)) = false := by decide) :
    ET cv W Xs (.Compare (.Name x p) [.Is] [.Constant .none n p2] pos) (tIsNo i) := by
  refine ⟨_, fun j => pt_cmpR (op_isA j) (pe_var (Fm.at hN j) (Fm.vis hv j) hd hcd) pe_non (nomark _), fun O σ ρ H Q R p => ?_⟩
  unfold tIsNo at p
  split at p
  · rename_i d e
    obtain ⟨v, l, h1, h2⟩ := R.sl i _ e
    refine ⟨v, h1, .inl ⟨rfl, ?_⟩⟩
    rw [if_neg (by decide), non_iff (.inl h2.2)]
    exact ⟨_, rfl, p H (Ex.refl H)⟩
  · rename_i cl e
    obtain ⟨v, l, h1, h2, z, h3, h4⟩ := R.sl i _ e
    subst h3
    exact ⟨_, h1, .inl ⟨rfl, ⟨false, rfl, p H (Ex.refl H)⟩⟩⟩
  · exact p.elim
theorem e_err (Fm : Fam Xs P w K mg base N sc fnn k) (tk : ∀ j, Takes (Xs j) W) (G : KnownE P w K mg base kc) (i : Nat) {x : Str} {p2 : Pos} (hk : kc ≤ k := by decide) (hg : glB sc "_law_error" = true := by decide +kernel) (hN : N[i]? = some x := by rfl) (hv : visB sc x = true := by decide +kernel) (hd : (x == ("__debug__" : Str)) = false := by decide)
    (hcd : (x == ("__classdict__" : Str)) = false := by decide) : EE (cvM mg) W Xs (.Call (.Name "_law_error" p) [.Name x p2] [] pos) (fErr mg i) := by
  obtain ⟨ps, f, fd, G, hm, kp, b⟩ := G
  refine ⟨tCallS (spErr mg) (L2.WE W) (tCons (tVar i) tNil), fun j => ?_, fun O σ ρ H Q R p => ?_⟩
  · refine pe_callS (fd := fd) (CX := L2.CX (Xs j).prog (Xs j).w) (k := kc) (ps := ps) ?_ ((Fm.room j).mono hk) (Fm.gl_ok hg j) (Fm.some hm j) (by rw [Fm.kk j]; exact kp) (by rw [Fm.kk j]; exact b) (passAt (tk j)) (pa_cons (pe_var (Fm.at hN j) (Fm.vis hv j) hd hcd) pa_nil rfl) (by decide) rfl rfl
    rw [Fm.prog j, Fm.wd j, Fm.kk j, Fm.gl j, Fm.bs j]
    exact G
  · unfold fErr at p
    split at p
    · rename_i cl e
      split at p
      · rename_i h
        obtain ⟨v, l, h1, h2, z, h3, h4⟩ := R.sl i _ e
        subst h3
        refine ⟨_, h1, z, h.choose, h.choose_spec.1, rfl, ?_, fun H2 x => p _ H2 x (.str _)⟩
        rw [← h.choose_spec.2]
        exact hide_le _ _ h4
      · exact p.elim
    · exact p.elim
theorem s_try (Fm : Fam Xs P w K mg base N sc fnn k) (hp : ∀ j, (Xs j).stack = (Xs j).env :: (Xs j).outer ∧ (Xs j).env.frame = some (Xs j).env.locals ∧ (Xs j).ex = []) (i ic : Nat) {x n nc : Str} {c : Value} {body : List Stmt} {F : En → Out} {q1 q2 q3 q4 q5 : Pos}
    (hm : mg x = some c) (hx : ∀ e, PySem.W.exmOne K (cvM mg e) c = some true)
    (hb : ∀ (W' : WX) {κ : Type} (Ys : κ → Cx), Fam Ys P w K mg base N sc fnn k → (∀ j, Takes (Ys j) W') → (∀ j, PassesOwn (model (Ys j).prog (Ys j).w) (Ys j).A (Ys j).env (Ys j).xe) → SSs (cvM mg) W' fr Ys body F)
    (hN : N[i]? = some n := by rfl) (hNc : N[ic]? = some nc := by rfl) (hl : isLoc sc n = true := by decide +kernel) (hlc : stB fnn sc nc = true := by decide +kernel) (hv : visB sc n = true := by decide +kernel) (hg : glB sc x = true := by decide +kernel) (hd : (x == ("__debug__" : Str)) = false := by decide)
    (hdn : (n == ("__debug__" : Str)) = false := by decide) (hcn : (n == ("__classdict__" : Str)) = false := by decide) :
    SS (cvM mg) W fr Xs (.Try body [.ExceptHandler (some (.Name x q1)) (some n) [.Assign [.Name nc q2] (.Name n q3) q4] q5] [] [] pos) (sTry mg i ic F) := by
  have key : ∀ W' : WX, ∃ t, (∀ j (pn : List (Addr × Obj)) (xe : Value → Shared → Prop), Takes ((Xs j).tr pn xe) W' → PassesOwn (model (Xs j).prog (Xs j).w) (Xs j).A (Xs j).env xe → PSs ((Xs j).tr pn xe) body t) ∧ SndS (cvM mg) W' fr t F := by
    intro W'
    obtain ⟨t, h1, h2⟩ := hb W' (κ := { q : ι × List (Addr × Obj) × (Value → Shared → Prop) // Takes ((Xs q.1).tr q.2.1 q.2.2) W' ∧ PassesOwn (model (Xs q.1).prog (Xs q.1).w) (Xs q.1).A (Xs q.1).env q.2.2 })
      (fun q => (Xs q.1.1).tr q.1.2.1 q.1.2.2) ⟨fun q => Fm.prog _, fun q => Fm.wd _, fun q => Fm.kk _, fun q => Fm.gl _, fun q => Fm.bs _, fun q => Fm.nm _, fun q => Fm.scp _, fun q => Fm.calm _, Fm.nd, fun q => Fm.room _, fun q => Fm.fn _⟩ (fun q => q.2.1) (fun q => q.2.2)
    exact ⟨t, fun j pn xe a b => h1 ⟨(j, pn, xe), a, b⟩, h2⟩
  refine ⟨fun Z σ H => Classical.choose (key (wKeep K c i (fun _ => tAsg (tVar i) (gName ic)) Z)) Z σ H, fun j => ?_, fun Oc H0 O σ ρ H Z R p => ?_⟩
  · have := ps_try_keep (X := Xs j) (x := x) (n := n) (c := c) (i := i) (np := q1) (pos := pos) (pos' := q5) (tb := fun W' => Classical.choose (key W')) (ts := fun _ => tAsg (tVar i) (gName ic)) (hp j).1 (hp j).2.1 (hp j).2.2 (Fm.ndj j) (Fm.at hN j)
      (by show (Xs j).env.scope.names.lookup n = _; rw [Fm.scp j]; exact isLoc_of hl) ⟨Fm.gl_ok hg j, hd, .inl (Fm.some hm j)⟩ (fun W' pn xe a b => (Classical.choose_spec (key W')).1 j pn xe a b)
      (b₀ := .Assign [.Name nc q2] (.Name n q3) q4) (suite := []) (fun z ox pn => pss_one (ps_set (X := (Xs j).suite z ((z, ox) :: pn)) (pos := q4) (Fm.ndj j) (Fm.at hNc j) (Fm.loc hlc j) (pe_var (Fm.at hN j) (Fm.vis hv j) hdn hcn) rfl (Fm.hf hlc j)))
    rw [Fm.kk j] at this
    exact this
  · refine (Classical.choose_spec (key (wKeep K c i (fun _ => tAsg (tVar i) (gName ic)) Z))).2 Oc H0 O σ ρ H Z R ?_
    unfold sTry at p
    cases e : F ρ with
    | nx ρ' => rw [e] at p; exact p
    | rt d => rw [e] at p; exact p
    | rs d ρ' => rw [e] at p; exact p
    | bk ρ' => rw [e] at p; exact p
    | ct ρ' => rw [e] at p; exact p
    | no => rw [e] at p; exact p
    | ex cc ρ' =>
      rw [e] at p
      dsimp only at p
      split at p
      · rename_i hh
        intro O' σ' H' R' x'
        refine ⟨hx cc, rfl, fun z nz => ⟨.ref z, ?_, ?_⟩⟩
        · rw [List.getElem?_set_self (by rw [R'.len]; exact hh.1)]
        · have zO : z ∉ O' := fun y => R'.od z y nz
          refine p O' _ _ (RepS.drop (RepS.put (O' := O') (l := []) (RepS.drop R') (Ex.new nz) (fun _ y => y) (fun _ y => by simp at y) (fun a ha y => R'.od a ha ((Ex.new nz).free y)) (R'.nt.mono (Ex.new nz) R'.od) (hide_ex (Ex.new nz)) ⟨rfl, z, rfl, hide_some.mpr ⟨zO, upd_same⟩⟩)) (x'.trans (hide_ex (Ex.new nz)))
      · exact p.elim
end
end DL

/-! the law's calls; what the top says of the exception classes; try and return -/
namespace DL
open PySem L2
variable [SC]
section
variable {ι : Type} {Xs : ι → Cx} {P : Program} {w : World} {K : PySem.W.Frag} {mg : Str → Option Value} {base : Heap} {N ps : List Str} {sc : Scope} {fnn : Str → Bool} {k kc : Nat} {pos p : Pos} {x : Str} {e : Expr} {es : List Expr} {g : List D → Rs D} {ws : WA}
theorem we_callX (Fm : Fam Xs P w K mg base N sc fnn k) (G : KnownX P w K mg base kc x ps (spX mg ps.length g)) (ha : EWA Xs (e :: es) ws) (hk : kc ≤ k := by decide) (hg : glB sc x = true := by decide +kernel)
    (hd : (x == ("__debug__" : Str)) = false := by decide) (hs : ∀ env, starEach (e :: es) env = (false, eval e env) :: starEach es env := by intro _; rfl) (hpl : ∀ env, (backTo pos (starEach es env)).any (·.1) = false := by intro _; rfl) :
    EWE Xs (.Call (.Name x p) (e :: es) [] pos) (wApL (callX ps.length g) ws) := by
  obtain ⟨f, fd, G, hm, kp, b⟩ := G
  obtain ⟨t, h1, h2, h3⟩ := ha
  refine ⟨tCallS (spX mg ps.length g) (L2.WE W0) t, fun j => ?_, fun Oc H0 O σ ρ H Q R p => h2 Oc H0 O σ ρ H _ R (h3 _ _ _ (fun ds q vs H1 l1 q1 => ?_) p), mono_wApL h3⟩
  · refine pe_callS (fd := fd) (CX := L2.CX (Xs j).prog (Xs j).w) (k := kc) (ps := ps) ?_ ((Fm.room j).mono hk) (Fm.gl_ok hg j) (Fm.some hm j) (by rw [Fm.kk j]; exact kp) (by rw [Fm.kk j]; exact b) (passAt takes0) (h1 j) hd (hs _) (hpl _)
    rw [Fm.prog j, Fm.wd j, Fm.kk j, Fm.gl j, Fm.bs j]
    exact G
  · obtain ⟨z, e, q⟩ := q
    unfold callX at e
    split at e
    · rename_i hl
      have R1 := R.later l1
      refine ⟨by rw [q1.length]; exact hl, O, ds, R1.od, R1.nt, q1, ?_⟩
      rw [e]
      exact fun v H2 x2 q2 => q v H2 (l1.trans (R1.later_ex x2)) q2
    · cases e
end
/-- what the top says of the exception classes -/
structure XTop (K : PySem.W.Frag) (mg : Str → Option Value) (C : Nat → Addr) (R : Addr) : Prop where
  base : mg "RankError" = some (.ref R)
  cls : ∀ c, mg (xNm c) = some (.ref (C c))
  exc : ∀ c, c < 5 → ExcC K (C c)
  kit : ∀ c t, c < 5 → t < 5 → PySem.W.kitOne K (.ref (C c)) (.ref (C t)) = some (decide (c = t))
  kitR : ∀ c, c < 5 → PySem.W.kitOne K (.ref (C c)) (.ref R) = some true
  kitV : ∀ c, c < 5 → PySem.W.kitOne K (.ref (C c)) (.type "ValueError") = some true
  exm : ∀ c, PySem.W.exmOne K (.ref (C c)) (.ref R) = some true
section
variable {K : PySem.W.Frag} {mg : Str → Option Value} {C : Nat → Addr} {R : Addr}
theorem XTop.cv (T : XTop K mg C R) (c : Nat) : cvM mg c = .ref (C c) := by
  show (mg (xNm c)).getD .none = _
  rw [T.cls c]
  rfl
theorem XTop.inj (T : XTop K mg C R) {c t : Nat} (hc : c < 5) (ht : t < 5) (e : cvM mg c = cvM mg t) : c = t := by
  rw [T.cv, T.cv] at e
  have e := Value.ref.inj e
  have h := T.kit c t hc ht
  rw [← e] at h
  have h2 := T.kit c c hc hc
  rw [h2] at h
  simpa using h
theorem XTop.exmC (T : XTop K mg C R) (c : Nat) : PySem.W.exmOne K (cvM mg c) (.ref R) = some true := by
  rw [T.cv]
  exact T.exm c
theorem fErr_at (T : XTop K mg C R) {i c : Nat} {ρ : En} (hc : c < 5) (h : ρ[i]? = some (some (.xo (cvM mg c)))) : fErr mg i ρ = .ok (.str (eNm c)) := by
  unfold fErr
  rw [h]
  have ex : ∃ t, t < 5 ∧ cvM mg c = cvM mg t := ⟨c, hc, rfl⟩
  dsimp only
  rw [dif_pos ex]
  have e : ex.choose = c := (T.inj hc ex.choose_spec.1 ex.choose_spec.2).symm
  rw [e]
end
/-- try: F / except ..: caught = e / return fa if caught is None else er(the name of e) -/
def sTryR (i ic : Nat) (F : En → Out) (fa : En → Rs D) (er : D → Rs D) : En → Out := fun ρ => match F ρ with
  | .nx ρ' => match ρ'[ic]? with
    | some (some (.sh .none)) => sRet fa ρ'
    | _ => .no
  | .ex c ρ' => if i < ρ'.length ∧ ic < ρ'.length ∧ i ≠ ic ∧ c < 5 then (match er (.str (eNm c)) with | .ok d => .rt d | _ => .no) else .no
  | _ => .no
section
variable {ι : Type} {W : WX} {fr : RM} {Xs : ι → Cx} {K : PySem.W.Frag} {mg : Str → Option Value} {C : Nat → Addr} {R : Addr} {s1 s2 : Stmt} {i ic : Nat} {F : En → Out} {fa : En → Rs D}
theorem s_tryR (T : XTop K mg C R) {er : D → Rs D} (h : SSs (cvM mg) W fr Xs [s1, s2] (sSeq (sTry mg i ic F) (sRet (fIf (tIsNo ic) fa (ap1 er (fErr mg ic)))))) : SSs (cvM mg) W fr Xs [s1, s2] (sTryR i ic F fa er) := by
  obtain ⟨t, h1, h2⟩ := h
  refine ⟨t, h1, fun Oc H0 O σ ρ H Z R p => h2 Oc H0 O σ ρ H Z R ?_⟩
  unfold sTryR at p
  unfold sSeq sTry
  cases e : F ρ with
  | nx ρ' =>
    rw [e] at p
    dsimp only at p ⊢
    split at p
    · rename_i g
      have : sRet (fIf (tIsNo ic) fa (ap1 er (fErr mg ic))) ρ' = sRet fa ρ' := by
        unfold sRet fIf tIsNo
        rw [g]
        rfl
      rw [this]
      exact p
    · exact p.elim
  | ex c ρ' =>
    rw [e] at p
    dsimp only at p ⊢
    split at p
    · rename_i hh
      rw [if_pos ⟨hh.1, hh.2.2.1⟩]
      have g : (((ρ'.set i none).set ic (some (Sl.xo (cvM mg c)))).set i none)[ic]? = some (some (.xo (cvM mg c))) := by
        rw [List.getElem?_set_ne hh.2.2.1, List.getElem?_set_self (by simpa using hh.2.1)]
      have : sRet (fIf (tIsNo ic) fa (ap1 er (fErr mg ic))) (((ρ'.set i none).set ic (some (Sl.xo (cvM mg c)))).set i none) = ofR (er (.str (eNm c))) (((ρ'.set i none).set ic (some (Sl.xo (cvM mg c)))).set i none) .rt := by
        unfold sRet fIf ap1
        rw [fErr_at T hh.2.2.2 g]
        unfold tIsNo
        rw [g]
        rfl
      show PosS (cvM mg) W fr Oc H0 O H Z (sRet (fIf (tIsNo ic) fa (ap1 er (fErr mg ic))) (((ρ'.set i none).set ic (some (Sl.xo (cvM mg c)))).set i none))
      rw [this]
      cases ee : er (.str (eNm c)) with
      | ok d => rw [ee] at p; exact p
      | er c => rw [ee] at p; exact p.elim
      | no => rw [ee] at p; exact p.elim
    · exact p.elim
  | rt d => rw [e] at p; exact p.elim
  | rs d ρ' => rw [e] at p; exact p.elim
  | bk ρ' => rw [e] at p; exact p.elim
  | ct ρ' => rw [e] at p; exact p.elim
  | no => rw [e] at p; exact p.elim
theorem ee_eq {cv : Nat → Value} {e : Expr} {f g : En → Rs D} (h : EE cv W Xs e f) (q : f = g) : EE cv W Xs e g := q ▸ h
theorem e_id {cv : Nat → Value} {e : Expr} {f : En → Rs D} (h : EE cv W Xs e f) : EE cv W Xs e (ap1 .ok f) := ee_eq h (by
  funext ρ
  unfold ap1
  cases f ρ <;> rfl)
theorem e_lst1 {cv : Nat → Value} {e : Expr} {f : En → Rs D} {pos : Pos} (h : EE cv W Xs (.List [e] pos) (apL dLst (fCons f fNil))) : EE cv W Xs (.List [e] pos) (ap1 (fun d => dLst [d]) f) := ee_eq h (by
  funext ρ
  unfold ap1 apL fCons fNil
  cases f ρ <;> rfl)
end
end DL

namespace DL
open PySem L2
variable [SC]
theorem top_exc {K : PySem.W.Frag} {h : Heap} {mg : Str → Option Value} (X : K.In h) (G : h.Ns mainGlobals mg) {x : Str} {C : Addr} (a : PySem.W.nsIn K mainGlobals x = some (some (.ref C)))
    (e : PySem.W.excIn K C [.type "ValueError", .type "Exception", .type "BaseException", .type "object"] "ValueError.__new__" = true) (k : PySem.W.keepIn K (.ref C) = true)
    (b : PySem.W.subIn K (.ref C) (.type "BaseException") = some true) (t : PySem.W.typeIn K (.ref C) = some (.type "type")) : XOk K mg x := ⟨C, PySem.W.mg_of X G a, e, k, b, t⟩
section
variable {P : Program} {w : World} {K : PySem.W.Frag} {mg : Str → Option Value} {base : Heap} {N : List Str} {y : Str} {k : Nat} {st : Stmt}
theorem known_err (h : ∃ f fd, Fun K "_law_error" "_law_error" st f fd ∧ mg "_law_error" = some (.ref f)) (S : FnScope (y :: N) [y] (defScope st)) (B : BindsB "_law_error" st [y])
    (hb : ∀ c, c < 5 → ∀ (Xs : Unit → Cx), Fam Xs P w K mg base (y :: N) (defScope st) (fun _ => true) k → ∃ F, SSs cv0 W0 .dat Xs (defBody st) F ∧ F (startX (y :: N).length (cvM mg c)) = .rt (.str (eNm c))) : KnownE P w K mg base (k + 1) := by
  obtain ⟨f, fd, Fn, hm⟩ := h
  exact ⟨[y], f, fd, ok_err Fn S hb, hm, Fn.kp, Fn.binds B⟩
end
theorem fIsX_0 {cl : Value} {b : Bool} {ρ : En} : fIsX cl b 0 (some (.xo cl) :: ρ) = .ok (.bool b) := fIsX_at rfl
structure XC1 (K : PySem.W.Frag) (mg : Str → Option Value) (x : Str) (C : Addr) : Prop where
  nm : mg x = some (.ref C)
  ex : ExcC K C
  ty : PySem.W.typeIn K (.ref C) = some (.type "type")
theorem xc1 {K : PySem.W.Frag} {h : Heap} {mg : Str → Option Value} (X : K.In h) (G : h.Ns mainGlobals mg) {x : Str} {C : Addr} (a : PySem.W.nsIn K mainGlobals x = some (some (.ref C)))
    (hg : PySem.W.findIn K (.ref C) "__getattribute__" = some (some (.builtin "BaseException.__getattribute__"))) (hk : PySem.W.findIn K (.ref C) "__getattr__" = some none) (hs : PySem.W.subIn K (.ref C) (.type "BaseException") = some true)
    (hd : PySem.W.hasDictIn K C = true) (ha : PySem.W.findIn K (.ref C) "__class__" = some (some (.builtin "object.__class__"))) (hm : PySem.W.mroIn K C (.type "object") = some true)
    (hn : PySem.W.specialIn K (.builtin "object.__class__") "__get__" = some (some (.builtin "getset_descriptor.__get__"))) (ht : PySem.W.takesIn K (.builtin "object.__class__") = some true) (t : PySem.W.typeIn K (.ref C) = some (.type "type")) : XC1 K mg x C :=
  ⟨PySem.W.mg_of X G a, ⟨hg, hk, hs, hd, ha, hn, ht, hm⟩, t⟩
section
variable {K : PySem.W.Frag} {mg : Str → Option Value}
theorem kitc_ref {x : Str} {C E : Addr} {v : Bool} (X : XC1 K mg x C) (s : PySem.W.subIn K (.ref E) (.ref C) = some v) : PySem.W.kitCls K (.ref E) (.ref C) = some v := by
  obtain ⟨cd, hc, _⟩ := PySem.W.any_some X.ex.hd
  show (if ((PySem.W.clsIn K C).isSome && PySem.W.typeIn K (.ref C) == some (.type "type")) = true then _ else _) = _
  rw [if_pos (by rw [hc, X.ty]; rfl)]
  exact s
theorem kit_ref {x : Str} {C E : Addr} {v : Bool} (X : XC1 K mg x C) (s : PySem.W.subIn K (.ref E) (.ref C) = some v) (hv : E = C → v = true) : PySem.W.kitOne K (.ref E) (.ref C) = some v := by
  unfold PySem.W.kitOne
  split
  · rename_i h
    rw [hv (Value.ref.inj (beq_iff_eq.mp h))]
  · exact kitc_ref X s
theorem kit_typ {E : Addr} {v : Bool} {T : String} (m : PySem.W.kitMeta T = true) (s : PySem.W.subIn K (.ref E) (.type T) = some v) : PySem.W.kitOne K (.ref E) (.type T) = some v := by
  unfold PySem.W.kitOne
  split
  · rename_i h
    have := beq_iff_eq.mp h
    cases this
  · show (if PySem.W.kitMeta T = true then _ else _) = _
    rw [if_pos m]
    exact s
def pick5 (C0 C1 C2 C3 C4 : Addr) : Nat → Addr
  | 0 => C0
  | 1 => C1
  | 2 => C2
  | 3 => C3
  | _ => C4
theorem exm_c {x : Str} {R E : Addr} (X : XC1 K mg x R) (s : PySem.W.subIn K (.ref E) (.ref R) = some true) : PySem.W.exmOne K (.ref E) (.ref R) = some true := by
  show (if (PySem.W.subIn K (.ref R) (.type "BaseException") == some true) = true then _ else _) = _
  rw [if_pos (by rw [X.ex.hs]; rfl)]
  exact kitc_ref X s
theorem top_xt {C0 C1 C2 C3 C4 R : Addr} (X0 : XC1 K mg "BadRanking" C0) (X1 : XC1 K mg "BadScores" C1) (X2 : XC1 K mg "BadNumber" C2) (X3 : XC1 K mg "BadText" C3) (X4 : XC1 K mg "NotFound" C4) (XR : XC1 K mg "RankError" R) (s00 : PySem.W.subIn K (.ref C0) (.ref C0) = some true) (s01 : PySem.W.subIn K (.ref C0) (.ref C1) = some false) (s02 : PySem.W.subIn K (.ref C0) (.ref C2) = some false) (s03 : PySem.W.subIn K (.ref C0) (.ref C3) = some false) (s04 : PySem.W.subIn K (.ref C0) (.ref C4) = some false) (s10 : PySem.W.subIn K (.ref C1) (.ref C0) = some false) (s11 : PySem.W.subIn K (.ref C1) (.ref C1) = some true) (s12 : PySem.W.subIn K (.ref C1) (.ref C2) = some false) (s13 : PySem.W.subIn K (.ref C1) (.ref C3) = some false) (s14 : PySem.W.subIn K (.ref C1) (.ref C4) = some false) (s20 : PySem.W.subIn K (.ref C2) (.ref C0) = some false) (s21 : PySem.W.subIn K (.ref C2) (.ref C1) = some false) (s22 : PySem.W.subIn K (.ref C2) (.ref C2) = some true) (s23 : PySem.W.subIn K (.ref C2) (.ref C3) = some false) (s24 : PySem.W.subIn K (.ref C2) (.ref C4) = some false) (s30 : PySem.W.subIn K (.ref C3) (.ref C0) = some false) (s31 : PySem.W.subIn K (.ref C3) (.ref C1) = some false) (s32 : PySem.W.subIn K (.ref C3) (.ref C2) = some false) (s33 : PySem.W.subIn K (.ref C3) (.ref C3) = some true) (s34 : PySem.W.subIn K (.ref C3) (.ref C4) = some false) (s40 : PySem.W.subIn K (.ref C4) (.ref C0) = some false) (s41 : PySem.W.subIn K (.ref C4) (.ref C1) = some false) (s42 : PySem.W.subIn K (.ref C4) (.ref C2) = some false) (s43 : PySem.W.subIn K (.ref C4) (.ref C3) = some false) (s44 : PySem.W.subIn K (.ref C4) (.ref C4) = some true) (r0 : PySem.W.subIn K (.ref C0) (.ref R) = some true) (r1 : PySem.W.subIn K (.ref C1) (.ref R) = some true) (r2 : PySem.W.subIn K (.ref C2) (.ref R) = some true) (r3 : PySem.W.subIn K (.ref C3) (.ref R) = some true) (r4 : PySem.W.subIn K (.ref C4) (.ref R) = some true) (v0 : PySem.W.subIn K (.ref C0) (.type "ValueError") = some true) (v1 : PySem.W.subIn K (.ref C1) (.type "ValueError") = some true) (v2 : PySem.W.subIn K (.ref C2) (.type "ValueError") = some true) (v3 : PySem.W.subIn K (.ref C3) (.type "ValueError") = some true) (v4 : PySem.W.subIn K (.ref C4) (.type "ValueError") = some true) (mv : PySem.W.kitMeta "ValueError" = true) : ∃ C R, XTop K mg C R :=
  ⟨pick5 C0 C1 C2 C3 C4, R, XR.nm, fun c => (match c with
    | 0 => X0.nm
    | 1 => X1.nm
    | 2 => X2.nm
    | 3 => X3.nm
    | n + 4 => X4.nm), fun c hc => (match c, hc with
    | 0, _ => X0.ex
    | 1, _ => X1.ex
    | 2, _ => X2.ex
    | 3, _ => X3.ex
    | 4, _ => X4.ex), fun c t hc ht => (match c, t, hc, ht with
    | 0, 0, _, _ => kit_ref X0 s00 (fun e => by rfl)
    | 0, 1, _, _ => kit_ref X1 s01 (fun e => by have e : C0 = C1 := e; rw [← e, s00] at s01; cases s01)
    | 0, 2, _, _ => kit_ref X2 s02 (fun e => by have e : C0 = C2 := e; rw [← e, s00] at s02; cases s02)
    | 0, 3, _, _ => kit_ref X3 s03 (fun e => by have e : C0 = C3 := e; rw [← e, s00] at s03; cases s03)
    | 0, 4, _, _ => kit_ref X4 s04 (fun e => by have e : C0 = C4 := e; rw [← e, s00] at s04; cases s04)
    | 1, 0, _, _ => kit_ref X0 s10 (fun e => by have e : C1 = C0 := e; rw [← e, s11] at s10; cases s10)
    | 1, 1, _, _ => kit_ref X1 s11 (fun e => by rfl)
    | 1, 2, _, _ => kit_ref X2 s12 (fun e => by have e : C1 = C2 := e; rw [← e, s11] at s12; cases s12)
    | 1, 3, _, _ => kit_ref X3 s13 (fun e => by have e : C1 = C3 := e; rw [← e, s11] at s13; cases s13)
    | 1, 4, _, _ => kit_ref X4 s14 (fun e => by have e : C1 = C4 := e; rw [← e, s11] at s14; cases s14)
    | 2, 0, _, _ => kit_ref X0 s20 (fun e => by have e : C2 = C0 := e; rw [← e, s22] at s20; cases s20)
    | 2, 1, _, _ => kit_ref X1 s21 (fun e => by have e : C2 = C1 := e; rw [← e, s22] at s21; cases s21)
    | 2, 2, _, _ => kit_ref X2 s22 (fun e => by rfl)
    | 2, 3, _, _ => kit_ref X3 s23 (fun e => by have e : C2 = C3 := e; rw [← e, s22] at s23; cases s23)
    | 2, 4, _, _ => kit_ref X4 s24 (fun e => by have e : C2 = C4 := e; rw [← e, s22] at s24; cases s24)
    | 3, 0, _, _ => kit_ref X0 s30 (fun e => by have e : C3 = C0 := e; rw [← e, s33] at s30; cases s30)
    | 3, 1, _, _ => kit_ref X1 s31 (fun e => by have e : C3 = C1 := e; rw [← e, s33] at s31; cases s31)
    | 3, 2, _, _ => kit_ref X2 s32 (fun e => by have e : C3 = C2 := e; rw [← e, s33] at s32; cases s32)
    | 3, 3, _, _ => kit_ref X3 s33 (fun e => by rfl)
    | 3, 4, _, _ => kit_ref X4 s34 (fun e => by have e : C3 = C4 := e; rw [← e, s33] at s34; cases s34)
    | 4, 0, _, _ => kit_ref X0 s40 (fun e => by have e : C4 = C0 := e; rw [← e, s44] at s40; cases s40)
    | 4, 1, _, _ => kit_ref X1 s41 (fun e => by have e : C4 = C1 := e; rw [← e, s44] at s41; cases s41)
    | 4, 2, _, _ => kit_ref X2 s42 (fun e => by have e : C4 = C2 := e; rw [← e, s44] at s42; cases s42)
    | 4, 3, _, _ => kit_ref X3 s43 (fun e => by have e : C4 = C3 := e; rw [← e, s44] at s43; cases s43)
    | 4, 4, _, _ => kit_ref X4 s44 (fun e => by rfl)), fun c hc => (match c, hc with
    | 0, _ => kit_ref XR r0 (fun _ => rfl)
    | 1, _ => kit_ref XR r1 (fun _ => rfl)
    | 2, _ => kit_ref XR r2 (fun _ => rfl)
    | 3, _ => kit_ref XR r3 (fun _ => rfl)
    | 4, _ => kit_ref XR r4 (fun _ => rfl)), fun c hc => (match c, hc with
    | 0, _ => kit_typ mv v0
    | 1, _ => kit_typ mv v1
    | 2, _ => kit_typ mv v2
    | 3, _ => kit_typ mv v3
    | 4, _ => kit_typ mv v4), fun c => (match c with
    | 0 => exm_c XR r0
    | 1 => exm_c XR r1
    | 2 => exm_c XR r2
    | 3 => exm_c XR r3
    | n + 4 => exm_c XR r4)⟩
end
end DL

/-! sorted(d), d a dict by pairs of ints -/
namespace SrtO
open PySem PyProof.Rows PySem.W L2
variable {prog : Program} {w : World} {A : Around} {E : Value → Shared → Prop} {s : Shared}
theorem sorted_src {T : String} {r d : Addr} {n : Nat} {P : Nat → Value → Prop} {OK : Heap → Prop} {ltv : Value → Value → Bool} {Q : Value → Shared → Prop} (K : KdlSrc prog w T r d n P OK) (hh : A.handled = none) (hok : OK s.heap) (hn : n ≤ sizeLine) (O : Swo ltv)
    (h : ∀ (h' : Heap) (tk : Nat) (vs : List Value), (∀ b o, s.heap.get? b = some o → h'.get? b = some o) → vs.length = n → (∀ (j : Nat) (v : Value), vs[j]? = some v → P j v) →
      (2 ≤ vs.length → ∀ (h₁ : Heap) (a : Addr), h₁.get? a = some (seqObj "list" vs.toArray 0) → (∀ b o, h'.get? b = some o → b ≠ a ∧ h₁.get? b = some o) → SortableO prog w A.in1.in1 { s with heap := h₁, toks := tk } a vs ltv) ∧
      ∀ (h₂ : Heap) (q : Addr) (out : List Value), Srtd ltv out → Stb ltv out vs → (∀ b o, h'.get? b = some o → h₂.get? b = some o) → h'.objs.size ≤ q → (∃ c, h₂.get? q = some (seqObj "list" out.toArray c)) → Q (.ref q) { s with heap := h₂, toks := tk }) :
    wpAny (model prog w) A (call (.builtin "sorted") [.ref r]) Q E s := by
  refine Calls.call_function_entry kind_sorted plain_sorted entry_sorted (args_sorted1 _) ?_
  unfold Builtin.«sorted»
  refine wpAny_bind (m := checkCount "sorted" 1 1 _) (wpAny_pure ?_)
  refine wpAny_bind (kdu_collect K hh hok hn fun h' tk acc kp it => ?_)
  have hz : acc.toList.length ≤ sizeLine := by rw [Array.length_toList, it.1]; exact hn
  obtain ⟨g1, g2⟩ := h h' tk acc.toList kp (by rw [Array.length_toList, it.1]) (fun j v e => it.2 j v (by rw [← Array.getElem?_toList]; exact e))
  refine wpAny_bind (wpAny_newList ?_ hz)
  have hoL : (h'.push (seqObj "list" acc.toList.toArray 0)).get? h'.objs.size = some (seqObj "list" acc.toList.toArray 0) := Heap.get?_push_size _ rfl
  have keep : ∀ b o, h'.get? b = some o → b ≠ h'.objs.size ∧ (h'.push (seqObj "list" acc.toList.toArray 0)).get? b = some o := fun b o q =>
    ⟨Nat.ne_of_lt (Heap.lt_size q), Heap.get?_push_of_some _ q⟩
  show wpAny _ _ _ _ _ { s with heap := h'.push (seqObj "list" acc.toList.toArray 0), toks := tk }
  refine wpAny_bind (wpAny_holding (wpAny_call_entry slot_list_sort ⟨_, hoL, rfl⟩ entry_list_sort (list_sort_ord (s := { s with heap := h'.push (seqObj "list" acc.toList.toArray 0), toks := tk }) O hoL hz (fun h2 => g1 h2 _ _ hoL keep) fun out hs hb => ⟨_, rfl, ?_⟩) (args_list_sort _)))
  refine wpAny_pure ⟨_, rfl, g2 _ _ out hs hb (fun b o e => ?_) (Nat.le_refl _) (sortedHeap_at hoL)⟩
  have hlt := Heap.lt_size e
  rw [sortedHeap_old (Nat.ne_of_lt hlt) (Nat.lt_trans hlt (by rw [size_push']; exact Nat.lt_succ_self _))]
  exact Heap.get?_push_of_some _ e
end SrtO
namespace DL
open PySem L2 PySem.W
variable [SC]
def key2 (p : Int × Int) : List Key := [.inl p.1, .inl p.2]
theorem key2_inj {p q : Int × Int} (h : key2 p = key2 q) : p = q := by
  unfold key2 at h
  simp at h
  exact Prod.ext h.1 h.2
theorem key2_kV (p : Int × Int) : (key2 p).map kV = [.int p.1, .int p.2] := rfl
def rSortedDT : List V → Hp → VK → Prop := fun vs H Q => ∃ (a : Addr) (kvs : List (List Key × V)) (ps : List (Int × Int)), vs = [V.ref a] ∧ H a = some (.dT kvs) ∧ kvs.map (·.1) = ps.map key2 ∧
  ∀ (ys : List V) (k : V → Int × Int) (p : Addr), (∀ y ∈ ys, ∃ t, y = V.ref t ∧ H t = some (.tup [.int (k y).1, .int (k y).2])) → ys.map k = sortP ps → H p = none → Q (.ref p) (upd H p (.lst ys))
theorem kt_keys {H : Hp} : ∀ {kvs : List (List Key × V)} {ks : List (List Key × Addr × Value)} {ps : List (Int × Int)}, KT H kvs ks → kvs.map (·.1) = ps.map key2 →
    (∀ x ∈ ks, H x.2.1 = some (.tup [.int (keyH H (.ref x.2.1)).1, .int (keyH H (.ref x.2.1)).2])) ∧ ks.map (fun x => keyH H (.ref x.2.1)) = ps
  | [], [], ps, _, e => by
    cases ps with
    | nil => exact ⟨by simp, rfl⟩
    | cons p ps => simp at e
  | kv :: kvs, x :: ks, ps, r, e => by
    cases ps with
    | nil => simp at e
    | cons p ps =>
      cases r with
      | cons h t =>
        simp only [List.map_cons, List.cons.injEq] at e
        obtain ⟨i1, i2⟩ := kt_keys t e.2
        have hx : H x.2.1 = some (.tup [.int p.1, .int p.2]) := by rw [h.2.1, e.1]; rfl
        have hk : keyH H (.ref x.2.1) = p := by unfold keyH; dsimp only; rw [hx]
        refine ⟨fun y hy => ?_, by rw [List.map_cons, i2, hk]⟩
        rcases List.mem_cons.mp hy with e | hy
        · rw [e, hk]; exact hx
        · exact i1 y hy
theorem cr_sortedDT {X : Cx} (hc : X.calm = true) : CallR X (.builtin "sorted") rSortedDT := by
  intro pins s σ H vs us Q I r h
  obtain ⟨d, kvs, ps, rfl, hd, hps, q⟩ := h
  obtain ⟨u, rfl, ru⟩ := vals1 r
  obtain rfl : u = Value.ref d := ru
  obtain ⟨z, hs, ks, pr, o, es, ep, ho, hx, hdt, he, hn⟩ := (show ObjOk X.prog X.w H s.heap d (.dT kvs) from I.hok d _ hd)
  have l1 : es.size = ks.length := size_of_entries he
  have l2 : kvs.length = ks.length := Paired.length pr
  obtain ⟨k1, k2⟩ := kt_keys pr hps
  refine SrtO.sorted_src (ltv := fun v u => SrtO.lexB (keyH H (backV v)) (keyH H (backV u))) (kdl_raw hs hx hdt) (I.ok.hd hc) ho (by omega) (SrtO.swo_lex fun v => keyH H (backV v)) fun h' tk vs kp hl hv => ?_
  have I1 : Inv X pins σ H { s with heap := h', toks := tk } := I.kept kp
  have ea : vs = ks.map fun x => Value.ref x.2.1 := by
    have hl : vs.length = ks.length := by omega
    apply List.ext_getElem?
    intro j
    rw [List.getElem?_map]
    cases hj : vs[j]? with
    | none =>
      have h1 := List.getElem?_eq_none_iff.mp hj
      rw [List.getElem?_eq_none (by omega)]
      rfl
    | some v =>
      obtain ⟨en, hen, hv⟩ := hv j v hj
      have qe := entry_at he j
      rw [hen] at qe
      cases hb : ks[j]? with
      | none =>
        rw [hb] at qe
        exact nomatch (show some en = none from qe)
      | some b =>
        rw [hb] at qe
        have e2 : en = entryOfKey (tupleKind (mixKind X.prog X.w)) b := Option.some.inj qe
        rw [hv, e2]
        rfl
  have mem : ∀ v ∈ vs, ∃ t, v = Value.ref t ∧ H t = some (.tup [.int (keyH H (.ref t)).1, .int (keyH H (.ref t)).2]) := fun v hv => by
    rw [ea] at hv
    obtain ⟨x, hx, rfl⟩ := List.mem_map.mp hv
    exact ⟨_, rfl, k1 x hx⟩
  refine ⟨fun h2 h₁ a ha kk => ?_, fun h₂ p out s1 s2 kp2 hp hout => ?_⟩
  · refine SrtO.pairs_sortableO (s := { s with heap := h₁, toks := tk }) (k := fun v => keyH H (backV v)) (by omega) (fun v hm => ?_) fun o e => ?_
    · obtain ⟨t, rfl, ht⟩ := mem v hm
      obtain ⟨_, its2, r2, o, ho, hc, n, hd⟩ := I1.hok _ _ ht
      obtain ⟨u1, u2, rfl, ri, rj⟩ := vals2 r2
      obtain ⟨t1, rfl⟩ := ri
      obtain ⟨t2, rfl⟩ := rj
      exact ⟨t, o, t1, t2, n, rfl, (kk _ _ ho).2, hc, hd⟩
    · have e' : some o = some (PyProof.Rows.seqObj "list" vs.toArray 0) := e.symm.trans ha
      cases e'
      intro c
      exact absurd (Value.type.inj c) (by decide)
  · have h3 : ∀ u ∈ out, ∃ a, u = Value.ref a := fun u hu => by
      obtain ⟨t, e, _⟩ := mem u (s2.perm.mem_iff.mp hu)
      exact ⟨t, e⟩
    obtain ⟨n, hn⟩ := hout
    refine ⟨.ref p, upd H p (.lst (out.map backV)), I1.laid (t' := tk) kp2 hp ⟨?_, out, n, vals_back h3, hn⟩, rfl, q _ (keyH H) p (fun y hy => ?_) ?_ (I1.hok.fresh hp)⟩
    · rw [List.length_map, s2.len, hl]
      omega
    · obtain ⟨u, hu, rfl⟩ := List.mem_map.mp hy
      obtain ⟨t, rfl, ht⟩ := mem u (s2.perm.mem_iff.mp hu)
      exact ⟨t, rfl, ht⟩
    · refine sortP_uniq ?_ ?_ (sortP_sorted ps)
      · rw [List.map_map]
        refine (s2.perm.map _).trans ?_
        rw [ea, List.map_map]
        have : ks.map ((keyH H ∘ backV) ∘ fun x => Value.ref x.2.1) = ps := k2
        rw [this]
        exact (sortP_perm ps).symm
      · rw [List.pairwise_map, List.pairwise_map]
        refine s1.imp fun {a b} z => ?_
        have := SrtO.lexB_no.mp z
        unfold leP
        omega
end DL

/-! dicts by tuples of ints -/
namespace DL
open PySem L2
variable [SC]
def keyD : D → Option (List Key)
  | .tuple ds => (intsOf ds).map fun ns => ns.map Sum.inl
  | _ => none
def valD (kvs : List (List Key × D)) (k : List Key) : Option D := (kvs.find? fun kv => decide (kv.1 = k)).map (·.2)
def putD (kvs : List (List Key × D)) (k : List Key) (d : D) : List (List Key × D) :=
  if (kvs.any fun kv => decide (kv.1 = k)) = true then kvs.map (fun kv => if kv.1 = k then (kv.1, d) else kv) else kvs ++ [(k, d)]
def fDGet (i : Nat) (fk fd : En → Rs D) : En → Rs D := fun ρ => match ρ[i]? with
  | some (some (.mo (.dk kvs))) => (fk ρ).bind fun kd => (fd ρ).bind fun d0 => match keyD kd with
    | some k => .ok ((valD kvs k).getD d0)
    | none => .no
  | _ => .no
def fDIx (i : Nat) (fk : En → Rs D) : En → Rs D := fun ρ => match ρ[i]? with
  | some (some (.mo (.dk kvs))) => (fk ρ).bind fun kd => match (keyD kd).bind (valD kvs) with
    | some d => .ok d
    | none => .no
  | _ => .no
def prK : List Key → Option (Int × Int)
  | [.inl a, .inl b] => some (a, b)
  | _ => none
def prKs : List (List Key × D) → Option (List (Int × Int))
  | [] => some []
  | kv :: r => (prK kv.1).bind fun p => (prKs r).bind fun ps => some (p :: ps)
def fDSort (i : Nat) : En → Rs D := fun ρ => match ρ[i]? with
  | some (some (.mo (.dk kvs))) => match prKs kvs with
    | some ps => .ok (.list ((sortP ps).map pairD))
    | none => .no
  | _ => .no
def sDNew (i : Nat) : En → Out := fun ρ => .nx (ρ.set i (some (.mo (.dk []))))
def sDPut (i : Nat) (fk fv : En → Rs D) : En → Out := fun ρ => ofR (fv ρ) ρ fun d => match ρ[i]? with
  | some (some (.mo (.dk kvs))) => ofR (fk ρ) ρ fun kd => match keyD kd with
    | some k => if kvs.length < LIM then .nx (ρ.set i (some (.mo (.dk (putD kvs k d))))) else .no
    | none => .no
  | _ => .no
theorem key_dq {H : Hp} {y : V} {kd : D} {k : List Key} (q : Dq H y kd) (e : keyD kd = some k) : ∃ b, y = .ref b ∧ H b = some (.tup (k.map kV)) := by
  unfold keyD at e
  split at e
  · rename_i ds
    cases hi : intsOf ds with
    | none => rw [hi] at e; cases e
    | some ns =>
      rw [hi] at e
      cases e
      have e := intsOf_eq hi
      subst e
      cases q with
      | tup h a =>
        have e := a.ints
        subst e
        refine ⟨_, rfl, ?_⟩
        rw [h, List.map_map]
        rfl
  · cases e
theorem DkAll.length {H : Hp} : ∀ {vs : List (List Key × V)} {kvs : List (List Key × D)}, DkAll H vs kvs → vs.length = kvs.length
  | _, _, .nil => rfl
  | _, _, .cons _ t => by simp [DkAll.length t]
theorem DkAll.keys {H : Hp} : ∀ {vs : List (List Key × V)} {kvs : List (List Key × D)}, DkAll H vs kvs → vs.map (·.1) = kvs.map (·.1)
  | _, _, .nil => rfl
  | _, _, .cons _ t => by simp [DkAll.keys t]
theorem DkAll.val {H : Hp} (k : List Key) : ∀ {vs : List (List Key × V)} {kvs : List (List Key × D)}, DkAll H vs kvs → (valV vs k = none ∧ valD kvs k = none) ∨ ∃ v d, valV vs k = some v ∧ valD kvs k = some d ∧ Dq H v d
  | _, _, .nil => .inl ⟨rfl, rfl⟩
  | _, _, .cons (k := k0) (v := v) (d := d) h t => by
    by_cases e : k0 = k
    · refine .inr ⟨v, d, valV_pos e, ?_, h⟩
      unfold valD
      rw [List.find?_cons_of_pos (by simpa using e)]
      rfl
    · rw [valV_neg e]
      have : ∀ ds, valD ((k0, d) :: ds) k = valD ds k := fun ds => by
        unfold valD
        rw [List.find?_cons_of_neg (by simpa using e)]
      rw [this]
      exact DkAll.val k t
theorem DkAll.any {H : Hp} {vs : List (List Key × V)} {kvs : List (List Key × D)} (h : DkAll H vs kvs) (k : List Key) : (vs.any fun kv => decide (kv.1 = k)) = (kvs.any fun kv => decide (kv.1 = k)) := by
  have e := h.keys
  have f1 : (vs.any fun kv => decide (kv.1 = k)) = (vs.map (·.1)).any (fun z => decide (z = k)) := by rw [List.any_map]; rfl
  have f2 : (kvs.any fun kv => decide (kv.1 = k)) = (kvs.map (·.1)).any (fun z => decide (z = k)) := by rw [List.any_map]; rfl
  rw [f1, f2, e]
theorem DkAll.repl {H : Hp} {k : List Key} {v : V} {d : D} (q : Dq H v d) : ∀ {vs : List (List Key × V)} {kvs : List (List Key × D)}, DkAll H vs kvs → DkAll H (vs.map fun kv => if kv.1 = k then (kv.1, v) else kv) (kvs.map fun kv => if kv.1 = k then (kv.1, d) else kv)
  | _, _, .nil => .nil
  | _, _, .cons (k := k0) h t => by
    rw [List.map_cons, List.map_cons]
    by_cases e : k0 = k
    · simp only [e, if_true]
      exact .cons q (DkAll.repl q t)
    · simp only [e, if_false]
      exact .cons h (DkAll.repl q t)
theorem DkAll.snoc {H : Hp} {k : List Key} {v : V} {d : D} (q : Dq H v d) : ∀ {vs : List (List Key × V)} {kvs : List (List Key × D)}, DkAll H vs kvs → DkAll H (vs ++ [(k, v)]) (kvs ++ [(k, d)])
  | _, _, .nil => .cons q .nil
  | _, _, .cons h t => .cons h (DkAll.snoc q t)
theorem DkAll.put {H : Hp} {k : List Key} {v : V} {d : D} {vs : List (List Key × V)} {kvs : List (List Key × D)} (h : DkAll H vs kvs) (q : Dq H v d) : DkAll H (putK vs k v) (putD kvs k d) := by
  unfold putK putD
  rw [h.any k]
  split
  · exact h.repl q
  · exact h.snoc q
theorem prKs_eq : ∀ {kvs : List (List Key × D)} {ps : List (Int × Int)}, prKs kvs = some ps → kvs.map (·.1) = ps.map key2
  | [], _, h => by cases h; rfl
  | kv :: kvs, ps, h => by
    unfold prKs at h
    cases hp : prK kv.1 with
    | none => rw [hp] at h; cases h
    | some p =>
      rw [hp] at h
      cases ht : prKs kvs with
      | none => rw [ht] at h; cases h
      | some qs =>
        rw [ht] at h
        cases h
        rw [List.map_cons, List.map_cons, prKs_eq ht]
        congr 1
        unfold prK at hp
        split at hp
        · rename_i a b e
          cases hp
          rw [e]
          rfl
        · cases hp
section
variable {Oc O : List Addr} {H0 H H' : Hp} {σ : St} {ρ : En} {i : Nat}
theorem RepE.at_dk {kvs : List (List Key × D)} (R : RepE O σ ρ H) (e : ρ[i]? = some (some (.mo (.dk kvs)))) : ∃ a vs, σ[i]? = some (some (.ref a)) ∧ H a = some (.dT vs) ∧ DkAll (hide O H) vs kvs := by
  obtain ⟨v, l, h1, a, vs, rfl, _, h3, h4⟩ := R.sl i _ e
  exact ⟨a, vs, h1, h3, h4⟩
/-- an owned object is changed: its cells hold other things -/
theorem RepS.mutO {o o' : Ob} {v : V} (h : RepS Oc H0 O σ ρ H) (e : ρ[i]? = some (some (.mo o))) (ev : σ[i]? = some (some v))
    (k : ∀ l, ObR O H o v l → (∀ a ∈ l, a ∈ O ∧ H0 a = none) → ∃ l', ObR O H' o' v l' ∧ (∀ a ∈ l', a ∈ l)  ∧ (∀ a, a ∉ l → H' a = H a) ∧ (∀ a ∈ l, H' a ≠ none ∧ ∀ xs, H' a ≠ some (.tup xs))) :
    RepS Oc H0 O σ (ρ.set i (some (.mo o'))) H' ∧ Ex (hide O H) (hide O H') := by
  obtain ⟨fp, h1, h2, h3⟩ := h.fp
  obtain ⟨u, q1, q2⟩ := h1 i _ e
  rw [ev] at q1
  cases q1
  obtain ⟨l', k1, k2, k3, k4⟩ := k _ q2 (h3 i)
  have ex : Ex (hide O H) (hide O H') := fun a o ha => by
    obtain ⟨g1, g2⟩ := hide_some.mp ha
    refine hide_some.mpr ⟨g1, ?_⟩
    rw [k3 a (fun z => g1 (h3 i a z).1)]
    exact g2
  refine ⟨⟨by rw [List.length_set]; exact h.len, fun b o hb => ?_, h.oc, h.oh, fun b hb => ?_, fun b hb xs => ?_, fun j => if j = i then l' else fp j, fun j s ej => ?_, fun j j' b => ?_, fun j b => ?_⟩, ex⟩
  · rw [k3 b fun z => by rw [(h3 i b z).2] at hb; cases hb]
    exact h.base b o hb
  · by_cases hq : b ∈ fp i
    · exact (k4 b hq).1
    · rw [k3 b hq]; exact h.od b hb
  · by_cases hq : b ∈ fp i
    · exact (k4 b hq).2 xs
    · rw [k3 b hq]; exact h.nt b hb xs
  · by_cases hj : j = i
    · subst hj
      have hlt : j < ρ.length := by
        rw [List.getElem?_eq_some_iff] at e
        exact e.1
      rw [List.getElem?_set, if_pos rfl, if_pos hlt] at ej
      cases ej
      refine ⟨v, ev, ?_⟩
      show ObR O H' o' v (if j = j then l' else fp j)
      rw [if_pos rfl]
      exact k1
    · rw [List.getElem?_set_ne (Ne.symm hj)] at ej
      obtain ⟨u, p1, p2⟩ := h1 j s ej
      refine ⟨u, p1, ?_⟩
      show SlR O H' s u (if j = i then l' else fp j)
      rw [if_neg hj]
      exact p2.moved ex fun b hb => k3 b fun z => hj (h2 j i b hb z)
  · intro hb hb'
    by_cases hj : j = i
    · by_cases hj' : j' = i
      · rw [hj, hj']
      · simp only [hj, if_true] at hb
        simp only [hj', if_false] at hb'
        rw [hj]
        exact h2 i j' b (k2 b hb) hb'
    · by_cases hj' : j' = i
      · simp only [hj, if_false] at hb
        simp only [hj', if_true] at hb'
        rw [hj']
        exact h2 j i b hb (k2 b hb')
      · simp only [hj, hj', if_false] at hb hb'
        exact h2 j j' b hb hb'
  · intro hb
    by_cases hj : j = i
    · simp only [hj, if_true] at hb
      exact h3 i b (k2 b hb)
    · simp only [hj, if_false] at hb
      exact h3 j b hb
end
section
variable {ι : Type} {cv : Nat → Value} {W : WX} {fr : RM} {Xs : ι → Cx} {P : Program} {w : World} {K : PySem.W.Frag} {mg : Str → Option Value} {base : Heap} {N : List Str} {sc : Scope} {fnn : Str → Bool} {k : Nat} {e a b f : Expr} {fk fd fv : En → Rs D} {pos p apos cpos opos npos : Pos} {x : Str}
/-- x.get(k, d) -/
theorem e_dget2 (Fm : Fam Xs P w K mg base N sc fnn k) (i : Nat) (hk : EE cv W Xs e fk) (hf : EE cv W Xs f fd) (hN : N[i]? = some x := by rfl) (hv : visB sc x = true := by decide +kernel) (hd : (x == ("__debug__" : Str)) = false := by decide) (hcd : (x == ("__classdict__" : Str)) = false := by decide)
    (m : ∀ j, M2 (Xs j) (.Name x opos) "get" apos e f cpos := by intro j; exact ⟨rfl, rfl, rfl, rfl⟩) : EE cv W Xs (.Call (.Attribute (.Name x opos) "get" apos) [e, f] [] cpos) (fDGet i fk fd) := by
  obtain ⟨tk, h1, h2⟩ := hk
  obtain ⟨tf, h3, h4⟩ := hf
  refine ⟨tDGet2 (tVar i) tk tf, fun j => pe_dget2 (by have := Fm.units j; omega) (pe_var (Fm.at hN j) (Fm.vis hv j) hd hcd) (h1 j) (h3 j) (m j), fun O σ ρ H Q R p => ?_⟩
  unfold fDGet at p
  split at p
  · rename_i kvs e
    obtain ⟨a, vs, g1, g2, g3⟩ := R.at_dk e
    refine ⟨_, g1, a, rfl, .inr ⟨vs, .inl g2⟩, h2 O σ ρ H _ R ?_⟩
    cases ek : fk ρ with
    | no => rw [ek] at p; exact p
    | er c => rw [ek] at p; exact p
    | ok kd =>
      rw [ek, Rs.bind_ok] at p
      intro y H2 x2 q2
      refine h4 O σ ρ H2 _ (R.mono x2) ?_
      cases ed : fd ρ with
      | no => rw [ed] at p; exact p
      | er c => rw [ed] at p; exact fun H3 x3 => p H3 (x2.trans x3)
      | ok d0 =>
        rw [ed, Rs.bind_ok] at p
        intro z H3 x3 q3
        split at p
        · rename_i kk hkk
          obtain ⟨b, rfl, hb⟩ := key_dq q2 hkk
          refine ⟨_, DGet.t (x3 _ _ (x2 _ _ g2)) (x3 _ _ (hide_le _ _ hb)), ?_⟩
          rcases g3.val kk with ⟨v1, v2⟩ | ⟨v, d, v1, v2, v3⟩
          · rw [v1]
            rw [v2] at p
            exact p _ _ (x2.trans x3) q3
          · rw [v1]
            rw [v2] at p
            exact p _ _ (x2.trans x3) (v3.mono (hide_ex (x2.trans x3)))
        · exact p.elim
  · exact p.elim
/-- x[k] -/
theorem e_dix (Fm : Fam Xs P w K mg base N sc fnn k) (i : Nat) (hk : EE cv W Xs e fk) (hN : N[i]? = some x := by rfl) (hv : visB sc x = true := by decide +kernel) (hd : (x == ("__debug__" : Str)) = false := by decide) (hcd : (x == ("__classdict__" : Str)) = false := by decide)
    (m : NoSl e := by intro _ _; rfl) : EE cv W Xs (.Subscript (.Name x opos) e pos) (fDIx i fk) := by
  obtain ⟨tk, h1, h2⟩ := hk
  refine ⟨tDGet (tVar i) tk, fun j => pe_dget (by have := Fm.units j; omega) (pe_var (Fm.at hN j) (Fm.vis hv j) hd hcd) (h1 j) m, fun O σ ρ H Q R p => ?_⟩
  unfold fDIx at p
  split at p
  · rename_i kvs e
    obtain ⟨a, vs, g1, g2, g3⟩ := R.at_dk e
    refine ⟨_, g1, h2 O σ ρ H _ R ?_⟩
    cases ek : fk ρ with
    | no => rw [ek] at p; exact p
    | er c => rw [ek] at p; exact p
    | ok kd =>
      rw [ek, Rs.bind_ok] at p
      intro y H2 x2 q2
      cases ekk : keyD kd with
      | none => rw [ekk] at p; exact p.elim
      | some kk =>
        rw [ekk] at p
        obtain ⟨b, rfl, hb⟩ := key_dq q2 ekk
        rcases g3.val kk with ⟨v1, v2⟩ | ⟨v, d, v1, v2, v3⟩
        · rw [show (some kk).bind (valD kvs) = none from v2] at p
          exact p.elim
        · rw [show (some kk).bind (valD kvs) = some d from v2] at p
          exact ⟨a, v, rfl, v1 ▸ DGet.t (x2 _ _ g2) (hide_le _ _ hb), p _ _ x2 (v3.mono (hide_ex x2))⟩
  · exact p.elim
/-- sorted(x) -/
theorem f_dsort (Fm : Fam Xs P w K mg base N sc fnn k) (hm : mg "sorted" = none) (i : Nat) (hg : glB sc "sorted" = true := by decide +kernel) (hN : N[i]? = some x := by rfl) (hv : visB sc x = true := by decide +kernel) (hd : (x == ("__debug__" : Str)) = false := by decide) (hcd : (x == ("__classdict__" : Str)) = false := by decide) :
    EF cv W Xs (.Call (.Name "sorted" p) [.Name x opos] [] pos) (fDSort i) := by
  refine ⟨tCB rSortedDT (tCons (tVar i) tNil), fun j => pe_callB (cr_sortedDT (Fm.calm j)) (Fm.gl_ok hg j) (Fm.none hm j) PyProof.Rows.boot_sorted (pa_cons (pe_var (Fm.at hN j) (Fm.vis hv j) hd hcd) pa_nil rfl) (by decide) (by decide) rfl rfl, fun O σ ρ H Q R p => ?_⟩
  unfold fDSort at p
  split at p
  · rename_i kvs e
    split at p
    · rename_i ps hps
      obtain ⟨a, vs, g1, g2, g3⟩ := R.at_dk e
      refine ⟨_, g1, a, vs, ps, rfl, g2, by rw [g3.keys]; exact prKs_eq hps, fun ys k q hy hk hq => ?_⟩
      refine p q ys _ _ rfl (Ex.new hq) hq upd_same ?_
      have key : ∀ zs : List V, (∀ y ∈ zs, ∃ t, y = V.ref t ∧ H t = some (.tup [.int (k y).1, .int (k y).2])) → DqAll (hide (q :: O) (upd H q (.lst ys))) zs ((zs.map k).map pairD) := by
        intro zs
        induction zs with
        | nil => exact fun _ => .nil
        | cons z zs ih =>
          intro hz
          obtain ⟨t, rfl, ht⟩ := hz z (by simp)
          refine .cons (.tup (a := t) (xs := [.int (k (.ref t)).1, .int (k (.ref t)).2]) (hide_some.mpr ⟨fun m => ?_, ?_⟩) (.cons (.int _) (.cons (.int _) .nil))) (ih fun y hy => hz y (List.mem_cons_of_mem _ hy))
          · rcases List.mem_cons.mp m with rfl | m
            · rw [hq] at ht; cases ht
            · exact R.nt t m _ ht
          · exact (Ex.new hq) _ _ ht
      rw [← hk]
      exact key ys hy
    · exact p.elim
  · exact p.elim
theorem dT_nt {vs : List (List Key × V)} : ∀ xs, HO.dT vs ≠ .tup xs := fun xs z => by cases z
/-- x = {} -/
theorem s_dnew (Fm : Fam Xs P w K mg base N sc fnn k) (i : Nat) {dpos : Pos} (hN : N[i]? = some x := by rfl) (hx : stB fnn sc x = true := by decide +kernel) (hs : ∀ env, swapsWith (.Dict [] [] dpos) (some (.Name x npos)) pos.line env = pure false := by intro _; rfl) :
    SS cv W fr Xs (.Assign [.Name x npos] (.Dict [] [] dpos) pos) (sDNew i) := by
  refine ⟨_, fun j => ps_set (Fm.ndj j) (Fm.at hN j) (Fm.loc hx j) pe_dnewT (hs _) (Fm.hf hx j), fun Oc H0 O σ ρ H Z R p => fun q hq => ?_⟩
  have e : Ex (hide O H) (hide (q :: O) (upd H q (.dT []))) := hide_new hq
  refine p (q :: O) _ _ (R.put (i := i) (s := .mo (.dk [])) (Ex.new hq) (fun a z => List.mem_cons_of_mem _ z) (l := [q]) (fun a z => ?_) (fun a z => ?_) (NT.cons upd_same dT_nt (R.nt.mono (Ex.new hq) R.od)) e ⟨q, [], rfl, rfl, upd_same, .nil⟩) e
  · rcases List.mem_singleton.mp z with rfl
    exact ⟨by simp, fun z => R.od a z hq, R.base.free hq⟩
  · rcases List.mem_cons.mp z with rfl | z
    · rw [upd_same]; simp
    · exact fun y => R.od a z ((Ex.new hq).free y)
/-- x[k] = e -/
theorem s_dput (Fm : Fam Xs P w K mg base N sc fnn k) (i : Nat) (hk : EE cv W Xs b fk) (hf : EE cv W Xs e fv) (hN : N[i]? = some x := by rfl) (hv : visB sc x = true := by decide +kernel) (hd : (x == ("__debug__" : Str)) = false := by decide) (hcd : (x == ("__classdict__" : Str)) = false := by decide)
    (hs : ∀ env, swapsWith e (some (.Subscript (.Name x opos) b apos)) pos.line env = pure false := by intro _; rfl) :
    SS cv W fr Xs (.Assign [.Subscript (.Name x opos) b apos] e pos) (sDPut i fk fv) := by
  obtain ⟨tk, h1, h2⟩ := hk
  obtain ⟨tv, h3, h4⟩ := hf
  refine ⟨L2.sDPut (tVar i) tk tv, fun j => ps_dput (by have := Fm.units j; omega) (pe_var (Fm.at hN j) (Fm.vis hv j) hd hcd) (h1 j) (h3 j) (hs _), fun Oc H0 O σ ρ H Z R p => h4 O σ ρ H _ R.e (posE_of R p fun d _ v H2 x q p => ?_)⟩
  split at p
  · rename_i kvs e
    obtain ⟨a, vs, g1, g2, g3⟩ := (R.mono x).e.at_dk e
    refine ⟨_, g1, h2 O σ ρ H2 _ (R.mono x).e (posE_of (R.mono x) (p.later (hide_ex x)) fun kd _ y H3 x3 q3 p => ?_)⟩
    split at p
    · rename_i kk hkk
      split at p
      · rename_i hl
        obtain ⟨bb, rfl, hb⟩ := key_dq q3 hkk
        have R3 := (R.mono x).mono x3
        refine ⟨a, _, rfl, DPut.t (x3 _ _ g2) (hide_le _ _ hb) (by rw [g3.length]; exact lim_lt hl), ?_⟩
        obtain ⟨R', ex⟩ := R3.mutO (o' := .dk (putD kvs kk d)) (H' := upd H3 a (.dT (putK vs kk v))) e g1 (fun l hl hO => by
          obtain ⟨a', vs', e1, e2, e3, e4⟩ := hl
          cases e1
          subst e2
          refine ⟨[a], ⟨a, _, rfl, rfl, upd_same, ?_⟩, fun _ z => z, fun b hb => upd_ne (by simpa using hb), fun b hb => ?_⟩
          · have aO : a ∈ O := (hO a (by simp)).1
            rw [x3 _ _ g2] at e3
            cases e3
            exact (e4.mono (hide_own aO)).put ((q.mono (hide_ex x3)).mono (hide_own aO))
          · rcases List.mem_singleton.mp hb with rfl
            rw [upd_same]
            exact ⟨by simp, fun xs z => by cases z⟩)
        exact p O σ _ R' ((hide_ex x3).trans ex)
      · exact p.elim
    · exact p.elim
  · exact p.elim
end
end DL

/-! methods, instances, calls without arguments, in defs that raise -/
namespace DL
open PySem L2
section
variable {X : Cx} {CX : CXT} {k : Nat} {f C : Addr} {fd : FuncData} {ps : List Str} {sp : Sp} {E : St → XK} {x m : Str} {p pos apos : Pos} {e o : Expr} {es : List Expr} {ta : TE} {t : TA}
def tMethA (C : Addr) (m : Str) (sp : Sp) (E : St → XK) (ta : TE) (t : TA) : TE := fun σ H Q => ta σ H fun x H1 => ∃ a dx fs, x = .ref a ∧ H1 a = some (.ins C dx fs) ∧ fs.lookup m = none ∧ t σ H1 fun vs H2 => sp (x :: vs) H2 Q (E σ)
theorem pe_methA {pl : Sem Bool} (he : PE X o ta) (c : Cls X.K C) (hm : Meth X.K C m f) (G : FnOk X.prog X.w X.K X.mg X.base CX k f fd ps sp) (hr : Room k X.A) (hb : Binds X.K fd ps []) (hx : ∀ σ, PassesAt CX X σ (E σ)) (ha : PA X (e :: es) t)
    (hst : starEach (e :: es) X.env = (false, eval e X.env) :: starEach es X.env) (hpl : (backTo pos (starEach es X.env)).any (·.1) = false)
    (ht : eval (.Call (.Attribute o m apos) (e :: es) [] pos) X.env = (do
      let ov ← eval o X.env; standAt apos.atName; let (f, first) ← holding [ov] (getMethod ov m pl)
      callWith pos f first (backTo pos (starEach (e :: es) X.env)) (backToKw pos (keywordEach [] X.env)))) : PE X (.Call (.Attribute o m apos) (e :: es) [] pos) (tMethA C m sp E ta t) :=
  ⟨fun pn z σ H R J h => by
    refine PySem.W.methodCall_KW (pl := pl) (thn (he.run pn z σ H _ J h) fun u z1 ⟨y, H1, J1, rx, a, dx, fs, ex, ea, l, q⟩ => ?_) ht
    subst ex
    obtain rfl : u = Value.ref a := rx
    refine getmeth_ok J1 ea c hm l (PySem.W.callWith_K (first := [.ref a]) (h₀ := X.base) J.ok.mod.kin hm.kp (thn (ha.run pos pn z1 σ H1 _ J1 q) fun us z2 ⟨vs, H2, J2, r, q2⟩ => ⟨J2.kIn, ?_⟩) hst hpl)
    exact run_fnS (us := .ref a :: us) (vs := .ref a :: vs) G hr hb (hx σ) J2 (.cons rfl r) q2⟩
theorem pe_meth0A {pl : Sem Bool} (he : PE X o ta) (c : Cls X.K C) (hm : Meth X.K C m f) (G : FnOk X.prog X.w X.K X.mg X.base CX k f fd ps sp) (hr : Room k X.A) (hb : Binds X.K fd ps []) (hx : ∀ σ, PassesAt CX X σ (E σ))
    (ht : eval (.Call (.Attribute o m apos) [] [] pos) X.env = (do
      let ov ← eval o X.env; standAt apos.atName; let (f, first) ← holding [ov] (getMethod ov m pl)
      callWith pos f first (backTo pos (starEach [] X.env)) (backToKw pos (keywordEach [] X.env)))) : PE X (.Call (.Attribute o m apos) [] [] pos) (tMethA C m sp E ta tNil) :=
  ⟨fun pn z σ H R J h => by
    refine PySem.W.methodCall_KW (pl := pl) (thn (he.run pn z σ H _ J h) fun u z1 ⟨y, H1, J1, rx, a, dx, fs, ex, ea, l, q⟩ => ?_) ht
    subst ex
    obtain rfl : u = Value.ref a := rx
    exact getmeth_ok J1 ea c hm l (PySem.W.callWith_K0 (first := [.ref a]) J1.kIn hm.kp (run_fnS (us := [.ref a]) (vs := [.ref a]) G hr hb (hx σ) J1 (.cons rfl .nil) q))⟩
theorem pe_callA0 (G : FnOk X.prog X.w X.K X.mg X.base CX k f fd ps sp) (hr : Room k X.A) (hg : Gl X x) (hm : X.mg x = some (.ref f)) (hk : PySem.W.keepIn X.K (.ref f) = true) (hb : Binds X.K fd ps []) (hx : ∀ σ, PassesAt CX X σ (E σ))
    (hd : (x == ("__debug__" : Str)) = false) : PE X (.Call (.Name x p) [] [] pos) (tCallS sp E tNil) :=
  ⟨fun pn z σ H R J h => wpAny_Call_Name_kw (ld_glob J hg hm (PySem.W.callWith_K0 J.kIn hk (run_fnS (us := []) G hr hb (hx σ) J .nil h)) hd)⟩
def tMakeA (C : Addr) (sp : Sp) (E : St → XK) (t : TA) : TE := fun σ H Q => t σ H fun vs H1 => ∀ x dx, H1 x = none → H1 dx = none → dx ≠ x →
  sp (.ref x :: vs) (upd (upd H1 dx (.own x)) x (.ins C dx [])) (fun v H2 => v = .non ∧ Q (.ref x) H2) fun cl d H2 => E σ cl d H2
theorem run_makeA {pins : List (Addr × Obj)} {σ : St} {H : Hp} {s : Shared} {Q : VK} {us : List Value} {vs : List V} (M : Mk X.K C f) (G : FnOk X.prog X.w X.K X.mg X.base CX k f fd ps sp) (hr : Room (k + 1) X.A) (hb : Binds X.K fd ps [])
    (hx : PassesAt CX X σ (E σ)) (I : Inv X pins σ H s) (r : Vals vs us)
    (h : ∀ x dx, H x = none → H dx = none → dx ≠ x → sp (.ref x :: vs) (upd (upd H dx (.own x)) x (.ins C dx [])) (fun v H2 => v = .non ∧ Q (.ref x) H2) (E σ)) :
    wpAny (model X.prog X.w) X.A (call (.ref C) us) (EP X pins σ Q) X.xe s := by
  have hq := h (s.heap.objs.size + 1) s.heap.objs.size (I.hok.fresh (Nat.le_succ _)) (I.hok.fresh (Nat.le_refl _)) (Nat.ne_of_lt (Nat.lt_succ_self _))
  have J2 := Inv.made (C := C) I
  have r2 : Vals (V.ref (s.heap.objs.size + 1) :: vs) (Value.ref (s.heap.objs.size + 1) :: us) := .cons rfl r
  have hl : (Value.ref (s.heap.objs.size + 1) :: us).length = ps.length := by rw [← r2.length]; exact G.len _ _ _ _ hq
  have b := hb _ (Value.ref (s.heap.objs.size + 1) :: us) J2.kIn (by rw [List.append_nil]; exact hl)
  rw [List.append_nil] at b
  refine wpAny_call (make_map (f := f) I.kIn M.makes M.init (beq_iff_eq.mp M.fn) (codeAny_mono (G.run _ X.stack _ _ ⟨Value.ref (s.heap.objs.size + 1) :: us, []⟩ _ _ _ (E σ) (hr.make C us []) (J2.env0.make C us []) b r2 hq) fun fin z hq' => ?_))
  cases fin with
  | error e => exact hx pins _ _ e z J2 hq'
  | ok fl =>
    cases fl with
    | ret u =>
      obtain ⟨v, H', J3, rv, ev, q3⟩ := J2.after hq'
      cases ev
      exact ⟨rv, ⟨V.ref (s.heap.objs.size + 1), H', J3, rfl, q3⟩⟩
    | next => exact hq'.elim
    | brk => exact hq'.elim
    | cont => exact hq'.elim
theorem pe_makeA (M : Mk X.K C f) (G : FnOk X.prog X.w X.K X.mg X.base CX k f fd ps sp) (hr : Room (k + 1) X.A) (hg : Gl X x) (hm : X.mg x = some (.ref C)) (hb : Binds X.K fd ps []) (hx : ∀ σ, PassesAt CX X σ (E σ))
    (ha : PA X (e :: es) t) (hd : (x == ("__debug__" : Str)) = false) (hs : starEach (e :: es) X.env = (false, eval e X.env) :: starEach es X.env) (hpl : (backTo pos (starEach es X.env)).any (·.1) = false) :
    PE X (.Call (.Name x p) (e :: es) [] pos) (tMakeA C sp E t) :=
  ⟨fun pn z σ H R J h => wpAny_Call_Name_kw (ld_glob J hg hm (PySem.W.callWith_K (h₀ := X.base) J.ok.mod.kin M.kp (thn (ha.run pos pn z σ H _ J h) fun us z1 ⟨vs, H1, J1, r, q⟩ => ⟨J1.kIn, run_makeA M G hr hb (hx σ) J1 r q⟩) hs hpl) hd)⟩
end
end DL

/-! sorters: what is read of them -/
namespace DL
open PySem L2
def soOf : Sl → Option So
  | .mo (.so s) => some s
  | .pm _ _ _ s => some s
  | .ss s => some s
  | _ => none
def fSo (g : So → D) (i : Nat) : En → Rs D := fun ρ => match ρ[i]? with
  | some (some sl) => match soOf sl with
    | some s => .ok (g s)
    | none => .no
  | _ => .no
def nowD (s : So) : D := .list (s.now.map PyData.int)
def goalD (s : So) : D := .list (s.goal.map PyData.int)
def madeD (s : So) : D := .list (s.made.map PyData.int)
variable [SC]
theorem lk_now {a b c : V} : [(("now" : Str), a), ("goal", b), ("made", c)].lookup ("now" : Str) = some a := by first | rfl | (simp [List.lookup]) | decide +kernel
theorem lk_goal {a b c : V} : [(("now" : Str), a), ("goal", b), ("made", c)].lookup ("goal" : Str) = some b := by first | rfl | (simp [List.lookup]) | decide +kernel
theorem lk_made {a b c : V} : [(("now" : Str), a), ("goal", b), ("made", c)].lookup ("made" : Str) = some c := by first | rfl | (simp [List.lookup]) | decide +kernel
theorem RepE.so {O : List Addr} {σ : St} {ρ : En} {H : Hp} {i : Nat} {sl : Sl} {s : So} (R : RepE O σ ρ H) (e : ρ[i]? = some (some sl)) (hs : soOf sl = some s) :
    ∃ a dx am vn vg, σ[i]? = some (some (.ref a)) ∧ H a = some (.ins SC.C dx [("now", vn), ("goal", vg), ("made", .ref am)]) ∧ Dq (hide O H) vn (nowD s) ∧ Dq (hide O H) vg (goalD s) ∧ H am = some (.lst (s.made.map V.int)) := by
  obtain ⟨v, l, h1, h2⟩ := R.sl i sl e
  unfold soOf at hs
  split at hs
  · cases hs
    obtain ⟨a, dx, am, rfl, _, _, vn, vg, g1, g2, g3, g4, g5⟩ := h2
    exact ⟨a, dx, am, vn, vg, h1, g1, g3, g4, g5⟩
  · cases hs
    obtain ⟨rfl, _, _, vn, vg, g1, g2, g3, g4, g5⟩ := h2
    exact ⟨_, _, _, vn, vg, h1, g1, g3, g4, g5⟩
  · cases hs
    obtain ⟨_, a, dx, am, rfl, _, vn, vg, g1, g2, g3, g4, g5⟩ := h2
    rw [hide_hide] at g3 g4
    exact ⟨a, dx, am, vn, vg, h1, hide_le _ _ g1, g3, g4, hide_le _ _ g5⟩
  · cases hs
/-- what the top says of the class -/
structure SoC (K : PySem.W.Frag) (mg : Str → Option Value) : Prop where
  nm : mg "Sorter" = some (.ref SC.C)
  cl : Cls K SC.C
  nN : NoAttr K SC.C "now"
  nG : NoAttr K SC.C "goal"
  nM : NoAttr K SC.C "made"
section
variable {ι : Type} {cv : Nat → Value} {W : WX} {fr : RM} {Xs : ι → Cx} {P : Program} {w : World} {K : PySem.W.Frag} {mg : Str → Option Value} {base : Heap} {N : List Str} {sc : Scope} {fnn : Str → Bool} {k : Nat} {e a b f : Expr} {fk fd fv : En → Rs D} {pos p apos cpos opos npos : Pos} {x : Str}
theorem e_now (Fm : Fam Xs P w K mg base N sc fnn k) (T : SoC K mg) (i : Nat) (hN : N[i]? = some x := by rfl) (hv : visB sc x = true := by decide +kernel) (hd : (x == ("__debug__" : Str)) = false := by decide) (hcd : (x == ("__classdict__" : Str)) = false := by decide)
    (hb : ∀ env, attributeBase (.Name x opos) "now" env (eval (.Name x opos) env) = eval (.Name x opos) env := by intro _; rfl) : EE cv W Xs (.Attribute (.Name x opos) "now" pos) (fSo nowD i) := by
  refine ⟨tFld K (tVar i) "now", fun j => by have h := pe_fld (X := Xs j) (pos := pos) (pe_var (pos := opos) (Fm.at hN j) (Fm.vis hv j) hd hcd) (hb _); rw [Fm.kk j] at h; exact h, fun O σ ρ H Q R p => ?_⟩
  unfold fSo at p
  split at p
  · split at p
    · obtain ⟨a, dx, am, vn, vg, h1, h2, h3, h4, h5⟩ := R.so ‹_› ‹_›
      exact ⟨_, h1, a, _, dx, _, vn, rfl, h2, T.cl, T.nN, lk_now, p _ _ (Ex.refl H) h3⟩
    · exact p.elim
  · exact p.elim
theorem e_goal (Fm : Fam Xs P w K mg base N sc fnn k) (T : SoC K mg) (i : Nat) (hN : N[i]? = some x := by rfl) (hv : visB sc x = true := by decide +kernel) (hd : (x == ("__debug__" : Str)) = false := by decide) (hcd : (x == ("__classdict__" : Str)) = false := by decide)
    (hb : ∀ env, attributeBase (.Name x opos) "goal" env (eval (.Name x opos) env) = eval (.Name x opos) env := by intro _; rfl) : EE cv W Xs (.Attribute (.Name x opos) "goal" pos) (fSo goalD i) := by
  refine ⟨tFld K (tVar i) "goal", fun j => by have h := pe_fld (X := Xs j) (pos := pos) (pe_var (pos := opos) (Fm.at hN j) (Fm.vis hv j) hd hcd) (hb _); rw [Fm.kk j] at h; exact h, fun O σ ρ H Q R p => ?_⟩
  unfold fSo at p
  split at p
  · split at p
    · obtain ⟨a, dx, am, vn, vg, h1, h2, h3, h4, h5⟩ := R.so ‹_› ‹_›
      exact ⟨_, h1, a, _, dx, _, vg, rfl, h2, T.cl, T.nG, lk_goal, p _ _ (Ex.refl H) h4⟩
    · exact p.elim
  · exact p.elim
theorem b_made (Fm : Fam Xs P w K mg base N sc fnn k) (T : SoC K mg) (i : Nat) (hN : N[i]? = some x := by rfl) (hv : visB sc x = true := by decide +kernel) (hd : (x == ("__debug__" : Str)) = false := by decide) (hcd : (x == ("__classdict__" : Str)) = false := by decide)
    (hb : ∀ env, attributeBase (.Name x opos) "made" env (eval (.Name x opos) env) = eval (.Name x opos) env := by intro _; rfl) : EB cv W Xs (.Attribute (.Name x opos) "made" pos) (fSo madeD i) := by
  refine ⟨tFld K (tVar i) "made", fun j => by have h := pe_fld (X := Xs j) (pos := pos) (pe_var (pos := opos) (Fm.at hN j) (Fm.vis hv j) hd hcd) (hb _); rw [Fm.kk j] at h; exact h, fun O σ ρ H Q R p => ?_⟩
  unfold fSo at p
  split at p
  · split at p
    · obtain ⟨a, dx, am, vn, vg, h1, h2, h3, h4, h5⟩ := R.so ‹_› ‹_›
      exact ⟨_, h1, a, _, dx, _, _, rfl, h2, T.cl, T.nM, lk_made, p _ _ (Ex.refl H) (.inr ⟨am, _, _, rfl, rfl, h5, DqAll.ofInts _⟩)⟩
    · exact p.elim
  · exact p.elim
end
/-! ### arguments that may be sorters, only to be read -/
abbrev GV := D ⊕ So
def GqR (O : List Addr) (H : Hp) (v : V) : GV → Prop
  | .inl d => Dq (hide O H) v d
  | .inr s => SoSh O H s v
inductive GqAll (O : List Addr) (H : Hp) : List V → List GV → Prop
  | nil : GqAll O H [] []
  | cons {v : V} {vs : List V} {g : GV} {gs : List GV} : GqR O H v g → GqAll O H vs gs → GqAll O H (v :: vs) (g :: gs)
theorem GqR.mono {O : List Addr} {H H' : Hp} (e : Ex H H') {v : V} : ∀ {g : GV}, GqR O H v g → GqR O H' v g
  | .inl d, h => Dq.mono (hide_ex e) h
  | .inr s, h => SoSh.stay (hide_ex e) h
theorem GqAll.length {O : List Addr} {H : Hp} : ∀ {vs : List V} {gs : List GV}, GqAll O H vs gs → vs.length = gs.length
  | _, _, .nil => rfl
  | _, _, .cons _ t => by simp [GqAll.length t]
theorem GqAll.of {O : List Addr} {H : Hp} : ∀ {vs : List V} {ds : List D}, DqAll (hide O H) vs ds → GqAll O H vs (ds.map Sum.inl)
  | _, _, .nil => .nil
  | _, _, .cons h t => .cons h (GqAll.of t)
def slG : GV → Sl
  | .inl d => .sh d
  | .inr s => .ss s
def startG (n : Nat) (gs : List GV) : En := gs.map (fun g => some (slG g)) ++ List.replicate (n - gs.length) none
theorem GqAll.get {O : List Addr} {H : Hp} : ∀ {vs : List V} {gs : List GV} (i : Nat) {g : GV}, GqAll O H vs gs → gs[i]? = some g → ∃ v, vs[i]? = some v ∧ GqR O H v g
  | _, _, i, g, .nil, e => by simp at e
  | _, _, 0, g, .cons h t, e => by
    simp at e
    subst e
    exact ⟨_, rfl, h⟩
  | _, _, i + 1, g, .cons h t, e => GqAll.get i t (by simpa using e)
theorem start_repG {O : List Addr} {H : Hp} {N : List Str} {vs : List V} {gs : List GV} (od : ∀ a ∈ O, H a ≠ none) (nt : NT O H) (q : GqAll O H vs gs) : RepS O H O (L2.start N vs) (startG N.length gs) H := by
  refine ⟨by simp [L2.start, startG, q.length], Ex.refl H, fun _ z => z, od, od, nt, fun _ => [], fun i s e => ?_, fun i j a z => by simp at z, fun i a z => by simp at z⟩
  unfold startG at e
  unfold L2.start
  by_cases hi : i < gs.length
  · rw [List.getElem?_append_left (by simpa using hi), List.getElem?_map, List.getElem?_eq_getElem hi] at e
    have e := Option.some.inj (Option.some.inj e)
    subst e
    obtain ⟨v, h1, h2⟩ := q.get i (List.getElem?_eq_getElem hi)
    refine ⟨v, ?_, ?_⟩
    · rw [List.getElem?_append_left (by simpa [q.length] using hi), List.getElem?_map, h1]
      rfl
    · cases hg : gs[i] with
      | inl d => rw [hg] at h2; exact ⟨rfl, h2⟩
      | inr s => rw [hg] at h2; exact ⟨rfl, h2⟩
  · rw [List.getElem?_append_right (by simpa using hi), List.getElem?_replicate] at e
    split at e <;> simp at e
def cG (n : Nat) (F : En → Out) (gs : List GV) : Rs D := match F (startG n gs) with
  | .rt d => .ok d
  | .nx _ => .ok .none
  | .ex c _ => .er c
  | _ => .no
def cGF (n : Nat) (F : En → Out) (gs : List GV) : Rs D := match F (startG n gs) with
  | .rt d => .ok d
  | .ex c _ => .er c
  | _ => .no
def spG (mg : Str → Option Value) (np : Nat) (g : List GV → Rs D) : Sp := fun vs H Q E => vs.length = np ∧ ∃ O gs, (∀ a ∈ O, H a ≠ none) ∧ NT O H ∧ GqAll O H vs gs ∧ OkX mg O H Q E (g gs)
def spGF (mg : Str → Option Value) (np : Nat) (g : List GV → Rs D) : Sp := fun vs H Q E => vs.length = np ∧ ∃ O gs, (∀ a ∈ O, H a ≠ none) ∧ NT O H ∧ GqAll O H vs gs ∧ OkXF mg O H Q E (g gs)
def KnownM (P : Program) (w : World) (K : PySem.W.Frag) (mg : Str → Option Value) (base : Heap) (kc : Nat) (m : Str) (ps : List Str) (sp : Sp) : Prop :=
  ∃ f fd, FnOk P w K mg base (L2.CX P w) kc f fd ps sp ∧ Meth K SC.C m f ∧ Binds K fd ps []
section
variable {P : Program} {w : World} {K : PySem.W.Frag} {mg : Str → Option Value} {base : Heap} {N ps : List Str} {k : Nat} {x qual : Str} {st : Stmt} {f : Addr} {fd : FuncData} {F : En → Out}
theorem ok_fnG (Fn : Fun K x qual st f fd) (S : FnScope N ps (defScope st))
    (hb : ∀ (W : WX) (Xs : Unit → Cx), Fam Xs P w K mg base N (defScope st) (fun _ => true) k → (∀ j, Takes (Xs j) W) → (∀ j, PassesOwn (model (Xs j).prog (Xs j).w) (Xs j).A (Xs j).env (Xs j).xe) → (∀ j, (Xs j).stack = (Xs j).env :: (Xs j).outer ∧ (Xs j).env.frame = some (Xs j).env.locals ∧ (Xs j).ex = []) → SSs (cvM mg) W .dat Xs (defBody st) F) :
    FnOk P w K mg base (L2.CX P w) (k + 1) f fd ps (spG mg ps.length (cG N.length F)) := by
  refine Fn.okX S (fun vs H Q E h => h.1) (fun cdv A outer s H vs Q E hr h => ?_)
  obtain ⟨hl, O, ds, od, nt, q, p⟩ := h
  obtain ⟨t, h1, h2⟩ := hb (fun cls d _ H => E cls d H) _ (famX_of (E := E) S hr) (fun _ => takes_of rfl rfl rfl rfl) (fun _ => passes_of rfl) (fun _ => ⟨rfl, rfl, rfl⟩)
  refine ⟨t, h1 (), h2 O H O _ _ H _ (start_repG od nt q) ?_⟩
  unfold cG at p
  cases e : F (startG N.length ds) with
  | rt d => rw [e] at p; exact fun v H' x q => p v H' x q
  | nx ρ' => rw [e] at p; exact fun O' σ' H' R x => p .non H' R.base .non
  | rs d ρ' => rw [e] at p; exact p.elim
  | bk ρ' => rw [e] at p; exact p.elim
  | ct ρ' => rw [e] at p; exact p.elim
  | ex c ρ' => rw [e] at p; exact fun O' σ' H' R x => p H' R.base
  | no => rw [e] at p; exact p.elim
theorem ok_fnGF (Fn : Fun K x qual st f fd) (S : FnScope N ps (defScope st))
    (hb : ∀ (W : WX) (Xs : Unit → Cx), Fam Xs P w K mg base N (defScope st) (fun _ => true) k → (∀ j, Takes (Xs j) W) → (∀ j, PassesOwn (model (Xs j).prog (Xs j).w) (Xs j).A (Xs j).env (Xs j).xe) → (∀ j, (Xs j).stack = (Xs j).env :: (Xs j).outer ∧ (Xs j).env.frame = some (Xs j).env.locals ∧ (Xs j).ex = []) → SSs (cvM mg) W .lst Xs (defBody st) F) :
    FnOk P w K mg base (L2.CX P w) (k + 1) f fd ps (spGF mg ps.length (cGF N.length F)) := by
  refine Fn.okX S (fun vs H Q E h => h.1) (fun cdv A outer s H vs Q E hr h => ?_)
  obtain ⟨hl, O, ds, od, nt, q, p⟩ := h
  obtain ⟨t, h1, h2⟩ := hb (fun cls d _ H => E cls d H) _ (famX_of (E := E) S hr) (fun _ => takes_of rfl rfl rfl rfl) (fun _ => passes_of rfl) (fun _ => ⟨rfl, rfl, rfl⟩)
  refine ⟨t, h1 (), h2 O H O _ _ H _ (start_repG od nt q) ?_⟩
  unfold cGF at p
  cases e : F (startG N.length ds) with
  | rt d =>
    rw [e] at p
    rintro v H' x ⟨q, ws, es, rfl, e1, n1, g1, g2⟩
    exact p q ws es H' e1 x n1 g1 g2
  | nx ρ' => rw [e] at p; exact p.elim
  | rs d ρ' => rw [e] at p; exact p.elim
  | bk ρ' => rw [e] at p; exact p.elim
  | ct ρ' => rw [e] at p; exact p.elim
  | ex c ρ' => rw [e] at p; exact fun O' σ' H' R x => p H' R.base
  | no => rw [e] at p; exact p.elim
end
end DL

/-! calls of methods that only read; calls with sorters as arguments -/
namespace DL
open PySem L2
def flR : Rs D → Rs D
  | .ok d => if flatD d = true then .ok d else .no
  | r => r
def flI : Rs D → Rs D
  | .ok (.list ds) => match intsOf ds with
    | some _ => .ok (.list ds)
    | none => .no
  | .er c => .er c
  | _ => .no
def fMeth (i : Nat) (g : List GV → Rs D) (fs : En → Rs (List D)) : En → Rs D := fun ρ => match ρ[i]? with
  | some (some sl) => match soOf sl with
    | some s => (fs ρ).bind fun ds => flR (g (.inr s :: ds.map Sum.inl))
    | none => .no
  | _ => .no
def fMethF (i : Nat) (g : List GV → Rs D) : En → Rs D := fun ρ => match ρ[i]? with
  | some (some sl) => match soOf sl with
    | some s => flI (g [.inr s])
    | none => .no
  | _ => .no
def gName_ (i : Nat) : En → Rs GV := fun ρ => match ρ[i]? with
  | some (some (.sh d)) => .ok (.inl d)
  | some (some sl) => match soOf sl with
    | some s => .ok (.inr s)
    | none => .no
  | _ => .no
def gDat (f : En → Rs D) : En → Rs GV := fun ρ => (f ρ).bind fun d => .ok (.inl d)
def gNil : En → Rs (List GV) := fun _ => .ok []
def gCons (f : En → Rs GV) (fs : En → Rs (List GV)) : En → Rs (List GV) := fun ρ => (f ρ).bind fun d => (fs ρ).bind fun ds => .ok (d :: ds)
def fCallG (g : List GV → Rs D) (fs : En → Rs (List GV)) : En → Rs D := fun ρ => (fs ρ).bind fun gs => flR (g gs)
variable [SC]
theorem flat_dq {H H' : Hp} {v : V} {d : D} (h : Dq H v d) (hf : flatD d = true) : Dq H' v d := by
  cases h with
  | non => exact .non
  | bl b => exact .bl b
  | int i => exact .int i
  | str x => exact .str x
  | lst h a => cases hf
  | tup h a => cases hf
theorem hide_nil {H : Hp} : hide [] H = H := by
  funext a
  unfold hide
  simp
theorem SoSh.open {O : List Addr} {H : Hp} {s : So} {v : V} (h : SoSh O H s v) : SoSh [] H s v := h.stay (hide_sub fun a z => by simp at z)
theorem SlR.see {O : List Addr} {H : Hp} {sl : Sl} {s : So} {v : V} {l : List Addr} (h : SlR O H sl v l) (hs : soOf sl = some s) : SoSh [] H s v := by
  have key : ∀ {a dx am : Addr}, SoAt O H s a dx am → SoAt [] (hide [] H) s a dx am := fun {a dx am} q => q.stay (by rw [hide_nil, hide_nil]; exact hide_le) fun b _ u z => by rw [hide_nil]; exact z
  unfold soOf at hs
  split at hs
  · cases hs
    obtain ⟨a, dx, am, rfl, _, h3⟩ := h
    exact ⟨a, dx, am, rfl, key h3⟩
  · cases hs
    obtain ⟨rfl, _, h3⟩ := h
    exact ⟨_, _, _, rfl, key h3⟩
  · cases hs
    exact h.2.open
  · cases hs
section
variable {ι : Type} {W : WX} {fr : RM} {Xs : ι → Cx} {P : Program} {w : World} {K : PySem.W.Frag} {mg : Str → Option Value} {base : Heap} {N ps : List Str} {sc : Scope} {fnn : Str → Bool} {k kc : Nat} {e a b f : Expr} {es : List Expr} {fs : En → Rs (List D)} {pos p apos cpos opos npos : Pos} {x m : Str} {g : List GV → Rs D}
theorem snd_meth {t : TA} {i : Nat} (h : SndA (cvM mg) W t fs) (hl : ∀ a b c : V, [(("now" : Str), a), ("goal", b), ("made", c)].lookup m = none) (hp : ∀ ρ ds, fs ρ = .ok ds → ds.length + 1 = ps.length) : SndE (cvM mg) W (tMethA SC.C m (spG mg ps.length g) (L2.WE W) (tVar i) t) (fMeth i g fs) := by
  intro O σ ρ H Q R p
  unfold fMeth at p
  split at p
  · rename_i sl e
    split at p
    · rename_i s hs
      obtain ⟨a, dx, am, vn, vg, h1, h2, h3, h4, h5⟩ := R.so e hs
      refine ⟨_, h1, a, dx, _, rfl, h2, hl _ _ _, h O σ ρ H _ R ?_⟩
      cases ea : fs ρ with
      | no => rw [ea] at p; exact p
      | er c => rw [ea] at p; exact p
      | ok ds =>
        rw [ea, Rs.bind_ok] at p
        intro vs H2 x2 q2
        obtain ⟨v', l', g1, g2⟩ := (R.mono x2).sl i sl e
        rw [h1] at g1
        cases g1
        refine ⟨by rw [List.length_cons, q2.length]; exact hp ρ ds ea, [], .inr s :: ds.map Sum.inl, (fun b z => by simp at z), (fun b z => by simp at z), .cons (g2.see hs) (GqAll.of (q2.mono (hide_sub fun b z => by simp at z))), ?_⟩
        cases eg : g (.inr s :: ds.map Sum.inl) with
        | no => rw [eg] at p; exact p
        | er c => rw [eg] at p; exact fun H3 x3 => p H3 (x2.trans x3)
        | ok d =>
          rw [eg] at p
          unfold flR at p
          dsimp only at p
          split at p
          · rename_i hf
            exact fun v H3 x3 q3 => p v H3 (x2.trans x3) (flat_dq q3 hf)
          · exact p.elim
    · exact p.elim
  · exact p.elim
/-- x.m(e, ..), x a sorter: it stays, the answer is no list -/
theorem e_meth (Fm : Fam Xs P w K mg base N sc fnn k) (tk : ∀ j, Takes (Xs j) W) (T : SoC K mg) (i : Nat) (G : KnownM P w K mg base kc m ps (spG mg ps.length g)) (ha : EA (cvM mg) W Xs (e :: es) fs) (hN : N[i]? = some x) (hl : ∀ a b c : V, [(("now" : Str), a), ("goal", b), ("made", c)].lookup m = none) (hp : ∀ ρ ds, fs ρ = .ok ds → ds.length + 1 = ps.length) (hk : kc ≤ k := by decide)
    (hv : visB sc x = true := by decide +kernel) (hd : (x == ("__debug__" : Str)) = false := by decide) (hcd : (x == ("__classdict__" : Str)) = false := by decide) {pl : Env → Sem Bool}
    (hs : ∀ env, starEach (e :: es) env = (false, eval e env) :: starEach es env := by intro _; rfl) (hpl : ∀ env, (backTo pos (starEach es env)).any (·.1) = false := by intro _; rfl)
    (ht : ∀ env, eval (.Call (.Attribute (.Name x opos) m apos) (e :: es) [] pos) env = (do
      let ov ← eval (.Name x opos) env; standAt apos.atName; let (f, first) ← holding [ov] (getMethod ov m (pl env))
      callWith pos f first (backTo pos (starEach (e :: es) env)) (backToKw pos (keywordEach [] env))) := by intro _; rfl) :
    EE (cvM mg) W Xs (.Call (.Attribute (.Name x opos) m apos) (e :: es) [] pos) (fMeth i g fs) := by
  obtain ⟨f, fd, G, hm, b⟩ := G
  obtain ⟨t, h1, h2⟩ := ha
  refine ⟨_, fun j => ?_, snd_meth h2 hl hp⟩
  refine pe_methA (pl := pl (Xs j).env) (CX := L2.CX (Xs j).prog (Xs j).w) (k := kc) (ps := ps) (fd := fd) (f := f) (pe_var (Fm.at hN j) (Fm.vis hv j) hd hcd) (by rw [Fm.kk j]; exact T.cl) (by rw [Fm.kk j]; exact hm) ?_ ((Fm.room j).mono hk) (by rw [Fm.kk j]; exact b) (passAt (tk j)) (h1 j) (hs _) (hpl _) (ht _)
  rw [Fm.prog j, Fm.wd j, Fm.kk j, Fm.gl j, Fm.bs j]
  exact G
theorem e_meth0 (Fm : Fam Xs P w K mg base N sc fnn k) (tk : ∀ j, Takes (Xs j) W) (T : SoC K mg) (i : Nat) (G : KnownM P w K mg base kc m ps (spG mg ps.length g)) (hN : N[i]? = some x) (hl : ∀ a b c : V, [(("now" : Str), a), ("goal", b), ("made", c)].lookup m = none) (hp : 1 = ps.length) (hk : kc ≤ k := by decide)
    (hv : visB sc x = true := by decide +kernel) (hd : (x == ("__debug__" : Str)) = false := by decide) (hcd : (x == ("__classdict__" : Str)) = false := by decide) {pl : Env → Sem Bool}
    (ht : ∀ env, eval (.Call (.Attribute (.Name x opos) m apos) [] [] pos) env = (do
      let ov ← eval (.Name x opos) env; standAt apos.atName; let (f, first) ← holding [ov] (getMethod ov m (pl env))
      callWith pos f first (backTo pos (starEach [] env)) (backToKw pos (keywordEach [] env))) := by intro _; rfl) :
    EE (cvM mg) W Xs (.Call (.Attribute (.Name x opos) m apos) [] [] pos) (fMeth i g fNil) := by
  obtain ⟨f, fd, G, hm, b⟩ := G
  refine ⟨_, fun j => ?_, snd_meth (t := tNil) (fs := fNil) (ps := ps) (fun O σ ρ H Q R p => p [] H (Ex.refl H) .nil) hl fun ρ ds e => ?_⟩
  · refine pe_meth0A (pl := pl (Xs j).env) (CX := L2.CX (Xs j).prog (Xs j).w) (k := kc) (ps := ps) (fd := fd) (f := f) (pe_var (Fm.at hN j) (Fm.vis hv j) hd hcd) (by rw [Fm.kk j]; exact T.cl) (by rw [Fm.kk j]; exact hm) ?_ ((Fm.room j).mono hk) (by rw [Fm.kk j]; exact b) (passAt (tk j)) (ht _)
    rw [Fm.prog j, Fm.wd j, Fm.kk j, Fm.gl j, Fm.bs j]
    exact G
  · cases e
    exact hp
/-- x.m(), a new list of ints -/
theorem f_meth0 (Fm : Fam Xs P w K mg base N sc fnn k) (tk : ∀ j, Takes (Xs j) W) (T : SoC K mg) (i : Nat) (G : KnownM P w K mg base kc m ps (spGF mg ps.length g)) (hN : N[i]? = some x) (hl : ∀ a b c : V, [(("now" : Str), a), ("goal", b), ("made", c)].lookup m = none) (hp : 1 = ps.length) (hk : kc ≤ k := by decide)
    (hv : visB sc x = true := by decide +kernel) (hd : (x == ("__debug__" : Str)) = false := by decide) (hcd : (x == ("__classdict__" : Str)) = false := by decide) {pl : Env → Sem Bool}
    (ht : ∀ env, eval (.Call (.Attribute (.Name x opos) m apos) [] [] pos) env = (do
      let ov ← eval (.Name x opos) env; standAt apos.atName; let (f, first) ← holding [ov] (getMethod ov m (pl env))
      callWith pos f first (backTo pos (starEach [] env)) (backToKw pos (keywordEach [] env))) := by intro _; rfl) :
    EF (cvM mg) W Xs (.Call (.Attribute (.Name x opos) m apos) [] [] pos) (fMethF i g) := by
  obtain ⟨f, fd, G, hm, b⟩ := G
  refine ⟨tMethA SC.C m (spGF mg ps.length g) (L2.WE W) (tVar i) tNil, fun j => ?_, fun O σ ρ H Q R p => ?_⟩
  · refine pe_meth0A (pl := pl (Xs j).env) (CX := L2.CX (Xs j).prog (Xs j).w) (k := kc) (ps := ps) (fd := fd) (f := f) (pe_var (Fm.at hN j) (Fm.vis hv j) hd hcd) (by rw [Fm.kk j]; exact T.cl) (by rw [Fm.kk j]; exact hm) ?_ ((Fm.room j).mono hk) (by rw [Fm.kk j]; exact b) (passAt (tk j)) (ht _)
    rw [Fm.prog j, Fm.wd j, Fm.kk j, Fm.gl j, Fm.bs j]
    exact G
  · unfold fMethF at p
    split at p
    · rename_i sl e
      split at p
      · rename_i s hs
        obtain ⟨a, dx, am, vn, vg, h1, h2, h3, h4, h5⟩ := R.so e hs
        obtain ⟨v', l', g1, g2⟩ := R.sl i sl e
        rw [h1] at g1
        cases g1
        refine ⟨_, h1, a, dx, _, rfl, h2, hl _ _ _, hp, [], [.inr s], (fun b z => by simp at z), (fun b z => by simp at z), .cons (g2.see hs) .nil, ?_⟩
        cases eg : g [.inr s] with
        | no => rw [eg] at p; exact p
        | er c => rw [eg] at p; exact fun H3 x3 => p H3 x3
        | ok d =>
          rw [eg] at p
          intro q vs ds H2 ed x2 n1 h2 q2
          subst ed
          unfold flI at p
          dsimp only at p
          split at p
          · rename_i ns hi
            have e := intsOf_eq hi
            subst e
            have e := q2.ints
            subst e
            exact p q _ _ H2 rfl x2 n1 h2 (DqAll.ofInts _)
          · exact p.elim
      · exact p.elim
    · exact p.elim
/-! arguments -/
def PosG (O : List Addr) (σ : St) (H : Hp) (Q : VK) : Rs GV → Prop
  | .ok d => ∀ v H2, Ex H H2 → GqR [] H2 v d → Q v H2
  | .er c => ∀ H2, Ex H H2 → W (cvM mg c) none σ H2
  | .no => False
end
section
variable (W : WX) (mg : Str → Option Value)
def SndGE (t : TE) (f : En → Rs GV) : Prop := ∀ O σ ρ H Q, RepE O σ ρ H → PosG (W := W) (mg := mg) O σ H Q (f ρ) → t σ H Q
def PosGA (O : List Addr) (σ : St) (H : Hp) (Q : List V → Hp → Prop) : Rs (List GV) → Prop
  | .ok d => ∀ v H2, Ex H H2 → GqAll [] H2 v d → Q v H2
  | .er c => ∀ H2, Ex H H2 → W (cvM mg c) none σ H2
  | .no => False
def SndGA (t : TA) (f : En → Rs (List GV)) : Prop := ∀ O σ ρ H Q, RepE O σ ρ H → PosGA W mg O σ H Q (f ρ) → t σ H Q
variable {ι : Type} (Xs : ι → Cx)
def EGE (e : Expr) (f : En → Rs GV) : Prop := ∃ t, (∀ j, PE (Xs j) e t) ∧ SndGE W mg t f
def EGA (es : List Expr) (f : En → Rs (List GV)) : Prop := ∃ t, (∀ j, PA (Xs j) es t) ∧ SndGA W mg t f
end
section
variable {ι : Type} {W : WX} {fr : RM} {Xs : ι → Cx} {P : Program} {w : World} {K : PySem.W.Frag} {mg : Str → Option Value} {base : Heap} {N ps : List Str} {sc : Scope} {fnn : Str → Bool} {k kc : Nat} {e a b : Expr} {es : List Expr} {f : En → Rs D} {fg : En → Rs GV} {fs : En → Rs (List GV)} {pos p apos cpos opos npos : Pos} {x m : Str} {g : List GV → Rs D}
theorem GqAll.mono {O : List Addr} {H H' : Hp} (e : Ex H H') : ∀ {vs : List V} {gs : List GV}, GqAll O H vs gs → GqAll O H' vs gs
  | _, _, .nil => .nil
  | _, _, .cons h t => .cons (h.mono e) (GqAll.mono e t)
theorem g_dat (h : EE (cvM mg) W Xs e f) : EGE W mg Xs e (gDat f) := by
  obtain ⟨t, h1, h2⟩ := h
  refine ⟨t, h1, fun O σ ρ H Q R p => h2 O σ ρ H Q R ?_⟩
  unfold gDat at p
  cases ef : f ρ with
  | no => rw [ef] at p; exact p
  | er c => rw [ef] at p; exact p
  | ok d =>
    rw [ef] at p
    exact fun v H2 x q => p v H2 x (show Dq (hide [] H2) v d from q.mono (hide_sub fun b z => by simp at z))
theorem g_nam (Fm : Fam Xs P w K mg base N sc fnn k) (i : Nat) (hN : N[i]? = some x := by rfl) (hv : visB sc x = true := by decide +kernel) (hd : (x == ("__debug__" : Str)) = false := by decide) (hcd : (x == ("__classdict__" : Str)) = false := by decide) : EGE W mg Xs (.Name x pos) (gName_ i) := by
  refine ⟨tVar i, fun j => pe_var (Fm.at hN j) (Fm.vis hv j) hd hcd, fun O σ ρ H Q R p => ?_⟩
  unfold gName_ at p
  split at p
  · rename_i d e
    obtain ⟨v, l, h1, h2⟩ := R.sl i _ e
    exact ⟨v, h1, p v H (Ex.refl H) (show Dq (hide [] H) v d from h2.2.mono (hide_sub fun b z => by simp at z))⟩
  · rename_i sl _ e
    split at p
    · rename_i s hs
      obtain ⟨v, l, h1, h2⟩ := R.sl i _ e
      exact ⟨v, h1, p v H (Ex.refl H) (h2.see hs)⟩
    · exact p.elim
  · exact p.elim
theorem ga_nil : EGA W mg Xs [] gNil := ⟨tNil, fun _ => pa_nil, fun O σ ρ H Q R p => p [] H (Ex.refl H) .nil⟩
theorem ga_cons (h : EGE W mg Xs e fg) (hr : EGA W mg Xs es fs) (hs : ∀ env, starEach (e :: es) env = (false, eval e env) :: starEach es env := by intro _; rfl) : EGA W mg Xs (e :: es) (gCons fg fs) := by
  obtain ⟨t, h1, h2⟩ := h
  obtain ⟨u, h3, h4⟩ := hr
  refine ⟨_, fun j => pa_cons (h1 j) (h3 j) (hs _), fun O σ ρ H Q R p => h2 O σ ρ H _ R ?_⟩
  unfold gCons at p
  cases ef : fg ρ with
  | no => rw [ef] at p; exact p
  | er c => rw [ef] at p; exact p
  | ok d =>
    rw [ef, Rs.bind_ok] at p
    intro v H2 x2 q2
    refine h4 O σ ρ H2 _ (R.mono x2) ?_
    cases es' : fs ρ with
    | no => rw [es'] at p; exact p
    | er c => rw [es'] at p; exact fun H3 x3 => p H3 (x2.trans x3)
    | ok ds =>
      rw [es', Rs.bind_ok] at p
      exact fun vs H3 x3 q3 => p (v :: vs) H3 (x2.trans x3) (.cons (q2.mono x3) q3)
/-- f(e, ..): some of the arguments may be sorters, only to be read -/
theorem e_callG (Fm : Fam Xs P w K mg base N sc fnn k) (tk : ∀ j, Takes (Xs j) W) (G : KnownX P w K mg base kc x ps (spG mg ps.length g)) (ha : EGA W mg Xs (e :: es) fs) (hp : ∀ ρ ds, fs ρ = .ok ds → ds.length = ps.length) (hk : kc ≤ k := by decide) (hg : glB sc x = true := by decide +kernel)
    (hd : (x == ("__debug__" : Str)) = false := by decide) (hs : ∀ env, starEach (e :: es) env = (false, eval e env) :: starEach es env := by intro _; rfl) (hpl : ∀ env, (backTo pos (starEach es env)).any (·.1) = false := by intro _; rfl) :
    EE (cvM mg) W Xs (.Call (.Name x p) (e :: es) [] pos) (fCallG g fs) := by
  obtain ⟨f, fd, G, hm, kp, b⟩ := G
  obtain ⟨t, h1, h2⟩ := ha
  refine ⟨tCallS (spG mg ps.length g) (L2.WE W) t, fun j => ?_, fun O σ ρ H Q R p => h2 O σ ρ H _ R ?_⟩
  · refine pe_callS (fd := fd) (CX := L2.CX (Xs j).prog (Xs j).w) (k := kc) (ps := ps) ?_ ((Fm.room j).mono hk) (Fm.gl_ok hg j) (Fm.some hm j) (by rw [Fm.kk j]; exact kp) (by rw [Fm.kk j]; exact b) (passAt (tk j)) (h1 j) hd (hs _) (hpl _)
    rw [Fm.prog j, Fm.wd j, Fm.kk j, Fm.gl j, Fm.bs j]
    exact G
  · unfold fCallG at p
    cases ef : fs ρ with
    | no => rw [ef] at p; exact p
    | er c => rw [ef] at p; exact p
    | ok gs =>
      rw [ef, Rs.bind_ok] at p
      intro vs H2 x2 q2
      refine ⟨by rw [q2.length]; exact hp ρ gs ef, [], gs, (fun b z => by simp at z), (fun b z => by simp at z), q2, ?_⟩
      cases eg : g gs with
      | no => rw [eg] at p; exact p
      | er c => rw [eg] at p; exact fun H3 x3 => p H3 (x2.trans x3)
      | ok d =>
        rw [eg] at p
        unfold flR at p
        dsimp only at p
        split at p
        · rename_i hf
          exact fun v H3 x3 q3 => p v H3 (x2.trans x3) (flat_dq q3 hf)
        · exact p.elim
/-- f() -/
theorem e_call0 {h : List D → Rs D} (Fm : Fam Xs P w K mg base N sc fnn k) (tk : ∀ j, Takes (Xs j) W) (G : KnownX P w K mg base kc x ps (spX mg ps.length h)) (hp : 0 = ps.length) (hk : kc ≤ k := by decide) (hg : glB sc x = true := by decide +kernel)
    (hd : (x == ("__debug__" : Str)) = false := by decide) : EE (cvM mg) W Xs (.Call (.Name x p) [] [] pos) (apL (callX 0 h) fNil) := by
  obtain ⟨f, fd, G, hm, kp, b⟩ := G
  refine ⟨tCallS (spX mg ps.length h) (L2.WE W) tNil, fun j => ?_, fun O σ ρ H Q R p => ⟨hp, O, [], R.od, R.nt, .nil, ?_⟩⟩
  · refine pe_callA0 (fd := fd) (CX := L2.CX (Xs j).prog (Xs j).w) (k := kc) (ps := ps) ?_ ((Fm.room j).mono hk) (Fm.gl_ok hg j) (Fm.some hm j) (by rw [Fm.kk j]; exact kp) (by rw [Fm.kk j]; exact b) (passAt (tk j)) hd
    rw [Fm.prog j, Fm.wd j, Fm.kk j, Fm.gl j, Fm.bs j]
    exact G
  · have e : apL (callX 0 h) fNil ρ = h [] := rfl
    rw [e] at p
    cases eg : h [] with
    | no => rw [eg] at p; exact p
    | er c => rw [eg] at p; exact p
    | ok d => rw [eg] at p; exact p
end
end DL

/-! sorters are made -/
namespace DL
open PySem L2
def mkS (g : List D → Rs D) (d1 d2 : D) : Rs So := (g [d1, d2]).bind fun _ => match d1, d2 with
  | .list l1, .list l2 => match intsOf l1, intsOf l2 with
    | some n, some m => .ok ⟨n, m, []⟩
    | _, _ => .no
  | _, _ => .no
def fNew (g : List D → Rs D) (f1 f2 : En → Rs D) : En → Rs So := fun ρ => (f1 ρ).bind fun d1 => (f2 ρ).bind fun d2 => mkS g d1 d2
def sNewS (i : Nat) (f : En → Rs So) : En → Out := fun ρ => ofR (f ρ) ρ fun s => .nx (ρ.set i (some (.mo (.so s))))
def gNew (f : En → Rs So) : En → Rs GV := fun ρ => (f ρ).bind fun s => .ok (.inr s)
def fNewU (f : En → Rs So) : En → Rs D := fun ρ => (f ρ).bind fun _ => .ok .none
variable [SC]
theorem put_now {y : V} : putF ("now" : Str) y [] = [(("now" : Str), y)] := by first | rfl | simp [putF] | decide +kernel
theorem put_goal {y z : V} : putF ("goal" : Str) z [(("now" : Str), y)] = [(("now" : Str), y), ("goal", z)] := by first | rfl | simp [putF] | decide +kernel
theorem put_made {y z u : V} : putF ("made" : Str) u [(("now" : Str), y), ("goal", z)] = [(("now" : Str), y), ("goal", z), ("made", u)] := by first | rfl | simp [putF] | decide +kernel
theorem put_now3 {y z u x : V} : putF ("now" : Str) x [(("now" : Str), y), ("goal", z), ("made", u)] = [(("now" : Str), x), ("goal", z), ("made", u)] := by first | rfl | simp [putF] | decide +kernel
def OkI (mg : Str → Option Value) (O : List Addr) (H : Hp) (x dx : Addr) (Q : VK) (E : XK) : Rs So → Prop
  | .ok s => ∀ am H2, H am = none → (∀ b u, H b = some u → b ≠ x → H2 b = some u) → SoAt (am :: O) H2 s x dx am → Q .non H2
  | .er c => ∀ H2, Ex H H2 → E (cvM mg c) none H2
  | .no => False
def spInit (mg : Str → Option Value) (g : List D → Rs D) : Sp := fun vs H Q E => ∃ x dx v1 v2 O d1 d2, vs = [.ref x, v1, v2] ∧ H x = some (.ins SC.C dx []) ∧ H dx = some (.own x) ∧ x ≠ dx ∧ x ∈ O ∧ dx ∈ O ∧ (∀ a ∈ O, H a ≠ none) ∧ NT O H ∧ Dq (hide O H) v1 d1 ∧ Dq (hide O H) v2 d2 ∧ OkI mg O H x dx Q E (mkS g d1 d2)
def rLst (K : PySem.W.Frag) : List V → Hp → VK → Prop := fun xs H Q => ∃ p ys, xs = [.ref p] ∧ (SqL K H p ys ∨ SqT K H p ys) ∧ ∀ l, H l = none → Q (.ref l) (upd H l (.lst ys))
def tInit (K : PySem.W.Frag) (sp : Sp) (E : St → XK) : TS := tSeq (tDrop (tCallS sp E (tCons (tVar 1) (tCons (tVar 2) tNil)))) (tSeq (sFld K (tVar 0) (tCB (rLst K) (tCons (tVar 1) tNil)) "now") (tSeq (sFld K (tVar 0) (tCB (rLst K) (tCons (tVar 2) tNil)) "goal") (sFld K (tVar 0) (tLst tNil) "made")))
theorem init_reads {K : PySem.W.Frag} {mg : Str → Option Value} {g : List D → Rs D} (T : SoC K mg) (vs : List V) (H : Hp) (Q : VK) (E : XK) (h : spInit mg g vs H Q E) : tInit K (spX mg 2 g) (fun _ => E) { nx := fun _ H' => Q .non H', rt := Q } (L2.start ["self", "ranking", "goal"] vs) H := by
  obtain ⟨x, dx, v1, v2, O, d1, d2, rfl, hx, hdx, ne, xO, dO, od, nt, q1, q2, p⟩ := h
  refine ⟨_, rfl, _, rfl, rfl, O, [d1, d2], od, nt, .cons q1 (.cons q2 .nil), ?_⟩
  unfold mkS at p
  cases eg : g [d1, d2] with
  | no => rw [eg] at p; exact p
  | er c => rw [eg] at p; exact fun H2 x2 => p H2 x2
  | ok d =>
    rw [eg, Rs.bind_ok] at p
    intro v H1 x1 _
    split at p
    · split at p
      · rename_i n m i1 i2
        have e := intsOf_eq i1
        subst e
        have e := intsOf_eq i2
        subst e
        have q1 := q1.mono (hide_ex x1)
        have q2 := q2.mono (hide_ex x1)
        cases q1 with
        | lst h1 a1 =>
          rename_i p1 vs1
          have e := a1.ints
          subst e
          cases q2 with
          | lst h2 a2 =>
            rename_i p2 vs2
            have e := a2.ints
            subst e
            have hx1 := x1 _ _ hx
            have hd1 := x1 _ _ hdx
            have hp1 := hide_le _ _ h1
            have hp2 := hide_le _ _ h2
            refine ⟨_, rfl, p1, _, rfl, .inl (SqL.of hp1), fun n1 hn1 => ⟨_, rfl, x, SC.C, dx, [], rfl, by rw [upd_ne (ne_of_none hx1 hn1)]; exact hx1, T.cl, T.nN, by decide, ?_⟩⟩
            rw [put_now]
            have x_n1 : x ≠ n1 := ne_of_none hx1 hn1
            have p2_x : p2 ≠ x := fun z => by rw [z] at hp2; rw [hx1] at hp2; cases hp2
            have p2_n1 : p2 ≠ n1 := ne_of_none hp2 hn1
            refine ⟨_, rfl, p2, m.map V.int, rfl, .inl (SqL.of (by rw [upd_ne p2_x, upd_ne p2_n1]; exact hp2)), fun n2 hn2 => ⟨_, rfl, x, SC.C, dx, [("now", .ref n1)], rfl, by rw [upd_ne (fun z => by rw [← z, upd_same] at hn2; cases hn2)]; exact upd_same, T.cl, T.nG, by simp, ?_⟩⟩
            rw [put_goal]
            have x_n2 : x ≠ n2 := fun z => by rw [← z, upd_same] at hn2; cases hn2
            rw [upd_ne x_n2.symm] at hn2
            have n1_n2 : n1 ≠ n2 := fun z => by rw [← z, upd_same] at hn2; cases hn2
            rw [upd_ne n1_n2.symm] at hn2
            refine ⟨Nat.zero_le _, fun am ham => ⟨_, rfl, x, SC.C, dx, [("now", .ref n1), ("goal", .ref n2)], rfl, ?_, T.cl, T.nM, by simp, ?_⟩⟩
            · have x_am : x ≠ am := fun z => by rw [← z, upd_same] at ham; cases ham
              rw [upd_ne x_am]
              exact upd_same
            · rw [put_made]
              have x_am : x ≠ am := fun z => by rw [← z, upd_same] at ham; cases ham
              rw [upd_ne x_am.symm] at ham
              have n2_am : n2 ≠ am := fun z => by rw [← z, upd_same] at ham; cases ham
              rw [upd_ne n2_am.symm, upd_ne x_am.symm] at ham
              have n1_am : n1 ≠ am := fun z => by rw [← z, upd_same] at ham; cases ham
              rw [upd_ne n1_am.symm] at ham
              have dx_am : dx ≠ am := ne_of_none hd1 ham
              have dx_n1 : dx ≠ n1 := ne_of_none hd1 hn1
              have dx_n2 : dx ≠ n2 := ne_of_none hd1 hn2
              have vis : ∀ z : Addr, H1 z = none → z ≠ am → z ∉ am :: O := fun z hz na m => by
                rcases List.mem_cons.mp m with e | m
                · exact na e
                · exact od z m (x1.free hz)
              refine p am _ (x1.free ham) (fun b u hb nb => ?_) ⟨⟨ne, x_am, dx_am⟩, .ref n1, .ref n2, upd_same, ?_, .lst (hide_some.mpr ⟨vis n1 hn1 n1_am, ?_⟩) (DqAll.ofInts _), .lst (hide_some.mpr ⟨vis n2 hn2 n2_am, ?_⟩) (DqAll.ofInts _), ?_⟩
              · have hb1 := x1 _ _ hb
                rw [upd_ne nb, upd_ne (ne_of_none hb1 ham), upd_ne nb, upd_ne (ne_of_none hb1 hn2), upd_ne nb, upd_ne (ne_of_none hb1 hn1)]
                exact hb1
              · rw [upd_ne ne.symm, upd_ne dx_am, upd_ne ne.symm, upd_ne dx_n2, upd_ne ne.symm, upd_ne dx_n1]
                exact hd1
              · rw [upd_ne x_n1.symm, upd_ne n1_am, upd_ne x_n1.symm, upd_ne n1_n2, upd_ne x_n1.symm, upd_same]
              · rw [upd_ne x_n2.symm, upd_ne n2_am, upd_ne x_n2.symm, upd_same]
              · rw [upd_ne x_am.symm, upd_same]
                rfl
      · exact p.elim
    · exact p.elim
section
variable (W : WX) (mg : Str → Option Value)
def PosN (O : List Addr) (σ : St) (H : Hp) (Q : VK) : Rs So → Prop
  | .ok s => ∀ a dx am H2, Ex H H2 → H a = none → H dx = none → H am = none → SoAt (a :: dx :: am :: O) H2 s a dx am → Q (.ref a) H2
  | .er c => ∀ H2, Ex H H2 → W (cvM mg c) none σ H2
  | .no => False
def SndN (t : TE) (f : En → Rs So) : Prop := ∀ O σ ρ H Q, RepE O σ ρ H → PosN W mg O σ H Q (f ρ) → t σ H Q
variable {ι : Type} (Xs : ι → Cx)
def EN_ (e : Expr) (f : En → Rs So) : Prop := ∃ t, (∀ j, PE (Xs j) e t) ∧ SndN W mg t f
end
def KnownI (P : Program) (w : World) (K : PySem.W.Frag) (mg : Str → Option Value) (base : Heap) (kc : Nat) (g : List D → Rs D) : Prop :=
  ∃ f fd ps, FnOk P w K mg base (L2.CX P w) kc f fd ps (spInit mg g) ∧ Mk K SC.C f ∧ Binds K fd ps []
section
variable {ι : Type} {W : WX} {fr : RM} {Xs : ι → Cx} {P : Program} {w : World} {K : PySem.W.Frag} {mg : Str → Option Value} {base : Heap} {N ps : List Str} {sc : Scope} {fnn : Str → Bool} {k kc : Nat} {e e1 e2 : Expr} {es : List Expr} {f f1 f2 : En → Rs D} {fn : En → Rs So} {pos p apos cpos opos npos : Pos} {x m : Str} {g : List D → Rs D}
theorem n_new (Fm : Fam Xs P w K mg base N sc fnn k) (tk : ∀ j, Takes (Xs j) W) (T : SoC K mg) (G : KnownI P w K mg base kc g) (h1 : EE (cvM mg) W Xs e1 f1) (h2 : EE (cvM mg) W Xs e2 f2) (hk : kc + 1 ≤ k := by decide) (hg : glB sc "Sorter" = true := by decide +kernel)
    (hs : ∀ env, starEach [e1, e2] env = (false, eval e1 env) :: starEach [e2] env := by intro _; rfl) (hs2 : ∀ env, starEach [e2] env = (false, eval e2 env) :: starEach [] env := by intro _; rfl) (hpl : ∀ env, (backTo pos (starEach [e2] env)).any (·.1) = false := by intro _; rfl) :
    EN_ W mg Xs (.Call (.Name "Sorter" p) [e1, e2] [] pos) (fNew g f1 f2) := by
  obtain ⟨f, fd, ps, G, M, b⟩ := G
  obtain ⟨t1, a1, a2⟩ := h1
  obtain ⟨t2, b1, b2⟩ := h2
  refine ⟨tMakeA SC.C (spInit mg g) (L2.WE W) (tCons t1 (tCons t2 tNil)), fun j => ?_, fun O σ ρ H Q R pp => a2 O σ ρ H _ R ?_⟩
  · refine pe_makeA (CX := L2.CX (Xs j).prog (Xs j).w) (k := kc) (ps := ps) (fd := fd) (f := f) (by rw [Fm.kk j]; exact M) ?_ ((Fm.room j).mono hk) (Fm.gl_ok hg j) (Fm.some T.nm j) (by rw [Fm.kk j]; exact b) (passAt (tk j)) (pa_cons (a1 j) (pa_cons (b1 j) pa_nil (hs2 _)) (hs _)) (by decide) (hs _) (hpl _)
    rw [Fm.prog j, Fm.wd j, Fm.kk j, Fm.gl j, Fm.bs j]
    exact G
  · unfold fNew at pp
    cases ef : f1 ρ with
    | no => rw [ef] at pp; exact pp
    | er c => rw [ef] at pp; exact pp
    | ok d1 =>
      rw [ef, Rs.bind_ok] at pp
      intro v1 H1 x1 q1
      refine b2 O σ ρ H1 _ (R.mono x1) ?_
      cases eg : f2 ρ with
      | no => rw [eg] at pp; exact pp
      | er c => rw [eg] at pp; exact fun H3 x3 => pp H3 (x1.trans x3)
      | ok d2 =>
        rw [eg, Rs.bind_ok] at pp
        intro v2 H2 x2 q2
        intro x dx hx hdx ne
        have x12 := x1.trans x2
        have ed : Ex H2 (upd (upd H2 dx (.own x)) x (.ins SC.C dx [])) := fun b u hb => by rw [upd_ne (ne_of_none hb hx), upd_ne (ne_of_none hb hdx)]; exact hb
        have eh : Ex (hide O H2) (hide (x :: dx :: O) (upd (upd H2 dx (.own x)) x (.ins SC.C dx []))) := fun b u hb => by
          obtain ⟨g1, g2⟩ := hide_some.mp hb
          refine hide_some.mpr ⟨fun z => ?_, ed b u g2⟩
          rcases List.mem_cons.mp z with z | z
          · exact ne_of_none g2 hx z
          · rcases List.mem_cons.mp z with z | z
            · exact ne_of_none g2 hdx z
            · exact g1 z
        have hdx' : (upd (upd H2 dx (.own x)) x (.ins SC.C dx [])) dx = some (.own x) := by rw [upd_ne ne, upd_same]
        have od' : ∀ a ∈ x :: dx :: O, (upd (upd H2 dx (.own x)) x (.ins SC.C dx [])) a ≠ none := fun a ha z => by
          rcases List.mem_cons.mp ha with rfl | ha
          · rw [upd_same] at z; cases z
          · rcases List.mem_cons.mp ha with rfl | ha
            · rw [hdx'] at z; cases z
            · exact (R.mono x12).od a ha (ed.free z)
        have nt' : NT (x :: dx :: O) (upd (upd H2 dx (.own x)) x (.ins SC.C dx [])) := NT.cons upd_same (fun xs z => by cases z) (NT.cons hdx' (fun xs z => by cases z) ((R.mono x12).nt.mono ed (R.mono x12).od))
        refine ⟨x, dx, v1, v2, x :: dx :: O, d1, d2, rfl, upd_same, hdx', fun z => ne z.symm, by simp, by simp, od', nt', (q1.mono (hide_ex x2)).mono eh, q2.mono eh, ?_⟩
        cases em : mkS g d1 d2 with
        | no => rw [em] at pp; exact pp
        | er c => rw [em] at pp; exact fun H3 x3 => pp H3 (x12.trans (ed.trans x3))
        | ok s =>
          rw [em] at pp
          intro am H3 ham fr3 so
          refine ⟨rfl, pp x dx am H3 (fun b u hb => ?_) (x12.free hx) (x12.free hdx) (x12.free (ed.free ham)) (so.stay (hide_sub fun b hb => ?_) fun _ _ _ z => z)⟩
          · have hb := x12 _ _ hb
            exact fr3 b u (ed b u hb) (ne_of_none hb hx)
          · simp only [List.mem_cons] at hb ⊢
            rcases hb with h | h | h | h
            · exact .inr (.inl h)
            · exact .inr (.inr (.inl h))
            · exact .inl h
            · exact .inr (.inr (.inr h))
/-- x = Sorter(..) -/
theorem s_new (Fm : Fam Xs P w K mg base N sc fnn k) (i : Nat) (h : EN_ W mg Xs e fn) (hN : N[i]? = some x := by rfl) (hx : stB fnn sc x = true := by decide +kernel) (hs : ∀ env, swapsWith e (some (.Name x npos)) pos.line env = pure false := by intro _; rfl) :
    SS (cvM mg) W fr Xs (.Assign [.Name x npos] e pos) (sNewS i fn) := by
  obtain ⟨t, h1, h2⟩ := h
  refine ⟨_, fun j => ps_set (Fm.ndj j) (Fm.at hN j) (Fm.loc hx j) (h1 j) (hs _) (Fm.hf hx j), fun Oc H0 O σ ρ H Z R p => h2 O σ ρ H _ R.e ?_⟩
  unfold sNewS at p
  cases ef : fn ρ with
  | no => rw [ef] at p; exact p
  | er c => rw [ef] at p; exact fun H2 x2 => p O σ H2 (R.mono x2) (hide_ex x2)
  | ok s =>
    rw [ef, ofR_ok] at p
    intro a dx am H2 x2 ha hdx ham so
    have ex : Ex (hide O H) (hide (a :: dx :: am :: O) H2) := fun b u hb => by
      obtain ⟨g1, g2⟩ := hide_some.mp hb
      refine hide_some.mpr ⟨fun z => ?_, x2 b u g2⟩
      simp only [List.mem_cons] at z
      rcases z with z | z | z | z
      · exact ne_of_none g2 ha z
      · exact ne_of_none g2 hdx z
      · exact ne_of_none g2 ham z
      · exact g1 z
    obtain ⟨hne, vn, vg, s1, s2, s3, s4, s5⟩ := id so
    refine p (a :: dx :: am :: O) _ H2 (R.put (i := i) (s := .mo (.so s)) x2 (fun b z => by simp [z]) (l := [a, dx, am]) (fun b z => ?_) (fun b z => ?_) ?_ ex ⟨a, dx, am, rfl, rfl, so⟩) ex
    · simp only [List.mem_cons, List.not_mem_nil, or_false] at z
      rcases z with z | z | z
      · exact ⟨by simp [z], fun y => R.od b y (z ▸ ha), R.base.free (z ▸ ha)⟩
      · exact ⟨by simp [z], fun y => R.od b y (z ▸ hdx), R.base.free (z ▸ hdx)⟩
      · exact ⟨by simp [z], fun y => R.od b y (z ▸ ham), R.base.free (z ▸ ham)⟩
    · intro y
      simp only [List.mem_cons] at z
      rcases z with z | z | z | z
      · rw [z, s1] at y; cases y
      · rw [z, s2] at y; cases y
      · rw [z, s5] at y; cases y
      · exact R.od b z (x2.free y)
    · exact NT.cons s1 (fun xs z => by cases z) (NT.cons s2 (fun xs z => by cases z) (NT.cons s5 (fun xs z => by cases z) (R.nt.mono x2 R.od)))
theorem g_new (h : EN_ W mg Xs e fn) : EGE W mg Xs e (gNew fn) := by
  obtain ⟨t, h1, h2⟩ := h
  refine ⟨t, h1, fun O σ ρ H Q R p => h2 O σ ρ H Q R ?_⟩
  unfold gNew at p
  cases ef : fn ρ with
  | no => rw [ef] at p; exact p
  | er c => rw [ef] at p; exact p
  | ok s =>
    rw [ef] at p
    intro a dx am H2 x2 ha hdx ham so
    exact p _ H2 x2 ⟨a, dx, am, rfl, so.stay (by rw [hide_nil, hide_nil]; exact hide_le) fun b _ u z => by rw [hide_nil]; exact z⟩
end
end DL

/-! sorters are changed -/
namespace DL
open PySem L2
inductive R2_ where
  | ok (d : D) (s : So) | er (c : Nat) (s : So) | no
inductive R3 where
  | ok (d : D) (ρ : En) | er (c : Nat) (ρ : En) | no
def startP (a dx am : Nat) (n : Nat) (s : So) (ds : List D) : En := some (.pm a dx am s) :: (ds.map (fun d => some (.sh d)) ++ List.replicate (n - 1 - ds.length) none)
def Runs (F : En → Out) (n : Nat) (s : So) (ds : List D) : R2_ → Prop
  | .ok d s' => ∀ a dx am, ∃ ρ', F (startP a dx am n s ds) = .rs d ρ' ∧ ρ'[0]? = some (some (.pm a dx am s'))
  | .er c s' => ∀ a dx am, ∃ ρ', F (startP a dx am n s ds) = .ex c ρ' ∧ ρ'[0]? = some (some (.pm a dx am s'))
  | .no => True
def putSo : Sl → So → Option Sl
  | .mo (.so _), s => some (.mo (.so s))
  | .pm a dx am _, s => some (.pm a dx am s)
  | _, _ => none
/-- self.now = e -/
def sNow (i : Nat) (f : En → Rs D) : En → Out := fun ρ => ofR (f ρ) ρ fun d => match d, ρ[i]? with
  | .list ds, some (some sl) => match intsOf ds, soOf sl with
    | some ns, some s => match putSo sl { s with now := ns } with
      | some sl' => .nx (ρ.set i (some sl'))
      | none => .no
    | _, _ => .no
  | _, _ => .no
/-- self.made.append(e) -/
def sAppM (i : Nat) (f : En → Rs D) : En → Out := fun ρ => match ρ[i]? with
  | some (some sl) => match soOf sl with
    | some s => ofR (f ρ) ρ fun d => match d with
      | .int k => if s.made.length < LIM then (match putSo sl { s with made := s.made ++ [k] } with
        | some sl' => .nx (ρ.set i (some sl'))
        | none => .no) else .no
      | _ => .no
    | none => .no
  | _ => .no
/-- x = self.made.pop() -/
def sPopM (i j : Nat) : En → Out := fun ρ => match ρ[i]? with
  | some (some sl) => match soOf sl with
    | some s => match s.made.getLast?, putSo sl { s with made := s.made.dropLast } with
      | some k, some sl' => .nx ((ρ.set i (some sl')).set j (some (.sh (.int k))))
      | _, _ => .no
    | none => .no
  | _ => .no
def sRetS (f : En → Rs D) : En → Out := fun ρ => ofR (f ρ) ρ fun d => .rs d ρ
/-- x.m(e, ..), x a sorter that changes -/
def xMet (i : Nat) (g : So → List D → R2_) (fs : En → Rs (List D)) : En → R3 := fun ρ => match ρ[i]? with
  | some (some sl) => match soOf sl with
    | some s => match fs ρ with
      | .ok ds => match g s ds with
        | .ok d s' => match putSo sl s' with
          | some sl' => .ok d (ρ.set i (some sl'))
          | none => .no
        | .er c s' => match putSo sl s' with
          | some sl' => .er c (ρ.set i (some sl'))
          | none => .no
        | .no => .no
      | .er c => .er c ρ
      | .no => .no
    | none => .no
  | _ => .no
def xLift (f : En → Rs D) : En → R3 := fun ρ => match f ρ with
  | .ok d => .ok d ρ
  | .er c => .er c ρ
  | .no => .no
def xIf (c : En → Rs Bool) (f g : En → R3) : En → R3 := fun ρ => match c ρ with
  | .ok b => if b = true then f ρ else g ρ
  | .er c => .er c ρ
  | .no => .no
/-- a comparison, the left side changes the state -/
def xOp (h : D → D → Rs D) (f : En → R3) (g : En → Rs D) : En → R3 := fun ρ => match f ρ with
  | .ok d ρ' => match g ρ' with
    | .ok e => match h d e with
      | .ok z => .ok z ρ'
      | _ => .no
    | .er c => .er c ρ'
    | .no => .no
  | r => r
def xAnd (f g : En → R3) : En → R3 := fun ρ => match f ρ with
  | .ok (.bool b) ρ' => if b = true then g ρ' else .ok (.bool false) ρ'
  | .ok _ _ => .no
  | r => r
def xOr (f g : En → R3) : En → R3 := fun ρ => match f ρ with
  | .ok (.bool b) ρ' => if b = true then .ok (.bool true) ρ' else g ρ'
  | .ok _ _ => .no
  | r => r
def sSetX (i : Nat) (f : En → R3) : En → Out := fun ρ => match f ρ with
  | .ok d ρ' => .nx (ρ'.set i (some (.sh d)))
  | .er c ρ' => .ex c ρ'
  | .no => .no
def sExpX (f : En → R3) : En → Out := fun ρ => match f ρ with
  | .ok _ ρ' => .nx ρ'
  | .er c ρ' => .ex c ρ'
  | .no => .no
def sRetX (f : En → R3) : En → Out := fun ρ => match f ρ with
  | .ok d ρ' => if flatD d = true then .rt d else .no
  | .er c ρ' => .ex c ρ'
  | .no => .no
def sIfX (f : En → R3) (F G : En → Out) : En → Out := fun ρ => match f ρ with
  | .ok (.bool b) ρ' => if b = true then F ρ' else G ρ'
  | .ok _ _ => .no
  | .er c ρ' => .ex c ρ'
  | .no => .no
variable [SC]
section
variable {Oc O : List Addr} {H0 H H' : Hp} {σ : St} {ρ : En} {i : Nat}
theorem SoAt.live {s : So} {a dx am : Addr} (h : SoAt O H s a dx am) : ∀ b ∈ [a, dx, am], H b ≠ none ∧ ∀ xs, H b ≠ some (.tup xs) := by
  obtain ⟨_, vn, vg, h1, h2, h3, h4, h5⟩ := h
  intro b hb
  simp only [List.mem_cons, List.not_mem_nil, or_false] at hb
  rcases hb with rfl | rfl | rfl
  · rw [h1]; exact ⟨by simp, fun xs z => by cases z⟩
  · rw [h2]; exact ⟨by simp, fun xs z => by cases z⟩
  · rw [h5]; exact ⟨by simp, fun xs z => by cases z⟩
/-- what stands at a slot that may be changed -/
theorem RepS.at_so {sl : Sl} {s : So} (R : RepS Oc H0 O σ ρ H) (e : ρ[i]? = some (some sl)) (hs : soOf sl = some s) {s' : So} {sl' : Sl} (hp : putSo sl s' = some sl') :
    ∃ a dx am, σ[i]? = some (some (.ref a)) ∧ (a ∈ O ∧ dx ∈ O ∧ am ∈ O) ∧ (H0 a = none ∧ H0 dx = none ∧ H0 am = none) ∧ SoAt O H s a dx am ∧
      ∀ H', (∀ b u, H b = some u → b ∉ [a, dx, am] → H' b = some u) → SoAt O H' s' a dx am → RepS Oc H0 O σ (ρ.set i (some sl')) H' ∧ Ex (hide O H) (hide O H') := by
  obtain ⟨fp, h1, h2, h3⟩ := R.fp
  obtain ⟨v, q1, q2⟩ := h1 i sl e
  have key : ∃ a dx am, v = .ref a ∧ fp i = [a, dx, am] ∧ SoAt O H s a dx am ∧ ∀ H', SoAt O H' s' a dx am → SlR O H' sl' (.ref a) [a, dx, am] := by
    unfold putSo at hp
    split at hp
    · cases hp
      cases hs
      obtain ⟨a, dx, am, g1, g2, g3⟩ := q2
      exact ⟨a, dx, am, g1, g2, g3, fun H' q => ⟨a, dx, am, rfl, rfl, q⟩⟩
    · cases hp
      cases hs
      obtain ⟨g1, g2, g3⟩ := q2
      exact ⟨_, _, _, g1, g2, g3, fun H' q => ⟨rfl, rfl, q⟩⟩
    · cases hp
  obtain ⟨a, dx, am, rfl, g2, g3, g4⟩ := key
  have hO : ∀ b ∈ [a, dx, am], b ∈ O ∧ H0 b = none := fun b hb => h3 i b (by rw [g2]; exact hb)
  refine ⟨a, dx, am, q1, ⟨(hO a (by simp)).1, (hO dx (by simp)).1, (hO am (by simp)).1⟩, ⟨(hO a (by simp)).2, (hO dx (by simp)).2, (hO am (by simp)).2⟩, g3, fun H' fr so => ?_⟩
  have ex : Ex (hide O H) (hide O H') := fun b o hb => by
    obtain ⟨k1, k2⟩ := hide_some.mp hb
    exact hide_some.mpr ⟨k1, fr b o k2 fun z => k1 (hO b z).1⟩
  refine ⟨⟨by rw [List.length_set]; exact R.len, fun b o hb => fr b o (R.base b o hb) (fun z => by rw [(hO b z).2] at hb; cases hb), R.oc, R.oh, fun b hb => ?_, fun b hb xs => ?_, fp, fun j s'' ej => ?_, h2, h3⟩, ex⟩
  · by_cases hq : b ∈ [a, dx, am]
    · exact (so.live b hq).1
    · cases hh : H b with
      | none => exact absurd hh (R.od b hb)
      | some u => rw [fr b u hh hq]; simp
  · by_cases hq : b ∈ [a, dx, am]
    · exact (so.live b hq).2 xs
    · cases hh : H b with
      | none => exact absurd hh (R.od b hb)
      | some u =>
        rw [fr b u hh hq]
        intro z
        exact R.nt b hb xs (hh.trans z)
  · by_cases hj : j = i
    · subst hj
      have hlt : j < ρ.length := by
        rw [List.getElem?_eq_some_iff] at e
        exact e.1
      rw [List.getElem?_set, if_pos rfl, if_pos hlt] at ej
      cases ej
      exact ⟨_, q1, by rw [g2]; exact g4 H' so⟩
    · rw [List.getElem?_set_ne (Ne.symm hj)] at ej
      obtain ⟨u, p1, p2⟩ := h1 j s'' ej
      exact ⟨u, p1, p2.moved' ex fun b hb u z => fr b u z fun m => hj (h2 j i b hb (by rw [g2]; exact m))⟩
end
section
variable {ι : Type} {W : WX} {cv : Nat → Value} {fr : RM} {Xs : ι → Cx} {P : Program} {w : World} {K : PySem.W.Frag} {mg : Str → Option Value} {base : Heap} {N ps : List Str} {sc : Scope} {fnn : Str → Bool} {k kc : Nat} {e a b : Expr} {es : List Expr} {f : En → Rs D} {fs : En → Rs (List D)} {pos p apos cpos opos npos apos2 : Pos} {x y m : Str}
theorem s_retS (h : EE cv W Xs e f) : SS cv W fr Xs (.Return (some e) pos) (sRetS f) := by
  obtain ⟨t, h1, h2⟩ := h
  exact ⟨_, fun j => ps_ret (h1 j), fun Oc H0 O σ ρ H Z R p => h2 O σ ρ H _ R.e (posE_of R p fun d _ v H2 x q p => p v O σ H2 (R.mono x) (hide_ex x) q)⟩
theorem s_now (Fm : Fam Xs P w K mg base N sc fnn k) (T : SoC K mg) (i : Nat) (h : EE cv W Xs e f) (hN : N[i]? = some x := by rfl) (hv : visB sc x = true := by decide +kernel) (hd : (x == ("__debug__" : Str)) = false := by decide) (hcd : (x == ("__classdict__" : Str)) = false := by decide)
    (hs : ∀ env, swapsWith e (some (.Attribute (.Name x opos) "now" apos)) pos.line env = pure false := by intro _; rfl) : SS cv W fr Xs (.Assign [.Attribute (.Name x opos) "now" apos] e pos) (sNow i f) := by
  obtain ⟨t, h1, h2⟩ := h
  refine ⟨sFld K (tVar i) t "now", fun j => by have h := ps_fld (X := Xs j) (pos := pos) (pos' := apos) (f := "now") (pe_var (pos := opos) (Fm.at hN j) (Fm.vis hv j) hd hcd) (h1 j) (hs _); rw [Fm.kk j] at h; exact h, fun Oc H0 O σ ρ H Z R p => h2 O σ ρ H _ R.e (posE_of R p fun d hr0 v H2 x q p => ?_)⟩
  split at p
  · rename_i ds sl _ e
    split at p
    · rename_i ns s hi hs
      split at p
      · rename_i sl' hp
        have ed := intsOf_eq hi
        subst ed
        obtain ⟨a, dx, am, g1, g2, g3, g4, g5⟩ := (R.mono x).at_so e hs hp
        obtain ⟨ne, vn, vg, s1, s2, s3, s4, s5⟩ := id g4
        refine ⟨_, g1, a, SC.C, dx, _, rfl, s1, T.cl, T.nN, by simp, ?_⟩
        rw [put_now3]
        obtain ⟨R', ex⟩ := g5 (upd H2 a (.ins SC.C dx [("now", v), ("goal", vg), ("made", .ref am)])) (fun b u hb nb => by rw [upd_ne fun z => nb (by rw [z]; simp)]; exact hb)
          ⟨ne, v, vg, upd_same, by rw [upd_ne ne.1.symm]; exact s2, q.mono (hide_own g2.1), s4.mono (hide_own g2.1), by rw [upd_ne ne.2.1.symm]; exact s5⟩
        exact p O σ _ R' ((hide_ex x).trans ex)
      · exact p.elim
    · exact p.elim
  · exact p.elim
theorem s_appM (Fm : Fam Xs P w K mg base N sc fnn k) (T : SoC K mg) (i : Nat) (h : EE cv W Xs e f) (hN : N[i]? = some x := by rfl) (hv : visB sc x = true := by decide +kernel) (hd : (x == ("__debug__" : Str)) = false := by decide) (hcd : (x == ("__classdict__" : Str)) = false := by decide)
    (hb : ∀ env, attributeBase (.Name x opos) "made" env (eval (.Name x opos) env) = eval (.Name x opos) env := by intro _; rfl) (hb2 : ∀ env, attributeBase (.Attribute (.Name x opos) "made" apos2) "append" env (eval (.Attribute (.Name x opos) "made" apos2) env) = eval (.Attribute (.Name x opos) "made" apos2) env := by intro _; rfl)
    (hline : (apos.endLine == cpos.line) = true := by rfl) (hs : ∀ env, starEach [e] env = (false, eval e env) :: starEach [] env := by intro _; rfl) :
    SS cv W fr Xs (.Expr (.Call (.Attribute (.Attribute (.Name x opos) "made" apos2) "append" apos) [e] [] cpos) pos) (sAppM i f) := by
  obtain ⟨t, h1, h2⟩ := h
  refine ⟨tDrop (tBM K "list" rAppend (tFld K (tVar i) "made") (tCons t tNil)), fun j => ?_, fun Oc H0 O σ ρ H Z R p => ?_⟩
  · have := ps_expr (pos := pos) (pe_bm (X := Xs j) (cpos := cpos) (apos := apos) PySem.F.plainAttrs_list PySem.F.slot_list_append PySem.F.type_list_append mt_append (pe_fld (pos := apos2) (pe_var (pos := opos) (Fm.at hN j) (Fm.vis hv j) hd hcd) (hb _)) (pa_cons (h1 j) pa_nil (hs _)) (hb2 _) (by rw [hs]; rfl) hline (hs _) rfl) rfl
    rw [Fm.kk j] at this
    exact this
  · unfold sAppM at p
    split at p
    · rename_i sl e
      split at p
      · rename_i s hs
        obtain ⟨a, dx, am, vn, vg, r1, r2, r3, r4, r5⟩ := R.e.so e hs
        refine ⟨_, r1, a, SC.C, dx, _, _, rfl, r2, T.cl, T.nM, lk_made, Or.inl ⟨rfl, _, SqL.of r5⟩, h2 O σ ρ H _ R.e (posE_of R p fun d hr0 v H2 x q p => ?_)⟩
        split at p
        · rename_i kk
          split at p
          · rename_i hl
            split at p
            · rename_i sl' hp
              obtain ⟨a', dx', am', g1, g2, g3, g4, g5⟩ := (R.mono x).at_so e hs hp
              rw [r1] at g1
              cases g1
              obtain ⟨ne, vn', vg', s1, s2, s3, s4, s5⟩ := id g4
              rw [x _ _ r2] at s1
              cases s1
              cases q
              refine ⟨am, _, .int kk, rfl, rfl, s5, by rw [List.length_map]; exact lim_lt hl, ?_⟩
              have em : List.map V.int s.made ++ [V.int kk] = (s.made ++ [kk]).map V.int := by simp
              rw [em]
              obtain ⟨R', ex⟩ := g5 (upd H2 am (.lst ((s.made ++ [kk]).map V.int))) (fun b u hb nb => by rw [upd_ne fun z => nb (by rw [z]; simp)]; exact hb)
                ⟨ne, vn, vg, by rw [upd_ne ne.2.1]; exact x _ _ r2, by rw [upd_ne ne.2.2]; exact s2, s3.mono (hide_own g2.2.2), s4.mono (hide_own g2.2.2), upd_same⟩
              exact p O σ _ R' ((hide_ex x).trans ex)
            · exact p.elim
          · exact p.elim
        · exact p.elim
      · exact p.elim
    · exact p.elim
theorem s_popM (Fm : Fam Xs P w K mg base N sc fnn k) (T : SoC K mg) (i j : Nat) (hN : N[i]? = some x := by rfl) (hv : visB sc x = true := by decide +kernel) (hd : (x == ("__debug__" : Str)) = false := by decide) (hcd : (x == ("__classdict__" : Str)) = false := by decide) (hNj : N[j]? = some y := by rfl) (hy : stB fnn sc y = true := by decide +kernel)
    (hb : ∀ env, attributeBase (.Name x opos) "made" env (eval (.Name x opos) env) = eval (.Name x opos) env := by intro _; rfl) (hb2 : ∀ env, attributeBase (.Attribute (.Name x opos) "made" apos2) "pop" env (eval (.Attribute (.Name x opos) "made" apos2) env) = eval (.Attribute (.Name x opos) "made" apos2) env := by intro _; rfl)
    (hline : (apos.endLine == cpos.line) = true := by rfl) (hs : ∀ env, swapsWith (.Call (.Attribute (.Attribute (.Name x opos) "made" apos2) "pop" apos) [] [] cpos) (some (.Name y npos)) pos.line env = pure false := by intro _; rfl) :
    SS cv W fr Xs (.Assign [.Name y npos] (.Call (.Attribute (.Attribute (.Name x opos) "made" apos2) "pop" apos) [] [] cpos) pos) (sPopM i j) := by
  refine ⟨tAsg (tBM0 K "list" rPop (tFld K (tVar i) "made")) (gName j), fun jj => ?_, fun Oc H0 O σ ρ H Z R p => ?_⟩
  · have := ps_set (X := Xs jj) (pos := pos) (Fm.ndj jj) (Fm.at hNj jj) (Fm.loc hy jj) (pe_bm0 (X := Xs jj) (cpos := cpos) (apos := apos) PySem.F.plainAttrs_list PySem.F.slot_list_pop PySem.F.type_list_pop mt_pop (pe_fld (pos := apos2) (pe_var (pos := opos) (Fm.at hN jj) (Fm.vis hv jj) hd hcd) (hb _)) (hb2 _) hline) (hs _) (Fm.hf hy jj)
    rw [Fm.kk jj] at this
    exact this
  · unfold sPopM at p
    split at p
    · rename_i sl e
      split at p
      · rename_i s hs
        split at p
        · rename_i kk sl' hl hp
          obtain ⟨a, dx, am, g1, g2, g3, g4, g5⟩ := R.at_so e hs hp
          obtain ⟨ne, vn, vg, s1, s2, s3, s4, s5⟩ := id g4
          have hlast : (s.made.map V.int)[(s.made.map V.int).length - 1]? = some (.int kk) := by
            rw [← List.getLast?_eq_getElem?, List.getLast?_map, hl]
            rfl
          refine ⟨_, g1, a, SC.C, dx, _, _, rfl, s1, T.cl, T.nM, lk_made, Or.inl ⟨rfl, _, SqL.of s5⟩, am, _, _, rfl, rfl, s5, hlast, ?_⟩
          have em : (List.map V.int s.made).dropLast = s.made.dropLast.map V.int := by rw [List.map_dropLast]
          rw [em]
          obtain ⟨R', ex⟩ := g5 (upd H am (.lst (s.made.dropLast.map V.int))) (fun b u hb nb => by rw [upd_ne fun z => nb (by rw [z]; simp)]; exact hb)
            ⟨ne, vn, vg, by rw [upd_ne ne.2.1]; exact s1, by rw [upd_ne ne.2.2]; exact s2, s3.mono (hide_own g2.2.2), s4.mono (hide_own g2.2.2), upd_same⟩
          exact p O _ _ (R'.set (i := j) (.int kk)) ex
        · exact p.elim
      · exact p.elim
    · exact p.elim
end
end DL

/-! defs and methods that change a sorter; what they do in expressions -/
namespace DL
open PySem L2
/-- try: F / except ..: caught = e / return fa if caught is None else (the name of e), with the state -/
def sTryRS (i ic : Nat) (F : En → Out) (fa : En → Rs D) : En → Out := fun ρ => match F ρ with
  | .nx ρ' => match ρ'[ic]? with
    | some (some (.sh .none)) => sRetS fa ρ'
    | _ => .no
  | .ex c ρ' => if i < ρ'.length ∧ ic < ρ'.length ∧ i ≠ ic ∧ c < 5 then .rs (.str (eNm c)) (((ρ'.set i none).set ic none).set i none) else .no
  | _ => .no
variable [SC]
def OkS (mg : Str → Option Value) (O : List Addr) (H : Hp) (a dx am : Addr) (Q : VK) (E : XK) : R2_ → Prop
  | .ok d s' => ∀ v H2, (∀ b u, H b = some u → b ∉ [a, dx, am] → H2 b = some u) → SoAt O H2 s' a dx am → Dq (hide O H2) v d → Q v H2
  | .er c s' => ∀ H2, (∀ b u, H b = some u → b ∉ [a, dx, am] → H2 b = some u) → SoAt O H2 s' a dx am → E (cvM mg c) none H2
  | .no => False
def spS (mg : Str → Option Value) (np n : Nat) (F : En → Out) : Sp := fun vs H Q E => ∃ a dx am rest O s ds r, vs = .ref a :: rest ∧ rest.length + 1 = np ∧ (∀ b ∈ O, H b ≠ none) ∧ NT O H ∧ (a ∈ O ∧ dx ∈ O ∧ am ∈ O) ∧ SoAt O H s a dx am ∧ DqAll (hide O H) rest ds ∧ Runs F n s ds r ∧ OkS mg O H a dx am Q E r
section
variable {P : Program} {w : World} {K : PySem.W.Frag} {mg : Str → Option Value} {base : Heap} {N ps : List Str} {k : Nat} {x qual : Str} {st : Stmt} {f : Addr} {fd : FuncData} {F : En → Out}
theorem start_repS {O : List Addr} {H : Hp} {a dx am : Addr} {s : So} {rest : List V} {ds : List D} (od : ∀ b ∈ O, H b ≠ none) (nt : NT O H) (hO : a ∈ O ∧ dx ∈ O ∧ am ∈ O) (so : SoAt O H s a dx am) (q : DqAll (hide O H) rest ds) :
    RepS (O.filter fun b => decide (b ∉ [a, dx, am])) (hide [a, dx, am] H) O (L2.start N (.ref a :: rest)) (startP a dx am N.length s ds) H := by
  have hl := q.length
  refine ⟨by simp [L2.start, startP]; omega, hide_le, fun b hb => (List.mem_filter.mp hb).1, fun b hb => ?_, od, nt, fun i => if i = 0 then [a, dx, am] else [], fun i sl e => ?_, fun i j b hi hj => ?_, fun i b hi => ?_⟩
  · have h1 := (List.mem_filter.mp hb).1
    have h2 : b ∉ [a, dx, am] := by simpa using (List.mem_filter.mp hb).2
    unfold hide
    rw [if_neg h2]
    exact od b h1
  · cases i with
    | zero =>
      cases e
      exact ⟨_, rfl, rfl, rfl, so⟩
    | succ i =>
      unfold startP at e
      rw [List.getElem?_cons_succ] at e
      unfold L2.start
      rw [List.map_cons, List.cons_append, List.getElem?_cons_succ]
      by_cases hi : i < ds.length
      · rw [List.getElem?_append_left (by simpa using hi), List.getElem?_map, List.getElem?_eq_getElem hi] at e
        have e := Option.some.inj (Option.some.inj e)
        subst e
        obtain ⟨v, h1, h2⟩ := q.get i (List.getElem?_eq_getElem hi)
        refine ⟨v, ?_, ?_⟩
        · rw [List.getElem?_append_left (by simpa [hl] using hi), List.getElem?_map, h1]
          rfl
        · exact ⟨by simp, h2⟩
      · rw [List.getElem?_append_right (by simpa using hi), List.getElem?_replicate] at e
        split at e <;> simp at e
  · dsimp only at hi hj
    split at hi
    · split at hj
      · omega
      · simp at hj
    · simp at hi
  · dsimp only at hi
    split at hi
    · refine ⟨?_, ?_⟩
      · simp only [List.mem_cons, List.not_mem_nil, or_false] at hi
        rcases hi with rfl | rfl | rfl
        · exact hO.1
        · exact hO.2.1
        · exact hO.2.2
      · unfold hide
        rw [if_pos hi]
    · simp at hi
theorem end_repS {O O' : List Addr} {H H' : Hp} {a dx am : Addr} {s' : So} {σ' : St} {ρ' : En} (R : RepS (O.filter fun b => decide (b ∉ [a, dx, am])) (hide [a, dx, am] H) O' σ' ρ' H') (e : ρ'[0]? = some (some (.pm a dx am s'))) :
    (∀ b u, H b = some u → b ∉ [a, dx, am] → H' b = some u) ∧ SoAt O H' s' a dx am ∧ ∀ b ∈ O, b ∈ O' := by
  obtain ⟨fp, h1, h2, h3⟩ := R.fp
  obtain ⟨v, q1, q2, q3, q4⟩ := h1 0 _ e
  have sub : ∀ b ∈ O, b ∈ O' := fun b hb => by
    by_cases hq : b ∈ [a, dx, am]
    · exact (h3 0 b (by rw [q3]; exact hq)).1
    · exact R.oc b (List.mem_filter.mpr ⟨hb, by simpa using hq⟩)
  refine ⟨fun b u hb nb => R.base b u ?_, q4.stay (hide_sub sub) fun _ _ _ z => z, sub⟩
  unfold hide
  rw [if_neg nb]
  exact hb
theorem ok_fnS (Fn : Fun K x qual st f fd) (S : FnScope N ps (defScope st))
    (hb : ∀ (W : WX) (Xs : Unit → Cx), Fam Xs P w K mg base N (defScope st) (fun _ => true) k → (∀ j, Takes (Xs j) W) → (∀ j, PassesOwn (model (Xs j).prog (Xs j).w) (Xs j).A (Xs j).env (Xs j).xe) → (∀ j, (Xs j).stack = (Xs j).env :: (Xs j).outer ∧ (Xs j).env.frame = some (Xs j).env.locals ∧ (Xs j).ex = []) → SSs (cvM mg) W .dat Xs (defBody st) F) :
    FnOk P w K mg base (L2.CX P w) (k + 1) f fd ps (spS mg ps.length N.length F) := by
  refine Fn.okX S (fun vs H Q E h => ?_) (fun cdv A outer s H vs Q E hr h => ?_)
  · obtain ⟨a, dx, am, rest, O, s, ds, r, rfl, hl, _⟩ := h
    rw [List.length_cons]
    exact hl
  · obtain ⟨a, dx, am, rest, O, s, ds, r, rfl, hl, od, nt, hO, so, q, run, p⟩ := h
    obtain ⟨t, h1, h2⟩ := hb (fun cls d _ H => E cls d H) _ (famX_of (E := E) S hr) (fun _ => takes_of rfl rfl rfl rfl) (fun _ => passes_of rfl) (fun _ => ⟨rfl, rfl, rfl⟩)
    refine ⟨t, h1 (), h2 _ _ O _ _ H _ (start_repS od nt hO so q) ?_⟩
    cases r with
    | ok d s' =>
      obtain ⟨ρ', e1, e2⟩ := run a dx am
      rw [e1]
      intro v O' σ' H' R x qv
      obtain ⟨k1, k2, k3⟩ := end_repS R e2
      exact p v H' k1 k2 (qv.mono (hide_sub k3))
    | er c s' =>
      obtain ⟨ρ', e1, e2⟩ := run a dx am
      rw [e1]
      intro O' σ' H' R x
      obtain ⟨k1, k2, k3⟩ := end_repS R e2
      exact p H' k1 k2
    | no => exact p.elim
end
/-! ### expressions that change the state -/
section
variable (cv : Nat → Value) (W : WX)
def PosX (Oc : List Addr) (H0 : Hp) (O : List Addr) (σ : St) (H : Hp) (Q : VK) : R3 → Prop
  | .ok d ρ' => ∀ v O' H2, RepS Oc H0 O' σ ρ' H2 → Ex (hide O H) (hide O' H2) → Dq (hide O' H2) v d → Q v H2
  | .er c ρ' => ∀ O' H2, RepS Oc H0 O' σ ρ' H2 → Ex (hide O H) (hide O' H2) → W (cv c) none σ H2
  | .no => False
def SndX (t : TE) (f : En → R3) : Prop := ∀ Oc H0 O σ ρ H Q, RepS Oc H0 O σ ρ H → PosX cv W Oc H0 O σ H Q (f ρ) → t σ H Q
def PosXT (Oc : List Addr) (H0 : Hp) (O : List Addr) (σ : St) (H : Hp) (Q : Bool → Hp → Prop) : R3 → Prop
  | .ok d ρ' => ∃ b, d = .bool b ∧ ∀ O' H2, RepS Oc H0 O' σ ρ' H2 → Ex (hide O H) (hide O' H2) → Q b H2
  | .er c ρ' => ∀ O' H2, RepS Oc H0 O' σ ρ' H2 → Ex (hide O H) (hide O' H2) → W (cv c) none σ H2
  | .no => False
def SndXT (t : TT) (f : En → R3) : Prop := ∀ Oc H0 O σ ρ H Q, RepS Oc H0 O σ ρ H → PosXT cv W Oc H0 O σ H Q (f ρ) → t σ H Q
variable {ι : Type} (Xs : ι → Cx)
def EX_ (e : Expr) (f : En → R3) : Prop := ∃ t, (∀ j, PE (Xs j) e t) ∧ SndX cv W t f
def XT_ (e : Expr) (f : En → R3) : Prop := ∃ t, (∀ j, PT (Xs j) e t) ∧ SndXT cv W t f
def XW_ (e : Expr) (f : En → R3) : Prop := ∃ t, (∀ j, PW (Xs j) e t) ∧ SndXT cv W t f
end
section
variable {ι : Type} {W : WX} {cv : Nat → Value} {fr : RM} {Xs : ι → Cx} {P : Program} {w : World} {K : PySem.W.Frag} {mg : Str → Option Value} {base : Heap} {N ps : List Str} {sc : Scope} {fnn : Str → Bool} {k kc n : Nat} {e a b c : Expr} {es rest : List Expr} {f : En → Rs D} {fs : En → Rs (List D)} {fx gx : En → R3} {ft : En → Rs Bool} {pos p apos cpos opos npos : Pos} {x y m : Str} {ss ss' : List Stmt} {F G : En → Out}
theorem PosX.later {Oc O O2 : List Addr} {H0 H H2 : Hp} {σ : St} {Q : VK} (e : Ex (hide O H) (hide O2 H2)) : ∀ {r : R3}, PosX cv W Oc H0 O σ H Q r → PosX cv W Oc H0 O2 σ H2 Q r
  | .ok d ρ', p => fun v O' H3 R x q => p v O' H3 R (e.trans x) q
  | .er c ρ', p => fun O' H3 R x => p O' H3 R (e.trans x)
  | .no, p => p
theorem PosXT.later {Oc O O2 : List Addr} {H0 H H2 : Hp} {σ : St} {Q : Bool → Hp → Prop} (e : Ex (hide O H) (hide O2 H2)) : ∀ {r : R3}, PosXT cv W Oc H0 O σ H Q r → PosXT cv W Oc H0 O2 σ H2 Q r
  | .ok d ρ', ⟨b, h, p⟩ => ⟨b, h, fun O' H3 R x => p O' H3 R (e.trans x)⟩
  | .er c ρ', p => fun O' H3 R x => p O' H3 R (e.trans x)
  | .no, p => p
theorem x_lift (h : EE cv W Xs e f) : EX_ cv W Xs e (xLift f) := by
  obtain ⟨t, h1, h2⟩ := h
  refine ⟨t, h1, fun Oc H0 O σ ρ H Q R p => h2 O σ ρ H Q R.e ?_⟩
  unfold xLift at p
  cases ef : f ρ with
  | no => rw [ef] at p; exact p
  | er c => rw [ef] at p; exact fun H2 x => p O H2 (R.mono x) (hide_ex x)
  | ok d => rw [ef] at p; exact fun v H2 x q => p v O H2 (R.mono x) (hide_ex x) q
theorem x_ifx (hc : ET cv W Xs c ft) (ha : EX_ cv W Xs a fx) (hb : EX_ cv W Xs b gx) : EX_ cv W Xs (.IfExp c a b pos) (xIf ft fx gx) := by
  obtain ⟨tc, h5, h6⟩ := hc
  obtain ⟨ta, h1, h2⟩ := ha
  obtain ⟨tb, h3, h4⟩ := hb
  refine ⟨_, fun j => pe_ifExp (h5 j) (h1 j) (h3 j), fun Oc H0 O σ ρ H Q R p => h6 O σ ρ H _ R.e ?_⟩
  unfold xIf at p
  cases ea : ft ρ with
  | no => rw [ea] at p; exact p
  | er c => rw [ea] at p; exact fun H2 x => p O H2 (R.mono x) (hide_ex x)
  | ok d =>
    rw [ea] at p
    intro H2 x
    cases d with
    | true => rw [if_pos rfl]; exact h2 Oc H0 O σ ρ H2 Q (R.mono x) (PosX.later (hide_ex x) p)
    | false => rw [if_neg (by decide)]; exact h4 Oc H0 O σ ρ H2 Q (R.mono x) (PosX.later (hide_ex x) p)
theorem snd_xop {ta tb : TE} {r : R2} {g : D → D → Rs D} (ha : SndX cv W ta fx) (hb : SndE cv W tb f) (ho : OpE r g) : SndX cv W (tOp r ta tb) (xOp g fx f) := by
  intro Oc H0 O σ ρ H Q R p
  refine ha Oc H0 O σ ρ H _ R ?_
  unfold xOp at p
  cases ea : fx ρ with
  | no => rw [ea] at p; exact p
  | er c ρ' => rw [ea] at p; exact p
  | ok d ρ' =>
    rw [ea] at p
    dsimp only at p
    intro v O' H2 R2 x2 q2
    refine hb O' σ ρ' H2 _ R2.e ?_
    cases eb : f ρ' with
    | no => rw [eb] at p; exact p
    | er c => rw [eb] at p; exact fun H3 x3 => p O' H3 (R2.mono x3) (x2.trans (hide_ex x3))
    | ok d' =>
      rw [eb] at p
      dsimp only at p
      intro v' H3 x3 q3
      refine ho O' v v' H3 Q d d' (R2.mono x3).od (.inl (q2.mono (hide_ex x3))) (.inl q3) ?_
      cases eg : g d d' with
      | no => rw [eg] at p; exact p
      | er c => rw [eg] at p; exact p.elim
      | ok z => rw [eg] at p; exact fun u H4 x4 q4 => p u O' H4 ((R2.mono x3).mono x4) (x2.trans (hide_ex (x3.trans x4))) q4
theorem x_cmp {op : CmpOp} {r : R2} {g : D → D → Rs D} (ho : ∀ j, OpR (Xs j) (compareOp op) r) (hg : OpE r g) (hm : behindInMarks op b = false) (ha : EX_ cv W Xs a fx) (hb : EE cv W Xs b f) : EX_ cv W Xs (.Compare a [op] [b] pos) (xOp g fx f) := by
  obtain ⟨ta, h1, h2⟩ := ha
  obtain ⟨tb, h3, h4⟩ := hb
  exact ⟨_, fun j => pe_cmpR (ho j) (h1 j) (h3 j) hm, snd_xop h2 h4 hg⟩
theorem x_eq (Fm : Fam Xs P w K mg base N sc fnn k) (ha : EX_ cv W Xs a fx) (hb : EE cv W Xs b f) : EX_ cv W Xs (.Compare a [.Eq] [b] pos) (xOp dEq fx f) := x_cmp Fm.opEq ope_eq (nomark _) ha hb
theorem snd_xtest {t : TE} (h : SndX cv W t fx) : SndXT cv W (tTest t) fx := by
  intro Oc H0 O σ ρ H Q R p
  refine h Oc H0 O σ ρ H _ R ?_
  cases ea : fx ρ with
  | no => rw [ea] at p; exact p
  | er c ρ' => rw [ea] at p; exact p
  | ok d ρ' =>
    rw [ea] at p
    obtain ⟨b, rfl, p⟩ := p
    intro v O' H2 R2 x q
    cases q
    exact ⟨b, rfl, p O' H2 R2 x⟩
theorem xt_ne (Fm : Fam Xs P w K mg base N sc fnn k) (ha : EX_ cv W Xs a fx) (hb : EE cv W Xs b f) : XT_ cv W Xs (.Compare a [.NotEq] [b] pos) (xOp dNe fx f) := by
  obtain ⟨ta, h1, h2⟩ := ha
  obtain ⟨tb, h3, h4⟩ := hb
  exact ⟨_, fun j => pt_cmpR (Fm.opNe j) (h1 j) (h3 j) (nomark _), snd_xtest (snd_xop h2 h4 ope_ne)⟩
theorem xt_lift (h : ET cv W Xs e ft) : XT_ cv W Xs e (xIf ft (xLift (fC (.bool true))) (xLift (fC (.bool false)))) := by
  obtain ⟨t, h1, h2⟩ := h
  refine ⟨t, h1, fun Oc H0 O σ ρ H Q R p => h2 O σ ρ H Q R.e ?_⟩
  unfold xIf at p
  cases ea : ft ρ with
  | no => rw [ea] at p; exact p
  | er c => rw [ea] at p; exact fun H2 x => p O H2 (R.mono x) (hide_ex x)
  | ok d =>
    rw [ea] at p
    intro H2 x
    cases d with
    | true =>
      obtain ⟨b, hb, p⟩ := p
      cases hb
      exact p O H2 (R.mono x) (hide_ex x)
    | false =>
      obtain ⟨b, hb, p⟩ := p
      cases hb
      exact p O H2 (R.mono x) (hide_ex x)
theorem xw_or1 (h : XT_ cv W Xs a fx) : XW_ cv W Xs (.BoolOp .Or [a] pos) fx := by
  obtain ⟨t, h1, h2⟩ := h
  exact ⟨t, fun j => pw_or1 (h1 j), h2⟩
theorem xw_or (h : XT_ cv W Xs a fx) (hr : XW_ cv W Xs (.BoolOp .Or (b :: rest) pos) gx) : XW_ cv W Xs (.BoolOp .Or (a :: b :: rest) pos) (xOr fx gx) := by
  obtain ⟨t, h1, h2⟩ := h
  obtain ⟨u, h3, h4⟩ := hr
  refine ⟨_, fun j => pw_or (h1 j) (h3 j), fun Oc H0 O σ ρ H Q R p => h2 Oc H0 O σ ρ H _ R ?_⟩
  unfold xOr at p
  cases ea : fx ρ with
  | no => rw [ea] at p; exact p
  | er c ρ' => rw [ea] at p; exact p
  | ok d ρ' =>
    rw [ea] at p
    split at p
    · rename_i bb ρ'' hh
      cases hh
      refine ⟨bb, rfl, fun O' H2 R2 x2 => ?_⟩
      cases bb with
      | true =>
        rw [if_pos rfl] at p ⊢
        obtain ⟨b', hb', p⟩ := p
        cases hb'
        exact p O' H2 R2 x2
      | false =>
        rw [if_neg (by decide)] at p ⊢
        exact h4 Oc H0 O' σ _ H2 Q R2 (PosXT.later x2 p)
    · exact p.elim
    · rename_i h1 h2
      exact absurd rfl (h2 _ _)
theorem XW_.xt (h : XW_ cv W Xs e fx) : XT_ cv W Xs e fx := by
  obtain ⟨t, h1, h2⟩ := h
  exact ⟨t, fun j => (h1 j).pt, h2⟩
theorem x_one {op} (h : EX_ cv W Xs a fx) : EX_ cv W Xs (.BoolOp op [a] pos) fx := by
  obtain ⟨t, h1, h2⟩ := h
  exact ⟨t, fun j => pe_one (h1 j), h2⟩
theorem x_and (ha : EX_ cv W Xs a fx) (hb : EX_ cv W Xs (.BoolOp .And (b :: rest) pos) gx) : EX_ cv W Xs (.BoolOp .And (a :: b :: rest) pos) (xAnd fx gx) := by
  obtain ⟨ta, h1, h2⟩ := ha
  obtain ⟨tb, h3, h4⟩ := hb
  refine ⟨_, fun j => pe_and (h1 j) (h3 j), fun Oc H0 O σ ρ H Q R p => h2 Oc H0 O σ ρ H _ R ?_⟩
  unfold xAnd at p
  cases ea : fx ρ with
  | no => rw [ea] at p; exact p
  | er c ρ' => rw [ea] at p; exact p
  | ok d ρ' =>
    rw [ea] at p
    split at p
    · rename_i bb ρ'' hh
      cases hh
      intro v O' H2 R2 x2 q2
      cases q2
      refine ⟨bb, rfl, ?_⟩
      cases bb with
      | false => rw [if_neg (by decide)] at p ⊢; exact p _ O' H2 R2 x2 (.bl false)
      | true =>
        rw [if_pos rfl] at p ⊢
        exact h4 Oc H0 O' σ _ H2 Q R2 (PosX.later x2 p)
    · exact p.elim
    · rename_i h1 h2
      exact absurd rfl (h2 _ _)
theorem s_setX (Fm : Fam Xs P w K mg base N sc fnn k) (i : Nat) (h : EX_ cv W Xs e fx) (hN : N[i]? = some x := by rfl) (hx : stB fnn sc x = true := by decide +kernel) (hs : ∀ env, swapsWith e (some (.Name x npos)) pos.line env = pure false := by intro _; rfl) :
    SS cv W fr Xs (.Assign [.Name x npos] e pos) (sSetX i fx) := by
  obtain ⟨t, h1, h2⟩ := h
  refine ⟨_, fun j => ps_set (Fm.ndj j) (Fm.at hN j) (Fm.loc hx j) (h1 j) (hs _) (Fm.hf hx j), fun Oc H0 O σ ρ H Z R p => h2 Oc H0 O σ ρ H _ R ?_⟩
  unfold sSetX at p
  cases ea : fx ρ with
  | no => rw [ea] at p; exact p
  | er c ρ' => rw [ea] at p; exact fun O' H2 R2 x2 => p O' σ H2 R2 x2
  | ok d ρ' => rw [ea] at p; exact fun v O' H2 R2 x2 q2 => p O' _ H2 (R2.set q2) x2
theorem s_exprX (h : EX_ cv W Xs e fx) (hs : ∀ env, swapsWith e none pos.line env = pure false := by intro _; rfl) : SS cv W fr Xs (.Expr e pos) (sExpX fx) := by
  obtain ⟨t, h1, h2⟩ := h
  refine ⟨_, fun j => ps_expr (h1 j) (hs _), fun Oc H0 O σ ρ H Z R p => h2 Oc H0 O σ ρ H _ R ?_⟩
  unfold sExpX at p
  cases ea : fx ρ with
  | no => rw [ea] at p; exact p
  | er c ρ' => rw [ea] at p; exact fun O' H2 R2 x2 => p O' σ H2 R2 x2
  | ok d ρ' => rw [ea] at p; exact fun v O' H2 R2 x2 q2 => p O' σ H2 R2 x2
theorem s_retX (h : EX_ cv W Xs e fx) : SS cv W .dat Xs (.Return (some e) pos) (sRetX fx) := by
  obtain ⟨t, h1, h2⟩ := h
  refine ⟨_, fun j => ps_ret (h1 j), fun Oc H0 O σ ρ H Z R p => h2 Oc H0 O σ ρ H _ R ?_⟩
  unfold sRetX at p
  cases ea : fx ρ with
  | no => rw [ea] at p; exact p
  | er c ρ' => rw [ea] at p; exact fun O' H2 R2 x2 => p O' σ H2 R2 x2
  | ok d ρ' =>
    rw [ea] at p
    dsimp only at p
    split at p
    · rename_i hf
      exact fun v O' H2 R2 x2 q2 => p v H2 R2.base (flat_dq q2 hf)
    · exact p.elim
theorem s_ifX (h : XT_ cv W Xs c fx) (h1 : SSs cv W fr Xs ss F) (h2 : SSs cv W fr Xs ss' G) : SS cv W fr Xs (.If c ss ss' pos) (sIfX fx F G) := by
  obtain ⟨t, h3, h4⟩ := h
  obtain ⟨u, h5, h6⟩ := h1
  obtain ⟨v, h7, h8⟩ := h2
  refine ⟨_, fun j => ps_if (h3 j) (h5 j) (h7 j), fun Oc H0 O σ ρ H Z R p => h4 Oc H0 O σ ρ H _ R ?_⟩
  unfold sIfX at p
  cases ea : fx ρ with
  | no => rw [ea] at p; exact p
  | er c ρ' => rw [ea] at p; exact fun O' H2 R2 x2 => p O' σ H2 R2 x2
  | ok d ρ' =>
    rw [ea] at p
    split at p
    · rename_i bb ρ'' hh
      cases hh
      refine ⟨bb, rfl, fun O' H2 R2 x2 => ?_⟩
      cases bb with
      | true => rw [if_pos rfl] at p ⊢; exact h6 Oc H0 O' σ _ H2 Z R2 (p.later x2)
      | false => rw [if_neg (by decide)] at p ⊢; exact h8 Oc H0 O' σ _ H2 Z R2 (p.later x2)
    · exact p.elim
    · rename_i hh; cases hh
    · rename_i hh; cases hh
/-- x.m(e, ..), x a sorter that is changed -/
theorem snd_xmet {t : TA} {i : Nat} {F : En → Out} {g : So → List D → R2_} (h : SndA (cvM mg) W t fs) (hg : ∀ s ds, Runs F n s ds (g s ds)) (hl : ∀ a b c : V, [(("now" : Str), a), ("goal", b), ("made", c)].lookup m = none) (hp : ∀ ρ ds, fs ρ = .ok ds → ds.length + 1 = ps.length) : SndX (cvM mg) W (tMethA SC.C m (spS mg ps.length n F) (L2.WE W) (tVar i) t) (xMet i g fs) := by
  intro Oc H0 O σ ρ H Q R p
  unfold xMet at p
  split at p
  · rename_i sl e
    split at p
    · rename_i s hs
      obtain ⟨a, dx, am, vn, vg, r1, r2, r3, r4, r5⟩ := R.e.so e hs
      refine ⟨_, r1, a, dx, _, rfl, r2, hl _ _ _, h O σ ρ H _ R.e ?_⟩
      cases ea : fs ρ with
      | no => rw [ea] at p; exact p
      | er c => rw [ea] at p; exact fun H2 x => p O H2 (R.mono x) (hide_ex x)
      | ok ds =>
        rw [ea] at p
        dsimp only at p
        intro vs H1 x1 q1
        have hn : vs.length + 1 = ps.length := by rw [q1.length]; exact hp ρ ds ea
        have run := hg s ds
        cases eg : g s ds with
        | no => rw [eg] at p; exact p.elim
        | ok d s' =>
          rw [eg] at p run
          dsimp only at p
          split at p
          · rename_i sl' hps
            obtain ⟨a', dx', am', g1, g2, g3, g4, g5⟩ := (R.mono x1).at_so e hs hps
            rw [r1] at g1
            cases g1
            refine ⟨a, dx', am', vs, O, s, ds, .ok d s', rfl, hn, (R.mono x1).od, (R.mono x1).nt, g2, g4, q1, run, fun v H2 fr so qv => ?_⟩
            obtain ⟨R', ex⟩ := g5 H2 fr so
            exact p v O H2 R' ((hide_ex x1).trans ex) qv
          · exact p.elim
        | er c s' =>
          rw [eg] at p run
          dsimp only at p
          split at p
          · rename_i sl' hps
            obtain ⟨a', dx', am', g1, g2, g3, g4, g5⟩ := (R.mono x1).at_so e hs hps
            rw [r1] at g1
            cases g1
            refine ⟨a, dx', am', vs, O, s, ds, .er c s', rfl, hn, (R.mono x1).od, (R.mono x1).nt, g2, g4, q1, run, fun H2 fr so => ?_⟩
            obtain ⟨R', ex⟩ := g5 H2 fr so
            exact p O H2 R' ((hide_ex x1).trans ex)
          · exact p.elim
    · exact p.elim
  · exact p.elim
theorem x_meth (Fm : Fam Xs P w K mg base N sc fnn k) (tk : ∀ j, Takes (Xs j) W) (T : SoC K mg) (i : Nat) {F : En → Out} {g : So → List D → R2_} (G : KnownM P w K mg base kc m ps (spS mg ps.length n F)) (hg : ∀ s ds, Runs F n s ds (g s ds)) (ha : EA (cvM mg) W Xs (e :: es) fs) (hN : N[i]? = some x) (hl : ∀ a b c : V, [(("now" : Str), a), ("goal", b), ("made", c)].lookup m = none) (hp : ∀ ρ ds, fs ρ = .ok ds → ds.length + 1 = ps.length) (hk : kc ≤ k := by decide)
    (hv : visB sc x = true := by decide +kernel) (hd : (x == ("__debug__" : Str)) = false := by decide) (hcd : (x == ("__classdict__" : Str)) = false := by decide) {pl : Env → Sem Bool}
    (hs : ∀ env, starEach (e :: es) env = (false, eval e env) :: starEach es env := by intro _; rfl) (hpl : ∀ env, (backTo pos (starEach es env)).any (·.1) = false := by intro _; rfl)
    (ht : ∀ env, eval (.Call (.Attribute (.Name x opos) m apos) (e :: es) [] pos) env = (do
      let ov ← eval (.Name x opos) env; standAt apos.atName; let (f, first) ← holding [ov] (getMethod ov m (pl env))
      callWith pos f first (backTo pos (starEach (e :: es) env)) (backToKw pos (keywordEach [] env))) := by intro _; rfl) :
    EX_ (cvM mg) W Xs (.Call (.Attribute (.Name x opos) m apos) (e :: es) [] pos) (xMet i g fs) := by
  obtain ⟨f, fd, G, hm, b⟩ := G
  obtain ⟨t, h1, h2⟩ := ha
  refine ⟨_, fun j => ?_, snd_xmet h2 hg hl hp⟩
  refine pe_methA (pl := pl (Xs j).env) (CX := L2.CX (Xs j).prog (Xs j).w) (k := kc) (ps := ps) (fd := fd) (f := f) (pe_var (Fm.at hN j) (Fm.vis hv j) hd hcd) (by rw [Fm.kk j]; exact T.cl) (by rw [Fm.kk j]; exact hm) ?_ ((Fm.room j).mono hk) (by rw [Fm.kk j]; exact b) (passAt (tk j)) (h1 j) (hs _) (hpl _) (ht _)
  rw [Fm.prog j, Fm.wd j, Fm.kk j, Fm.gl j, Fm.bs j]
  exact G
theorem x_meth0 (Fm : Fam Xs P w K mg base N sc fnn k) (tk : ∀ j, Takes (Xs j) W) (T : SoC K mg) (i : Nat) {F : En → Out} {g : So → List D → R2_} (G : KnownM P w K mg base kc m ps (spS mg ps.length n F)) (hg : ∀ s ds, Runs F n s ds (g s ds)) (hN : N[i]? = some x) (hl : ∀ a b c : V, [(("now" : Str), a), ("goal", b), ("made", c)].lookup m = none) (hp : 1 = ps.length) (hk : kc ≤ k := by decide)
    (hv : visB sc x = true := by decide +kernel) (hd : (x == ("__debug__" : Str)) = false := by decide) (hcd : (x == ("__classdict__" : Str)) = false := by decide) {pl : Env → Sem Bool}
    (ht : ∀ env, eval (.Call (.Attribute (.Name x opos) m apos) [] [] pos) env = (do
      let ov ← eval (.Name x opos) env; standAt apos.atName; let (f, first) ← holding [ov] (getMethod ov m (pl env))
      callWith pos f first (backTo pos (starEach [] env)) (backToKw pos (keywordEach [] env))) := by intro _; rfl) :
    EX_ (cvM mg) W Xs (.Call (.Attribute (.Name x opos) m apos) [] [] pos) (xMet i g fNil) := by
  obtain ⟨f, fd, G, hm, b⟩ := G
  refine ⟨_, fun j => ?_, snd_xmet (t := tNil) (fs := fNil) (ps := ps) (fun O σ ρ H Q R p => p [] H (Ex.refl H) .nil) hg hl fun ρ ds e => ?_⟩
  · refine pe_meth0A (pl := pl (Xs j).env) (CX := L2.CX (Xs j).prog (Xs j).w) (k := kc) (ps := ps) (fd := fd) (f := f) (pe_var (Fm.at hN j) (Fm.vis hv j) hd hcd) (by rw [Fm.kk j]; exact T.cl) (by rw [Fm.kk j]; exact hm) ?_ ((Fm.room j).mono hk) (by rw [Fm.kk j]; exact b) (passAt (tk j)) (ht _)
    rw [Fm.prog j, Fm.wd j, Fm.kk j, Fm.gl j, Fm.bs j]
    exact G
  · cases e
    exact hp
end
end DL

/-! facts for the walks of sorters; texts -/
namespace DL
open PySem L2
def BindsM (x q : Str) (st : Stmt) (ps : List Str) : Prop := ∀ (kV doc pm : Value) (an : Option Addr) (cdv ct : Value) (us : List Value), us.length = ps.length → bindArgs (PySem.W.fnOf x q (defArgs st) (defBody st) (defScope st) .none kV doc pm an cdv ct) ⟨us, []⟩ = pure (ps.zip us)
def dStr : List D → Rs D
  | [.int i] => if i.natAbs ≤ 1000000000 then .ok (.str (toString i)) else .no
  | _ => .no
def strsOf : List D → Option (List Str)
  | [] => some []
  | .str x :: ds => (strsOf ds).bind fun xs => some (x :: xs)
  | _ :: _ => none
def dJoin : D → D → Rs D
  | .str a, .list ds => match strsOf ds with
    | some ys => if (ys.map (·.length)).sum + ys.length * a.length ≤ LIM then .ok (.str (Txt.join a ys)) else .no
    | none => .no
  | _, _ => .no
def fJoin (fo fa : En → Rs D) : En → Rs D := fun ρ => (fo ρ).bind fun d => match d with
  | .str z => (fa ρ).bind fun e => dJoin (.str z) e
  | _ => .no
open Classical in
/-- what a stateful method does, where it does the same at every address -/
noncomputable def gOf (F : En → Out) (n : Nat) (s : So) (ds : List D) : R2_ := if h : ∃ r, r ≠ .no ∧ Runs F n s ds r then h.choose else .no
theorem gOf_runs {F : En → Out} {n : Nat} (s : So) (ds : List D) : Runs F n s ds (gOf F n s ds) := by
  unfold gOf
  split
  · rename_i h; exact h.choose_spec.2
  · trivial
theorem runs_uni {F : En → Out} {n : Nat} {s : So} {ds : List D} {r q : R2_} (h1 : r ≠ .no) (h2 : q ≠ .no) (g1 : Runs F n s ds r) (g2 : Runs F n s ds q) : r = q := by
  cases r with
  | no => exact absurd rfl h1
  | ok d a =>
    cases q with
    | no => exact absurd rfl h2
    | ok e b =>
      obtain ⟨ρ, e1, e2⟩ := g1 0 0 0
      obtain ⟨ρ', e3, e4⟩ := g2 0 0 0
      rw [e1] at e3
      cases e3
      rw [e2] at e4
      cases e4
      rfl
    | er c b =>
      obtain ⟨ρ, e1, e2⟩ := g1 0 0 0
      obtain ⟨ρ', e3, e4⟩ := g2 0 0 0
      rw [e1] at e3
      cases e3
  | er d a =>
    cases q with
    | no => exact absurd rfl h2
    | er e b =>
      obtain ⟨ρ, e1, e2⟩ := g1 0 0 0
      obtain ⟨ρ', e3, e4⟩ := g2 0 0 0
      rw [e1] at e3
      cases e3
      rw [e2] at e4
      cases e4
      rfl
    | ok c b =>
      obtain ⟨ρ, e1, e2⟩ := g1 0 0 0
      obtain ⟨ρ', e3, e4⟩ := g2 0 0 0
      rw [e1] at e3
      cases e3
theorem gOf_eq {F : En → Out} {n : Nat} {s : So} {ds : List D} {r : R2_} (h1 : r ≠ .no) (h : Runs F n s ds r) : gOf F n s ds = r := by
  unfold gOf
  split
  · rename_i g; exact runs_uni g.choose_spec.1 h1 g.choose_spec.2 h
  · rename_i g; exact absurd ⟨r, h1, h⟩ g
variable [SC]
theorem nl_left (a b c : V) : [(("now" : Str), a), ("goal", b), ("made", c)].lookup ("left" : Str) = none := by first | rfl | (simp [List.lookup]) | decide +kernel
theorem nl_ranking (a b c : V) : [(("now" : Str), a), ("goal", b), ("made", c)].lookup ("ranking" : Str) = none := by first | rfl | (simp [List.lookup]) | decide +kernel
theorem nl_useful (a b c : V) : [(("now" : Str), a), ("goal", b), ("made", c)].lookup ("useful" : Str) = none := by first | rfl | (simp [List.lookup]) | decide +kernel
theorem nl_exchange (a b c : V) : [(("now" : Str), a), ("goal", b), ("made", c)].lookup ("exchange" : Str) = none := by first | rfl | (simp [List.lookup]) | decide +kernel
theorem nl_undo (a b c : V) : [(("now" : Str), a), ("goal", b), ("made", c)].lookup ("undo" : Str) = none := by first | rfl | (simp [List.lookup]) | decide +kernel
theorem len1 {f : En → Rs D} : ∀ ρ ds, fCons f fNil ρ = .ok ds → ds.length + 1 = 2 := fun ρ ds h => by
  obtain ⟨d, rfl⟩ := fCons1 h
  rfl
theorem gl_nil : ∀ ρ ds, gNil ρ = .ok ds → ds.length = 0 := fun ρ ds h => by
  unfold gNil at h
  cases h
  rfl
theorem gl_cons {n : Nat} {f : En → Rs GV} {fs : En → Rs (List GV)} (h : ∀ ρ ds, fs ρ = .ok ds → ds.length = n) : ∀ ρ ds, gCons f fs ρ = .ok ds → ds.length = n + 1 := fun ρ ds e => by
  unfold gCons at e
  cases ef : f ρ with
  | no => rw [ef] at e; cases e
  | er c => rw [ef] at e; cases e
  | ok d =>
    rw [ef, Rs.bind_ok] at e
    cases eg : fs ρ with
    | no => rw [eg] at e; cases e
    | er c => rw [eg] at e; cases e
    | ok ds' =>
      rw [eg] at e
      cases e
      rw [List.length_cons, h ρ ds' eg]
section
variable {P : Program} {w : World} {K : PySem.W.Frag} {mg : Str → Option Value} {base : Heap} {N ps : List Str} {k : Nat} {x qual : Str} {st : Stmt} {f : Addr} {fd : FuncData} {F : En → Out} {g : List D → Rs D}
theorem knownM_G (h : ∃ f fd, Fun K x qual st f fd ∧ Meth K SC.C x f) (S : FnScope N ps (defScope st)) (B : BindsM x qual st ps) (np nN kk : Nat) (hnp : ps.length = np) (hnN : N.length = nN) (hk : k + 1 = kk)
    (hb : ∀ (W : WX) (Xs : Unit → Cx), Fam Xs P w K mg base N (defScope st) (fun _ => true) k → (∀ j, Takes (Xs j) W) → (∀ j, PassesOwn (model (Xs j).prog (Xs j).w) (Xs j).A (Xs j).env (Xs j).xe) → (∀ j, (Xs j).stack = (Xs j).env :: (Xs j).outer ∧ (Xs j).env.frame = some (Xs j).env.locals ∧ (Xs j).ex = []) → SSs (cvM mg) W .dat Xs (defBody st) F) :
    KnownM P w K mg base kk x ps (spG mg np (cG nN F)) := by
  subst hnp hnN hk
  obtain ⟨f, fd, Fn, hm⟩ := h
  exact ⟨f, fd, ok_fnG Fn S hb, hm, Fn.binds B⟩
theorem knownM_GF (h : ∃ f fd, Fun K x qual st f fd ∧ Meth K SC.C x f) (S : FnScope N ps (defScope st)) (B : BindsM x qual st ps) (np nN kk : Nat) (hnp : ps.length = np) (hnN : N.length = nN) (hk : k + 1 = kk)
    (hb : ∀ (W : WX) (Xs : Unit → Cx), Fam Xs P w K mg base N (defScope st) (fun _ => true) k → (∀ j, Takes (Xs j) W) → (∀ j, PassesOwn (model (Xs j).prog (Xs j).w) (Xs j).A (Xs j).env (Xs j).xe) → (∀ j, (Xs j).stack = (Xs j).env :: (Xs j).outer ∧ (Xs j).env.frame = some (Xs j).env.locals ∧ (Xs j).ex = []) → SSs (cvM mg) W .lst Xs (defBody st) F) :
    KnownM P w K mg base kk x ps (spGF mg np (cGF nN F)) := by
  subst hnp hnN hk
  obtain ⟨f, fd, Fn, hm⟩ := h
  exact ⟨f, fd, ok_fnGF Fn S hb, hm, Fn.binds B⟩
theorem knownM_S (h : ∃ f fd, Fun K x qual st f fd ∧ Meth K SC.C x f) (S : FnScope N ps (defScope st)) (B : BindsM x qual st ps) (np nN kk : Nat) (hnp : ps.length = np) (hnN : N.length = nN) (hk : k + 1 = kk)
    (hb : ∀ (W : WX) (Xs : Unit → Cx), Fam Xs P w K mg base N (defScope st) (fun _ => true) k → (∀ j, Takes (Xs j) W) → (∀ j, PassesOwn (model (Xs j).prog (Xs j).w) (Xs j).A (Xs j).env (Xs j).xe) → (∀ j, (Xs j).stack = (Xs j).env :: (Xs j).outer ∧ (Xs j).env.frame = some (Xs j).env.locals ∧ (Xs j).ex = []) → SSs (cvM mg) W .dat Xs (defBody st) F) :
    KnownM P w K mg base kk x ps (spS mg np nN F) := by
  subst hnp hnN hk
  obtain ⟨f, fd, Fn, hm⟩ := h
  exact ⟨f, fd, ok_fnS Fn S hb, hm, Fn.binds B⟩
theorem knownG_fn (h : ∃ f fd, Fun K x x st f fd ∧ mg x = some (.ref f)) (S : FnScope N ps (defScope st)) (B : BindsB x st ps) (np nN kk : Nat) (hnp : ps.length = np) (hnN : N.length = nN) (hk : k + 1 = kk)
    (hb : ∀ (W : WX) (Xs : Unit → Cx), Fam Xs P w K mg base N (defScope st) (fun _ => true) k → (∀ j, Takes (Xs j) W) → (∀ j, PassesOwn (model (Xs j).prog (Xs j).w) (Xs j).A (Xs j).env (Xs j).xe) → (∀ j, (Xs j).stack = (Xs j).env :: (Xs j).outer ∧ (Xs j).env.frame = some (Xs j).env.locals ∧ (Xs j).ex = []) → SSs (cvM mg) W .dat Xs (defBody st) F) :
    KnownX P w K mg base kk x ps (spG mg np (cG nN F)) := by
  subst hnp hnN hk
  obtain ⟨f, fd, Fn, hm⟩ := h
  exact ⟨f, fd, ok_fnG Fn S hb, hm, Fn.kp, Fn.binds B⟩
theorem knownI_init (h : ∃ f fd, Fun K "__init__" "Sorter.__init__" st f fd ∧ Mk K SC.C f) (S : FnScope ["self", "ranking", "goal"] ["self", "ranking", "goal"] (defScope st)) (B : BindsM "__init__" "Sorter.__init__" st ["self", "ranking", "goal"]) (T : SoC K mg) (kk : Nat) (hk : k + 1 = kk)
    (hb : ∀ (W : WX) (X : Cx), Fam (fun _ : Unit => X) P w K mg base ["self", "ranking", "goal"] (defScope st) (fun _ => true) k → Takes X W → PSs X (defBody st) (tInit K (spX mg 2 g) (L2.WE W))) : KnownI P w K mg base kk g := by
  subst hk
  obtain ⟨f, fd, Fn, hm⟩ := h
  refine ⟨f, fd, ["self", "ranking", "goal"], Fn.okX S (fun vs H Q E h => ?_) (fun cdv A outer s H vs Q E hr h => ?_), hm, Fn.binds B⟩
  · obtain ⟨x, dx, v1, v2, O, d1, d2, rfl, _⟩ := h
    rfl
  · exact ⟨_, hb (fun cls d _ H => E cls d H) _ (famX_of (E := E) S hr) (takes_of rfl rfl rfl rfl), init_reads T vs H Q E h⟩
end
section
variable {X : Cx} {P : Program} {w : World} {K : PySem.W.Frag} {mg : Str → Option Value} {base : Heap} {N ps : List Str} {sc : Scope} {fnn : Str → Bool} {k kc : Nat} {W : WX} {x : Str} {p pos : Pos} {e : Expr} {es : List Expr} {t : TA} {sp : Sp}
theorem ecallX (F : Fam (fun _ : Unit => X) P w K mg base N sc fnn k) (tk : Takes X W) (G : KnownX P w K mg base kc x ps sp) (h : PA X (e :: es) t) (hk : kc ≤ k := by decide) (hg : glB sc x = true := by decide +kernel) (hd : (x == ("__debug__" : Str)) = false := by decide)
    (hs : ∀ env, starEach (e :: es) env = (false, eval e env) :: starEach es env := by intro _; rfl) (hpl : ∀ env, (backTo pos (starEach es env)).any (·.1) = false := by intro _; rfl) : PE X (.Call (.Name x p) (e :: es) [] pos) (tCallS sp (L2.WE W) t) := by
  obtain ⟨f, fd, G, hm, kp, b⟩ := G
  refine pe_callS (fd := fd) (CX := L2.CX X.prog X.w) (k := kc) (ps := ps) ?_ ((F.room ()).mono hk) (F.gl_ok hg ()) (F.some hm ()) (by have e := F.kk (); rw [e]; exact kp) (by have e := F.kk (); rw [e]; exact b) (passAt tk) h hd (hs _) (hpl _)
  have e1 := F.prog ()
  have e2 := F.wd ()
  have e3 := F.kk ()
  have e4 := F.gl ()
  have e5 := F.bs ()
  rw [e1, e2, e3, e4, e5]
  exact G
end
/-! the top -/
omit [SC] in
theorem top_so {K : PySem.W.Frag} {h : Heap} {mg : Str → Option Value} {C : Addr} (X : K.In h) (G : h.Ns mainGlobals mg) (a : PySem.W.nsIn K mainGlobals "Sorter" = some (some (.ref C))) (pg : PySem.W.plainGet K C Str.empty = true) (hd : PySem.W.hasDictIn K C = true) (po : PySem.W.plainOver K C = true) (sa : PySem.W.findIn K (.ref C) "__setattr__" = some (some (.builtin "object.__setattr__")))
    (n1 : PySem.W.findIn K (.ref C) "now" = some none) (n2 : PySem.W.findIn K (.ref C) "goal" = some none) (n3 : PySem.W.findIn K (.ref C) "made" = some none) : @SoC ⟨C⟩ K mg := @SoC.mk ⟨C⟩ K mg (PySem.W.mg_of X G a) ⟨pg, hd, po, sa⟩ n1 n2 n3
omit [SC] in
theorem top_meth {K : PySem.W.Frag} {C : Addr} {x q : Str} {st : Stmt} {f : Addr} {od an : Option Addr} {sl : Array (Option Value)} {oc kV dc pm cd ct : Value} (a : PySem.W.findIn K (.ref C) x = some (some (.ref f))) (i : PySem.W.isFn K (.ref f) = true)
    (l : K.lookup f = some ⟨oc, od, .func (PySem.W.fnOf x q (defArgs st) (defBody st) (defScope st) .none kV dc pm an cd ct), sl⟩) (c : PySem.W.codeIn K cd q = true) (k : PySem.W.keepIn K (.ref f) = true) : ∃ f fd, Fun K x q st f fd ∧ Meth K (@SC.C ⟨C⟩) x f := ⟨f, _, fun_mk l c k, ⟨a, i, k⟩⟩
omit [SC] in
theorem top_init {K : PySem.W.Frag} {C : Addr} {q : Str} {st : Stmt} {f : Addr} {od an : Option Addr} {sl : Array (Option Value)} {oc kV dc pm cd ct : Value} (a : PySem.W.findIn K (.ref C) "__init__" = some (some (.ref f))) (i : PySem.W.isFn K (.ref f) = true)
    (l : K.lookup f = some ⟨oc, od, .func (PySem.W.fnOf "__init__" q (defArgs st) (defBody st) (defScope st) .none kV dc pm an cd ct), sl⟩) (c : PySem.W.codeIn K cd q = true) (k : PySem.W.keepIn K (.ref f) = true) (mk : PySem.W.makesIn K C = true) (kc : PySem.W.keepIn K (.ref C) = true) : ∃ f fd, Fun K "__init__" q st f fd ∧ Mk K (@SC.C ⟨C⟩) f := ⟨f, _, fun_mk l c k, ⟨mk, a, i, kc⟩⟩
/-! texts -/
theorem strsOf_eq : ∀ {ds : List D} {ns : List Str}, strsOf ds = some ns → ds = ns.map PyData.str
  | [], _, h => by cases h; rfl
  | d :: ds, ns, h => by
    cases d with
    | str x =>
      unfold strsOf at h
      cases ht : strsOf ds with
      | none => rw [ht] at h; cases h
      | some qs =>
        rw [ht] at h
        cases h
        rw [List.map_cons, strsOf_eq ht]
    | _ => cases h
section
variable {ι : Type} {cv : Nat → Value} {W : WX} {Xs : ι → Cx} {P : Program} {w : World} {K : PySem.W.Frag} {mg : Str → Option Value} {base : Heap} {N : List Str} {sc : Scope} {fnn : Str → Bool} {k : Nat} {e a o : Expr} {f fa fo : En → Rs D} {pos p apos : Pos}
theorem noer_str : Noer1 dStr := fun x c => by unfold dStr; split <;> (try split) <;> simp
theorem cle_str : ClE (fun xs H Q => ∃ i, xs = [.int i] ∧ i.natAbs.log2 < 1920 ∧ Q (.str (toString i)) H) dStr := by
  intro O vs H Q ds od q p
  unfold dStr at p
  split at p
  · rename_i i
    split at p
    · rename_i hi
      obtain ⟨v, rfl, qq⟩ := q.one
      have e := qq.int
      subst e
      refine ⟨i, rfl, ?_, p _ _ (Ex.refl H) (.str _)⟩
      have h1 : i.natAbs.log2 < 30 := by
        by_cases h0 : i.natAbs = 0
        · rw [h0]; decide
        · exact (Nat.log2_lt h0).mpr (Nat.lt_of_le_of_lt hi (by decide))
      omega
    · exact p.elim
  · exact p.elim
theorem e_strI (F : Fam Xs P w K mg base N sc fnn k) (hm : mg "str" = none) (ha : EB cv W Xs a fa) (hg : glB sc "str" = true := by decide +kernel) (hs : ∀ env, starEach [a] env = (false, eval a env) :: starEach [] env := by intro _; rfl) :
    EE cv W Xs (.Call (.Name "str" p) [a] [] pos) (apL dStr (fCons fa fNil)) :=
  e_callTy F (fun _ => call_str_int) cle_str noer_str hm PyProof.Rows.boot_str (ab_one ha hs) hg (by decide) (by decide) hs (by intro _; rfl)
theorem e_join (F : Fam Xs P w K mg base N sc fnn k) (ho : EE cv W Xs o fo) (ha : EE cv W Xs a fa) (hs : ∀ env, starEach [a] env = [(false, eval a env)] := by intro _; rfl) (hb : ∀ env, attributeBase o "join" env (eval o env) = eval o env := by intro _; rfl) (hl : (apos.endLine == pos.line) = true := by rfl) :
    EE cv W Xs (.Call (.Attribute o "join" apos) [a] [] pos) (fJoin fo fa) := by
  obtain ⟨to, h1, h2⟩ := ho
  obtain ⟨ta, h3, h4⟩ := ha
  refine ⟨tM1 (fun x xs H Q => ∃ a p, ∃ ys : List Str, x = .str a ∧ xs = [.ref p] ∧ (SqL K H p (ys.map V.str) ∨ SqT K H p (ys.map V.str)) ∧ (ys.map (·.length)).sum + ys.length * a.length ≤ 16777216 ∧ Q (.str (Txt.join a ys)) H) to ta, fun j => by have h := pe_join (X := Xs j) (pos := pos) (apos := apos) (h1 j) (h3 j) (hs _) (hb _) hl; rw [F.kk j] at h; exact h, fun O σ ρ H Q R p => h2 O σ ρ H _ R ?_⟩
  unfold fJoin at p
  cases ef : fo ρ with
  | no => rw [ef] at p; exact p
  | er c => rw [ef] at p; exact p
  | ok d =>
    rw [ef, Rs.bind_ok] at p
    intro v H1 x1 q1
    have ps : ∃ z, d = .str z ∨ (match d with | .str z => (fa ρ).bind fun e => dJoin (.str z) e | _ => Rs.no) = .no := by
      cases d with
      | str z => exact ⟨z, .inl rfl⟩
      | _ => exact ⟨Str.empty, .inr rfl⟩
    obtain ⟨z, rfl | hz⟩ := ps
    · cases q1
      dsimp only at p
      refine ⟨⟨z, rfl⟩, h4 O σ ρ H1 _ (R.mono x1) ?_⟩
      cases eg : fa ρ with
      | no => rw [eg] at p; exact p
      | er c => rw [eg] at p; exact fun H3 x3 => p H3 (x1.trans x3)
      | ok d2 =>
        rw [eg, Rs.bind_ok] at p
        intro v2 H2 x2 q2
        unfold dJoin at p
        split at p
        · rename_i ds hz'
          cases hz'
          split at p
          · rename_i ys hy
            split at p
            · rename_i hl
              have e := strsOf_eq hy
              subst e
              cases q2 with
              | lst g1 g2 =>
                have e := g2.strs
                subst e
                exact ⟨z, _, ys, rfl, rfl, .inl (SqL.of (hide_le _ _ g1)), Nat.le_trans hl (by decide), p _ _ (x1.trans x2) (.str _)⟩
            · exact p.elim
          · exact p.elim
        · exact p.elim
    · rw [hz] at p; exact p.elim
end
end DL

/-! len of a sorter -/
namespace DL
open PySem L2 PySem.Spec PyProof.Rows
def rLenO (C : Addr) (sp : Sp) : List V → Hp → VK → Prop := fun xs H Q => ∃ a dx fs, xs = [.ref a] ∧ H a = some (.ins C dx fs) ∧ sp [.ref a] H (fun v H2 => ∃ n : Nat, v = .int n ∧ (n : Int) < 2 ^ 63 ∧ Q v H2) (fun _ _ _ => False)
theorem run_fn1 {X : Cx} {CX : CXT} {k : Nat} {f : Addr} {fd : FuncData} {ps : List Str} {sp : Sp} {E : XK} {pins : List (Addr × Obj)} {σ : L2.St} {H : Hp} {s : Shared} {Q : VK} {us : List Value} {vs : List V} (G : FnOk X.prog X.w X.K X.mg X.base CX k f fd ps sp) (hr : Room (k + 1) X.A) (hb : Binds X.K fd ps [])
    (hx : PassesAt CX X σ E) (I : Inv X pins σ H s) (r : Vals vs us) (h : sp vs H Q E) : wpAny (model X.prog X.w) X.A.in1 (call (.ref f) us) (EP X pins σ Q) X.xe s := by
  have hl : us.length = ps.length := by rw [← r.length]; exact G.len _ _ _ _ h
  have b := hb s us I.kIn (by rw [List.append_nil]; exact hl)
  rw [List.append_nil] at b
  refine wpAny_call (codeAny_mono (G.run X.A.in1 X.stack s H ⟨us, []⟩ us vs Q E hr.in1 I.env0.in1 b r h) fun fin z hq' => ?_)
  cases fin with
  | error e => exact hx pins _ _ e z I hq'
  | ok fl =>
    cases fl with
    | ret u =>
      obtain ⟨v, H', J3, rv, q3⟩ := I.after hq'
      exact ⟨v, H', J3, rv, q3⟩
    | next => exact hq'.elim
    | brk => exact hq'.elim
    | cont => exact hq'.elim
theorem call_lenO {X : Cx} {CX : CXT} {k : Nat} {f C : Addr} {fd : FuncData} {ps : List Str} {sp : Sp} (hm : Meth X.K C "__len__" f) (G : FnOk X.prog X.w X.K X.mg X.base CX k f fd ps sp) (hr : Room (k + 1) X.A) (hb : Binds X.K fd ps [])
    (hx : ∀ σ, PassesAt CX X σ (fun _ _ _ => False)) : CallR X (.builtin "len") (rLenO C sp) := by
  intro pins s σ H xs us Q I r h
  obtain ⟨a, dx, fs, rfl, ha, q⟩ := h
  obtain ⟨u, rfl, rx⟩ := vals1 r
  obtain rfl : u = .ref a := rx
  obtain ⟨mA, O, r0, _, _, _⟩ := ins_get I.hok ha
  obtain ⟨od, J, hl⟩ := O.look
  refine Calls.call_function_entry kind_len plain_len entry_len (args_len1 _) ?_
  unfold Builtin.«len»
  refine wpAny_bind (m := oneArg "len" _) (wpAny_pure ?_)
  refine wpAny_bind (m := callSpecial? (.ref a) (Str.ofString "__len__")) (PySem.W.special_fn I.kIn J hm.at_ (beq_iff_eq.mp hm.fn) (wpAny_mono (run_fn1 G hr hb (hx σ) I r q) (fun v z hv => ?_) fun _ _ y => y))
  obtain ⟨y, H2, J2, ry, n, rfl, hn, hq⟩ := hv
  obtain ⟨t, rfl⟩ : ∃ t, v = .int ((n : Nat) : Int) t := ry
  refine wpAny_bind (wpAny_holding (wpAny_pure ?_))
  refine wpAny_bind (wpAny_letGo ?_)
  show wpAny _ _ (if ((n : Nat) : Int) < 0 then _ else _) _ _ _
  rw [if_neg (by omega)]
  show wpAny _ _ (if ((n : Nat) : Int) ≥ 2 ^ 63 then _ else _) _ _ _
  rw [if_neg (by omega)]
  exact wpAny_bind (wpAny_mkInt (wpAny_pure ⟨_, rfl, .int ((n : Nat) : Int), H2, J2.tok _, ⟨_, rfl⟩, hq⟩))
def nnD : D → Rs D
  | .int i => if 0 ≤ i ∧ i < 2 ^ 62 then .ok (.int i) else .no
  | _ => .no
def fLenO (i : Nat) (g : List GV → Rs D) : En → Rs D := fun ρ => match ρ[i]? with
  | some (some sl) => match soOf sl with
    | some s => match g [.inr s] with
      | .ok d => nnD d
      | _ => .no
    | none => .no
  | _ => .no
variable [SC]
section
variable {ι : Type} {W : WX} {fr : RM} {Xs : ι → Cx} {P : Program} {w : World} {K : PySem.W.Frag} {mg : Str → Option Value} {base : Heap} {N ps : List Str} {sc : Scope} {fnn : Str → Bool} {k kc : Nat} {pos p opos : Pos} {x : Str} {g : List GV → Rs D}
theorem e_lenO (Fm : Fam Xs P w K mg base N sc fnn k) (i : Nat) (hm : mg "len" = none) (G : KnownM P w K mg base kc "__len__" ps (spG mg ps.length g)) (hN : N[i]? = some x) (hp : 1 = ps.length) (hk : kc + 1 ≤ k := by decide) (hg : glB sc "len" = true := by decide +kernel)
    (hv : visB sc x = true := by decide +kernel) (hd : (x == ("__debug__" : Str)) = false := by decide) (hcd : (x == ("__classdict__" : Str)) = false := by decide) : EE (cvM mg) W Xs (.Call (.Name "len" p) [.Name x opos] [] pos) (fLenO i g) := by
  obtain ⟨f, fd, G, hmt, b⟩ := G
  refine ⟨tCB (rLenO SC.C (spG mg ps.length g)) (tCons (tVar i) tNil), fun j => ?_, fun O σ ρ H Q R p => ?_⟩
  · refine pe_callB (call_lenO (CX := L2.CX (Xs j).prog (Xs j).w) (k := kc) (f := f) (fd := fd) (ps := ps) (by rw [Fm.kk j]; exact hmt) ?_ ((Fm.room j).mono hk) (by rw [Fm.kk j]; exact b) (fun σ => passAt (W := W0) takes0 σ)) (Fm.gl_ok hg j) (Fm.none hm j) PySem.boot_len (pa_cons (pe_var (Fm.at hN j) (Fm.vis hv j) hd hcd) pa_nil rfl) (by decide) (by decide) rfl rfl
    rw [Fm.prog j, Fm.wd j, Fm.kk j, Fm.gl j, Fm.bs j]
    exact G
  · unfold fLenO at p
    split at p
    · rename_i sl e
      split at p
      · rename_i s hs
        obtain ⟨a, dx, am, vn, vg, h1, h2, h3, h4, h5⟩ := R.so e hs
        obtain ⟨v', l', g1, g2⟩ := R.sl i sl e
        rw [h1] at g1
        cases g1
        refine ⟨_, h1, a, dx, _, rfl, h2, hp, [], [.inr s], (fun b z => by simp at z), (fun b z => by simp at z), .cons (g2.see hs) .nil, ?_⟩
        split at p
        · rename_i d eg
          rw [eg]
          intro v H3 x3 q3
          unfold nnD at p
          split at p
          · split at p
            · rename_i n hn
              obtain ⟨m, rfl⟩ : ∃ m : Nat, n = m := ⟨n.toNat, by omega⟩
              cases q3
              exact ⟨m, rfl, by omega, p _ _ x3 (.int _)⟩
            · exact p.elim
          · exact p.elim
        · exact p.elim
      · exact p.elim
    · exact p.elim
end
end DL

/-! values that nobody looks at -/
namespace DL
open PySem L2

def OkU (mg : Str → Option Value) (H : Hp) (Q : VK) (E : XK) : Rs D → Prop
  | .ok _ => ∀ v H2, Ex H H2 → Q v H2
  | .er c => ∀ H2, Ex H H2 → E (cvM mg c) none H2
  | .no => False
def spU (mg : Str → Option Value) (np : Nat) (g : List D → Rs D) : Sp := fun vs H Q E => vs.length = np ∧ ∃ O ds, (∀ a ∈ O, H a ≠ none) ∧ NT O H ∧ DqAll (hide O H) vs ds ∧ OkU mg H Q E (g ds)
section
variable (cv : Nat → Value) (W : WX)
def PosU (σ : L2.St) (H : Hp) (Q : VK) : Rs D → Prop
  | .ok _ => ∀ v H2, Ex H H2 → Q v H2
  | .er c => ∀ H2, Ex H H2 → W (cv c) none σ H2
  | .no => False
variable [SC]
def SndU (t : TE) (f : En → Rs D) : Prop := ∀ O σ ρ H Q, RepE O σ ρ H → PosU cv W σ H Q (f ρ) → t σ H Q
variable {ι : Type} (Xs : ι → Cx)
def EU (e : Expr) (f : En → Rs D) : Prop := ∃ t, (∀ j, PE (Xs j) e t) ∧ SndU cv W t f
end
variable [SC]
section
variable {ι : Type} {cv : Nat → Value} {W : WX} {fr : RM} {Xs : ι → Cx} {P : Program} {w : World} {K : PySem.W.Frag} {mg : Str → Option Value} {base : Heap} {N ps : List Str} {sc : Scope} {fnn : Str → Bool} {k kc : Nat} {e a b c : Expr} {es : List Expr} {f fa fb : En → Rs D} {ft : En → Rs Bool} {fs : En → Rs (List D)} {fn : En → Rs So} {pos p : Pos} {x : Str} {g : List D → Rs D}
theorem u_ee (h : EE cv W Xs e f) : EU cv W Xs e f := by
  obtain ⟨t, h1, h2⟩ := h
  refine ⟨t, h1, fun O σ ρ H Q R p => h2 O σ ρ H Q R ?_⟩
  cases ef : f ρ with
  | no => rw [ef] at p; exact p
  | er c => rw [ef] at p; exact p
  | ok d => rw [ef] at p; exact fun v H2 x _ => p v H2 x
theorem u_new (h : EN_ W mg Xs e fn) : EU (cvM mg) W Xs e (fNewU fn) := by
  obtain ⟨t, h1, h2⟩ := h
  refine ⟨t, h1, fun O σ ρ H Q R p => h2 O σ ρ H Q R ?_⟩
  unfold fNewU at p
  cases ef : fn ρ with
  | no => rw [ef] at p; exact p
  | er c => rw [ef] at p; exact p
  | ok d => rw [ef] at p; exact fun a dx am H2 x _ _ _ _ => p _ H2 x
theorem PosU.later {σ : L2.St} {H H2 : Hp} {Q : VK} (x : Ex H H2) : ∀ {r : Rs D}, PosU cv W σ H Q r → PosU cv W σ H2 Q r
  | .ok _, p => fun v H3 x3 => p v H3 (x.trans x3)
  | .er _, p => fun H3 x3 => p H3 (x.trans x3)
  | .no, p => p
theorem u_ifx (hc : ET cv W Xs c ft) (ha : EU cv W Xs a fa) (hb : EU cv W Xs b fb) : EU cv W Xs (.IfExp c a b pos) (fIf ft fa fb) := by
  obtain ⟨tc, h5, h6⟩ := hc
  obtain ⟨ta, h1, h2⟩ := ha
  obtain ⟨tb, h3, h4⟩ := hb
  refine ⟨_, fun j => pe_ifExp (h5 j) (h1 j) (h3 j), fun O σ ρ H Q R p => h6 O σ ρ H _ R ?_⟩
  unfold fIf at p
  cases ea : ft ρ with
  | no => rw [ea] at p; exact p
  | er c => rw [ea] at p; exact p
  | ok d =>
    rw [ea, Rs.bind_ok] at p
    intro H1 x1
    cases d with
    | true =>
      rw [if_pos rfl] at p ⊢
      exact h2 O σ ρ H1 _ (R.mono x1) (p.later x1)
    | false =>
      rw [if_neg (by decide)] at p ⊢
      exact h4 O σ ρ H1 _ (R.mono x1) (p.later x1)
theorem u_call (Fm : Fam Xs P w K mg base N sc fnn k) (tk : ∀ j, Takes (Xs j) W) (G : KnownX P w K mg base kc x ps (spU mg ps.length g)) (ha : EA (cvM mg) W Xs (e :: es) fs) (hk : kc ≤ k := by decide) (hg : glB sc x = true := by decide +kernel)
    (hd : (x == ("__debug__" : Str)) = false := by decide) (hs : ∀ env, starEach (e :: es) env = (false, eval e env) :: starEach es env := by intro _; rfl) (hpl : ∀ env, (backTo pos (starEach es env)).any (·.1) = false := by intro _; rfl) :
    EU (cvM mg) W Xs (.Call (.Name x p) (e :: es) [] pos) (apL (callX ps.length g) fs) := by
  obtain ⟨f, fd, G, hm, kp, b⟩ := G
  obtain ⟨t, h1, h2⟩ := ha
  refine ⟨tCallS (spU mg ps.length g) (L2.WE W) t, fun j => ?_, fun O σ ρ H Q R p => h2 O σ ρ H _ R ?_⟩
  · refine pe_callS (fd := fd) (CX := L2.CX (Xs j).prog (Xs j).w) (k := kc) (ps := ps) ?_ ((Fm.room j).mono hk) (Fm.gl_ok hg j) (Fm.some hm j) (by rw [Fm.kk j]; exact kp) (by rw [Fm.kk j]; exact b) (passAt (tk j)) (h1 j) hd (hs _) (hpl _)
    rw [Fm.prog j, Fm.wd j, Fm.kk j, Fm.gl j, Fm.bs j]
    exact G
  · unfold apL at p
    cases ea : fs ρ with
    | no => rw [ea] at p; exact p
    | er c => rw [ea] at p; exact p
    | ok ds =>
      rw [ea, Rs.bind_ok] at p
      intro vs H1 x1 q1
      unfold callX at p
      by_cases hl : ds.length = ps.length
      · rw [if_pos hl] at p
        refine ⟨by rw [q1.length]; exact hl, O, ds, (R.mono x1).od, (R.mono x1).nt, q1, ?_⟩
        cases eg : g ds with
        | no => rw [eg] at p; exact p
        | er c => rw [eg] at p; exact fun H2 x2 => p H2 (x1.trans x2)
        | ok z => rw [eg] at p; exact fun v H2 x2 => p v H2 (x1.trans x2)
      · rw [if_neg hl] at p
        exact p.elim
theorem posU_of {Oc O : List Addr} {H0 H : Hp} {σ : L2.St} {ρ : En} {Z : Ends} {r : Rs D} {k : D → Out} {Q : VK} (R : RepS Oc H0 O σ ρ H) (p : PosS cv W fr Oc H0 O H Z (ofR r ρ k)) (h : ∀ d, r = .ok d → ∀ v H2, Ex H H2 → PosS cv W fr Oc H0 O H Z (k d) → Q v H2) : PosU cv W σ H Q r := by
  cases r with
  | ok d => exact fun v H2 x => h d rfl v H2 x p
  | er c => exact fun H2 x => p O σ H2 (R.mono x) (hide_ex x)
  | no => exact p
theorem s_retU (h : EU cv W Xs e f) : SS cv W .any Xs (.Return (some e) pos) (sRet f) := by
  obtain ⟨t, h1, h2⟩ := h
  exact ⟨_, fun j => ps_ret (h1 j), fun Oc H0 O σ ρ H Z R p => h2 O σ ρ H _ R.e (posU_of R p fun d hr0 v H2 x p => p v H2 (R.base.trans x) True.intro)⟩
theorem s_exprU (h : EU cv W Xs e f) (hs : ∀ env, swapsWith e none pos.line env = pure false := by intro _; rfl) : SS cv W fr Xs (.Expr e pos) (sExp f) := by
  obtain ⟨t, h1, h2⟩ := h
  exact ⟨_, fun j => ps_expr (h1 j) (hs _), fun Oc H0 O σ ρ H Z R p => h2 O σ ρ H _ R.e (posU_of R p fun d _ v H2 x p => p O σ H2 (R.mono x) (hide_ex x))⟩
end
section
variable {P : Program} {w : World} {K : PySem.W.Frag} {mg : Str → Option Value} {base : Heap} {N ps : List Str} {k : Nat} {x qual : Str} {st : Stmt} {f : Addr} {fd : FuncData} {F : En → Out}
theorem ok_fnU (Fn : Fun K x qual st f fd) (S : FnScope N ps (defScope st))
    (hb : ∀ (W : WX) (Xs : Unit → Cx), Fam Xs P w K mg base N (defScope st) (fun _ => true) k → (∀ j, Takes (Xs j) W) → (∀ j, PassesOwn (model (Xs j).prog (Xs j).w) (Xs j).A (Xs j).env (Xs j).xe) → (∀ j, (Xs j).stack = (Xs j).env :: (Xs j).outer ∧ (Xs j).env.frame = some (Xs j).env.locals ∧ (Xs j).ex = []) → SSs (cvM mg) W .any Xs (defBody st) F) :
    FnOk P w K mg base (L2.CX P w) (k + 1) f fd ps (spU mg ps.length (callF N.length F)) := by
  refine Fn.okX S (fun vs H Q E h => h.1) (fun cdv A outer s H vs Q E hr h => ?_)
  obtain ⟨hl, O, ds, od, nt, q, p⟩ := h
  obtain ⟨t, h1, h2⟩ := hb (fun cls d _ H => E cls d H) _ (famX_of (E := E) S hr) (fun _ => takes_of rfl rfl rfl rfl) (fun _ => passes_of rfl) (fun _ => ⟨rfl, rfl, rfl⟩)
  refine ⟨t, h1 (), h2 O H O _ _ H _ (start_rep od nt q) ?_⟩
  unfold callF at p
  cases e : F (startE N.length ds) with
  | rt d => rw [e] at p; exact fun v H' x _ => p v H' x
  | nx ρ' => rw [e] at p; exact fun O' σ' H' R x => p .non H' R.base
  | rs d ρ' => rw [e] at p; exact p.elim
  | bk ρ' => rw [e] at p; exact p.elim
  | ct ρ' => rw [e] at p; exact p.elim
  | ex c ρ' => rw [e] at p; exact fun O' σ' H' R x => p H' R.base
  | no => rw [e] at p; exact p.elim
theorem knownU_fn (h : ∃ f fd, Fun K x x st f fd ∧ mg x = some (.ref f)) (S : FnScope N ps (defScope st)) (B : BindsB x st ps) (np nN kk : Nat) (hnp : ps.length = np) (hnN : N.length = nN) (hk : k + 1 = kk)
    (hb : ∀ (W : WX) (Xs : Unit → Cx), Fam Xs P w K mg base N (defScope st) (fun _ => true) k → (∀ j, Takes (Xs j) W) → (∀ j, PassesOwn (model (Xs j).prog (Xs j).w) (Xs j).A (Xs j).env (Xs j).xe) → (∀ j, (Xs j).stack = (Xs j).env :: (Xs j).outer ∧ (Xs j).env.frame = some (Xs j).env.locals ∧ (Xs j).ex = []) → SSs (cvM mg) W .any Xs (defBody st) F) :
    KnownX P w K mg base kk x ps (spU mg np (callF nN F)) := by
  subst hnp hnN hk
  obtain ⟨f, fd, Fn, hm⟩ := h
  exact ⟨f, fd, ok_fnU Fn S hb, hm, Fn.kp, Fn.binds B⟩
end
end DL

namespace DL
instance (priority := 10) scNone : SC := ⟨0⟩
end DL

namespace AG
open PySem L2 DL
/-! meanings -/
def F_is_int : En → Out := (sRet (fAnd (ap1 (dIsi "int") (fVar 0)) (fAnd (fNot (ap1 (dIsi "bool") (fVar 0))) (fChain dLe dLe (fVar 1) (fVar 0) (fVar 2)))))
def C_is_int : List D → Rs D := callF 3 F_is_int
def F_is_ranking : En → Out := (sSeq (sIf (tOrr (tNt (tVal (ap1 (dIsi "list") (fVar 0)))) (tNt (tVal (fChain dLe dLe (fC (.int 1)) (apL dLen (fCons (fVar 0) fNil)) (fC (.int 7)))))) (sRet (fC (.bool false))) sNil)
  (sSeq (sIf (tNt (tVal (apL dAll (fCons (fComp (iLs (fVar 0)) (.nm 1) tTrue (apL (callX 3 C_is_int) (fCons (fSh 1) (fCons (fC (.int 1)) (fCons (apL dLen (fCons (fVar 0) fNil)) fNil)))) [1]) fNil)))) (sRet (fC (.bool false))) sNil)
  (sRet (ap2 dEq (apL dSorted (fCons (fVar 0) fNil)) (ap2 dRange (fC (.int 1)) (ap2 dAdd (apL dLen (fCons (fVar 0) fNil)) (fC (.int 1))))))))
def C_is_ranking : List D → Rs D := callF 2 F_is_ranking
def F_check_ranking : En → Out := (sIf (tNt (tVal (apL (callX 1 C_is_ranking) (fCons (fSh 0) fNil)))) (sEx 0) sNil)
def C_check_ranking : List D → Rs D := callF 1 F_check_ranking
def F_check_both : En → Out := (sSeq (sExp (apL (callX 1 C_check_ranking) (fCons (fSh 0) fNil)))
  (sSeq (sExp (apL (callX 1 C_check_ranking) (fCons (fSh 1) fNil)))
  (sIf (tVal (ap2 dNe (apL dLen (fCons (fVar 0) fNil)) (apL dLen (fCons (fVar 1) fNil)))) (sEx 0) sNil)))
def C_check_both : List D → Rs D := callF 2 F_check_both
def F_check_size : En → Out := (sIf (tNt (tVal (apL (callX 3 C_is_int) (fCons (fSh 0) (fCons (fC (.int 1)) (fCons (fC (.int 6)) fNil)))))) (sEx 2) sNil)
def C_check_size : List D → Rs D := callF 1 F_check_size
def F_seen : En → Out := (sSeq (sOwn 2 (ap2 dRep (apL dLst (fCons (fC (.int 0)) fNil)) (apL dLen (fCons (fVar 0) fNil))))
  (sSeq (sFor (apI dZip (fCons (fSh 0) (fCons (fSh 1) fNil))) (.tp [3, 4]) [3, 4]
  (sSetI 2 (ap2 dSub (fVar 3) (fC (.int 1))) (fSh 4)))
  (sRetO 2)))
def C_seen : List D → Rs D := callR 5 F_seen
def F_seen_from : En → Out := (sSeq (sExp (apL (callX 2 C_check_both) (fCons (fSh 0) (fCons (fSh 1) fNil))))
  (sRet (apL (callX 2 C_seen) (fCons (fSh 0) (fCons (fSh 1) fNil)))))
def C_seen_from : List D → Rs D := callF 2 F_seen_from
def F_things_in_order : En → Out := (sSeq (sExp (apL (callX 1 C_check_ranking) (fCons (fSh 0) fNil)))
  (sRet (fComp (apI dRng (fCons (fC (.int 1)) (fCons (ap2 dAdd (apL dLen (fCons (fVar 0) fNil)) (fC (.int 1))) fNil))) (.nm 1) tTrue (apML dIndex (fVar 0) (fCons (fVar 1) fNil)) [1])))
def C_things_in_order : List D → Rs D := callF 2 F_things_in_order
def F_ranking_of : En → Out := (sSeq (sIf (tOrr (tNt (tVal (ap1 (dIsi "list") (fVar 0)))) (tNt (tVal (apL dAll (fCons (fComp (iLs (fVar 0)) (.nm 1) tTrue (apL (callX 3 C_is_int) (fCons (fSh 1) (fCons (fC (.int 0)) (fCons (fC (.int 6)) fNil)))) [1]) fNil))))) (sEx 0) sNil)
  (sSeq (sIf (tOrr (tNt (tVal (fChain dLe dLe (fC (.int 1)) (apL dLen (fCons (fVar 0) fNil)) (fC (.int 7))))) (tVal (ap2 dNe (apL dSorted (fCons (fVar 0) fNil)) (ap2 dRange (fC (.int 0)) (apL dLen (fCons (fVar 0) fNil)))))) (sEx 0) sNil)
  (sRet (fComp (apI dRng (fCons (apL dLen (fCons (fVar 0) fNil)) fNil)) (.nm 1) tTrue (ap2 dAdd (apML dIndex (fVar 0) (fCons (fVar 1) fNil)) (fC (.int 1))) [1]))))
def C_ranking_of : List D → Rs D := callF 2 F_ranking_of
def F_orders (C_orders : Nat → List D → Rs D) (fuel : Nat) : En → Out := (sSeq (sIf (tVal (ap2 dEq (fVar 0) (apL dLst fNil))) (sRet (apL dLst (fCons (apL dLst fNil) fNil))) sNil)
  (sSeq (sOwn 1 (apL dLst fNil))
  (sSeq (sFor (apI dEnum (fCons (fSh 0) fNil)) (.tp [2, 3]) [2, 3]
  (sExt 1 (fComp (iLs (apL (callX 1 (C_orders fuel)) (fCons (ap2 dAdd (fSl (fVar 0) fNoPart (fPart (fVar 2))) (fSl (fVar 0) (fPart (ap2 dAdd (fVar 2) (fC (.int 1)))) fNoPart)) fNil))) (.nm 4) tTrue (ap2 dAdd (apL dLst (fCons (fSh 3) fNil)) (fVar 4)) [4])))
  (sFrz 1 (sRet (fSh 1))))))
def C_orders : Nat → List D → Rs D
  | 0, _ => .no
  | fuel + 1, ds => callF 5 (F_orders (fun _ => C_orders fuel) fuel) ds
def F_all_rankings : En → Out := (sSeq (sExp (apL (callX 1 C_check_size) (fCons (fSh 0) fNil)))
  (sRet (apL (callX 1 (C_orders 8)) (fCons (ap2 dRange (fC (.int 1)) (ap2 dAdd (fVar 0) (fC (.int 1)))) fNil))))
def C_all_rankings : List D → Rs D := callF 1 F_all_rankings
def F_rank_of_ranking : En → Out := (sSeq (sExp (apL (callX 1 C_check_ranking) (fCons (fSh 0) fNil)))
  (sSeq (sSet 1 (fC (.int 0)))
  (sSeq (sFor (apI dEnum (fCons (fSh 0) fNil)) (.tp [2, 3]) [2, 3, 4]
  (sSeq (sSet 4 (apL dLen (fCons (fComp (iLs (fSl (fVar 0) (fPart (ap2 dAdd (fVar 2) (fC (.int 1)))) fNoPart)) (.nm 5) (tVal (ap2 dLt (fVar 5) (fVar 3))) (fSh 5) [5]) fNil)))
  (sSet 1 (ap2 dAdd (ap2 dMul (fVar 1) (ap2 dSub (apL dLen (fCons (fVar 0) fNil)) (fVar 2))) (fVar 4)))))
  (sRet (fSh 1)))))
def C_rank_of_ranking : List D → Rs D := callF 6 F_rank_of_ranking
def F_ranking_at : En → Out := (sSeq (sIf (tNt (tVal (apL (callX 3 C_is_int) (fCons (fSh 0) (fCons (fC (.int 1)) (fCons (fC (.int 7)) fNil)))))) (sEx 2) sNil)
  (sSeq (sSet 2 (fC (.int 1)))
  (sSeq (sFor (apI dRng (fCons (fC (.int 2)) (fCons (ap2 dAdd (fVar 0) (fC (.int 1))) fNil))) (.nm 3) [3]
  (sAug 2 dMulI (fVar 3)))
  (sSeq (sIf (tNt (tVal (apL (callX 3 C_is_int) (fCons (fSh 1) (fCons (fC (.int 0)) (fCons (ap2 dSub (fVar 2) (fC (.int 1))) fNil)))))) (sEx 2) sNil)
  (sSeq (sSet 4 (ap2 dRange (fC (.int 1)) (ap2 dAdd (fVar 0) (fC (.int 1)))))
  (sSeq (sOwn 5 (apL dLst fNil))
  (sSeq (sFor (apI dRng (fCons (fVar 0) (fCons (fC (.int 0)) (fCons (ap1 dNeg (fC (.int 1))) fNil)))) (.nm 3) [3]
  (sSeq (sAug 2 dFdivI (fVar 3))
  (sSeq (sApp 5 (ap2 dIx (fVar 4) (ap2 dFdiv (fVar 1) (fVar 2))))
  (sSeq (sSet 4 (fComp (iLs (fVar 4)) (.nm 6) (tVal (ap2 dNe (fVar 6) (ap2 dIx (fVar 5) (ap1 dNeg (fC (.int 1)))))) (fSh 6) [6]))
  (sAug 1 dModI (fVar 2))))))
  (sFrz 5 (sRet (fSh 5))))))))))
def C_ranking_at : List D → Rs D := callF 7 F_ranking_at
def F__law_seen : En → Out := (sRet (fComp (apI dRng (fCons (fC (.int 1)) (fCons (ap2 dAdd (apL dLen (fCons (fVar 0) fNil)) (fC (.int 1))) fNil))) (.nm 2) tTrue (ap2 dIx (fVar 1) (apML dIndex (fVar 0) (fCons (fVar 2) fNil))) [2]))
def C__law_seen : List D → Rs D := callF 3 F__law_seen
def F__law_all : En → Out := (sSeq (sSet 1 (apL dLst (fCons (apL dLst fNil) fNil)))
  (sSeq (sFor (apI dRng (fCons (fVar 0) fNil)) (.nm 2) [2, 3, 4]
  (sSeq (sSet 3 (apL dLst fNil))
  (sSeq (sFor (iLs (fSh 1)) (.nm 4) [4]
  (sSet 3 (ap2 dAdd (fVar 3) (fComp (apI dRng (fCons (fC (.int 1)) (fCons (ap2 dAdd (fVar 0) (fC (.int 1))) fNil))) (.nm 5) (tVal (ap2 dNotIn (fVar 5) (fVar 4))) (ap2 dAdd (fVar 4) (apL dLst (fCons (fSh 5) fNil))) [5]))))
  (sSet 1 (fSh 3)))))
  (sRet (fSh 1))))
def C__law_all : List D → Rs D := callF 6 F__law_all
def F_against : En → Out := (sSeq (sOwn 2 (apL dLst fNil))
  (sSeq (sFor (apI dRng (fCons (apL dLen (fCons (fVar 0) fNil)) fNil)) (.nm 3) [3, 4]
  (sFor (apI dRng (fCons (ap2 dAdd (fVar 3) (fC (.int 1))) (fCons (apL dLen (fCons (fVar 0) fNil)) fNil))) (.nm 4) [4]
  (sIf (tVal (ap2 dNe (ap2 dLt (ap2 dIx (fVar 0) (fVar 3)) (ap2 dIx (fVar 0) (fVar 4))) (ap2 dLt (ap2 dIx (fVar 1) (fVar 3)) (ap2 dIx (fVar 1) (fVar 4))))) (sApp 2 (apL dTup (fCons (fSh 3) (fCons (fSh 4) fNil)))) sNil)))
  (sFrz 2 (sRet (fSh 2)))))
def C_against : List D → Rs D := callF 5 F_against
def F_pairs_against : En → Out := (sSeq (sExp (apL (callX 2 C_check_both) (fCons (fSh 0) (fCons (fSh 1) fNil))))
  (sRet (apL (callX 2 C_against) (fCons (fSh 0) (fCons (fSh 1) fNil)))))
def C_pairs_against : List D → Rs D := callF 2 F_pairs_against
def F_count_against : En → Out := (sSeq (sExp (apL (callX 2 C_check_both) (fCons (fSh 0) (fCons (fSh 1) fNil))))
  (sRet (apL dLen (fCons (apL (callX 2 C_against) (fCons (fSh 0) (fCons (fSh 1) fNil))) fNil))))
def C_count_against : List D → Rs D := callF 2 F_count_against
def F_common : En → Out := (sSeq (sWhile 1000 (tVal (ap2 dNe (fVar 1) (fC (.int 0)))) []
  (sPar [0, 1] (fCons (fSh 1) (fCons (ap2 dMod (fVar 0) (fVar 1)) fNil))))
  (sRet (fSh 0)))
def C_common : List D → Rs D := callF 2 F_common
def F_lowest : En → Out := (sSeq (sSet 2 (apL (callX 2 C_common) (fCons (apL dAbs (fCons (fVar 0) fNil)) (fCons (fSh 1) fNil))))
  (sRet (apL dTup (fCons (ap2 dFdiv (fVar 0) (fVar 2)) (fCons (ap2 dFdiv (fVar 1) (fVar 2)) fNil)))))
def C_lowest : List D → Rs D := callF 3 F_lowest
def F_pair_agreement : En → Out := (sSeq (sExp (apL (callX 2 C_check_both) (fCons (fSh 0) (fCons (fSh 1) fNil))))
  (sSeq (sSet 2 (apL dLen (fCons (fVar 0) fNil)))
  (sSeq (sIf (tVal (ap2 dEq (fVar 2) (fC (.int 1)))) (sEx 4) sNil)
  (sRet (apL (callX 2 C_lowest) (fCons (ap2 dSub (ap2 dMul (fVar 2) (ap2 dSub (fVar 2) (fC (.int 1)))) (ap2 dMul (fC (.int 4)) (apL dLen (fCons (apL (callX 2 C_against) (fCons (fSh 0) (fCons (fSh 1) fNil))) fNil)))) (fCons (ap2 dMul (fVar 2) (ap2 dSub (fVar 2) (fC (.int 1)))) fNil)))))))
def C_pair_agreement : List D → Rs D := callF 3 F_pair_agreement
def F_is_even : En → Out := (sSeq (sExp (apL (callX 2 C_check_both) (fCons (fSh 0) (fCons (fSh 1) fNil))))
  (sRet (ap2 dEq (ap2 dMod (apL dLen (fCons (apL (callX 2 C_against) (fCons (fSh 0) (fCons (fSh 1) fNil))) fNil)) (fC (.int 2))) (fC (.int 0)))))
def C_is_even : List D → Rs D := callF 2 F_is_even
def F_inversion_table : En → Out := (sSeq (sExp (apL (callX 2 C_check_both) (fCons (fSh 0) (fCons (fSh 1) fNil))))
  (sSeq (sSet 2 (apL (callX 2 C_seen) (fCons (fSh 0) (fCons (fSh 1) fNil))))
  (sRet (fComp (apI dEnum (fCons (fVar 2) fNil)) (.tp [3, 4]) tTrue (apL dLen (fCons (fComp (iLs (fSl (fVar 2) (fPart (ap2 dAdd (fVar 3) (fC (.int 1)))) fNoPart)) (.nm 5) (tVal (ap2 dLt (fVar 5) (fVar 4))) (fSh 5) [5]) fNil)) [3, 4]))))
def C_inversion_table : List D → Rs D := callF 6 F_inversion_table
def F_order_with_table : En → Out := (sSeq (sIf (tOrr (tNt (tVal (ap1 (dIsi "list") (fVar 0)))) (tNt (tVal (fChain dLe dLe (fC (.int 1)) (apL dLen (fCons (fVar 0) fNil)) (fC (.int 7)))))) (sEx 2) sNil)
  (sSeq (sIf (tNt (tVal (apL dAll (fCons (fComp (apI dEnum (fCons (fVar 0) fNil)) (.tp [4, 3]) tTrue (apL (callX 3 C_is_int) (fCons (fSh 3) (fCons (fC (.int 0)) (fCons (ap2 dSub (ap2 dSub (apL dLen (fCons (fVar 0) fNil)) (fC (.int 1))) (fVar 4)) fNil)))) [4, 3]) fNil)))) (sEx 2) sNil)
  (sSeq (sSet 1 (ap2 dRange (fC (.int 1)) (ap2 dAdd (apL dLen (fCons (fVar 0) fNil)) (fC (.int 1)))))
  (sSeq (sOwn 2 (apL dLst fNil))
  (sSeq (sFor (iLs (fSh 0)) (.nm 3) [3]
  (sSeq (sApp 2 (ap2 dIx (fVar 1) (fVar 3)))
  (sSet 1 (ap2 dAdd (fSl (fVar 1) fNoPart (fPart (fVar 3))) (fSl (fVar 1) (fPart (ap2 dAdd (fVar 3) (fC (.int 1)))) fNoPart)))))
  (sFrz 2 (sRet (fSh 2))))))))
def C_order_with_table : List D → Rs D := callF 5 F_order_with_table
def F__law_true : En → Out := (sRet (fAnd (ap1 (dIsi "bool") (fVar 0)) (ap2 dEq (fVar 0) (fVar 1))))
def C__law_true : List D → Rs D := callF 2 F__law_true
def F__law_against : En → Out := (sSeq (sOwn 2 (apL dLst fNil))
  (sSeq (sFor (apI dRng (fCons (apL dLen (fCons (fVar 0) fNil)) fNil)) (.nm 3) [3, 4]
  (sFor (apI dRng (fCons (ap2 dAdd (fVar 3) (fC (.int 1))) (fCons (apL dLen (fCons (fVar 0) fNil)) fNil))) (.nm 4) [4]
  (sIf (tVal (ap2 dLt (ap2 dMul (ap2 dSub (ap2 dIx (fVar 0) (fVar 3)) (ap2 dIx (fVar 0) (fVar 4))) (ap2 dSub (ap2 dIx (fVar 1) (fVar 3)) (ap2 dIx (fVar 1) (fVar 4)))) (fC (.int 0)))) (sApp 2 (apL dTup (fCons (fSh 3) (fCons (fSh 4) fNil)))) sNil)))
  (sFrz 2 (sRet (fSh 2)))))
def C__law_against : List D → Rs D := callF 5 F__law_against
def F__law_low : En → Out := (sSeq (sPar [2, 3] (fCons (apL dAbs (fCons (fVar 0) fNil)) (fCons (fSh 1) fNil)))
  (sSeq (sWhile 1000 (tVal (ap2 dNe (fVar 3) (fC (.int 0)))) []
  (sPar [2, 3] (fCons (fSh 3) (fCons (ap2 dMod (fVar 2) (fVar 3)) fNil))))
  (sRet (apL dTup (fCons (ap2 dFdiv (fVar 0) (fVar 2)) (fCons (ap2 dFdiv (fVar 1) (fVar 2)) fNil))))))
def C__law_low : List D → Rs D := callF 4 F__law_low
def F_square_sum : En → Out := (sSeq (sExp (apL (callX 2 C_check_both) (fCons (fSh 0) (fCons (fSh 1) fNil))))
  (sRet (apL dSum (fCons (fComp (apI dZip (fCons (fVar 0) (fCons (fVar 1) fNil))) (.tp [2, 3]) tTrue (ap2 dMul (ap2 dSub (fVar 2) (fVar 3)) (ap2 dSub (fVar 2) (fVar 3))) [2, 3]) fNil))))
def C_square_sum : List D → Rs D := callF 4 F_square_sum
def F_plain_sum : En → Out := (sSeq (sExp (apL (callX 2 C_check_both) (fCons (fSh 0) (fCons (fSh 1) fNil))))
  (sRet (apL dSum (fCons (fComp (apI dZip (fCons (fVar 0) (fCons (fVar 1) fNil))) (.tp [2, 3]) tTrue (apL dAbs (fCons (ap2 dSub (fVar 2) (fVar 3)) fNil)) [2, 3]) fNil))))
def C_plain_sum : List D → Rs D := callF 4 F_plain_sum
def F_greatest_difference : En → Out := (sSeq (sExp (apL (callX 2 C_check_both) (fCons (fSh 0) (fCons (fSh 1) fNil))))
  (sRet (apL dMax (fCons (fComp (apI dZip (fCons (fVar 0) (fCons (fVar 1) fNil))) (.tp [2, 3]) tTrue (apL dAbs (fCons (ap2 dSub (fVar 2) (fVar 3)) fNil)) [2, 3]) fNil))))
def C_greatest_difference : List D → Rs D := callF 4 F_greatest_difference
def F_count_unlike : En → Out := (sSeq (sExp (apL (callX 2 C_check_both) (fCons (fSh 0) (fCons (fSh 1) fNil))))
  (sRet (apL dLen (fCons (fComp (apI dZip (fCons (fVar 0) (fCons (fVar 1) fNil))) (.tp [2, 3]) (tVal (ap2 dNe (fVar 2) (fVar 3))) (fC (.int 1)) [2, 3]) fNil))))
def C_count_unlike : List D → Rs D := callF 4 F_count_unlike
def F_cycles_of : En → Out := (sSeq (sOwn 1 (apL dLst fNil))
  (sSeq (sSet 2 (apL dLst fNil))
  (sSeq (sFor (apI dRng (fCons (fC (.int 1)) (fCons (ap2 dAdd (apL dLen (fCons (fVar 0) fNil)) (fC (.int 1))) fNil))) (.nm 3) [3, 4]
  (sIf (tVal (ap2 dNotIn (fVar 3) (fVar 2))) (sSeq (sOwn 4 (apL dLst (fCons (fSh 3) fNil)))
  (sSeq (sWhile 1000 (tVal (ap2 dNe (ap2 dIx (fVar 0) (ap2 dSub (ap2 dIx (fVar 4) (ap1 dNeg (fC (.int 1)))) (fC (.int 1)))) (fVar 3))) []
  (sApp 4 (ap2 dIx (fVar 0) (ap2 dSub (ap2 dIx (fVar 4) (ap1 dNeg (fC (.int 1)))) (fC (.int 1))))))
  (sSeq (sFrz 4 (sApp 1 (fSh 4)))
  (sSet 2 (ap2 dAdd (fVar 2) (fVar 4)))))) sNil))
  (sFrz 1 (sRet (fSh 1))))))
def C_cycles_of : List D → Rs D := callF 5 F_cycles_of
def F_exchanges : En → Out := (sRet (ap2 dSub (apL dLen (fCons (fVar 0) fNil)) (apL dLen (fCons (apL (callX 1 C_cycles_of) (fCons (apL (callX 2 C_seen) (fCons (fSh 0) (fCons (fSh 1) fNil))) fNil)) fNil))))
def C_exchanges : List D → Rs D := callF 2 F_exchanges
def F_count_exchanges : En → Out := (sSeq (sExp (apL (callX 2 C_check_both) (fCons (fSh 0) (fCons (fSh 1) fNil))))
  (sRet (apL (callX 2 C_exchanges) (fCons (fSh 0) (fCons (fSh 1) fNil)))))
def C_count_exchanges : List D → Rs D := callF 2 F_count_exchanges
def F_longest_rising : En → Out := (sSeq (sOwn 1 (apL dLst fNil))
  (sSeq (sFor (apI dEnum (fCons (fSh 0) fNil)) (.tp [2, 3]) [2, 3]
  (sApp 1 (ap2 dAdd (fC (.int 1)) (apL dMax (fCons (ap2 dAdd (apL dLst (fCons (fC (.int 0)) fNil)) (fComp (apI dRng (fCons (fVar 2) fNil)) (.nm 4) (tVal (ap2 dLt (ap2 dIx (fVar 0) (fVar 4)) (fVar 3))) (ap2 dIx (fVar 1) (fVar 4)) [4])) fNil)))))
  (sRet (apL dMax (fCons (fVar 1) fNil)))))
def C_longest_rising : List D → Rs D := callF 5 F_longest_rising
def F_count_moves : En → Out := (sSeq (sExp (apL (callX 2 C_check_both) (fCons (fSh 0) (fCons (fSh 1) fNil))))
  (sRet (ap2 dSub (apL dLen (fCons (fVar 0) fNil)) (apL (callX 1 C_longest_rising) (fCons (apL (callX 2 C_seen) (fCons (fSh 0) (fCons (fSh 1) fNil))) fNil)))))
def C_count_moves : List D → Rs D := callF 2 F_count_moves
def F_square_agreement : En → Out := (sSeq (sExp (apL (callX 2 C_check_both) (fCons (fSh 0) (fCons (fSh 1) fNil))))
  (sSeq (sSet 2 (apL dLen (fCons (fVar 0) fNil)))
  (sSeq (sIf (tVal (ap2 dEq (fVar 2) (fC (.int 1)))) (sEx 4) sNil)
  (sSeq (sSet 3 (ap2 dMul (fVar 2) (ap2 dSub (ap2 dMul (fVar 2) (fVar 2)) (fC (.int 1)))))
  (sRet (apL (callX 2 C_lowest) (fCons (ap2 dSub (fVar 3) (ap2 dMul (fC (.int 6)) (apL dSum (fCons (fComp (apI dZip (fCons (fVar 0) (fCons (fVar 1) fNil))) (.tp [4, 5]) tTrue (ap2 dMul (ap2 dSub (fVar 4) (fVar 5)) (ap2 dSub (fVar 4) (fVar 5))) [4, 5]) fNil)))) (fCons (fSh 3) fNil))))))))
def C_square_agreement : List D → Rs D := callF 6 F_square_agreement
def F_all_measures : En → Out := (sSeq (sExp (apL (callX 2 C_check_both) (fCons (fSh 0) (fCons (fSh 1) fNil))))
  (sSeq (sSet 2 (apL dTup (fCons (apL dLen (fCons (apL (callX 2 C_against) (fCons (fSh 0) (fCons (fSh 1) fNil))) fNil)) (fCons (apL (callX 2 C_square_sum) (fCons (fSh 0) (fCons (fSh 1) fNil))) (fCons (apL (callX 2 C_plain_sum) (fCons (fSh 0) (fCons (fSh 1) fNil))) (fCons (apL (callX 2 C_greatest_difference) (fCons (fSh 0) (fCons (fSh 1) fNil))) fNil))))))
  (sRet (ap2 dAdd (fVar 2) (apL dTup (fCons (apL (callX 2 C_count_unlike) (fCons (fSh 0) (fCons (fSh 1) fNil))) (fCons (apL (callX 2 C_exchanges) (fCons (fSh 0) (fCons (fSh 1) fNil))) (fCons (apL (callX 2 C_count_moves) (fCons (fSh 0) (fCons (fSh 1) fNil))) fNil))))))))
def C_all_measures : List D → Rs D := callF 3 F_all_measures
def F_cycles : En → Out := (sSeq (sExp (apL (callX 2 C_check_both) (fCons (fSh 0) (fCons (fSh 1) fNil))))
  (sRet (apL (callX 1 C_cycles_of) (fCons (apL (callX 2 C_seen) (fCons (fSh 0) (fCons (fSh 1) fNil))) fNil))))
def C_cycles : List D → Rs D := callF 2 F_cycles
def F__law_cycles : En → Out := (sSeq (sOwn 1 (ap2 dRange (fC (.int 1)) (ap2 dAdd (apL dLen (fCons (fVar 0) fNil)) (fC (.int 1)))))
  (sSeq (sOwn 2 (apL dLst fNil))
  (sSeq (sWhile 1000 (tVal (ap2 dNe (fVar 1) (apL dLst fNil))) [3]
  (sSeq (sOwn 3 (apL dLst (fCons (ap2 dIx (fVar 1) (fC (.int 0))) fNil)))
  (sSeq (sRem 1 (ap2 dIx (fVar 3) (fC (.int 0))))
  (sSeq (sWhile 1000 (tVal (ap2 dIn (ap2 dIx (fVar 0) (ap2 dSub (ap2 dIx (fVar 3) (ap1 dNeg (fC (.int 1)))) (fC (.int 1)))) (fVar 1))) []
  (sSeq (sApp 3 (ap2 dIx (fVar 0) (ap2 dSub (ap2 dIx (fVar 3) (ap1 dNeg (fC (.int 1)))) (fC (.int 1)))))
  (sRem 1 (ap2 dIx (fVar 3) (ap1 dNeg (fC (.int 1)))))))
  (sFrz 3 (sApp 2 (fSh 3)))))))
  (sFrz 2 (sRet (fSh 2))))))
def C__law_cycles : List D → Rs D := callF 4 F__law_cycles
def F__law_rising : En → Out := (sSeq (sSet 1 (apL dLst (fCons (apL dLst fNil) fNil)))
  (sSeq (sFor (iLs (fSh 0)) (.nm 2) [2]
  (sSet 1 (ap2 dAdd (fVar 1) (fComp (iLs (fVar 1)) (.nm 3) (tOrr (tVal (ap2 dEq (fVar 3) (apL dLst fNil))) (tVal (ap2 dLt (ap2 dIx (fVar 3) (ap1 dNeg (fC (.int 1)))) (fVar 2)))) (ap2 dAdd (fVar 3) (apL dLst (fCons (fSh 2) fNil))) [3]))))
  (sRet (apL dMax (fCons (fComp (iLs (fVar 1)) (.nm 3) tTrue (apL dLen (fCons (fVar 3) fNil)) [3]) fNil)))))
def C__law_rising : List D → Rs D := callF 4 F__law_rising
def F_distance_sum : En → Out := (sSeq (sExp (apL (callX 2 C_check_both) (fCons (fSh 0) (fCons (fSh 1) fNil))))
  (sRet (apL dSum (fCons (fComp (iLs (apL (callX 2 C_against) (fCons (fSh 0) (fCons (fSh 1) fNil)))) (.tp [2, 3]) tTrue (apL dAbs (fCons (ap2 dSub (ap2 dIx (fVar 0) (fVar 2)) (ap2 dIx (fVar 0) (fVar 3))) fNil)) [2, 3]) fNil))))
def C_distance_sum : List D → Rs D := callF 4 F_distance_sum
def F_plain_bounds : En → Out := (sSeq (sExp (apL (callX 2 C_check_both) (fCons (fSh 0) (fCons (fSh 1) fNil))))
  (sSeq (sSet 2 (apL dLen (fCons (apL (callX 2 C_against) (fCons (fSh 0) (fCons (fSh 1) fNil))) fNil)))
  (sRet (apL dTup (fCons (ap2 dAdd (fVar 2) (apL (callX 2 C_exchanges) (fCons (fSh 0) (fCons (fSh 1) fNil)))) (fCons (ap2 dMul (fC (.int 2)) (fVar 2)) fNil))))))
def C_plain_bounds : List D → Rs D := callF 3 F_plain_bounds
def F_check_many : En → Out := (sIf (tNt (tVal (apL (callX 3 C_is_int) (fCons (fSh 0) (fCons (fC (.int 0)) (fCons (fC (.int 50)) fNil)))))) (sEx 2) sNil)
def C_check_many : List D → Rs D := callF 1 F_check_many
def F_squares_of : En → Out := (sRet (apL dSum (fCons (fComp (apI dEnum (fCons (fVar 0) fNil)) (.tp [1, 2]) tTrue (ap2 dMul (ap2 dSub (ap2 dSub (fVar 2) (fVar 1)) (fC (.int 1))) (ap2 dSub (ap2 dSub (fVar 2) (fVar 1)) (fC (.int 1)))) [1, 2]) fNil)))
def C_squares_of : List D → Rs D := callF 3 F_squares_of
def F_inversions : En → Out := (sSeq (sSet 1 (fC (.int 0)))
  (sSeq (sFor (apI dEnum (fCons (fSh 0) fNil)) (.tp [2, 3]) [2, 3]
  (sAug 1 dAddI (apL dLen (fCons (fComp (iLs (fSl (fVar 0) (fPart (ap2 dAdd (fVar 2) (fC (.int 1)))) fNoPart)) (.nm 4) (tVal (ap2 dLt (fVar 4) (fVar 3))) (fSh 4) [4]) fNil))))
  (sRet (fSh 1))))
def C_inversions : List D → Rs D := callF 5 F_inversions
def F_least_squares : En → Out := (sSeq (sExp (apL (callX 1 C_check_size) (fCons (fSh 0) fNil)))
  (sSeq (sExp (apL (callX 1 C_check_many) (fCons (fSh 1) fNil)))
  (sSeq (sSet 2 (fComp (iLs (apL (callX 1 C_all_rankings) (fCons (fSh 0) fNil))) (.nm 3) (tVal (ap2 dEq (apL (callX 1 C_inversions) (fCons (fSh 3) fNil)) (fVar 1))) (apL (callX 1 C_squares_of) (fCons (fSh 3) fNil)) [3]))
  (sRet (fIf (tVal (ap2 dNe (fVar 2) (apL dLst fNil))) (apL dMin (fCons (fVar 2) fNil)) (fC .none))))))
def C_least_squares : List D → Rs D := callF 4 F_least_squares
def F_greatest_squares : En → Out := (sSeq (sExp (apL (callX 1 C_check_size) (fCons (fSh 0) fNil)))
  (sSeq (sExp (apL (callX 1 C_check_many) (fCons (fSh 1) fNil)))
  (sSeq (sSet 2 (fComp (iLs (apL (callX 1 C_all_rankings) (fCons (fSh 0) fNil))) (.nm 3) (tVal (ap2 dEq (apL (callX 1 C_inversions) (fCons (fSh 3) fNil)) (fVar 1))) (apL (callX 1 C_squares_of) (fCons (fSh 3) fNil)) [3]))
  (sRet (fIf (tVal (ap2 dNe (fVar 2) (apL dLst fNil))) (apL dMax (fCons (fVar 2) fNil)) (fC .none))))))
def C_greatest_squares : List D → Rs D := callF 4 F_greatest_squares
def F__law_squares : En → Out := (sRet (apL dSum (fCons (fComp (apI dZip (fCons (fVar 0) (fCons (fVar 1) fNil))) (.tp [2, 3]) tTrue (ap2 dMul (ap2 dSub (fVar 2) (fVar 3)) (ap2 dSub (fVar 2) (fVar 3))) [2, 3]) fNil)))
def C__law_squares : List D → Rs D := callF 4 F__law_squares
def F_neighbour_way : En → Out := (sSeq (sExp (apL (callX 2 C_check_both) (fCons (fSh 0) (fCons (fSh 1) fNil))))
  (sSeq (sOwn 2 (apL (callX 2 C_seen) (fCons (fSh 0) (fCons (fSh 1) fNil))))
  (sSeq (sOwn 3 (apL dLst fNil))
  (sSeq (sFor (apI dRng (fCons (apL dLen (fCons (fVar 2) fNil)) fNil)) (.nm 4) [4, 5]
  (sFor (apI dRng (fCons (ap2 dSub (apL dLen (fCons (fVar 2) fNil)) (fC (.int 1))) fNil)) (.nm 5) [5]
  (sIf (tVal (ap2 dGt (ap2 dIx (fVar 2) (fVar 5)) (ap2 dIx (fVar 2) (ap2 dAdd (fVar 5) (fC (.int 1)))))) (sSeq (sSwap 2 (fVar 5) (ap2 dAdd (fVar 5) (fC (.int 1))) (fCons (ap2 dIx (fVar 2) (ap2 dAdd (fVar 5) (fC (.int 1)))) (fCons (ap2 dIx (fVar 2) (fVar 5)) fNil)))
  (sApp 3 (ap2 dAdd (fVar 5) (fC (.int 1))))) sNil)))
  (sFrz 3 (sRet (fSh 3)))))))
def C_neighbour_way : List D → Rs D := callF 6 F_neighbour_way
def F_after_neighbours : En → Out := (sSeq (sExp (apL (callX 1 C_check_ranking) (fCons (fSh 0) fNil)))
  (sSeq (sIf (tOrr (tNt (tVal (ap1 (dIsi "list") (fVar 1)))) (tNt (tVal (apL dAll (fCons (fComp (iLs (fVar 1)) (.nm 3) tTrue (apL (callX 3 C_is_int) (fCons (fSh 3) (fCons (fC (.int 1)) (fCons (ap2 dSub (apL dLen (fCons (fVar 0) fNil)) (fC (.int 1))) fNil)))) [3]) fNil))))) (sEx 2) sNil)
  (sSeq (sSet 2 (apL dList (fCons (fVar 0) fNil)))
  (sSeq (sFor (iLs (fSh 1)) (.nm 3) [3]
  (sSet 2 (fComp (iLs (fVar 2)) (.nm 4) tTrue (fIf (tVal (ap2 dEq (fVar 4) (fVar 3))) (ap2 dAdd (fVar 3) (fC (.int 1))) (fIf (tVal (ap2 dEq (fVar 4) (ap2 dAdd (fVar 3) (fC (.int 1))))) (fSh 3) (fSh 4))) [4])))
  (sRet (fSh 2))))))
def C_after_neighbours : List D → Rs D := callF 5 F_after_neighbours
def F_exchange_way : En → Out := (sSeq (sExp (apL (callX 2 C_check_both) (fCons (fSh 0) (fCons (fSh 1) fNil))))
  (sSeq (sOwn 2 (apL dList (fCons (fVar 0) fNil)))
  (sSeq (sOwn 3 (apL dLst fNil))
  (sSeq (sFor (apI dRng (fCons (apL dLen (fCons (fVar 2) fNil)) fNil)) (.nm 4) [4, 5]
  (sIf (tVal (ap2 dNe (ap2 dIx (fVar 2) (fVar 4)) (ap2 dIx (fVar 1) (fVar 4)))) (sSeq (sSet 5 (apML dIndex (fVar 2) (fCons (ap2 dIx (fVar 1) (fVar 4)) fNil)))
  (sSeq (sSwap 2 (fVar 4) (fVar 5) (fCons (ap2 dIx (fVar 2) (fVar 5)) (fCons (ap2 dIx (fVar 2) (fVar 4)) fNil)))
  (sApp 3 (apL dTup (fCons (fSh 4) (fCons (fSh 5) fNil)))))) sNil))
  (sFrz 3 (sRet (fSh 3)))))))
def C_exchange_way : List D → Rs D := callF 6 F_exchange_way
def F_after_exchanges : En → Out := (sSeq (sExp (apL (callX 1 C_check_ranking) (fCons (fSh 0) fNil)))
  (sSeq (sIf (tNt (tVal (ap1 (dIsi "list") (fVar 1)))) (sEx 2) sNil)
  (sSeq (sOwn 2 (apL dList (fCons (fVar 0) fNil)))
  (sSeq (sFor (iLs (fSh 1)) (.nm 3) [3, 4, 5]
  (sSeq (sIf (tOrr (tNt (tVal (ap1 (dIsi "tuple") (fVar 3)))) (tOrr (tVal (ap2 dNe (apL dLen (fCons (fVar 3) fNil)) (fC (.int 2)))) (tNt (tVal (apL dAll (fCons (fComp (iTp (fSh 3)) (.nm 6) tTrue (apL (callX 3 C_is_int) (fCons (fSh 6) (fCons (fC (.int 0)) (fCons (ap2 dSub (apL dLen (fCons (fVar 0) fNil)) (fC (.int 1))) fNil)))) [6]) fNil)))))) (sEx 2) sNil)
  (sSeq (sAsg (.tp [4, 5]) (fSh 3))
  (sSwap 2 (fVar 4) (fVar 5) (fCons (ap2 dIx (fVar 2) (fVar 5)) (fCons (ap2 dIx (fVar 2) (fVar 4)) fNil))))))
  (sFrz 2 (sRet (fSh 2)))))))
def C_after_exchanges : List D → Rs D := callF 7 F_after_exchanges
def F_staying : En → Out := (sSeq (sExp (apL (callX 2 C_check_both) (fCons (fSh 0) (fCons (fSh 1) fNil))))
  (sSeq (sSet 2 (apL (callX 2 C_seen) (fCons (fSh 0) (fCons (fSh 1) fNil))))
  (sSeq (sOwn 3 (apL dLst (fCons (apL dLst fNil) fNil)))
  (sSeq (sFor (apI dRng (fCons (apL dLen (fCons (fVar 2) fNil)) fNil)) (.nm 4) [4]
  (sExt 3 (fComp (iLs (fVar 3)) (.nm 6) (tOrr (tVal (ap2 dEq (fVar 6) (apL dLst fNil))) (tVal (ap2 dLt (ap2 dIx (fVar 2) (ap2 dSub (ap2 dIx (fVar 6) (ap1 dNeg (fC (.int 1)))) (fC (.int 1)))) (ap2 dIx (fVar 2) (fVar 4))))) (ap2 dAdd (fVar 6) (apL dLst (fCons (ap2 dAdd (fVar 4) (fC (.int 1))) fNil))) [6])))
  (sSeq (sSet 5 (apL dMax (fCons (fComp (iLs (fVar 3)) (.nm 6) tTrue (apL dLen (fCons (fVar 6) fNil)) [6]) fNil)))
  (sRet (apL dMinR (fCons (fComp (iLs (fVar 3)) (.nm 6) (tVal (ap2 dEq (apL dLen (fCons (fVar 6) fNil)) (fVar 5))) (fSh 6) [6]) fNil))))))))
def C_staying : List D → Rs D := callF 7 F_staying
def F_lies_between : En → Out := (sSeq (sFor (apI dRng (fCons (apL dLen (fCons (fVar 0) fNil)) fNil)) (.nm 3) [3, 4, 5, 6]
  (sFor (apI dRng (fCons (ap2 dAdd (fVar 3) (fC (.int 1))) (fCons (apL dLen (fCons (fVar 0) fNil)) fNil))) (.nm 4) [4, 5, 6]
  (sSeq (sPar [5, 6] (fCons (ap2 dLt (ap2 dIx (fVar 0) (fVar 3)) (ap2 dIx (fVar 0) (fVar 4))) (fCons (ap2 dLt (ap2 dIx (fVar 2) (fVar 3)) (ap2 dIx (fVar 2) (fVar 4))) fNil)))
  (sIf (tAn (tVal (ap2 dEq (fVar 5) (fVar 6))) (tVal (ap2 dNe (fVar 5) (ap2 dLt (ap2 dIx (fVar 1) (fVar 3)) (ap2 dIx (fVar 1) (fVar 4)))))) (sRet (fC (.bool false))) sNil))))
  (sRet (fC (.bool true))))
def C_lies_between : List D → Rs D := callF 7 F_lies_between
def F_is_between : En → Out := (sSeq (sExp (apL (callX 1 C_check_ranking) (fCons (fSh 0) fNil)))
  (sSeq (sExp (apL (callX 2 C_check_both) (fCons (fSh 0) (fCons (fSh 1) fNil))))
  (sSeq (sExp (apL (callX 2 C_check_both) (fCons (fSh 0) (fCons (fSh 2) fNil))))
  (sRet (apL (callX 3 C_lies_between) (fCons (fSh 0) (fCons (fSh 1) (fCons (fSh 2) fNil))))))))
def C_is_between : List D → Rs D := callF 3 F_is_between
def F_check_small : En → Out := (sSeq (sExp (apL (callX 2 C_check_both) (fCons (fSh 0) (fCons (fSh 1) fNil))))
  (sIf (tVal (ap2 dGt (apL dLen (fCons (fVar 0) fNil)) (fC (.int 6)))) (sEx 0) sNil))
def C_check_small : List D → Rs D := callF 2 F_check_small
def F_between : En → Out := (sSeq (sExp (apL (callX 2 C_check_small) (fCons (fSh 0) (fCons (fSh 1) fNil))))
  (sRet (fComp (iLs (apL (callX 1 C_all_rankings) (fCons (apL dLen (fCons (fVar 0) fNil)) fNil))) (.nm 2) (tVal (apL (callX 3 C_lies_between) (fCons (fSh 0) (fCons (fSh 2) (fCons (fSh 1) fNil))))) (fSh 2) [2])))
def C_between : List D → Rs D := callF 3 F_between
def F_count_between : En → Out := (sRet (apL dLen (fCons (apL (callX 2 C_between) (fCons (fSh 0) (fCons (fSh 1) fNil))) fNil)))
def C_count_between : List D → Rs D := callF 2 F_count_between
def F_halfway : En → Out := (sSeq (sExp (apL (callX 2 C_check_small) (fCons (fSh 0) (fCons (fSh 1) fNil))))
  (sSeq (sSet 2 (apL (callX 2 C_between) (fCons (fSh 0) (fCons (fSh 1) fNil))))
  (sSeq (sSet 3 (fComp (iLs (fVar 2)) (.nm 4) tTrue (apL dAbs (fCons (ap2 dSub (apL dLen (fCons (apL (callX 2 C_against) (fCons (fSh 0) (fCons (fSh 4) fNil))) fNil)) (apL dLen (fCons (apL (callX 2 C_against) (fCons (fSh 4) (fCons (fSh 1) fNil))) fNil))) fNil)) [4]))
  (sRet (fComp (apI dZip (fCons (fVar 2) (fCons (fVar 3) fNil))) (.tp [4, 5]) (tVal (ap2 dEq (fVar 5) (apL dMin (fCons (fVar 3) fNil)))) (fSh 4) [4, 5])))))
def C_halfway : List D → Rs D := callF 6 F_halfway
def F_near : En → Out := (sSeq (sExp (apL (callX 2 C_check_small) (fCons (fSh 0) (fCons (fSh 0) fNil))))
  (sSeq (sIf (tNt (tVal (apL (callX 3 C_is_int) (fCons (fSh 1) (fCons (fC (.int 0)) (fCons (fC (.int 50)) fNil)))))) (sEx 2) sNil)
  (sRet (fComp (iLs (apL (callX 1 C_all_rankings) (fCons (apL dLen (fCons (fVar 0) fNil)) fNil))) (.nm 2) (tVal (ap2 dLe (apL dLen (fCons (apL (callX 2 C_against) (fCons (fSh 0) (fCons (fSh 2) fNil))) fNil)) (fVar 1))) (fSh 2) [2]))))
def C_near : List D → Rs D := callF 3 F_near
def F_agreed_pairs : En → Out := (sSeq (sExp (apL (callX 2 C_check_both) (fCons (fSh 0) (fCons (fSh 1) fNil))))
  (sSeq (sOwn 2 (apL dLst fNil))
  (sSeq (sFor (apI dRng (fCons (apL dLen (fCons (fVar 0) fNil)) fNil)) (.nm 3) [3, 4]
  (sFor (apI dRng (fCons (apL dLen (fCons (fVar 0) fNil)) fNil)) (.nm 4) [4]
  (sIf (tAn (tVal (ap2 dLt (ap2 dIx (fVar 0) (fVar 3)) (ap2 dIx (fVar 0) (fVar 4)))) (tVal (ap2 dLt (ap2 dIx (fVar 1) (fVar 3)) (ap2 dIx (fVar 1) (fVar 4))))) (sApp 2 (apL dTup (fCons (fSh 3) (fCons (fSh 4) fNil)))) sNil)))
  (sFrz 2 (sRet (fSh 2))))))
def C_agreed_pairs : List D → Rs D := callF 5 F_agreed_pairs
def F_count_with : En → Out := (sSeq (sIf (tNt (tVal (apL (callX 3 C_is_int) (fCons (fSh 0) (fCons (fC (.int 1)) (fCons (fC (.int 20)) fNil)))))) (sEx 2) sNil)
  (sSeq (sIf (tNt (tVal (apL (callX 3 C_is_int) (fCons (fSh 1) (fCons (fC (.int 0)) (fCons (fC (.int 200)) fNil)))))) (sEx 2) sNil)
  (sSeq (sSet 2 (apL dLst (fCons (fC (.int 1)) fNil)))
  (sSeq (sFor (apI dRng (fCons (fC (.int 2)) (fCons (ap2 dAdd (fVar 0) (fC (.int 1))) fNil))) (.nm 3) [3, 4, 5]
  (sSeq (sOwn 4 (apL dLst fNil))
  (sSeq (sFor (apI dRng (fCons (ap2 dSub (ap2 dAdd (apL dLen (fCons (fVar 2) fNil)) (fVar 3)) (fC (.int 1))) fNil)) (.nm 5) [5]
  (sApp 4 (apL dSum (fCons (fSl (fVar 2) (fPart (apL dMax (fCons (fC (.int 0)) (fCons (ap2 dAdd (ap2 dSub (fVar 5) (fVar 3)) (fC (.int 1))) fNil)))) (fPart (ap2 dAdd (fVar 5) (fC (.int 1))))) fNil))))
  (sFrz 4 (sSet 2 (fSh 4))))))
  (sRet (fIf (tVal (ap2 dLt (fVar 1) (apL dLen (fCons (fVar 2) fNil)))) (ap2 dIx (fVar 2) (fVar 1)) (fC (.int 0))))))))
def C_count_with : List D → Rs D := callF 6 F_count_with
def F_value_table : En → Out := (sSeq (sExp (apL (callX 1 C_check_size) (fCons (fSh 0) fNil)))
  (sSeq (sDNew 1)
  (sSeq (sFor (iLs (apL (callX 1 C_all_rankings) (fCons (fSh 0) fNil))) (.nm 2) [2, 3]
  (sSeq (sSet 3 (apL dTup (fCons (apL (callX 1 C_inversions) (fCons (fSh 2) fNil)) (fCons (apL (callX 1 C_squares_of) (fCons (fSh 2) fNil)) fNil))))
  (sDPut 1 (fSh 3) (ap2 dAdd (fDGet 1 (fSh 3) (fC (.int 0))) (fC (.int 1))))))
  (sRet (fComp (iLs (fDSort 1)) (.nm 3) tTrue (ap2 dAdd (fVar 3) (apL dTup (fCons (fDIx 1 (fSh 3)) fNil))) [3])))))
def C_value_table : List D → Rs D := callF 4 F_value_table
def F_orders_with : En → Out := (sSeq (sExp (apL (callX 1 C_check_size) (fCons (fSh 0) fNil)))
  (sSeq (sIf (tOrr (tNt (tVal (apL (callX 3 C_is_int) (fCons (fSh 1) (fCons (fC (.int 0)) (fCons (fC (.int 50)) fNil)))))) (tNt (tVal (apL (callX 3 C_is_int) (fCons (fSh 2) (fCons (fC (.int 0)) (fCons (fC (.int 500)) fNil))))))) (sEx 2) sNil)
  (sRet (fComp (iLs (apL (callX 1 C_all_rankings) (fCons (fSh 0) fNil))) (.nm 3) (tVal (ap2 dEq (apL dTup (fCons (apL (callX 1 C_inversions) (fCons (fSh 3) fNil)) (fCons (apL (callX 1 C_squares_of) (fCons (fSh 3) fNil)) fNil))) (apL dTup (fCons (fSh 1) (fCons (fSh 2) fNil))))) (fSh 3) [3]))))
def C_orders_with : List D → Rs D := callF 4 F_orders_with
def F_can_be : En → Out := (sRet (ap2 dNe (apL (callX 3 C_orders_with) (fCons (fSh 0) (fCons (fSh 1) (fCons (fSh 2) fNil)))) (apL dLst fNil)))
def C_can_be : List D → Rs D := callF 3 F_can_be
def F_first_with : En → Out := (sSeq (sSet 3 (apL (callX 3 C_orders_with) (fCons (fSh 0) (fCons (fSh 1) (fCons (fSh 2) fNil)))))
  (sSeq (sIf (tVal (ap2 dEq (fVar 3) (apL dLst fNil))) (sEx 4) sNil)
  (sRet (ap2 dIx (fVar 3) (fC (.int 0))))))
def C_first_with : List D → Rs D := callF 4 F_first_with
def F_order_at : En → Out := (sSeq (sSet 4 (apL (callX 3 C_orders_with) (fCons (fSh 0) (fCons (fSh 1) (fCons (fSh 2) fNil)))))
  (sSeq (sIf (tNt (tVal (apL (callX 3 C_is_int) (fCons (fSh 3) (fCons (fC (.int 0)) (fCons (ap2 dSub (apL dLen (fCons (fVar 4) fNil)) (fC (.int 1))) fNil)))))) (sEx 2) sNil)
  (sRet (ap2 dIx (fVar 4) (fVar 3)))))
def C_order_at : List D → Rs D := callF 5 F_order_at
def F_is_scores : En → Out := (sSeq (sIf (tOrr (tNt (tVal (ap1 (dIsi "list") (fVar 0)))) (tNt (tVal (fChain dLe dLe (fC (.int 1)) (apL dLen (fCons (fVar 0) fNil)) (fC (.int 10)))))) (sRet (fC (.bool false))) sNil)
  (sRet (apL dAll (fCons (fComp (iLs (fVar 0)) (.nm 1) tTrue (apL (callX 3 C_is_int) (fCons (fSh 1) (fCons (fC (.int 0)) (fCons (fC (.int 99)) fNil)))) [1]) fNil))))
def C_is_scores : List D → Rs D := callF 2 F_is_scores
def F_check_scores : En → Out := (sIf (tNt (tVal (apL (callX 1 C_is_scores) (fCons (fSh 0) fNil)))) (sEx 1) sNil)
def C_check_scores : List D → Rs D := callF 1 F_check_scores
def F_check_same : En → Out := (sSeq (sExp (apL (callX 1 C_check_scores) (fCons (fSh 0) fNil)))
  (sSeq (sExp (apL (callX 1 C_check_scores) (fCons (fSh 1) fNil)))
  (sIf (tVal (ap2 dNe (apL dLen (fCons (fVar 0) fNil)) (apL dLen (fCons (fVar 1) fNil)))) (sEx 1) sNil)))
def C_check_same : List D → Rs D := callF 2 F_check_same
def F_outcomes : En → Out := (sSeq (sOwn 2 (apL dLst (fCons (fC (.int 0)) (fCons (fC (.int 0)) (fCons (fC (.int 0)) (fCons (fC (.int 0)) (fCons (fC (.int 0)) fNil)))))))
  (sSeq (sFor (apI dRng (fCons (apL dLen (fCons (fVar 0) fNil)) fNil)) (.nm 3) [3, 4, 5, 6]
  (sFor (apI dRng (fCons (ap2 dAdd (fVar 3) (fC (.int 1))) (fCons (apL dLen (fCons (fVar 0) fNil)) fNil))) (.nm 4) [4, 5, 6]
  (sSeq (sPar [5, 6] (fCons (ap2 dSub (ap2 dIx (fVar 0) (fVar 3)) (ap2 dIx (fVar 0) (fVar 4))) (fCons (ap2 dSub (ap2 dIx (fVar 1) (fVar 3)) (ap2 dIx (fVar 1) (fVar 4))) fNil)))
  (sIf (tAn (tVal (ap2 dEq (fVar 5) (fC (.int 0)))) (tVal (ap2 dEq (fVar 6) (fC (.int 0))))) (sAugI 2 (fC (.int 4)) (fC (.int 1))) (sIf (tVal (ap2 dEq (fVar 5) (fC (.int 0)))) (sAugI 2 (fC (.int 2)) (fC (.int 1))) (sIf (tVal (ap2 dEq (fVar 6) (fC (.int 0)))) (sAugI 2 (fC (.int 3)) (fC (.int 1))) (sAugI 2 (fIf (tVal (ap2 dEq (ap2 dGt (fVar 5) (fC (.int 0))) (ap2 dGt (fVar 6) (fC (.int 0))))) (fC (.int 0)) (fC (.int 1))) (fC (.int 1)))))))))
  (sFrz 2 (sRet (fSh 2)))))
def C_outcomes : List D → Rs D := callF 7 F_outcomes
def F_pair_outcomes : En → Out := (sSeq (sExp (apL (callX 2 C_check_same) (fCons (fSh 0) (fCons (fSh 1) fNil))))
  (sRet (apL dTuple (fCons (apL (callX 2 C_outcomes) (fCons (fSh 0) (fCons (fSh 1) fNil))) fNil))))
def C_pair_outcomes : List D → Rs D := callF 2 F_pair_outcomes
def F_shared_ranks : En → Out := (sSeq (sExp (apL (callX 1 C_check_scores) (fCons (fSh 0) fNil)))
  (sSeq (sOwn 1 (apL dLst fNil))
  (sSeq (sFor (iLs (fSh 0)) (.nm 2) [2, 3]
  (sSeq (sSet 3 (apL dLen (fCons (fComp (iLs (fVar 0)) (.nm 4) (tVal (ap2 dLt (fVar 4) (fVar 2))) (fSh 4) [4]) fNil)))
  (sApp 1 (ap2 dAdd (ap2 dAdd (ap2 dMul (fC (.int 2)) (fVar 3)) (apML dCount (fVar 0) (fCons (fVar 2) fNil))) (fC (.int 1))))))
  (sFrz 1 (sRet (fSh 1))))))
def C_shared_ranks : List D → Rs D := callF 5 F_shared_ranks
def F_tie_groups : En → Out := (sSeq (sExp (apL (callX 1 C_check_scores) (fCons (fSh 0) fNil)))
  (sRet (fComp (iLs (apL dSortSet (fCons (fVar 0) fNil))) (.nm 1) (tVal (ap2 dGt (apML dCount (fVar 0) (fCons (fVar 1) fNil)) (fC (.int 1)))) (apL dTup (fCons (fSh 1) (fCons (apML dCount (fVar 0) (fCons (fVar 1) fNil)) fNil))) [1])))
def C_tie_groups : List D → Rs D := callF 2 F_tie_groups
def F_plain_agreement : En → Out := (sSeq (sExp (apL (callX 2 C_check_same) (fCons (fSh 0) (fCons (fSh 1) fNil))))
  (sSeq (sIf (tVal (ap2 dEq (apL dLen (fCons (fVar 0) fNil)) (fC (.int 1)))) (sEx 4) sNil)
  (sSeq (sSet 2 (apL (callX 2 C_outcomes) (fCons (fSh 0) (fCons (fSh 1) fNil))))
  (sRet (apL (callX 2 C_lowest) (fCons (ap2 dSub (ap2 dIx (fVar 2) (fC (.int 0))) (ap2 dIx (fVar 2) (fC (.int 1)))) (fCons (ap2 dFdiv (ap2 dMul (apL dLen (fCons (fVar 0) fNil)) (ap2 dSub (apL dLen (fCons (fVar 0) fNil)) (fC (.int 1)))) (fC (.int 2))) fNil)))))))
def C_plain_agreement : List D → Rs D := callF 3 F_plain_agreement
def F_untied_agreement : En → Out := (sSeq (sExp (apL (callX 2 C_check_same) (fCons (fSh 0) (fCons (fSh 1) fNil))))
  (sSeq (sSet 2 (apL (callX 2 C_outcomes) (fCons (fSh 0) (fCons (fSh 1) fNil))))
  (sSeq (sIf (tVal (ap2 dEq (ap2 dAdd (ap2 dIx (fVar 2) (fC (.int 0))) (ap2 dIx (fVar 2) (fC (.int 1)))) (fC (.int 0)))) (sEx 4) sNil)
  (sRet (apL (callX 2 C_lowest) (fCons (ap2 dSub (ap2 dIx (fVar 2) (fC (.int 0))) (ap2 dIx (fVar 2) (fC (.int 1)))) (fCons (ap2 dAdd (ap2 dIx (fVar 2) (fC (.int 0))) (ap2 dIx (fVar 2) (fC (.int 1)))) fNil)))))))
def C_untied_agreement : List D → Rs D := callF 3 F_untied_agreement
def F_dense_ranks : En → Out := (sSeq (sExp (apL (callX 1 C_check_scores) (fCons (fSh 0) fNil)))
  (sRet (fComp (iLs (fVar 0)) (.nm 1) tTrue (ap2 dAdd (fC (.int 1)) (apL dLenSet (fCons (fComp (iLs (fVar 0)) (.nm 2) (tVal (ap2 dLt (fVar 2) (fVar 1))) (fSh 2) [2]) fNil))) [1])))
def C_dense_ranks : List D → Rs D := callF 3 F_dense_ranks
def F_first_ranks : En → Out := (sSeq (sExp (apL (callX 1 C_check_scores) (fCons (fSh 0) fNil)))
  (sSeq (sSet 1 (apL dSortP (fCons (fComp (apI dEnum (fCons (fVar 0) fNil)) (.tp [2, 3]) tTrue (apL dTup (fCons (fSh 3) (fCons (fSh 2) fNil))) [2, 3]) fNil)))
  (sRet (fComp (apI dEnum (fCons (fVar 0) fNil)) (.tp [2, 3]) tTrue (ap2 dAdd (apML dIndex (fVar 1) (fCons (apL dTup (fCons (fSh 3) (fCons (fSh 2) fNil))) fNil)) (fC (.int 1))) [2, 3]))))
def C_first_ranks : List D → Rs D := callF 4 F_first_ranks
def F_turned_over : En → Out := (sSeq (sExp (apL (callX 1 C_check_ranking) (fCons (fSh 0) fNil)))
  (sRet (fComp (iLs (fVar 0)) (.nm 1) tTrue (ap2 dSub (ap2 dAdd (apL dLen (fCons (fVar 0) fNil)) (fC (.int 1))) (fVar 1)) [1])))
def C_turned_over : List D → Rs D := callF 2 F_turned_over
def F_backward : En → Out := (sSeq (sExp (apL (callX 1 C_check_ranking) (fCons (fSh 0) fNil)))
  (sRet (ap1 dRev (fVar 0))))
def C_backward : List D → Rs D := callF 1 F_backward
def F_inverse : En → Out := (sSeq (sExp (apL (callX 1 C_check_ranking) (fCons (fSh 0) fNil)))
  (sRet (fComp (apI dRng (fCons (fC (.int 1)) (fCons (ap2 dAdd (apL dLen (fCons (fVar 0) fNil)) (fC (.int 1))) fNil))) (.nm 1) tTrue (ap2 dAdd (apML dIndex (fVar 0) (fCons (fVar 1) fNil)) (fC (.int 1))) [1])))
def C_inverse : List D → Rs D := callF 2 F_inverse
def F_led : En → Out := (sSeq (sExp (apL (callX 2 C_check_both) (fCons (fSh 0) (fCons (fSh 1) fNil))))
  (sRet (fComp (iLs (fVar 0)) (.nm 2) tTrue (ap2 dIx (fVar 1) (ap2 dSub (fVar 2) (fC (.int 1)))) [2])))
def C_led : List D → Rs D := callF 3 F_led
def F_renamed : En → Out := (sSeq (sExp (apL (callX 2 C_check_both) (fCons (fSh 0) (fCons (fSh 1) fNil))))
  (sSeq (sOwn 2 (ap2 dRep (apL dLst (fCons (fC (.int 0)) fNil)) (apL dLen (fCons (fVar 0) fNil))))
  (sSeq (sFor (apI dZip (fCons (fSh 0) (fCons (fSh 1) fNil))) (.tp [3, 4]) [3, 4]
  (sSetI 2 (ap2 dSub (fVar 4) (fC (.int 1))) (fSh 3)))
  (sFrz 2 (sRet (fSh 2))))))
def C_renamed : List D → Rs D := callF 5 F_renamed
def F_difference : En → Out := (sSeq (sExp (apL (callX 2 C_check_both) (fCons (fSh 0) (fCons (fSh 1) fNil))))
  (sRet (apL (callX 2 C_seen) (fCons (fSh 0) (fCons (fSh 1) fNil)))))
def C_difference : List D → Rs D := callF 2 F_difference
def F_without_thing : En → Out := (sSeq (sExp (apL (callX 1 C_check_ranking) (fCons (fSh 0) fNil)))
  (sSeq (sIf (tOrr (tNt (tVal (apL (callX 3 C_is_int) (fCons (fSh 1) (fCons (fC (.int 0)) (fCons (ap2 dSub (apL dLen (fCons (fVar 0) fNil)) (fC (.int 1))) fNil)))))) (tVal (ap2 dEq (apL dLen (fCons (fVar 0) fNil)) (fC (.int 1))))) (sEx 2) sNil)
  (sSeq (sSet 2 (ap2 dIx (fVar 0) (fVar 1)))
  (sRet (fComp (iLs (ap2 dAdd (fSl (fVar 0) fNoPart (fPart (fVar 1))) (fSl (fVar 0) (fPart (ap2 dAdd (fVar 1) (fC (.int 1)))) fNoPart))) (.nm 3) tTrue (fIf (tVal (ap2 dGt (fVar 3) (fVar 2))) (ap2 dSub (fVar 3) (fC (.int 1))) (fSh 3)) [3])))))
def C_without_thing : List D → Rs D := callF 4 F_without_thing
def F_joined : En → Out := (sSeq (sExp (apL (callX 1 C_check_ranking) (fCons (fSh 0) fNil)))
  (sSeq (sExp (apL (callX 1 C_check_ranking) (fCons (fSh 1) fNil)))
  (sSeq (sSet 2 (ap2 dAdd (fVar 0) (fComp (iLs (fVar 1)) (.nm 3) tTrue (ap2 dAdd (apL dLen (fCons (fVar 0) fNil)) (fVar 3)) [3])))
  (sSeq (sIf (tNt (tVal (apL (callX 1 C_is_ranking) (fCons (fSh 2) fNil)))) (sEx 0) sNil)
  (sRet (fSh 2))))))
def C_joined : List D → Rs D := callF 4 F_joined
def F_exchanged : En → Out := (sRet (fComp (iLs (fVar 0)) (.nm 2) tTrue (fIf (tVal (ap2 dEq (fVar 2) (fVar 1))) (ap2 dAdd (fVar 1) (fC (.int 1))) (fIf (tVal (ap2 dEq (fVar 2) (ap2 dAdd (fVar 1) (fC (.int 1))))) (fSh 1) (fSh 2))) [2]))
def C_exchanged : List D → Rs D := callF 3 F_exchanged
def F__law_exchanged : En → Out := (sRet (fComp (iLs (fVar 0)) (.nm 2) tTrue (fIf (tVal (ap2 dEq (fVar 2) (fVar 1))) (ap2 dAdd (fVar 1) (fC (.int 1))) (fIf (tVal (ap2 dEq (fVar 2) (ap2 dAdd (fVar 1) (fC (.int 1))))) (fSh 1) (fSh 2))) [2]))
def C__law_exchanged : List D → Rs D := callF 3 F__law_exchanged
def F_check_text : En → Out := (sIf (tNt (tVal (ap1 (dIsi "str") (fVar 0)))) (sEx 3) sNil)
def C_check_text : List D → Rs D := callF 1 F_check_text
def F__wall : En → Out := (sWhile 1000 (tVal (fC (.bool true))) []
  sNil)
def C__wall : List D → Rs D := callF 1 F__wall
def F__law_number : En → Out := (sSeq (sIf (tVal (ap2 dEq (fVar 0) (fC (.int 0)))) (sRet (apL (callX 1 C_all_rankings) (fCons (fSh 1) fNil))) sNil)
  (sSeq (sIf (tVal (ap2 dEq (fVar 0) (fC (.int 1)))) (sRet (apL (callX 1 C_value_table) (fCons (fSh 1) fNil))) sNil)
  (sSeq (sIf (tVal (ap2 dEq (fVar 0) (fC (.int 2)))) (sRet (apL (callX 2 C_least_squares) (fCons (fSh 1) (fCons (fSh 2) fNil)))) sNil)
  (sSeq (sIf (tVal (ap2 dEq (fVar 0) (fC (.int 3)))) (sRet (apL (callX 2 C_greatest_squares) (fCons (fSh 1) (fCons (fSh 2) fNil)))) sNil)
  (sSeq (sIf (tVal (ap2 dEq (fVar 0) (fC (.int 4)))) (sRet (apL (callX 3 C_orders_with) (fCons (fSh 1) (fCons (fSh 2) (fCons (fSh 3) fNil))))) sNil)
  (sSeq (sIf (tVal (ap2 dEq (fVar 0) (fC (.int 5)))) (sRet (apL (callX 3 C_can_be) (fCons (fSh 1) (fCons (fSh 2) (fCons (fSh 3) fNil))))) sNil)
  (sSeq (sIf (tVal (ap2 dEq (fVar 0) (fC (.int 6)))) (sRet (apL (callX 3 C_first_with) (fCons (fSh 1) (fCons (fSh 2) (fCons (fSh 3) fNil))))) sNil)
  (sSeq (sIf (tVal (ap2 dEq (fVar 0) (fC (.int 7)))) (sRet (apL (callX 4 C_order_at) (fCons (fSh 1) (fCons (fSh 2) (fCons (fSh 3) (fCons (fC (.int 0)) fNil)))))) sNil)
  (sSeq (sIf (tVal (ap2 dEq (fVar 0) (fC (.int 8)))) (sRet (apL (callX 2 C_ranking_at) (fCons (fSh 1) (fCons (fSh 2) fNil)))) sNil)
  (sRet (apL (callX 2 C_count_with) (fCons (fSh 1) (fCons (fSh 2) fNil)))))))))))))
def C__law_number : List D → Rs D := callF 4 F__law_number
def F__law_first : En → Out := (sSeq (sIf (tOrr (tVal (ap2 dNe (apL (callX 1 C_things_in_order) (fCons (fSh 1) fNil)) (apL dLst (fCons (fC (.int 2)) (fCons (fC (.int 0)) (fCons (fC (.int 3)) (fCons (fC (.int 1)) fNil))))))) (tOrr (tVal (ap2 dNe (apL (callX 1 C_rank_of_ranking) (fCons (fSh 1) fNil)) (fC (.int 10)))) (tVal (ap2 dNe (apL (callX 2 C_all_measures) (fCons (fSh 0) (fCons (fSh 1) fNil))) (apL dTup (fCons (fC (.int 3)) (fCons (fC (.int 10)) (fCons (fC (.int 6)) (fCons (fC (.int 2)) (fCons (fC (.int 4)) (fCons (fC (.int 3)) (fCons (fC (.int 2)) fNil)))))))))))) (sRet (fC (.bool false))) sNil)
  (sSeq (sIf (tOrr (tVal (ap2 dNe (apL (callX 2 C_pair_agreement) (fCons (fSh 0) (fCons (fSh 1) fNil))) (apL dTup (fCons (fC (.int 0)) (fCons (fC (.int 1)) fNil))))) (tOrr (tVal (ap2 dNe (apL (callX 2 C_least_squares) (fCons (fC (.int 4)) (fCons (fC (.int 3)) fNil))) (fC (.int 8)))) (tVal (ap2 dNe (apL (callX 2 C_inversion_table) (fCons (fSh 0) (fCons (fSh 1) fNil))) (apL dLst (fCons (fC (.int 1)) (fCons (fC (.int 2)) (fCons (fC (.int 0)) (fCons (fC (.int 0)) fNil))))))))) (sRet (fC (.bool false))) sNil)
  (sRet (fAnd (ap2 dEq (apL (callX 2 C_after_neighbours) (fCons (fSh 0) (fCons (apL dLst (fCons (fC (.int 1)) (fCons (fC (.int 2)) fNil))) fNil))) (apL dLst (fCons (fC (.int 3)) (fCons (fC (.int 1)) (fCons (fC (.int 2)) (fCons (fC (.int 4)) fNil)))))) (ap2 dEq (apL (callX 2 C_cycles) (fCons (fSh 0) (fCons (fSh 1) fNil))) (apL dLst (fCons (apL dLst (fCons (fC (.int 1)) (fCons (fC (.int 2)) (fCons (fC (.int 4)) (fCons (fC (.int 3)) fNil))))) fNil)))))))
def C__law_first : List D → Rs D := callF 2 F__law_first
end AG

namespace K17
open PySem L2 DL AG
/-! meanings -/
def F_So___len__ : En → Out := (sRet (apL dLen (fCons (fSo madeD 0) fNil)))
def C_So___len__ : List GV → Rs D := cG 1 F_So___len__
def F_format_scores : En → Out := (sSeq (sExp (apL (callX 1 C_check_scores) (fCons (fSh 0) fNil)))
  (sRet (fJoin (fC (.str ",")) (fComp (iLs (fVar 0)) (.nm 1) tTrue (apL dStr (fCons (fVar 1) fNil)) [1]))))
def C_format_scores : List D → Rs D := callF 2 F_format_scores
def F_So_left : En → Out := (sRet (apL dLen (fCons (apL (callX 2 C_against) (fCons (fSo nowD 0) (fCons (fSo goalD 0) fNil))) fNil)))
def C_So_left : List GV → Rs D := cG 1 F_So_left
def F_So_exchange : En → Out := (sSeq (sIf (tNt (tVal (apL (callX 3 C_is_int) (fCons (fSh 1) (fCons (fC (.int 1)) (fCons (ap2 dSub (apL dLen (fCons (fSo nowD 0) fNil)) (fC (.int 1))) fNil)))))) (sEx 2) sNil)
  (sSeq (sNow 0 (apL (callX 2 C_exchanged) (fCons (fSo nowD 0) (fCons (fSh 1) fNil))))
  (sSeq (sAppM 0 (fSh 1))
  (sRetS (fMeth 0 C_So_left fNil)))))
noncomputable def g_So_exchange : So → List D → R2_ := gOf F_So_exchange 2
def F_So_undo : En → Out := (sSeq (sIf (tVal (ap2 dEq (fSo madeD 0) (apL dLst fNil))) (sEx 4) sNil)
  (sSeq (sPopM 0 1)
  (sSeq (sNow 0 (apL (callX 2 C_exchanged) (fCons (fSo nowD 0) (fCons (fSh 1) fNil))))
  (sRetS (fSh 1)))))
noncomputable def g_So_undo : So → List D → R2_ := gOf F_So_undo 2
def F_So_exchange_g : En → Out := (sSeq (sIf (tNt (tVal (apL (callX 3 C_is_int) (fCons (fSh 1) (fCons (fC (.int 1)) (fCons (ap2 dSub (apL dLen (fCons (fSo nowD 0) fNil)) (fC (.int 1))) fNil)))))) (sEx 2) sNil)
  (sSeq (sNow 0 (apL (callX 2 C_exchanged) (fCons (fSo nowD 0) (fCons (fSh 1) fNil))))
  (sSeq (sAppM 0 (fSh 1))
  (sRet (fMeth 0 C_So_left fNil)))))
def C_So_exchange_g : List GV → Rs D := cG 2 F_So_exchange_g
def F_So_undo_g : En → Out := (sSeq (sIf (tVal (ap2 dEq (fSo madeD 0) (apL dLst fNil))) (sEx 4) sNil)
  (sSeq (sPopM 0 1)
  (sSeq (sNow 0 (apL (callX 2 C_exchanged) (fCons (fSo nowD 0) (fCons (fSh 1) fNil))))
  (sRet (fSh 1)))))
def C_So_undo_g : List GV → Rs D := cG 2 F_So_undo_g
def F__law_call : En → Out := (sSeq (sIf (tVal (ap2 dEq (fVar 0) (fC (.int 0)))) (sRet (apL (callX 1 C_shared_ranks) (fCons (fSh 1) fNil))) sNil)
  (sSeq (sIf (tVal (ap2 dEq (fVar 0) (fC (.int 1)))) (sRet (apL (callX 1 C_dense_ranks) (fCons (fSh 1) fNil))) sNil)
  (sSeq (sIf (tVal (ap2 dEq (fVar 0) (fC (.int 2)))) (sRet (apL (callX 1 C_first_ranks) (fCons (fSh 1) fNil))) sNil)
  (sSeq (sIf (tVal (ap2 dEq (fVar 0) (fC (.int 3)))) (sRet (apL (callX 1 C_tie_groups) (fCons (fSh 1) fNil))) sNil)
  (sSeq (sIf (tVal (ap2 dEq (fVar 0) (fC (.int 4)))) (sRet (apL (callX 1 C_format_scores) (fCons (fSh 1) fNil))) sNil)
  (sSeq (sIf (tVal (ap2 dEq (fVar 0) (fC (.int 5)))) (sRet (apL (callX 2 C_pair_outcomes) (fCons (fSh 1) (fCons (fSh 2) fNil)))) sNil)
  (sSeq (sIf (tVal (ap2 dEq (fVar 0) (fC (.int 6)))) (sRet (apL (callX 2 C_plain_agreement) (fCons (fSh 1) (fCons (fSh 2) fNil)))) sNil)
  (sSeq (sIf (tVal (ap2 dEq (fVar 0) (fC (.int 7)))) (sRet (apL (callX 2 C_untied_agreement) (fCons (fSh 1) (fCons (fSh 2) fNil)))) sNil)
  (sSeq (sIf (tVal (ap2 dEq (fVar 0) (fC (.int 8)))) (sRet (apL (callX 1 C_ranking_of) (fCons (fSh 1) fNil))) sNil)
  (sSeq (sIf (tVal (ap2 dEq (fVar 0) (fC (.int 9)))) (sRet (apL (callX 1 C_order_with_table) (fCons (fSh 1) fNil))) sNil)
  (sSeq (sIf (tVal (ap2 dEq (fVar 0) (fC (.int 10)))) (sRet (apL (callX 2 C_after_neighbours) (fCons (apL dLst (fCons (fC (.int 2)) (fCons (fC (.int 1)) (fCons (fC (.int 3)) fNil)))) (fCons (fSh 1) fNil)))) sNil)
  (sSeq (sIf (tVal (ap2 dEq (fVar 0) (fC (.int 11)))) (sRet (apL (callX 2 C_after_exchanges) (fCons (apL dLst (fCons (fC (.int 2)) (fCons (fC (.int 1)) (fCons (fC (.int 3)) fNil)))) (fCons (fSh 1) fNil)))) sNil)
  (sSeq (sIf (tVal (ap2 dEq (fVar 0) (fC (.int 12)))) (sRet (apL (callX 2 C_without_thing) (fCons (apL dLst (fCons (fC (.int 2)) (fCons (fC (.int 1)) (fCons (fC (.int 3)) fNil)))) (fCons (fSh 1) fNil)))) sNil)
  (sSeq (sIf (tVal (ap2 dEq (fVar 0) (fC (.int 13)))) (sRet (apL (callX 2 C_near) (fCons (apL dLst (fCons (fC (.int 2)) (fCons (fC (.int 1)) (fCons (fC (.int 3)) fNil)))) (fCons (fSh 1) fNil)))) sNil)
  (sRet (fIf (tVal (ap2 dEq (fVar 0) (fC (.int 14)))) (fMeth 1 C_So_exchange_g (fCons (fSh 2) fNil)) (fMeth 1 C_So_undo_g fNil)))))))))))))))))
def C__law_call : List D → Rs D := callF 3 F__law_call
def F__law_call_g : En → Out := (sSeq (sIf (tVal (ap2 dEq (fVar 0) (fC (.int 0)))) (sRet (apL (callX 1 C_shared_ranks) (fCons (fSh 1) fNil))) sNil)
  (sSeq (sIf (tVal (ap2 dEq (fVar 0) (fC (.int 1)))) (sRet (apL (callX 1 C_dense_ranks) (fCons (fSh 1) fNil))) sNil)
  (sSeq (sIf (tVal (ap2 dEq (fVar 0) (fC (.int 2)))) (sRet (apL (callX 1 C_first_ranks) (fCons (fSh 1) fNil))) sNil)
  (sSeq (sIf (tVal (ap2 dEq (fVar 0) (fC (.int 3)))) (sRet (apL (callX 1 C_tie_groups) (fCons (fSh 1) fNil))) sNil)
  (sSeq (sIf (tVal (ap2 dEq (fVar 0) (fC (.int 4)))) (sRet (apL (callX 1 C_format_scores) (fCons (fSh 1) fNil))) sNil)
  (sSeq (sIf (tVal (ap2 dEq (fVar 0) (fC (.int 5)))) (sRet (apL (callX 2 C_pair_outcomes) (fCons (fSh 1) (fCons (fSh 2) fNil)))) sNil)
  (sSeq (sIf (tVal (ap2 dEq (fVar 0) (fC (.int 6)))) (sRet (apL (callX 2 C_plain_agreement) (fCons (fSh 1) (fCons (fSh 2) fNil)))) sNil)
  (sSeq (sIf (tVal (ap2 dEq (fVar 0) (fC (.int 7)))) (sRet (apL (callX 2 C_untied_agreement) (fCons (fSh 1) (fCons (fSh 2) fNil)))) sNil)
  (sSeq (sIf (tVal (ap2 dEq (fVar 0) (fC (.int 8)))) (sRet (apL (callX 1 C_ranking_of) (fCons (fSh 1) fNil))) sNil)
  (sSeq (sIf (tVal (ap2 dEq (fVar 0) (fC (.int 9)))) (sRet (apL (callX 1 C_order_with_table) (fCons (fSh 1) fNil))) sNil)
  (sSeq (sIf (tVal (ap2 dEq (fVar 0) (fC (.int 10)))) (sRet (apL (callX 2 C_after_neighbours) (fCons (apL dLst (fCons (fC (.int 2)) (fCons (fC (.int 1)) (fCons (fC (.int 3)) fNil)))) (fCons (fSh 1) fNil)))) sNil)
  (sSeq (sIf (tVal (ap2 dEq (fVar 0) (fC (.int 11)))) (sRet (apL (callX 2 C_after_exchanges) (fCons (apL dLst (fCons (fC (.int 2)) (fCons (fC (.int 1)) (fCons (fC (.int 3)) fNil)))) (fCons (fSh 1) fNil)))) sNil)
  (sSeq (sIf (tVal (ap2 dEq (fVar 0) (fC (.int 12)))) (sRet (apL (callX 2 C_without_thing) (fCons (apL dLst (fCons (fC (.int 2)) (fCons (fC (.int 1)) (fCons (fC (.int 3)) fNil)))) (fCons (fSh 1) fNil)))) sNil)
  (sSeq (sIf (tVal (ap2 dEq (fVar 0) (fC (.int 13)))) (sRet (apL (callX 2 C_near) (fCons (apL dLst (fCons (fC (.int 2)) (fCons (fC (.int 1)) (fCons (fC (.int 3)) fNil)))) (fCons (fSh 1) fNil)))) sNil)
  (sRet (fIf (tVal (ap2 dEq (fVar 0) (fC (.int 14)))) (fMeth 1 C_So_exchange_g (fCons (fSh 2) fNil)) (fMeth 1 C_So_undo_g fNil)))))))))))))))))
def C__law_call_g : List GV → Rs D := cG 3 F__law_call_g
def F__law_asked : En → Out := (sSeq (sSet 5 (fC .none))
  (sTryR 6 5 (sIf (tVal (ap2 dEq (fVar 0) (fC (.int 1)))) (sExp (apL (callX 3 C__law_call) (fCons (fSh 1) (fCons (fSh 2) (fCons (fSh 3) fNil))))) (sExp (apL (callX 4 C__law_number) (fCons (fSh 1) (fCons (fSh 2) (fCons (fSh 3) (fCons (fSh 4) fNil))))))) (fC (.str "done")) .ok))
def C__law_asked : List D → Rs D := callF 7 F__law_asked
def F__law_asked_g : En → Out := (sSeq (sSet 5 (fC .none))
  (sTryR 6 5 (sIf (tVal (ap2 dEq (fVar 0) (fC (.int 1)))) (sExp (fCallG C__law_call_g (gCons (gName_ 1) (gCons (gName_ 2) (gCons (gName_ 3) gNil))))) (sExp (apL (callX 4 C__law_number) (fCons (fSh 1) (fCons (fSh 2) (fCons (fSh 3) (fCons (fSh 4) fNil))))))) (fC (.str "done")) .ok))
def C__law_asked_g : List GV → Rs D := cG 7 F__law_asked_g
def F__law_numbers : En → Out := (sSeq (sFor (iLs (apL dLst (fCons (fC .none) (fCons (fC (.int 0)) (fCons (fC (.int 7)) (fCons (ap2 dSub (fC (.int 0)) (fC (.int 1))) (fCons (fC (.bool true)) (fCons (fC (.str "3")) fNil)))))))) (.nm 0) [0]
  (sIf (tOrr (tVal (ap2 dNe (fComp (apI dRng (fCons (fC (.int 8)) fNil)) (.nm 1) tTrue (apL (callX 5 C__law_asked) (fCons (fC (.int 2)) (fCons (fSh 1) (fCons (fSh 0) (fCons (fC .none) (fCons (fC .none) fNil)))))) [1]) (ap2 dMul (apL dLst (fCons (fC (.str "number")) fNil)) (fC (.int 8))))) (tVal (ap2 dNe (fComp (apI dRng (fCons (fC (.int 8)) fNil)) (.nm 1) tTrue (apL (callX 5 C__law_asked) (fCons (fC (.int 2)) (fCons (fSh 1) (fCons (fSh 0) (fCons (fC (.int 1)) (fCons (fC (.int 2)) fNil)))))) [1]) (ap2 dMul (apL dLst (fCons (fC (.str "number")) fNil)) (fC (.int 8)))))) (sRet (fC (.bool false))) sNil))
  (sSeq (sFor (iLs (apL dLst (fCons (fC .none) (fCons (fC (.int 51)) (fCons (ap2 dSub (fC (.int 0)) (fC (.int 1))) (fCons (fC (.bool true)) (fCons (fC (.str "3")) fNil))))))) (.nm 0) [0]
  (sIf (tOrr (tVal (ap2 dNe (fComp (apI dRng (fCons (fC (.int 2)) (fCons (fC (.int 8)) fNil))) (.nm 1) tTrue (apL (callX 5 C__law_asked) (fCons (fC (.int 2)) (fCons (fSh 1) (fCons (fC (.int 3)) (fCons (fSh 0) (fCons (fC .none) fNil)))))) [1]) (ap2 dMul (apL dLst (fCons (fC (.str "number")) fNil)) (fC (.int 6))))) (tVal (ap2 dNe (fComp (apI dRng (fCons (fC (.int 2)) (fCons (fC (.int 8)) fNil))) (.nm 1) tTrue (apL (callX 5 C__law_asked) (fCons (fC (.int 2)) (fCons (fSh 1) (fCons (fC (.int 3)) (fCons (fSh 0) (fCons (fC (.int 2)) fNil)))))) [1]) (ap2 dMul (apL dLst (fCons (fC (.str "number")) fNil)) (fC (.int 6)))))) (sRet (fC (.bool false))) sNil))
  (sSeq (sFor (iLs (apL dLst (fCons (fC .none) (fCons (fC (.int 501)) (fCons (ap2 dSub (fC (.int 0)) (fC (.int 1))) (fCons (fC (.bool true)) (fCons (fC (.str "3")) fNil))))))) (.nm 0) [0]
  (sIf (tVal (ap2 dNe (fComp (apI dRng (fCons (fC (.int 4)) (fCons (fC (.int 8)) fNil))) (.nm 1) tTrue (apL (callX 5 C__law_asked) (fCons (fC (.int 2)) (fCons (fSh 1) (fCons (fC (.int 3)) (fCons (fC (.int 1)) (fCons (fSh 0) fNil)))))) [1]) (ap2 dMul (apL dLst (fCons (fC (.str "number")) fNil)) (fC (.int 4))))) (sRet (fC (.bool false))) sNil))
  (sSeq (sIf (tOrr (tVal (ap2 dNe (fComp (apI dRng (fCons (fC (.int 2)) (fCons (fC (.int 8)) fNil))) (.nm 1) tTrue (apL (callX 5 C__law_asked) (fCons (fC (.int 2)) (fCons (fSh 1) (fCons (fC (.int 3)) (fCons (fC (.int 50)) (fCons (fC (.int 500)) fNil)))))) [1]) (ap2 dAdd (ap2 dMul (apL dLst (fCons (fC (.str "done")) fNil)) (fC (.int 4))) (apL dLst (fCons (fC (.str "none")) (fCons (fC (.str "number")) fNil)))))) (tVal (ap2 dNe (fComp (apI dRng (fCons (fC (.int 2)) (fCons (fC (.int 8)) fNil))) (.nm 1) tTrue (apL (callX 5 C__law_asked) (fCons (fC (.int 2)) (fCons (fSh 1) (fCons (fC (.int 3)) (fCons (fC (.int 1)) (fCons (fC (.int 2)) fNil)))))) [1]) (ap2 dMul (apL dLst (fCons (fC (.str "done")) fNil)) (fC (.int 6)))))) (sRet (fC (.bool false))) sNil)
  (sSeq (sIf (tVal (ap2 dNe (fComp (iTp (apL dTup (fCons (fC .none) (fCons (fC (.int 0)) (fCons (fC (.int 8)) (fCons (fC (.bool true)) (fCons (fC (.int 7)) (fCons (fC (.int 1)) fNil)))))))) (.nm 2) tTrue (apL (callX 5 C__law_asked) (fCons (fC (.int 2)) (fCons (fC (.int 8)) (fCons (fSh 2) (fCons (fC (.int 0)) (fCons (fC (.int 0)) fNil)))))) [2]) (ap2 dAdd (ap2 dMul (apL dLst (fCons (fC (.str "number")) fNil)) (fC (.int 4))) (ap2 dMul (apL dLst (fCons (fC (.str "done")) fNil)) (fC (.int 2)))))) (sRet (fC (.bool false))) sNil)
  (sSeq (sIf (tOrr (tVal (ap2 dNe (fComp (iTp (apL dTup (fCons (fC .none) (fCons (fC (.int 6)) (fCons (ap2 dSub (fC (.int 0)) (fC (.int 1))) (fCons (fC (.bool true)) (fCons (fC (.int 5)) fNil))))))) (.nm 3) tTrue (apL (callX 5 C__law_asked) (fCons (fC (.int 2)) (fCons (fC (.int 8)) (fCons (fC (.int 3)) (fCons (fSh 3) (fCons (fC (.int 0)) fNil)))))) [3]) (ap2 dAdd (ap2 dMul (apL dLst (fCons (fC (.str "number")) fNil)) (fC (.int 4))) (apL dLst (fCons (fC (.str "done")) fNil))))) (tVal (ap2 dNe (apL (callX 5 C__law_asked) (fCons (fC (.int 2)) (fCons (fC (.int 8)) (fCons (fC (.int 7)) (fCons (fC (.int 5040)) (fCons (fC (.int 0)) fNil)))))) (fC (.str "number"))))) (sRet (fC (.bool false))) sNil)
  (sSeq (sIf (tVal (ap2 dNe (fComp (iTp (apL dTup (fCons (fC .none) (fCons (fC (.int 0)) (fCons (fC (.int 21)) (fCons (fC (.bool true)) (fCons (fC (.int 20)) fNil))))))) (.nm 2) tTrue (apL (callX 5 C__law_asked) (fCons (fC (.int 2)) (fCons (fC (.int 9)) (fCons (fSh 2) (fCons (fC (.int 3)) (fCons (fC (.int 0)) fNil)))))) [2]) (ap2 dAdd (ap2 dMul (apL dLst (fCons (fC (.str "number")) fNil)) (fC (.int 4))) (apL dLst (fCons (fC (.str "done")) fNil))))) (sRet (fC (.bool false))) sNil)
  (sRet (ap2 dEq (fComp (iTp (apL dTup (fCons (fC .none) (fCons (fC (.int 201)) (fCons (ap2 dSub (fC (.int 0)) (fC (.int 1))) (fCons (fC (.bool true)) (fCons (fC (.int 200)) (fCons (fC (.int 0)) fNil)))))))) (.nm 4) tTrue (apL (callX 5 C__law_asked) (fCons (fC (.int 2)) (fCons (fC (.int 9)) (fCons (fC (.int 3)) (fCons (fSh 4) (fCons (fC (.int 0)) fNil)))))) [4]) (ap2 dAdd (ap2 dMul (apL dLst (fCons (fC (.str "number")) fNil)) (fC (.int 4))) (ap2 dMul (apL dLst (fCons (fC (.str "done")) fNil)) (fC (.int 2)))))))))))))
def C__law_numbers : List D → Rs D := callF 5 F__law_numbers
def F_So_ranking : En → Out := (sRet (apL dList (fCons (fSo nowD 0) fNil)))
def C_So_ranking : List GV → Rs D := cGF 1 F_So_ranking
def F_So_useful : En → Out := (sSeq (sOwn 1 (apL dLst fNil))
  (sSeq (sFor (apI dRng (fCons (fC (.int 1)) (fCons (apL dLen (fCons (fSo nowD 0) fNil)) fNil))) (.nm 2) [2]
  (sIf (tVal (ap2 dLt (apL dLen (fCons (apL (callX 2 C_against) (fCons (apL (callX 2 C_exchanged) (fCons (fSo nowD 0) (fCons (fSh 2) fNil))) (fCons (fSo goalD 0) fNil))) fNil)) (fMeth 0 C_So_left fNil))) (sApp 1 (fSh 2)) sNil))
  (sRetO 1)))
def C_So_useful : List GV → Rs D := cGF 3 F_So_useful
noncomputable def F__law_sorter : En → Out := (sSeq (sNewS 0 (fNew C_check_both (apL dLst (fCons (fC (.int 2)) (fCons (fC (.int 1)) (fCons (fC (.int 3)) fNil)))) (apL dLst (fCons (fC (.int 1)) (fCons (fC (.int 2)) (fCons (fC (.int 3)) fNil))))))
  (sSeq (sFor (iLs (apL dLst (fCons (fC .none) (fCons (fC (.int 0)) (fCons (fC (.int 3)) (fCons (ap2 dSub (fC (.int 0)) (fC (.int 1))) (fCons (fC (.bool true)) (fCons (fC (.str "1")) fNil)))))))) (.nm 1) [1]
  (sIf (tVal (ap2 dNe (fCallG C__law_asked_g (gCons (gDat (fC (.int 1))) (gCons (gDat (fC (.int 14))) (gCons (gName_ 0) (gCons (gName_ 1) (gCons (gDat (fC (.int 0))) gNil)))))) (fC (.str "number")))) (sRet (fC (.bool false))) sNil))
  (sSeq (sIf (tOrr (tVal (ap2 dNe (fCallG C__law_asked_g (gCons (gDat (fC (.int 1))) (gCons (gDat (fC (.int 15))) (gCons (gName_ 0) (gCons (gDat (fC (.int 0))) (gCons (gDat (fC (.int 0))) gNil)))))) (fC (.str "none")))) (tOrr (tVal (ap2 dNe (fMethF 0 C_So_ranking) (apL dLst (fCons (fC (.int 2)) (fCons (fC (.int 1)) (fCons (fC (.int 3)) fNil)))))) (tOrr (tVal (ap2 dNe (fMeth 0 C_So_left fNil) (fC (.int 1)))) (tVal (ap2 dNe (fLenO 0 C_So___len__) (fC (.int 0))))))) (sRet (fC (.bool false))) sNil)
  (sRetX (xAnd (xOp dEq (xMet 0 g_So_exchange (fCons (fC (.int 1)) fNil)) (fC (.int 0))) (xAnd (xLift (ap2 dEq (fMethF 0 C_So_useful) (apL dLst fNil))) (xAnd (xOp dEq (xMet 0 g_So_undo fNil) (fC (.int 1))) (xAnd (xLift (ap2 dEq (fMethF 0 C_So_useful) (apL dLst (fCons (fC (.int 1)) fNil)))) (xLift (ap2 dEq (fCallG C__law_asked_g (gCons (gDat (fC (.int 1))) (gCons (gDat (fC (.int 14))) (gCons (gNew (fNew C_check_both (apL dLst (fCons (fC (.int 1)) fNil)) (apL dLst (fCons (fC (.int 1)) fNil)))) (gCons (gDat (fC (.int 1))) (gCons (gDat (fC (.int 0))) gNil)))))) (fC (.str "number"))))))))))))
noncomputable def C__law_sorter : List D → Rs D := callF 2 F__law_sorter
def W_law : WS := (wSeq (wSet 2 (wApL dLst (wCons (wDraw 1 (lf (fC (.int 100)))) (wCons (lf (fC (.int 5))) wNil))))
  (wSeq (ls (sFor (iLs (apL dLst (fCons (fC .none) (fCons (fC (.int 5)) (fCons (apL dTup fNil) (fCons (apL dLst fNil) (fCons (apL dTup (fCons (fC (.int 1)) (fCons (fC (.int 2)) fNil))) (fCons (apL dLst (fCons (fC (.int 100)) fNil)) (fCons (apL dLst (fCons (ap2 dSub (fC (.int 0)) (fC (.int 1))) fNil)) (fCons (apL dLst (fCons (fC (.bool true)) fNil)) (fCons (apL dLst (fCons (fC (.str "1")) fNil)) (fCons (ap2 dMul (apL dLst (fCons (fC (.int 0)) fNil)) (fC (.int 11))) (fCons (apL dLst (fCons (fC .none) fNil)) fNil))))))))))))) (.nm 3) [3]
  (sSeq (sIf (tOrr (tVal (ap2 dIsNotN (apL (callX 1 C_is_scores) (fCons (fSh 3) fNil)) (fC (.bool false)))) (tVal (ap2 dNe (fComp (apI dRng (fCons (fC (.int 8)) fNil)) (.nm 4) tTrue (apL (callX 5 C__law_asked) (fCons (fC (.int 1)) (fCons (fSh 4) (fCons (fSh 3) (fCons (fC .none) (fCons (fC (.int 0)) fNil)))))) [4]) (ap2 dMul (apL dLst (fCons (fC (.str "scores")) fNil)) (fC (.int 8)))))) (sRet (fC (.bool false))) sNil)
  (sIf (tVal (ap2 dNe (fComp (iTp (apL dTup (fCons (fC (.int 5)) (fCons (fC (.int 6)) (fCons (fC (.int 7)) fNil))))) (.nm 4) tTrue (apL (callX 5 C__law_asked) (fCons (fC (.int 1)) (fCons (fSh 4) (fCons (fSh 2) (fCons (fSh 3) (fCons (fC (.int 0)) fNil)))))) [4]) (ap2 dMul (apL dLst (fCons (fC (.str "scores")) fNil)) (fC (.int 3))))) (sRet (fC (.bool false))) sNil))))
  (wSeq (ls (sIf (tOrr (tVal (ap2 dNe (fComp (iTp (apL dTup (fCons (fC (.int 5)) (fCons (fC (.int 6)) (fCons (fC (.int 7)) fNil))))) (.nm 4) tTrue (apL (callX 5 C__law_asked) (fCons (fC (.int 1)) (fCons (fSh 4) (fCons (fSh 2) (fCons (apL dLst (fCons (fC (.int 1)) (fCons (fC (.int 2)) (fCons (fC (.int 3)) fNil)))) (fCons (fC (.int 0)) fNil)))))) [4]) (ap2 dMul (apL dLst (fCons (fC (.str "scores")) fNil)) (fC (.int 3))))) (tVal (ap2 dIsNotN (apL (callX 1 C_is_scores) (fCons (ap2 dMul (apL dLst (fCons (fC (.int 99)) fNil)) (fC (.int 10))) fNil)) (fC (.bool true))))) (sRet (fC (.bool false))) sNil))
  (wSeq (ls (sIf (tOrr (tVal (ap2 dNe (fComp (iTp (apL dTup (fCons (fC (.int 5)) (fCons (fC (.int 6)) (fCons (fC (.int 7)) fNil))))) (.nm 4) tTrue (apL (callX 5 C__law_asked) (fCons (fC (.int 1)) (fCons (fSh 4) (fCons (apL dLst (fCons (fC (.int 7)) fNil)) (fCons (apL dLst (fCons (fC (.int 7)) fNil)) (fCons (fC (.int 0)) fNil)))))) [4]) (apL dLst (fCons (fC (.str "done")) (fCons (fC (.str "none")) (fCons (fC (.str "none")) fNil)))))) (tVal (ap2 dNe (apL (callX 5 C__law_asked) (fCons (fC (.int 1)) (fCons (fC (.int 7)) (fCons (apL dLst (fCons (fC (.int 1)) (fCons (fC (.int 1)) fNil))) (fCons (apL dLst (fCons (fC (.int 1)) (fCons (fC (.int 2)) fNil))) (fCons (fC (.int 0)) fNil)))))) (fC (.str "none"))))) (sRet (fC (.bool false))) sNil))
  (wSeq (ls (sFor (iLs (apL dLst (fCons (fC .none) (fCons (fC (.int 5)) (fCons (apL dTup (fCons (fC (.int 0)) fNil)) (fCons (apL dLst fNil) (fCons (apL dLst (fCons (fC (.int 1)) fNil)) (fCons (apL dLst (fCons (fC (.int 0)) (fCons (fC (.int 0)) fNil))) (fCons (apL dLst (fCons (fC (.int 0)) (fCons (fC (.int 2)) fNil))) (fCons (apL dLst (fCons (fC (.bool true)) (fCons (fC (.int 0)) fNil))) (fCons (apL dLst (fCons (fC (.str "0")) fNil)) (fCons (apL dLst (fCons (fC (.int 0)) (fCons (fC (.int 1)) (fCons (fC (.int 2)) (fCons (fC (.int 3)) (fCons (fC (.int 4)) (fCons (fC (.int 5)) (fCons (fC (.int 6)) (fCons (fC (.int 7)) fNil))))))))) fNil)))))))))))) (.nm 3) [3]
  (sIf (tVal (ap2 dNe (apL (callX 5 C__law_asked) (fCons (fC (.int 1)) (fCons (fC (.int 8)) (fCons (fSh 3) (fCons (fC (.int 0)) (fCons (fC (.int 0)) fNil)))))) (fC (.str "ranking")))) (sRet (fC (.bool false))) sNil)))
  (wSeq (ls (sFor (iLs (apL dLst (fCons (fC .none) (fCons (fC (.int 5)) (fCons (apL dTup (fCons (fC (.int 0)) fNil)) (fCons (apL dLst fNil) (fCons (apL dLst (fCons (fC (.int 1)) fNil)) (fCons (apL dLst (fCons (ap2 dSub (fC (.int 0)) (fC (.int 1))) fNil)) (fCons (apL dLst (fCons (fC (.int 2)) (fCons (fC (.int 0)) fNil))) (fCons (apL dLst (fCons (fC (.int 0)) (fCons (fC (.int 1)) fNil))) (fCons (apL dLst (fCons (fC (.bool true)) (fCons (fC (.int 0)) fNil))) (fCons (ap2 dMul (apL dLst (fCons (fC (.int 0)) fNil)) (fC (.int 8))) (fCons (apL dLst (fCons (fC .none) fNil)) fNil))))))))))))) (.nm 3) [3]
  (sIf (tVal (ap2 dNe (apL (callX 5 C__law_asked) (fCons (fC (.int 1)) (fCons (fC (.int 9)) (fCons (fSh 3) (fCons (fC (.int 0)) (fCons (fC (.int 0)) fNil)))))) (fC (.str "number")))) (sRet (fC (.bool false))) sNil)))
  (wSeq (ls (sIf (tOrr (tVal (ap2 dNe (apL (callX 1 C_order_with_table) (fCons (ap2 dMul (apL dLst (fCons (fC (.int 0)) fNil)) (fC (.int 7))) fNil)) (apL dLst (fCons (fC (.int 1)) (fCons (fC (.int 2)) (fCons (fC (.int 3)) (fCons (fC (.int 4)) (fCons (fC (.int 5)) (fCons (fC (.int 6)) (fCons (fC (.int 7)) fNil)))))))))) (tVal (ap2 dNe (apL (callX 5 C__law_asked) (fCons (fC (.int 1)) (fCons (fC (.int 9)) (fCons (apL dLst (fCons (fC (.int 6)) (fCons (fC (.int 5)) (fCons (fC (.int 4)) (fCons (fC (.int 3)) (fCons (fC (.int 2)) (fCons (fC (.int 1)) (fCons (fC (.int 0)) fNil)))))))) (fCons (fC (.int 0)) (fCons (fC (.int 0)) fNil)))))) (fC (.str "done"))))) (sRet (fC (.bool false))) sNil))
  (wSeq (ls (sFor (iLs (apL dLst (fCons (fC .none) (fCons (fC (.int 5)) (fCons (apL dTup (fCons (fC (.int 1)) fNil)) (fCons (apL dLst (fCons (fC (.int 0)) fNil)) (fCons (apL dLst (fCons (fC (.int 3)) fNil)) (fCons (apL dLst (fCons (fC (.bool true)) fNil)) (fCons (apL dLst (fCons (fC (.int 1)) (fCons (fC .none) fNil))) fNil))))))))) (.nm 3) [3]
  (sIf (tVal (ap2 dNe (apL (callX 5 C__law_asked) (fCons (fC (.int 1)) (fCons (fC (.int 10)) (fCons (fSh 3) (fCons (fC (.int 0)) (fCons (fC (.int 0)) fNil)))))) (fC (.str "number")))) (sRet (fC (.bool false))) sNil)))
  (wSeq (ls (sFor (iLs (apL dLst (fCons (fC .none) (fCons (fC (.int 5)) (fCons (apL dTup (fCons (apL dTup (fCons (fC (.int 0)) (fCons (fC (.int 1)) fNil))) fNil)) (fCons (apL dLst (fCons (fC (.int 0)) fNil)) (fCons (apL dLst (fCons (apL dTup (fCons (fC (.int 0)) fNil)) fNil)) (fCons (apL dLst (fCons (apL dTup (fCons (fC (.int 0)) (fCons (fC (.int 3)) fNil))) fNil)) (fCons (apL dLst (fCons (apL dTup (fCons (ap2 dSub (fC (.int 0)) (fC (.int 1))) (fCons (fC (.int 0)) fNil))) fNil)) (fCons (apL dLst (fCons (apL dLst (fCons (fC (.int 0)) (fCons (fC (.int 1)) fNil))) fNil)) (fCons (apL dLst (fCons (apL dTup (fCons (fC (.bool true)) (fCons (fC (.int 0)) fNil))) fNil)) (fCons (apL dLst (fCons (apL dTup (fCons (fC (.int 0)) (fCons (fC (.int 1)) (fCons (fC (.int 2)) fNil)))) fNil)) fNil)))))))))))) (.nm 3) [3]
  (sIf (tVal (ap2 dNe (apL (callX 5 C__law_asked) (fCons (fC (.int 1)) (fCons (fC (.int 11)) (fCons (fSh 3) (fCons (fC (.int 0)) (fCons (fC (.int 0)) fNil)))))) (fC (.str "number")))) (sRet (fC (.bool false))) sNil)))
  (wSeq (ls (sIf (tVal (ap2 dNe (fComp (iTp (apL dTup (fCons (fC .none) (fCons (fC (.int 3)) (fCons (ap2 dSub (fC (.int 0)) (fC (.int 1))) (fCons (fC (.bool true)) (fCons (fC (.str "0")) (fCons (fC (.int 2)) fNil)))))))) (.nm 3) tTrue (apL (callX 5 C__law_asked) (fCons (fC (.int 1)) (fCons (fC (.int 12)) (fCons (fSh 3) (fCons (fC (.int 0)) (fCons (fC (.int 0)) fNil)))))) [3]) (ap2 dAdd (ap2 dMul (apL dLst (fCons (fC (.str "number")) fNil)) (fC (.int 5))) (apL dLst (fCons (fC (.str "done")) fNil))))) (sRet (fC (.bool false))) sNil))
  (ls (sRet (fAnd (ap2 dEq (fComp (iTp (apL dTup (fCons (fC .none) (fCons (fC (.int 51)) (fCons (ap2 dSub (fC (.int 0)) (fC (.int 1))) (fCons (fC (.bool true)) (fCons (fC (.int 50)) fNil))))))) (.nm 3) tTrue (apL (callX 5 C__law_asked) (fCons (fC (.int 1)) (fCons (fC (.int 13)) (fCons (fSh 3) (fCons (fC (.int 0)) (fCons (fC (.int 0)) fNil)))))) [3]) (ap2 dAdd (ap2 dMul (apL dLst (fCons (fC (.str "number")) fNil)) (fC (.int 4))) (apL dLst (fCons (fC (.str "done")) fNil)))) (fAnd (apL (callX 0 C__law_numbers) fNil) (apL (callX 0 C__law_sorter) fNil)))))))))))))))
/- the law: slots [(0, 'script'), (1, 'draws'), (2, 'scores'), (3, 'bad'), (4, 'k')]; draws 1 -/
end K17

namespace K17
open PySem L2 DL AG
variable [sc : SC]
def topS (i : Nat) : Stmt := PySem.Challenge.pw_agreeranks_k17_more_errors.main.body.getD i (.Pass ⟨0, 0, 0, 0⟩)
abbrev s__law_start : Stmt := topS 63
abbrev N__law_start : List Str := ["script"]
abbrev P__law_start : List Str := ["script"]
theorem sc__law_start : FnScope N__law_start P__law_start (defScope s__law_start) := ⟨by decide +kernel, by decide +kernel, by decide +kernel, by decide +kernel, rfl, by decide +kernel, by decide +kernel⟩
theorem bi__law_start : BindsB "_law_start" s__law_start P__law_start := fun _ _ _ _ _ _ us hl => match us, hl with | [_], _ => rfl
abbrev s__law_draw : Stmt := topS 64
abbrev N__law_draw : List Str := ["draws", "limit", "numbers", "at", "cell", "mixed"]
abbrev P__law_draw : List Str := ["draws", "limit"]
theorem sc__law_draw : FnScope N__law_draw P__law_draw (defScope s__law_draw) := ⟨by decide +kernel, by decide +kernel, by decide +kernel, by decide +kernel, rfl, by decide +kernel, by decide +kernel⟩
theorem bi__law_draw : BindsB "_law_draw" s__law_draw P__law_draw := fun _ _ _ _ _ _ us hl => match us, hl with | [_, _], _ => rfl
abbrev s__law_error : Stmt := topS 65
abbrev N__law_error : List Str := ["caught", "kinds"]
abbrev P__law_error : List Str := ["caught"]
theorem sc__law_error : FnScope N__law_error P__law_error (defScope s__law_error) := ⟨by decide +kernel, by decide +kernel, by decide +kernel, by decide +kernel, rfl, by decide +kernel, by decide +kernel⟩
theorem bi__law_error : BindsB "_law_error" s__law_error P__law_error := fun _ _ _ _ _ _ us hl => match us, hl with | [_], _ => rfl
abbrev s_So___len__ : Stmt := inClass (topS 58) 6
abbrev N_So___len__ : List Str := ["self"]
abbrev P_So___len__ : List Str := ["self"]
theorem sc_So___len__ : FnScope N_So___len__ P_So___len__ (defScope s_So___len__) := ⟨by decide +kernel, by decide +kernel, by decide +kernel, by decide +kernel, rfl, by decide +kernel, by decide +kernel⟩
theorem bi_So___len__ : BindsM "__len__" "Sorter.__len__" s_So___len__ P_So___len__ := fun _ _ _ _ _ _ us hl => match us, hl with | [_], _ => rfl
abbrev s_is_int : Stmt := topS 9
abbrev N_is_int : List Str := ["value", "low", "high"]
abbrev P_is_int : List Str := ["value", "low", "high"]
theorem sc_is_int : FnScope N_is_int P_is_int (defScope s_is_int) := ⟨by decide +kernel, by decide +kernel, by decide +kernel, by decide +kernel, rfl, by decide +kernel, by decide +kernel⟩
theorem bi_is_int : BindsB "is_int" s_is_int P_is_int := fun _ _ _ _ _ _ us hl => match us, hl with | [_, _, _], _ => rfl
abbrev s_is_ranking : Stmt := topS 10
abbrev N_is_ranking : List Str := ["value", "rank"]
abbrev P_is_ranking : List Str := ["value"]
theorem sc_is_ranking : FnScope N_is_ranking P_is_ranking (defScope s_is_ranking) := ⟨by decide +kernel, by decide +kernel, by decide +kernel, by decide +kernel, rfl, by decide +kernel, by decide +kernel⟩
theorem bi_is_ranking : BindsB "is_ranking" s_is_ranking P_is_ranking := fun _ _ _ _ _ _ us hl => match us, hl with | [_], _ => rfl
abbrev s_check_ranking : Stmt := topS 11
abbrev N_check_ranking : List Str := ["value"]
abbrev P_check_ranking : List Str := ["value"]
theorem sc_check_ranking : FnScope N_check_ranking P_check_ranking (defScope s_check_ranking) := ⟨by decide +kernel, by decide +kernel, by decide +kernel, by decide +kernel, rfl, by decide +kernel, by decide +kernel⟩
theorem bi_check_ranking : BindsB "check_ranking" s_check_ranking P_check_ranking := fun _ _ _ _ _ _ us hl => match us, hl with | [_], _ => rfl
abbrev s_check_both : Stmt := topS 12
abbrev N_check_both : List Str := ["one", "other"]
abbrev P_check_both : List Str := ["one", "other"]
theorem sc_check_both : FnScope N_check_both P_check_both (defScope s_check_both) := ⟨by decide +kernel, by decide +kernel, by decide +kernel, by decide +kernel, rfl, by decide +kernel, by decide +kernel⟩
theorem bi_check_both : BindsB "check_both" s_check_both P_check_both := fun _ _ _ _ _ _ us hl => match us, hl with | [_, _], _ => rfl
abbrev s_is_scores : Stmt := topS 13
abbrev N_is_scores : List Str := ["value", "score"]
abbrev P_is_scores : List Str := ["value"]
theorem sc_is_scores : FnScope N_is_scores P_is_scores (defScope s_is_scores) := ⟨by decide +kernel, by decide +kernel, by decide +kernel, by decide +kernel, rfl, by decide +kernel, by decide +kernel⟩
theorem bi_is_scores : BindsB "is_scores" s_is_scores P_is_scores := fun _ _ _ _ _ _ us hl => match us, hl with | [_], _ => rfl
abbrev s_check_scores : Stmt := topS 14
abbrev N_check_scores : List Str := ["value"]
abbrev P_check_scores : List Str := ["value"]
theorem sc_check_scores : FnScope N_check_scores P_check_scores (defScope s_check_scores) := ⟨by decide +kernel, by decide +kernel, by decide +kernel, by decide +kernel, rfl, by decide +kernel, by decide +kernel⟩
theorem bi_check_scores : BindsB "check_scores" s_check_scores P_check_scores := fun _ _ _ _ _ _ us hl => match us, hl with | [_], _ => rfl
abbrev s_check_size : Stmt := topS 15
abbrev N_check_size : List Str := ["value"]
abbrev P_check_size : List Str := ["value"]
theorem sc_check_size : FnScope N_check_size P_check_size (defScope s_check_size) := ⟨by decide +kernel, by decide +kernel, by decide +kernel, by decide +kernel, rfl, by decide +kernel, by decide +kernel⟩
theorem bi_check_size : BindsB "check_size" s_check_size P_check_size := fun _ _ _ _ _ _ us hl => match us, hl with | [_], _ => rfl
abbrev s_ranking_of : Stmt := topS 17
abbrev N_ranking_of : List Str := ["places", "place"]
abbrev P_ranking_of : List Str := ["places"]
theorem sc_ranking_of : FnScope N_ranking_of P_ranking_of (defScope s_ranking_of) := ⟨by decide +kernel, by decide +kernel, by decide +kernel, by decide +kernel, rfl, by decide +kernel, by decide +kernel⟩
theorem bi_ranking_of : BindsB "ranking_of" s_ranking_of P_ranking_of := fun _ _ _ _ _ _ us hl => match us, hl with | [_], _ => rfl
abbrev s_against : Stmt := topS 18
abbrev N_against : List Str := ["one", "other", "found", "k", "j"]
abbrev P_against : List Str := ["one", "other"]
theorem sc_against : FnScope N_against P_against (defScope s_against) := ⟨by decide +kernel, by decide +kernel, by decide +kernel, by decide +kernel, rfl, by decide +kernel, by decide +kernel⟩
theorem bi_against : BindsB "against" s_against P_against := fun _ _ _ _ _ _ us hl => match us, hl with | [_, _], _ => rfl
abbrev s_orders : Stmt := topS 19
abbrev N_orders : List Str := ["values", "found", "k", "value", "rest"]
abbrev P_orders : List Str := ["values"]
theorem sc_orders : FnScope N_orders P_orders (defScope s_orders) := ⟨by decide +kernel, by decide +kernel, by decide +kernel, by decide +kernel, rfl, by decide +kernel, by decide +kernel⟩
theorem bi_orders : BindsB "orders" s_orders P_orders := fun _ _ _ _ _ _ us hl => match us, hl with | [_], _ => rfl
abbrev s_all_rankings : Stmt := topS 20
abbrev N_all_rankings : List Str := ["size"]
abbrev P_all_rankings : List Str := ["size"]
theorem sc_all_rankings : FnScope N_all_rankings P_all_rankings (defScope s_all_rankings) := ⟨by decide +kernel, by decide +kernel, by decide +kernel, by decide +kernel, rfl, by decide +kernel, by decide +kernel⟩
theorem bi_all_rankings : BindsB "all_rankings" s_all_rankings P_all_rankings := fun _ _ _ _ _ _ us hl => match us, hl with | [_], _ => rfl
abbrev s_ranking_at : Stmt := topS 21
abbrev N_ranking_at : List Str := ["size", "number", "many", "k", "left", "found", "rank"]
abbrev P_ranking_at : List Str := ["size", "number"]
theorem sc_ranking_at : FnScope N_ranking_at P_ranking_at (defScope s_ranking_at) := ⟨by decide +kernel, by decide +kernel, by decide +kernel, by decide +kernel, rfl, by decide +kernel, by decide +kernel⟩
theorem bi_ranking_at : BindsB "ranking_at" s_ranking_at P_ranking_at := fun _ _ _ _ _ _ us hl => match us, hl with | [_, _], _ => rfl
abbrev s_common : Stmt := topS 23
abbrev N_common : List Str := ["one", "other"]
abbrev P_common : List Str := ["one", "other"]
theorem sc_common : FnScope N_common P_common (defScope s_common) := ⟨by decide +kernel, by decide +kernel, by decide +kernel, by decide +kernel, rfl, by decide +kernel, by decide +kernel⟩
theorem bi_common : BindsB "common" s_common P_common := fun _ _ _ _ _ _ us hl => match us, hl with | [_, _], _ => rfl
abbrev s_lowest : Stmt := topS 24
abbrev N_lowest : List Str := ["top", "below", "divisor"]
abbrev P_lowest : List Str := ["top", "below"]
theorem sc_lowest : FnScope N_lowest P_lowest (defScope s_lowest) := ⟨by decide +kernel, by decide +kernel, by decide +kernel, by decide +kernel, rfl, by decide +kernel, by decide +kernel⟩
theorem bi_lowest : BindsB "lowest" s_lowest P_lowest := fun _ _ _ _ _ _ us hl => match us, hl with | [_, _], _ => rfl
abbrev s_check_many : Stmt := topS 28
abbrev N_check_many : List Str := ["value"]
abbrev P_check_many : List Str := ["value"]
theorem sc_check_many : FnScope N_check_many P_check_many (defScope s_check_many) := ⟨by decide +kernel, by decide +kernel, by decide +kernel, by decide +kernel, rfl, by decide +kernel, by decide +kernel⟩
theorem bi_check_many : BindsB "check_many" s_check_many P_check_many := fun _ _ _ _ _ _ us hl => match us, hl with | [_], _ => rfl
abbrev s_squares_of : Stmt := topS 30
abbrev N_squares_of : List Str := ["order", "k", "rank"]
abbrev P_squares_of : List Str := ["order"]
theorem sc_squares_of : FnScope N_squares_of P_squares_of (defScope s_squares_of) := ⟨by decide +kernel, by decide +kernel, by decide +kernel, by decide +kernel, rfl, by decide +kernel, by decide +kernel⟩
theorem bi_squares_of : BindsB "squares_of" s_squares_of P_squares_of := fun _ _ _ _ _ _ us hl => match us, hl with | [_], _ => rfl
abbrev s_inversions : Stmt := topS 29
abbrev N_inversions : List Str := ["order", "found", "k", "rank", "other"]
abbrev P_inversions : List Str := ["order"]
theorem sc_inversions : FnScope N_inversions P_inversions (defScope s_inversions) := ⟨by decide +kernel, by decide +kernel, by decide +kernel, by decide +kernel, rfl, by decide +kernel, by decide +kernel⟩
theorem bi_inversions : BindsB "inversions" s_inversions P_inversions := fun _ _ _ _ _ _ us hl => match us, hl with | [_], _ => rfl
abbrev s_least_squares : Stmt := topS 26
abbrev N_least_squares : List Str := ["size", "many", "found", "order"]
abbrev P_least_squares : List Str := ["size", "many"]
theorem sc_least_squares : FnScope N_least_squares P_least_squares (defScope s_least_squares) := ⟨by decide +kernel, by decide +kernel, by decide +kernel, by decide +kernel, rfl, by decide +kernel, by decide +kernel⟩
theorem bi_least_squares : BindsB "least_squares" s_least_squares P_least_squares := fun _ _ _ _ _ _ us hl => match us, hl with | [_, _], _ => rfl
abbrev s_greatest_squares : Stmt := topS 27
abbrev N_greatest_squares : List Str := ["size", "many", "found", "order"]
abbrev P_greatest_squares : List Str := ["size", "many"]
theorem sc_greatest_squares : FnScope N_greatest_squares P_greatest_squares (defScope s_greatest_squares) := ⟨by decide +kernel, by decide +kernel, by decide +kernel, by decide +kernel, rfl, by decide +kernel, by decide +kernel⟩
theorem bi_greatest_squares : BindsB "greatest_squares" s_greatest_squares P_greatest_squares := fun _ _ _ _ _ _ us hl => match us, hl with | [_, _], _ => rfl
abbrev s_order_with_table : Stmt := topS 31
abbrev N_order_with_table : List Str := ["table", "left", "found", "many", "k"]
abbrev P_order_with_table : List Str := ["table"]
theorem sc_order_with_table : FnScope N_order_with_table P_order_with_table (defScope s_order_with_table) := ⟨by decide +kernel, by decide +kernel, by decide +kernel, by decide +kernel, rfl, by decide +kernel, by decide +kernel⟩
theorem bi_order_with_table : BindsB "order_with_table" s_order_with_table P_order_with_table := fun _ _ _ _ _ _ us hl => match us, hl with | [_], _ => rfl
abbrev s_after_neighbours : Stmt := topS 33
abbrev N_after_neighbours : List Str := ["ranking", "way", "found", "rank", "own"]
abbrev P_after_neighbours : List Str := ["ranking", "way"]
theorem sc_after_neighbours : FnScope N_after_neighbours P_after_neighbours (defScope s_after_neighbours) := ⟨by decide +kernel, by decide +kernel, by decide +kernel, by decide +kernel, rfl, by decide +kernel, by decide +kernel⟩
theorem bi_after_neighbours : BindsB "after_neighbours" s_after_neighbours P_after_neighbours := fun _ _ _ _ _ _ us hl => match us, hl with | [_, _], _ => rfl
abbrev s_after_exchanges : Stmt := topS 34
abbrev N_after_exchanges : List Str := ["ranking", "way", "found", "pair", "first", "last", "k"]
abbrev P_after_exchanges : List Str := ["ranking", "way"]
theorem sc_after_exchanges : FnScope N_after_exchanges P_after_exchanges (defScope s_after_exchanges) := ⟨by decide +kernel, by decide +kernel, by decide +kernel, by decide +kernel, rfl, by decide +kernel, by decide +kernel⟩
theorem bi_after_exchanges : BindsB "after_exchanges" s_after_exchanges P_after_exchanges := fun _ _ _ _ _ _ us hl => match us, hl with | [_, _], _ => rfl
abbrev s_check_small : Stmt := topS 36
abbrev N_check_small : List Str := ["one", "other"]
abbrev P_check_small : List Str := ["one", "other"]
theorem sc_check_small : FnScope N_check_small P_check_small (defScope s_check_small) := ⟨by decide +kernel, by decide +kernel, by decide +kernel, by decide +kernel, rfl, by decide +kernel, by decide +kernel⟩
theorem bi_check_small : BindsB "check_small" s_check_small P_check_small := fun _ _ _ _ _ _ us hl => match us, hl with | [_, _], _ => rfl
abbrev s_near : Stmt := topS 37
abbrev N_near : List Str := ["ranking", "many", "other"]
abbrev P_near : List Str := ["ranking", "many"]
theorem sc_near : FnScope N_near P_near (defScope s_near) := ⟨by decide +kernel, by decide +kernel, by decide +kernel, by decide +kernel, rfl, by decide +kernel, by decide +kernel⟩
theorem bi_near : BindsB "near" s_near P_near := fun _ _ _ _ _ _ us hl => match us, hl with | [_, _], _ => rfl
abbrev s_count_with : Stmt := topS 39
abbrev N_count_with : List Str := ["size", "many", "ways", "things", "longer", "k"]
abbrev P_count_with : List Str := ["size", "many"]
theorem sc_count_with : FnScope N_count_with P_count_with (defScope s_count_with) := ⟨by decide +kernel, by decide +kernel, by decide +kernel, by decide +kernel, rfl, by decide +kernel, by decide +kernel⟩
theorem bi_count_with : BindsB "count_with" s_count_with P_count_with := fun _ _ _ _ _ _ us hl => match us, hl with | [_, _], _ => rfl
abbrev s_value_table : Stmt := topS 40
abbrev N_value_table : List Str := ["size", "known", "order", "key"]
abbrev P_value_table : List Str := ["size"]
theorem sc_value_table : FnScope N_value_table P_value_table (defScope s_value_table) := ⟨by decide +kernel, by decide +kernel, by decide +kernel, by decide +kernel, rfl, by decide +kernel, by decide +kernel⟩
theorem bi_value_table : BindsB "value_table" s_value_table P_value_table := fun _ _ _ _ _ _ us hl => match us, hl with | [_], _ => rfl
abbrev s_orders_with : Stmt := topS 41
abbrev N_orders_with : List Str := ["size", "many", "squares", "order"]
abbrev P_orders_with : List Str := ["size", "many", "squares"]
theorem sc_orders_with : FnScope N_orders_with P_orders_with (defScope s_orders_with) := ⟨by decide +kernel, by decide +kernel, by decide +kernel, by decide +kernel, rfl, by decide +kernel, by decide +kernel⟩
theorem bi_orders_with : BindsB "orders_with" s_orders_with P_orders_with := fun _ _ _ _ _ _ us hl => match us, hl with | [_, _, _], _ => rfl
abbrev s_can_be : Stmt := topS 42
abbrev N_can_be : List Str := ["size", "many", "squares"]
abbrev P_can_be : List Str := ["size", "many", "squares"]
theorem sc_can_be : FnScope N_can_be P_can_be (defScope s_can_be) := ⟨by decide +kernel, by decide +kernel, by decide +kernel, by decide +kernel, rfl, by decide +kernel, by decide +kernel⟩
theorem bi_can_be : BindsB "can_be" s_can_be P_can_be := fun _ _ _ _ _ _ us hl => match us, hl with | [_, _, _], _ => rfl
abbrev s_first_with : Stmt := topS 43
abbrev N_first_with : List Str := ["size", "many", "squares", "found"]
abbrev P_first_with : List Str := ["size", "many", "squares"]
theorem sc_first_with : FnScope N_first_with P_first_with (defScope s_first_with) := ⟨by decide +kernel, by decide +kernel, by decide +kernel, by decide +kernel, rfl, by decide +kernel, by decide +kernel⟩
theorem bi_first_with : BindsB "first_with" s_first_with P_first_with := fun _ _ _ _ _ _ us hl => match us, hl with | [_, _, _], _ => rfl
abbrev s_order_at : Stmt := topS 44
abbrev N_order_at : List Str := ["size", "many", "squares", "rank", "found"]
abbrev P_order_at : List Str := ["size", "many", "squares", "rank"]
theorem sc_order_at : FnScope N_order_at P_order_at (defScope s_order_at) := ⟨by decide +kernel, by decide +kernel, by decide +kernel, by decide +kernel, rfl, by decide +kernel, by decide +kernel⟩
theorem bi_order_at : BindsB "order_at" s_order_at P_order_at := fun _ _ _ _ _ _ us hl => match us, hl with | [_, _, _, _], _ => rfl
abbrev s_check_same : Stmt := topS 46
abbrev N_check_same : List Str := ["one", "other"]
abbrev P_check_same : List Str := ["one", "other"]
theorem sc_check_same : FnScope N_check_same P_check_same (defScope s_check_same) := ⟨by decide +kernel, by decide +kernel, by decide +kernel, by decide +kernel, rfl, by decide +kernel, by decide +kernel⟩
theorem bi_check_same : BindsB "check_same" s_check_same P_check_same := fun _ _ _ _ _ _ us hl => match us, hl with | [_, _], _ => rfl
abbrev s_outcomes : Stmt := topS 47
abbrev N_outcomes : List Str := ["one", "other", "found", "k", "j", "first", "last"]
abbrev P_outcomes : List Str := ["one", "other"]
theorem sc_outcomes : FnScope N_outcomes P_outcomes (defScope s_outcomes) := ⟨by decide +kernel, by decide +kernel, by decide +kernel, by decide +kernel, rfl, by decide +kernel, by decide +kernel⟩
theorem bi_outcomes : BindsB "outcomes" s_outcomes P_outcomes := fun _ _ _ _ _ _ us hl => match us, hl with | [_, _], _ => rfl
abbrev s_pair_outcomes : Stmt := topS 48
abbrev N_pair_outcomes : List Str := ["one", "other"]
abbrev P_pair_outcomes : List Str := ["one", "other"]
theorem sc_pair_outcomes : FnScope N_pair_outcomes P_pair_outcomes (defScope s_pair_outcomes) := ⟨by decide +kernel, by decide +kernel, by decide +kernel, by decide +kernel, rfl, by decide +kernel, by decide +kernel⟩
theorem bi_pair_outcomes : BindsB "pair_outcomes" s_pair_outcomes P_pair_outcomes := fun _ _ _ _ _ _ us hl => match us, hl with | [_, _], _ => rfl
abbrev s_shared_ranks : Stmt := topS 49
abbrev N_shared_ranks : List Str := ["scores", "found", "score", "less", "one"]
abbrev P_shared_ranks : List Str := ["scores"]
theorem sc_shared_ranks : FnScope N_shared_ranks P_shared_ranks (defScope s_shared_ranks) := ⟨by decide +kernel, by decide +kernel, by decide +kernel, by decide +kernel, rfl, by decide +kernel, by decide +kernel⟩
theorem bi_shared_ranks : BindsB "shared_ranks" s_shared_ranks P_shared_ranks := fun _ _ _ _ _ _ us hl => match us, hl with | [_], _ => rfl
abbrev s_tie_groups : Stmt := topS 50
abbrev N_tie_groups : List Str := ["scores", "score"]
abbrev P_tie_groups : List Str := ["scores"]
theorem sc_tie_groups : FnScope N_tie_groups P_tie_groups (defScope s_tie_groups) := ⟨by decide +kernel, by decide +kernel, by decide +kernel, by decide +kernel, rfl, by decide +kernel, by decide +kernel⟩
theorem bi_tie_groups : BindsB "tie_groups" s_tie_groups P_tie_groups := fun _ _ _ _ _ _ us hl => match us, hl with | [_], _ => rfl
abbrev s_plain_agreement : Stmt := topS 51
abbrev N_plain_agreement : List Str := ["one", "other", "found"]
abbrev P_plain_agreement : List Str := ["one", "other"]
theorem sc_plain_agreement : FnScope N_plain_agreement P_plain_agreement (defScope s_plain_agreement) := ⟨by decide +kernel, by decide +kernel, by decide +kernel, by decide +kernel, rfl, by decide +kernel, by decide +kernel⟩
theorem bi_plain_agreement : BindsB "plain_agreement" s_plain_agreement P_plain_agreement := fun _ _ _ _ _ _ us hl => match us, hl with | [_, _], _ => rfl
abbrev s_untied_agreement : Stmt := topS 52
abbrev N_untied_agreement : List Str := ["one", "other", "found"]
abbrev P_untied_agreement : List Str := ["one", "other"]
theorem sc_untied_agreement : FnScope N_untied_agreement P_untied_agreement (defScope s_untied_agreement) := ⟨by decide +kernel, by decide +kernel, by decide +kernel, by decide +kernel, rfl, by decide +kernel, by decide +kernel⟩
theorem bi_untied_agreement : BindsB "untied_agreement" s_untied_agreement P_untied_agreement := fun _ _ _ _ _ _ us hl => match us, hl with | [_, _], _ => rfl
abbrev s_dense_ranks : Stmt := topS 53
abbrev N_dense_ranks : List Str := ["scores", "score", "one"]
abbrev P_dense_ranks : List Str := ["scores"]
theorem sc_dense_ranks : FnScope N_dense_ranks P_dense_ranks (defScope s_dense_ranks) := ⟨by decide +kernel, by decide +kernel, by decide +kernel, by decide +kernel, rfl, by decide +kernel, by decide +kernel⟩
theorem bi_dense_ranks : BindsB "dense_ranks" s_dense_ranks P_dense_ranks := fun _ _ _ _ _ _ us hl => match us, hl with | [_], _ => rfl
abbrev s_first_ranks : Stmt := topS 54
abbrev N_first_ranks : List Str := ["scores", "order", "k", "score"]
abbrev P_first_ranks : List Str := ["scores"]
theorem sc_first_ranks : FnScope N_first_ranks P_first_ranks (defScope s_first_ranks) := ⟨by decide +kernel, by decide +kernel, by decide +kernel, by decide +kernel, rfl, by decide +kernel, by decide +kernel⟩
theorem bi_first_ranks : BindsB "first_ranks" s_first_ranks P_first_ranks := fun _ _ _ _ _ _ us hl => match us, hl with | [_], _ => rfl
abbrev s_without_thing : Stmt := topS 56
abbrev N_without_thing : List Str := ["ranking", "place", "own", "rank"]
abbrev P_without_thing : List Str := ["ranking", "place"]
theorem sc_without_thing : FnScope N_without_thing P_without_thing (defScope s_without_thing) := ⟨by decide +kernel, by decide +kernel, by decide +kernel, by decide +kernel, rfl, by decide +kernel, by decide +kernel⟩
theorem bi_without_thing : BindsB "without_thing" s_without_thing P_without_thing := fun _ _ _ _ _ _ us hl => match us, hl with | [_, _], _ => rfl
abbrev s_exchanged : Stmt := topS 59
abbrev N_exchanged : List Str := ["ranking", "rank", "own"]
abbrev P_exchanged : List Str := ["ranking", "rank"]
theorem sc_exchanged : FnScope N_exchanged P_exchanged (defScope s_exchanged) := ⟨by decide +kernel, by decide +kernel, by decide +kernel, by decide +kernel, rfl, by decide +kernel, by decide +kernel⟩
theorem bi_exchanged : BindsB "exchanged" s_exchanged P_exchanged := fun _ _ _ _ _ _ us hl => match us, hl with | [_, _], _ => rfl
abbrev s_format_scores : Stmt := topS 61
abbrev N_format_scores : List Str := ["scores", "score"]
abbrev P_format_scores : List Str := ["scores"]
theorem sc_format_scores : FnScope N_format_scores P_format_scores (defScope s_format_scores) := ⟨by decide +kernel, by decide +kernel, by decide +kernel, by decide +kernel, rfl, by decide +kernel, by decide +kernel⟩
theorem bi_format_scores : BindsB "format_scores" s_format_scores P_format_scores := fun _ _ _ _ _ _ us hl => match us, hl with | [_], _ => rfl
abbrev s_So_left : Stmt := inClass (topS 58) 3
abbrev N_So_left : List Str := ["self"]
abbrev P_So_left : List Str := ["self"]
theorem sc_So_left : FnScope N_So_left P_So_left (defScope s_So_left) := ⟨by decide +kernel, by decide +kernel, by decide +kernel, by decide +kernel, rfl, by decide +kernel, by decide +kernel⟩
theorem bi_So_left : BindsM "left" "Sorter.left" s_So_left P_So_left := fun _ _ _ _ _ _ us hl => match us, hl with | [_], _ => rfl
abbrev s_So_exchange : Stmt := inClass (topS 58) 1
abbrev N_So_exchange : List Str := ["self", "rank"]
abbrev P_So_exchange : List Str := ["self", "rank"]
theorem sc_So_exchange : FnScope N_So_exchange P_So_exchange (defScope s_So_exchange) := ⟨by decide +kernel, by decide +kernel, by decide +kernel, by decide +kernel, rfl, by decide +kernel, by decide +kernel⟩
theorem bi_So_exchange : BindsM "exchange" "Sorter.exchange" s_So_exchange P_So_exchange := fun _ _ _ _ _ _ us hl => match us, hl with | [_, _], _ => rfl
abbrev s_So_undo : Stmt := inClass (topS 58) 5
abbrev N_So_undo : List Str := ["self", "rank"]
abbrev P_So_undo : List Str := ["self"]
theorem sc_So_undo : FnScope N_So_undo P_So_undo (defScope s_So_undo) := ⟨by decide +kernel, by decide +kernel, by decide +kernel, by decide +kernel, rfl, by decide +kernel, by decide +kernel⟩
theorem bi_So_undo : BindsM "undo" "Sorter.undo" s_So_undo P_So_undo := fun _ _ _ _ _ _ us hl => match us, hl with | [_], _ => rfl
abbrev s__law_call : Stmt := topS 66
abbrev N__law_call : List Str := ["kind", "one", "two"]
abbrev P__law_call : List Str := ["kind", "one", "two"]
theorem sc__law_call : FnScope N__law_call P__law_call (defScope s__law_call) := ⟨by decide +kernel, by decide +kernel, by decide +kernel, by decide +kernel, rfl, by decide +kernel, by decide +kernel⟩
theorem bi__law_call : BindsB "_law_call" s__law_call P__law_call := fun _ _ _ _ _ _ us hl => match us, hl with | [_, _, _], _ => rfl
abbrev s__law_number : Stmt := topS 67
abbrev N__law_number : List Str := ["kind", "one", "two", "three"]
abbrev P__law_number : List Str := ["kind", "one", "two", "three"]
theorem sc__law_number : FnScope N__law_number P__law_number (defScope s__law_number) := ⟨by decide +kernel, by decide +kernel, by decide +kernel, by decide +kernel, rfl, by decide +kernel, by decide +kernel⟩
theorem bi__law_number : BindsB "_law_number" s__law_number P__law_number := fun _ _ _ _ _ _ us hl => match us, hl with | [_, _, _, _], _ => rfl
abbrev s__law_asked : Stmt := topS 68
abbrev N__law_asked : List Str := ["group", "kind", "one", "two", "three", "caught", "e"]
abbrev P__law_asked : List Str := ["group", "kind", "one", "two", "three"]
theorem sc__law_asked : FnScope N__law_asked P__law_asked (defScope s__law_asked) := ⟨by decide +kernel, by decide +kernel, by decide +kernel, by decide +kernel, rfl, by decide +kernel, by decide +kernel⟩
theorem bi__law_asked : BindsB "_law_asked" s__law_asked P__law_asked := fun _ _ _ _ _ _ us hl => match us, hl with | [_, _, _, _, _], _ => rfl
abbrev s__law_numbers : Stmt := topS 69
abbrev N__law_numbers : List Str := ["bad", "k", "size", "number", "many"]
abbrev P__law_numbers : List Str := []
theorem sc__law_numbers : FnScope N__law_numbers P__law_numbers (defScope s__law_numbers) := ⟨by decide +kernel, by decide +kernel, by decide +kernel, by decide +kernel, rfl, by decide +kernel, by decide +kernel⟩
theorem bi__law_numbers : BindsB "_law_numbers" s__law_numbers P__law_numbers := fun _ _ _ _ _ _ us hl => match us, hl with | [], _ => rfl
abbrev s_So_ranking : Stmt := inClass (topS 58) 2
abbrev N_So_ranking : List Str := ["self"]
abbrev P_So_ranking : List Str := ["self"]
theorem sc_So_ranking : FnScope N_So_ranking P_So_ranking (defScope s_So_ranking) := ⟨by decide +kernel, by decide +kernel, by decide +kernel, by decide +kernel, rfl, by decide +kernel, by decide +kernel⟩
theorem bi_So_ranking : BindsM "ranking" "Sorter.ranking" s_So_ranking P_So_ranking := fun _ _ _ _ _ _ us hl => match us, hl with | [_], _ => rfl
abbrev s_So_useful : Stmt := inClass (topS 58) 4
abbrev N_So_useful : List Str := ["self", "found", "rank"]
abbrev P_So_useful : List Str := ["self"]
theorem sc_So_useful : FnScope N_So_useful P_So_useful (defScope s_So_useful) := ⟨by decide +kernel, by decide +kernel, by decide +kernel, by decide +kernel, rfl, by decide +kernel, by decide +kernel⟩
theorem bi_So_useful : BindsM "useful" "Sorter.useful" s_So_useful P_So_useful := fun _ _ _ _ _ _ us hl => match us, hl with | [_], _ => rfl
abbrev s_So___init__ : Stmt := inClass (topS 58) 0
abbrev N_So___init__ : List Str := ["self", "ranking", "goal"]
abbrev P_So___init__ : List Str := ["self", "ranking", "goal"]
theorem sc_So___init__ : FnScope N_So___init__ P_So___init__ (defScope s_So___init__) := ⟨by decide +kernel, by decide +kernel, by decide +kernel, by decide +kernel, rfl, by decide +kernel, by decide +kernel⟩
theorem bi_So___init__ : BindsM "__init__" "Sorter.__init__" s_So___init__ P_So___init__ := fun _ _ _ _ _ _ us hl => match us, hl with | [_, _, _], _ => rfl
abbrev s__law_sorter : Stmt := topS 70
abbrev N__law_sorter : List Str := ["shown", "bad"]
abbrev P__law_sorter : List Str := []
theorem sc__law_sorter : FnScope N__law_sorter P__law_sorter (defScope s__law_sorter) := ⟨by decide +kernel, by decide +kernel, by decide +kernel, by decide +kernel, rfl, by decide +kernel, by decide +kernel⟩
theorem bi__law_sorter : BindsB "_law_sorter" s__law_sorter P__law_sorter := fun _ _ _ _ _ _ us hl => match us, hl with | [], _ => rfl
abbrev s_law : Stmt := topS 71
abbrev N_law : List Str := ["script", "draws", "scores", "bad", "k"]
abbrev P_law : List Str := ["script"]
theorem sc_law : FnScope N_law P_law (defScope s_law) := ⟨by decide +kernel, by decide +kernel, by decide +kernel, by decide +kernel, rfl, by decide +kernel, by decide +kernel⟩
theorem bi_law : BindsB "law" s_law P_law := fun _ _ _ _ _ _ us hl => match us, hl with | [_], _ => rfl
/-! what the top holds -/
structure Top (K : PySem.W.Frag) (mg : Str → Option Value) : Prop where
  n_len : mg "len" = none
  n_abs : mg "abs" = none
  n_max : mg "max" = none
  n_min : mg "min" = none
  n_sum : mg "sum" = none
  n_all : mg "all" = none
  n_sorted : mg "sorted" = none
  n_list : mg "list" = none
  n_tuple : mg "tuple" = none
  n_isinstance : mg "isinstance" = none
  n_range : mg "range" = none
  n_enumerate : mg "enumerate" = none
  n_int : mg "int" = none
  n_bool : mg "bool" = none
  n_str : mg "str" = none
  n_set : mg "set" = none
  x_MOST_THINGS : ∃ t, mg "MOST_THINGS" = some (.int 7 t)
  x_MOST_SMALL : ∃ t, mg "MOST_SMALL" = some (.int 6 t)
  e_BadRanking : XOk K mg "BadRanking"
  e_BadScores : XOk K mg "BadScores"
  e_BadNumber : XOk K mg "BadNumber"
  e_NotFound : XOk K mg "NotFound"
  xt : ∃ C R, XTop K mg C R
  n_ValueError : mg "ValueError" = none
  so : SoC K mg
  f__law_start : ∃ f fd, Fun K "_law_start" "_law_start" s__law_start f fd ∧ mg "_law_start" = some (.ref f)
  f__law_draw : ∃ f fd, Fun K "_law_draw" "_law_draw" s__law_draw f fd ∧ mg "_law_draw" = some (.ref f)
  f__law_error : ∃ f fd, Fun K "_law_error" "_law_error" s__law_error f fd ∧ mg "_law_error" = some (.ref f)
  f_So___len__ : ∃ f fd, Fun K "__len__" "Sorter.__len__" s_So___len__ f fd ∧ Meth K SC.C "__len__" f
  f_is_int : ∃ f fd, Fun K "is_int" "is_int" s_is_int f fd ∧ mg "is_int" = some (.ref f)
  f_is_ranking : ∃ f fd, Fun K "is_ranking" "is_ranking" s_is_ranking f fd ∧ mg "is_ranking" = some (.ref f)
  f_check_ranking : ∃ f fd, Fun K "check_ranking" "check_ranking" s_check_ranking f fd ∧ mg "check_ranking" = some (.ref f)
  f_check_both : ∃ f fd, Fun K "check_both" "check_both" s_check_both f fd ∧ mg "check_both" = some (.ref f)
  f_is_scores : ∃ f fd, Fun K "is_scores" "is_scores" s_is_scores f fd ∧ mg "is_scores" = some (.ref f)
  f_check_scores : ∃ f fd, Fun K "check_scores" "check_scores" s_check_scores f fd ∧ mg "check_scores" = some (.ref f)
  f_check_size : ∃ f fd, Fun K "check_size" "check_size" s_check_size f fd ∧ mg "check_size" = some (.ref f)
  f_ranking_of : ∃ f fd, Fun K "ranking_of" "ranking_of" s_ranking_of f fd ∧ mg "ranking_of" = some (.ref f)
  f_against : ∃ f fd, Fun K "against" "against" s_against f fd ∧ mg "against" = some (.ref f)
  f_orders : ∃ f fd, Fun K "orders" "orders" s_orders f fd ∧ mg "orders" = some (.ref f)
  f_all_rankings : ∃ f fd, Fun K "all_rankings" "all_rankings" s_all_rankings f fd ∧ mg "all_rankings" = some (.ref f)
  f_ranking_at : ∃ f fd, Fun K "ranking_at" "ranking_at" s_ranking_at f fd ∧ mg "ranking_at" = some (.ref f)
  f_common : ∃ f fd, Fun K "common" "common" s_common f fd ∧ mg "common" = some (.ref f)
  f_lowest : ∃ f fd, Fun K "lowest" "lowest" s_lowest f fd ∧ mg "lowest" = some (.ref f)
  f_check_many : ∃ f fd, Fun K "check_many" "check_many" s_check_many f fd ∧ mg "check_many" = some (.ref f)
  f_squares_of : ∃ f fd, Fun K "squares_of" "squares_of" s_squares_of f fd ∧ mg "squares_of" = some (.ref f)
  f_inversions : ∃ f fd, Fun K "inversions" "inversions" s_inversions f fd ∧ mg "inversions" = some (.ref f)
  f_least_squares : ∃ f fd, Fun K "least_squares" "least_squares" s_least_squares f fd ∧ mg "least_squares" = some (.ref f)
  f_greatest_squares : ∃ f fd, Fun K "greatest_squares" "greatest_squares" s_greatest_squares f fd ∧ mg "greatest_squares" = some (.ref f)
  f_order_with_table : ∃ f fd, Fun K "order_with_table" "order_with_table" s_order_with_table f fd ∧ mg "order_with_table" = some (.ref f)
  f_after_neighbours : ∃ f fd, Fun K "after_neighbours" "after_neighbours" s_after_neighbours f fd ∧ mg "after_neighbours" = some (.ref f)
  f_after_exchanges : ∃ f fd, Fun K "after_exchanges" "after_exchanges" s_after_exchanges f fd ∧ mg "after_exchanges" = some (.ref f)
  f_check_small : ∃ f fd, Fun K "check_small" "check_small" s_check_small f fd ∧ mg "check_small" = some (.ref f)
  f_near : ∃ f fd, Fun K "near" "near" s_near f fd ∧ mg "near" = some (.ref f)
  f_count_with : ∃ f fd, Fun K "count_with" "count_with" s_count_with f fd ∧ mg "count_with" = some (.ref f)
  f_value_table : ∃ f fd, Fun K "value_table" "value_table" s_value_table f fd ∧ mg "value_table" = some (.ref f)
  f_orders_with : ∃ f fd, Fun K "orders_with" "orders_with" s_orders_with f fd ∧ mg "orders_with" = some (.ref f)
  f_can_be : ∃ f fd, Fun K "can_be" "can_be" s_can_be f fd ∧ mg "can_be" = some (.ref f)
  f_first_with : ∃ f fd, Fun K "first_with" "first_with" s_first_with f fd ∧ mg "first_with" = some (.ref f)
  f_order_at : ∃ f fd, Fun K "order_at" "order_at" s_order_at f fd ∧ mg "order_at" = some (.ref f)
  f_check_same : ∃ f fd, Fun K "check_same" "check_same" s_check_same f fd ∧ mg "check_same" = some (.ref f)
  f_outcomes : ∃ f fd, Fun K "outcomes" "outcomes" s_outcomes f fd ∧ mg "outcomes" = some (.ref f)
  f_pair_outcomes : ∃ f fd, Fun K "pair_outcomes" "pair_outcomes" s_pair_outcomes f fd ∧ mg "pair_outcomes" = some (.ref f)
  f_shared_ranks : ∃ f fd, Fun K "shared_ranks" "shared_ranks" s_shared_ranks f fd ∧ mg "shared_ranks" = some (.ref f)
  f_tie_groups : ∃ f fd, Fun K "tie_groups" "tie_groups" s_tie_groups f fd ∧ mg "tie_groups" = some (.ref f)
  f_plain_agreement : ∃ f fd, Fun K "plain_agreement" "plain_agreement" s_plain_agreement f fd ∧ mg "plain_agreement" = some (.ref f)
  f_untied_agreement : ∃ f fd, Fun K "untied_agreement" "untied_agreement" s_untied_agreement f fd ∧ mg "untied_agreement" = some (.ref f)
  f_dense_ranks : ∃ f fd, Fun K "dense_ranks" "dense_ranks" s_dense_ranks f fd ∧ mg "dense_ranks" = some (.ref f)
  f_first_ranks : ∃ f fd, Fun K "first_ranks" "first_ranks" s_first_ranks f fd ∧ mg "first_ranks" = some (.ref f)
  f_without_thing : ∃ f fd, Fun K "without_thing" "without_thing" s_without_thing f fd ∧ mg "without_thing" = some (.ref f)
  f_exchanged : ∃ f fd, Fun K "exchanged" "exchanged" s_exchanged f fd ∧ mg "exchanged" = some (.ref f)
  f_format_scores : ∃ f fd, Fun K "format_scores" "format_scores" s_format_scores f fd ∧ mg "format_scores" = some (.ref f)
  f_So_left : ∃ f fd, Fun K "left" "Sorter.left" s_So_left f fd ∧ Meth K SC.C "left" f
  f_So_exchange : ∃ f fd, Fun K "exchange" "Sorter.exchange" s_So_exchange f fd ∧ Meth K SC.C "exchange" f
  f_So_undo : ∃ f fd, Fun K "undo" "Sorter.undo" s_So_undo f fd ∧ Meth K SC.C "undo" f
  f__law_call : ∃ f fd, Fun K "_law_call" "_law_call" s__law_call f fd ∧ mg "_law_call" = some (.ref f)
  f__law_number : ∃ f fd, Fun K "_law_number" "_law_number" s__law_number f fd ∧ mg "_law_number" = some (.ref f)
  f__law_asked : ∃ f fd, Fun K "_law_asked" "_law_asked" s__law_asked f fd ∧ mg "_law_asked" = some (.ref f)
  f__law_numbers : ∃ f fd, Fun K "_law_numbers" "_law_numbers" s__law_numbers f fd ∧ mg "_law_numbers" = some (.ref f)
  f_So_ranking : ∃ f fd, Fun K "ranking" "Sorter.ranking" s_So_ranking f fd ∧ Meth K SC.C "ranking" f
  f_So_useful : ∃ f fd, Fun K "useful" "Sorter.useful" s_So_useful f fd ∧ Meth K SC.C "useful" f
  f_So___init__ : ∃ f fd, Fun K "__init__" "Sorter.__init__" s_So___init__ f fd ∧ Mk K SC.C f
  f__law_sorter : ∃ f fd, Fun K "_law_sorter" "_law_sorter" s__law_sorter f fd ∧ mg "_law_sorter" = some (.ref f)
  f_law : ∃ f fd, Fun K "law" "law" s_law f fd ∧ mg "law" = some (.ref f)
section
variable {P : Program} {w : World} {K : PySem.W.Frag} {mg : Str → Option Value} {base : Heap}

theorem k__law_start (T : Top K mg) : Known P w K mg base 1 "_law_start" P__law_start (spStart K) := known_sp T.f__law_start sc__law_start bi__law_start (fun vs H Q E h => by obtain ⟨a, ns, rfl, _⟩ := h; rfl) 1 rfl fun X F hp vs H Q E h => ⟨tStart X.K,
  pss_one (ps_ret (pe_lst (pa_cons (pe_ifExp (pt_cmpR (op_neD (F.units64 ())) (vv F 0) (pe_lst pa_nil) (nomark _)) (pe_callTy call_list_of (F.gl_ok (by decide +kernel) ()) (F.none T.n_list ()) PyProof.Rows.boot_list (pa_cons (vv F 0) pa_nil)) (pe_lst (pa_cons pe_int pa_nil))) (pa_cons pe_int pa_nil)))),
  start_reads (K := X.K) vs H Q E (by have e : X.K = K := F.kk (); rw [e]; exact h)⟩
theorem k__law_draw (T : Top K mg) : Known P w K mg base 1 "_law_draw" P__law_draw spDraw := known_sp T.f__law_draw sc__law_draw bi__law_draw (fun vs H Q E h => by obtain ⟨ad, an, n, rfl, _⟩ := h; rfl) 1 rfl fun X F hp vs H Q E h => ⟨tDraw X.K,
  pss_cons (sset F 2 (pe_ix ix_list (vv F 0) pe_int (fun _ _ => rfl)))
  (pss_cons (ps_asg (pe_op op_add (pe_ix ix_list (vv F 0) pe_int (fun _ _ => rfl)) pe_int) (pg_sub (vv F 0) pe_int set_list))
  (pss_cons (sset F 3 (pe_op op_modN (pe_ix ix_list (vv F 0) pe_int (fun _ _ => rfl)) (elen F T.n_len (vv F 2))))
  (pss_cons (sset F 4 (pe_ix ix_list (vv F 2) (vv F 3) (fun _ _ => rfl)))
  (pss_cons (ps_if (pt_cmpR op_ge (vv F 4) pe_int (nomark _)) (pss_cons (ps_asg (pe_op op_fdiv (vv F 4) (vv F 1)) (pg_sub (vv F 2) (vv F 3) set_list)) (pss_one (ps_ret (pe_op op_mod (vv F 4) (vv F 1))))) pss_nil)
  (pss_cons (sset F 5 (pe_op op_mod (pe_op op_add (vv F 4) (pe_op op_mul pe_int (pe_ix ix_list (vv F 0) pe_int (fun _ _ => rfl)))) pe_int))
  (pss_cons (sset F 5 (pe_op op_mod (pe_op op_pow (vv F 5) pe_int) pe_int))
  (pss_one (ps_ret (pe_op op_mod (pe_op op_fdiv (pe_op op_mod (pe_op op_add (pe_op op_mul (pe_op op_fdiv (vv F 5) pe_int) pe_int) (vv F 5)) pe_int) pe_int) (vv F 1)))))))))),
  draw_reads vs H Q E h⟩


section
variable {C : Nat → Addr} {R : Addr}
noncomputable def F_err (E : Addr) (b0 b1 b2 b3 b4 : Bool) : En → Out := sSeq (sSet 1 (apL dLst (fCons (fIsX (.ref E) b0 0) (fCons (fIsX (.ref E) b1 0) (fCons (fIsX (.ref E) b2 0) fNil)))))
  (sSeq (sSet 1 (ap2 dAdd (fVar 1) (apL dLst (fCons (fIsX (.ref E) b3 0) (fCons (fIsX (.ref E) b4 0) fNil)))))
  (sSeq (sIf (tOrr (tVal (ap2 dNe (apML dCountD (fVar 1) (fCons (fC (.bool true)) fNil)) (fC (.int 1)))) (tOrr (tNt (tVal (fIsX (.ref E) true 0))) (tNt (tVal (fIsX (.ref E) true 0))))) (sRet (fC (.str "odd"))) sNil)
  (sRet (ap2 dIx (apL dLst (fCons (fC (.str "ranking")) (fCons (fC (.str "scores")) (fCons (fC (.str "number")) (fCons (fC (.str "text")) (fCons (fC (.str "none")) fNil)))))) (apML dIndex (fVar 1) (fCons (fC (.bool true)) fNil))))))
theorem F_err_at (E : Addr) (c : Nat) (hc : c < 5) : F_err E (decide (c = 0)) (decide (c = 1)) (decide (c = 2)) (decide (c = 3)) (decide (c = 4)) [some (.xo (.ref E)), none] = .rt (.str (eNm c)) := by
  have e : ∀ b (x : Option Sl), fIsX (.ref E) b 0 [some (.xo (.ref E)), x] = .ok (.bool b) := fun b x => fIsX_0
  have k1 : ∀ b0 b1 b2, sSet 1 (apL dLst (fCons (fIsX (.ref E) b0 0) (fCons (fIsX (.ref E) b1 0) (fCons (fIsX (.ref E) b2 0) fNil)))) [some (.xo (.ref E)), none] = .nx [some (.xo (.ref E)), some (.sh (.list [.bool b0, .bool b1, .bool b2]))] := fun b0 b1 b2 => by
    unfold sSet apL fCons
    rw [e, e, e]
    rfl
  have k2 : ∀ l b3 b4, l.length = 3 → sSet 1 (ap2 dAdd (fVar 1) (apL dLst (fCons (fIsX (.ref E) b3 0) (fCons (fIsX (.ref E) b4 0) fNil)))) [some (.xo (.ref E)), some (.sh (.list l))] = .nx [some (.xo (.ref E)), some (.sh (.list (l ++ [.bool b3, .bool b4])))] := fun l b3 b4 hl => by
    unfold sSet ap2 apL fCons
    rw [e, e]
    show ofR (if l.length + 2 ≤ LIM then _ else _) _ _ = _
    rw [hl]
    rfl
  have k3 : ∀ l, PyData.eqv (.int (l.countP (fun z => PyData.eqv z (.bool true)) : Nat)) (.int 1) = true → SeqAt.shaped (.list l) = true → sIf (tOrr (tVal (ap2 dNe (apML dCountD (fVar 1) (fCons (fC (.bool true)) fNil)) (fC (.int 1)))) (tOrr (tNt (tVal (fIsX (.ref E) true 0))) (tNt (tVal (fIsX (.ref E) true 0))))) (sRet (fC (.str "odd"))) sNil [some (.xo (.ref E)), some (.sh (.list l))] = .nx [some (.xo (.ref E)), some (.sh (.list l))] := fun l h1 h2 => by
    have q : tOrr (tVal (ap2 dNe (apML dCountD (fVar 1) (fCons (fC (.bool true)) fNil)) (fC (.int 1)))) (tOrr (tNt (tVal (fIsX (.ref E) true 0))) (tNt (tVal (fIsX (.ref E) true 0)))) [some (.xo (.ref E)), some (.sh (.list l))] = .ok false := by
      have q1 : apML dCountD (fVar 1) (fCons (fC (.bool true)) fNil) [some (.xo (.ref E)), some (.sh (.list l))] = .ok (.int (l.countP (fun z => PyData.eqv z (.bool true)) : Nat)) := by
        show dCountD l [.bool true] = _
        unfold dCountD
        exact if_pos ⟨h2, rfl⟩
      have q2 : tVal (ap2 dNe (apML dCountD (fVar 1) (fCons (fC (.bool true)) fNil)) (fC (.int 1))) [some (.xo (.ref E)), some (.sh (.list l))] = .ok false := by
        unfold tVal ap2
        rw [q1]
        show (dNe (.int (l.countP (fun z => PyData.eqv z (.bool true)) : Nat)) (.int 1)).bind dBool = _
        unfold dNe
        rw [h1]
        rfl
      have q3 : tNt (tVal (fIsX (.ref E) true 0)) [some (.xo (.ref E)), some (.sh (.list l))] = .ok false := by
        unfold tNt tVal
        rw [e]
        rfl
      unfold tOrr
      rw [q2, q3]
      rfl
    unfold sIf
    rw [q]
    rfl
  unfold F_err sSeq
  rw [k1]
  dsimp only
  rw [k2 _ _ _ rfl]
  dsimp only
  match c, hc with
  | 0, _ => rw [k3 _ (by decide +kernel) (by decide +kernel)]; rfl
  | 1, _ => rw [k3 _ (by decide +kernel) (by decide +kernel)]; rfl
  | 2, _ => rw [k3 _ (by decide +kernel) (by decide +kernel)]; rfl
  | 3, _ => rw [k3 _ (by decide +kernel) (by decide +kernel)]; rfl
  | 4, _ => rw [k3 _ (by decide +kernel) (by decide +kernel)]; rfl
theorem b__law_error (T : Top K mg) (X : XTop K mg C R) (c : Nat) (hc : c < 5) {Xs : Unit → Cx} (F : Fam Xs P w K mg base N__law_error (defScope s__law_error) (fun _ => true) 0) :
    SSs cv0 W0 .dat Xs (defBody s__law_error) (F_err (C c) (decide (c = 0)) (decide (c = 1)) (decide (c = 2)) (decide (c = 3)) (decide (c = 4))) :=
  (s_cons (s_set F 1 (e_lst (a_cons (e_isX F 0 (X.exc c hc) (X.kit c 0 hc (by decide)) T.n_isinstance (X.cls 0)) (a_cons (e_isX F 0 (X.exc c hc) (X.kit c 1 hc (by decide)) T.n_isinstance (X.cls 1)) (a_cons (e_isX F 0 (X.exc c hc) (X.kit c 2 hc (by decide)) T.n_isinstance (X.cls 2)) a_nil)))).e)
  (s_cons (s_set F 1 (e_add F (b_var F 1) (e_lst (a_cons (e_isX F 0 (X.exc c hc) (X.kit c 3 hc (by decide)) T.n_isinstance (X.cls 3)) (a_cons (e_isX F 0 (X.exc c hc) (X.kit c 4 hc (by decide)) T.n_isinstance (X.cls 4)) a_nil))).e.b))
  (s_cons (s_if (w_or (t_ne F (e_countD F (b_var F 1) (e_bool).b).b (e_int).b) (w_or (t_not (t_val (e_isX F 0 (X.exc c hc) (X.kitR c hc) T.n_isinstance X.base))) (w_or1 (t_not (t_val (e_isXB F 0 (X.exc c hc) (X.kitV c hc) T.n_isinstance T.n_ValueError (by decide +kernel))))))).tt (s_one (s_ret e_str)) s_nil)
  (s_one (s_ret (e_ix F (e_lst (a_cons e_str (a_cons e_str (a_cons e_str (a_cons e_str (a_cons e_str a_nil)))))).e.b (e_index F (b_var F 1) (e_bool).b).b))))))
theorem k__law_error (T : Top K mg) : KnownE P w K mg base 1 := by
  obtain ⟨C, R, X⟩ := T.xt
  refine known_err T.f__law_error sc__law_error bi__law_error fun c hc Xs F => ⟨_, b__law_error T X c hc F, ?_⟩
  rw [X.cv]
  exact F_err_at (C c) c hc
end

theorem b_So___len__ (T : Top K mg) {W : WX} {Xs : Unit → Cx} (F : Fam Xs P w K mg base N_So___len__ (defScope s_So___len__) (fun _ => true) 0) (tk : ∀ j, Takes (Xs j) W) (hp : ∀ j, PassesOwn (model (Xs j).prog (Xs j).w) (Xs j).A (Xs j).env (Xs j).xe) (hq : ∀ j, (Xs j).stack = (Xs j).env :: (Xs j).outer ∧ (Xs j).env.frame = some (Xs j).env.locals ∧ (Xs j).ex = []) : SSs (cvM mg) W .dat Xs (defBody s_So___len__) (F_So___len__) :=
  (s_one (s_ret (e_len F T.n_len (b_made F T.so 0))))
theorem k_So___len__ (T : Top K mg) : KnownM P w K mg base 1 "__len__" P_So___len__ (spG mg 1 C_So___len__) := knownM_G T.f_So___len__ sc_So___len__ bi_So___len__ 1 1 1 rfl rfl rfl fun W Xs F tk hp hq => b_So___len__ T  F tk hp hq
theorem b_is_int (T : Top K mg) {W : WX} {Xs : Unit → Cx} (F : Fam Xs P w K mg base N_is_int (defScope s_is_int) (fun _ => true) 0) (tk : ∀ j, Takes (Xs j) W) (hp : ∀ j, PassesOwn (model (Xs j).prog (Xs j).w) (Xs j).A (Xs j).env (Xs j).xe) (hq : ∀ j, (Xs j).stack = (Xs j).env :: (Xs j).outer ∧ (Xs j).env.frame = some (Xs j).env.locals ∧ (Xs j).ex = []) : SSs (cvM mg) W .dat Xs (defBody s_is_int) (F_is_int) :=
  (s_one (s_ret (e_and (e_isi F tg_int T.n_isinstance T.n_int PyProof.Rows.boot_int (b_var F 0)) (e_and (e_not (e_isi F tg_bool T.n_isinstance T.n_bool (by decide +kernel) (b_var F 0))) (e_one (e_chain (fun _ => op_le) ope_le noer_le (fun _ => op_le) ope_le noer_le (b_var F 1) (b_var F 0) (b_var F 2)))))))
theorem k_is_int (T : Top K mg) : KnownX P w K mg base 1 "is_int" P_is_int (spX mg 3 C_is_int) := knownX_fn T.f_is_int sc_is_int bi_is_int 3 3 1 rfl rfl rfl fun W Xs F tk hp hq => b_is_int T  F tk hp hq
theorem b_is_ranking (T : Top K mg) (G_is_int : KnownX P w K mg base 1 "is_int" P_is_int (spX mg 3 C_is_int)) {W : WX} {Xs : Unit → Cx} (F : Fam Xs P w K mg base N_is_ranking (defScope s_is_ranking) (fun _ => true) 1) (tk : ∀ j, Takes (Xs j) W) (hp : ∀ j, PassesOwn (model (Xs j).prog (Xs j).w) (Xs j).A (Xs j).env (Xs j).xe) (hq : ∀ j, (Xs j).stack = (Xs j).env :: (Xs j).outer ∧ (Xs j).env.frame = some (Xs j).env.locals ∧ (Xs j).ex = []) : SSs (cvM mg) W .dat Xs (defBody s_is_ranking) (F_is_ranking) :=
  (s_cons (s_if ((w_or (t_not (t_val (e_isi F tg_list T.n_isinstance T.n_list PyProof.Rows.boot_list (b_var F 0)))) (w_or1 (t_not (t_chain (fun _ => op_le) ope_le noer_le (fun _ => op_le) ope_le noer_le (e_int).b (e_len F T.n_len (b_var F 0)).b (e_globI F T.x_MOST_THINGS.choose_spec).b))))).tt (s_one (s_ret e_bool)) s_nil)
  (s_cons (s_if (t_not (t_val (e_all F T.n_all (f_comp (W' := W0) F [("rank", 1)] (i_list F (b_var F 0)) (fun F1 => (g_name F1 1)) (fun F1 => ts_nil) (fun F1 => (e_callX F1 (fun _ => takes0) G_is_int (a_cons (e_var F1 1) (a_cons e_int (a_cons (e_len F1 T.n_len (b_var F1 0)) a_nil)))))).e.b))) (s_one (s_ret e_bool)) s_nil)
  (s_one (s_ret (e_eq F (f_sorted F T.n_sorted (b_var F 0)).e.b (f_list_range2 F T.n_list T.n_range (e_int).b (e_add F (e_len F T.n_len (b_var F 0)).b (e_int).b).b).e.b)))))
theorem k_is_ranking (T : Top K mg) : KnownX P w K mg base 2 "is_ranking" P_is_ranking (spX mg 1 C_is_ranking) := knownX_fn T.f_is_ranking sc_is_ranking bi_is_ranking 1 2 2 rfl rfl rfl fun W Xs F tk hp hq => b_is_ranking T (k_is_int T) F tk hp hq
theorem b_check_ranking (T : Top K mg) (G_is_ranking : KnownX P w K mg base 2 "is_ranking" P_is_ranking (spX mg 1 C_is_ranking)) {W : WX} {Xs : Unit → Cx} (F : Fam Xs P w K mg base N_check_ranking (defScope s_check_ranking) (fun _ => true) 2) (tk : ∀ j, Takes (Xs j) W) (hp : ∀ j, PassesOwn (model (Xs j).prog (Xs j).w) (Xs j).A (Xs j).env (Xs j).xe) (hq : ∀ j, (Xs j).stack = (Xs j).env :: (Xs j).outer ∧ (Xs j).env.frame = some (Xs j).env.locals ∧ (Xs j).ex = []) : SSs (cvM mg) W .dat Xs (defBody s_check_ranking) (F_check_ranking) :=
  (s_one (s_if (t_not (t_val (e_callX F tk G_is_ranking (a_cons (e_var F 0) a_nil)))) (s_one (s_raise F tk 0 T.e_BadRanking)) s_nil))
theorem k_check_ranking (T : Top K mg) : KnownX P w K mg base 3 "check_ranking" P_check_ranking (spX mg 1 C_check_ranking) := knownX_fn T.f_check_ranking sc_check_ranking bi_check_ranking 1 1 3 rfl rfl rfl fun W Xs F tk hp hq => b_check_ranking T (k_is_ranking T) F tk hp hq
theorem b_check_both (T : Top K mg) (G_check_ranking : KnownX P w K mg base 3 "check_ranking" P_check_ranking (spX mg 1 C_check_ranking)) {W : WX} {Xs : Unit → Cx} (F : Fam Xs P w K mg base N_check_both (defScope s_check_both) (fun _ => true) 3) (tk : ∀ j, Takes (Xs j) W) (hp : ∀ j, PassesOwn (model (Xs j).prog (Xs j).w) (Xs j).A (Xs j).env (Xs j).xe) (hq : ∀ j, (Xs j).stack = (Xs j).env :: (Xs j).outer ∧ (Xs j).env.frame = some (Xs j).env.locals ∧ (Xs j).ex = []) : SSs (cvM mg) W .dat Xs (defBody s_check_both) (F_check_both) :=
  (s_cons (s_expr (e_callX F tk G_check_ranking (a_cons (e_var F 0) a_nil)))
  (s_cons (s_expr (e_callX F tk G_check_ranking (a_cons (e_var F 1) a_nil)))
  (s_one (s_if (t_ne F (e_len F T.n_len (b_var F 0)).b (e_len F T.n_len (b_var F 1)).b) (s_one (s_raise F tk 0 T.e_BadRanking)) s_nil))))
theorem k_check_both (T : Top K mg) : KnownX P w K mg base 4 "check_both" P_check_both (spX mg 2 C_check_both) := knownX_fn T.f_check_both sc_check_both bi_check_both 2 2 4 rfl rfl rfl fun W Xs F tk hp hq => b_check_both T (k_check_ranking T) F tk hp hq
theorem b_is_scores (T : Top K mg) (G_is_int : KnownX P w K mg base 1 "is_int" P_is_int (spX mg 3 C_is_int)) {W : WX} {Xs : Unit → Cx} (F : Fam Xs P w K mg base N_is_scores (defScope s_is_scores) (fun _ => true) 1) (tk : ∀ j, Takes (Xs j) W) (hp : ∀ j, PassesOwn (model (Xs j).prog (Xs j).w) (Xs j).A (Xs j).env (Xs j).xe) (hq : ∀ j, (Xs j).stack = (Xs j).env :: (Xs j).outer ∧ (Xs j).env.frame = some (Xs j).env.locals ∧ (Xs j).ex = []) : SSs (cvM mg) W .dat Xs (defBody s_is_scores) (F_is_scores) :=
  (s_cons (s_if ((w_or (t_not (t_val (e_isi F tg_list T.n_isinstance T.n_list PyProof.Rows.boot_list (b_var F 0)))) (w_or1 (t_not (t_chain (fun _ => op_le) ope_le noer_le (fun _ => op_le) ope_le noer_le (e_int).b (e_len F T.n_len (b_var F 0)).b (e_int).b))))).tt (s_one (s_ret e_bool)) s_nil)
  (s_one (s_ret (e_all F T.n_all (f_comp (W' := W0) F [("score", 1)] (i_list F (b_var F 0)) (fun F1 => (g_name F1 1)) (fun F1 => ts_nil) (fun F1 => (e_callX F1 (fun _ => takes0) G_is_int (a_cons (e_var F1 1) (a_cons e_int (a_cons e_int a_nil)))))).e.b))))
theorem k_is_scores (T : Top K mg) : KnownX P w K mg base 2 "is_scores" P_is_scores (spX mg 1 C_is_scores) := knownX_fn T.f_is_scores sc_is_scores bi_is_scores 1 2 2 rfl rfl rfl fun W Xs F tk hp hq => b_is_scores T (k_is_int T) F tk hp hq
theorem b_check_scores (T : Top K mg) (G_is_scores : KnownX P w K mg base 2 "is_scores" P_is_scores (spX mg 1 C_is_scores)) {W : WX} {Xs : Unit → Cx} (F : Fam Xs P w K mg base N_check_scores (defScope s_check_scores) (fun _ => true) 2) (tk : ∀ j, Takes (Xs j) W) (hp : ∀ j, PassesOwn (model (Xs j).prog (Xs j).w) (Xs j).A (Xs j).env (Xs j).xe) (hq : ∀ j, (Xs j).stack = (Xs j).env :: (Xs j).outer ∧ (Xs j).env.frame = some (Xs j).env.locals ∧ (Xs j).ex = []) : SSs (cvM mg) W .dat Xs (defBody s_check_scores) (F_check_scores) :=
  (s_one (s_if (t_not (t_val (e_callX F tk G_is_scores (a_cons (e_var F 0) a_nil)))) (s_one (s_raise F tk 1 T.e_BadScores)) s_nil))
theorem k_check_scores (T : Top K mg) : KnownX P w K mg base 3 "check_scores" P_check_scores (spX mg 1 C_check_scores) := knownX_fn T.f_check_scores sc_check_scores bi_check_scores 1 1 3 rfl rfl rfl fun W Xs F tk hp hq => b_check_scores T (k_is_scores T) F tk hp hq
theorem b_check_size (T : Top K mg) (G_is_int : KnownX P w K mg base 1 "is_int" P_is_int (spX mg 3 C_is_int)) {W : WX} {Xs : Unit → Cx} (F : Fam Xs P w K mg base N_check_size (defScope s_check_size) (fun _ => true) 1) (tk : ∀ j, Takes (Xs j) W) (hp : ∀ j, PassesOwn (model (Xs j).prog (Xs j).w) (Xs j).A (Xs j).env (Xs j).xe) (hq : ∀ j, (Xs j).stack = (Xs j).env :: (Xs j).outer ∧ (Xs j).env.frame = some (Xs j).env.locals ∧ (Xs j).ex = []) : SSs (cvM mg) W .dat Xs (defBody s_check_size) (F_check_size) :=
  (s_one (s_if (t_not (t_val (e_callX F tk G_is_int (a_cons (e_var F 0) (a_cons e_int (a_cons (e_globI F T.x_MOST_SMALL.choose_spec) a_nil)))))) (s_one (s_raise F tk 2 T.e_BadNumber)) s_nil))
theorem k_check_size (T : Top K mg) : KnownX P w K mg base 2 "check_size" P_check_size (spX mg 1 C_check_size) := knownX_fn T.f_check_size sc_check_size bi_check_size 1 1 2 rfl rfl rfl fun W Xs F tk hp hq => b_check_size T (k_is_int T) F tk hp hq
theorem b_ranking_of (T : Top K mg) (G_is_int : KnownX P w K mg base 1 "is_int" P_is_int (spX mg 3 C_is_int)) {W : WX} {Xs : Unit → Cx} (F : Fam Xs P w K mg base N_ranking_of (defScope s_ranking_of) (fun _ => true) 1) (tk : ∀ j, Takes (Xs j) W) (hp : ∀ j, PassesOwn (model (Xs j).prog (Xs j).w) (Xs j).A (Xs j).env (Xs j).xe) (hq : ∀ j, (Xs j).stack = (Xs j).env :: (Xs j).outer ∧ (Xs j).env.frame = some (Xs j).env.locals ∧ (Xs j).ex = []) : SSs (cvM mg) W .dat Xs (defBody s_ranking_of) (F_ranking_of) :=
  (s_cons (s_if ((w_or (t_not (t_val (e_isi F tg_list T.n_isinstance T.n_list PyProof.Rows.boot_list (b_var F 0)))) (w_or1 (t_not (t_val (e_all F T.n_all (f_comp (W' := W0) F [("place", 1)] (i_list F (b_var F 0)) (fun F1 => (g_name F1 1)) (fun F1 => ts_nil) (fun F1 => (e_callX F1 (fun _ => takes0) G_is_int (a_cons (e_var F1 1) (a_cons e_int (a_cons e_int a_nil)))))).e.b)))))).tt (s_one (s_raise F tk 0 T.e_BadRanking)) s_nil)
  (s_cons (s_if ((w_or (t_not (t_chain (fun _ => op_le) ope_le noer_le (fun _ => op_le) ope_le noer_le (e_int).b (e_len F T.n_len (b_var F 0)).b (e_int).b)) (w_or1 (t_ne F (f_sorted F T.n_sorted (b_var F 0)).e.b (f_list_range1 F T.n_list T.n_range (e_len F T.n_len (b_var F 0)).b).e.b)))).tt (s_one (s_raise F tk 0 T.e_BadRanking)) s_nil)
  (s_one (s_ret (f_comp (W' := W0) F [("place", 1)] (is_range1 F T.n_range (e_len F T.n_len (b_var F 0)).b).i (fun F1 => (g_name F1 1)) (fun F1 => ts_nil) (fun F1 => (e_add F1 (e_index F1 (b_var F1 0) (b_var F1 1)).b (e_int).b))).e))))
theorem k_ranking_of (T : Top K mg) : KnownX P w K mg base 2 "ranking_of" P_ranking_of (spX mg 1 C_ranking_of) := knownX_fn T.f_ranking_of sc_ranking_of bi_ranking_of 1 2 2 rfl rfl rfl fun W Xs F tk hp hq => b_ranking_of T (k_is_int T) F tk hp hq
theorem b_against (T : Top K mg) {W : WX} {Xs : Unit → Cx} (F : Fam Xs P w K mg base N_against (defScope s_against) (fun _ => true) 0) (tk : ∀ j, Takes (Xs j) W) (hp : ∀ j, PassesOwn (model (Xs j).prog (Xs j).w) (Xs j).A (Xs j).env (Xs j).xe) (hq : ∀ j, (Xs j).stack = (Xs j).env :: (Xs j).outer ∧ (Xs j).env.frame = some (Xs j).env.locals ∧ (Xs j).ex = []) : SSs (cvM mg) W .dat Xs (defBody s_against) (F_against) :=
  (s_cons (s_own F 2 (e_lst a_nil))
  (s_cons (s_for F hp [3, 4] (is_range1 F T.n_range (e_len F T.n_len (b_var F 0)).b) (g_name F 3)
  (s_one (s_for F hp [4] (is_range2 F T.n_range (e_add F (b_var F 3) (e_int).b).b (e_len F T.n_len (b_var F 0)).b) (g_name F 4)
  (s_one (s_if (t_ne F (e_lt (e_ix F (b_var F 0) (b_var F 3)).b (e_ix F (b_var F 0) (b_var F 4)).b).b (e_lt (e_ix F (b_var F 1) (b_var F 3)).b (e_ix F (b_var F 1) (b_var F 4)).b).b) (s_one (s_app F 2 (e_tup (a_cons (e_var F 3) (a_cons (e_var F 4) a_nil))))) s_nil)))))
  (s_one (s_frz 2 (s_ret (e_var F 2))))))
theorem k_against (T : Top K mg) : KnownX P w K mg base 1 "against" P_against (spX mg 2 C_against) := knownX_fn T.f_against sc_against bi_against 2 5 1 rfl rfl rfl fun W Xs F tk hp hq => b_against T  F tk hp hq
theorem b_orders (T : Top K mg) {fuel : Nat} (G_orders : KnownX P w K mg base (1 + fuel) "orders" P_orders (spX mg 1 (C_orders fuel))) {W : WX} {Xs : Unit → Cx} (F : Fam Xs P w K mg base N_orders (defScope s_orders) (fun _ => true) (1 + fuel)) (tk : ∀ j, Takes (Xs j) W) (hp : ∀ j, PassesOwn (model (Xs j).prog (Xs j).w) (Xs j).A (Xs j).env (Xs j).xe) (hq : ∀ j, (Xs j).stack = (Xs j).env :: (Xs j).outer ∧ (Xs j).env.frame = some (Xs j).env.locals ∧ (Xs j).ex = []) : SSs (cvM mg) W .dat Xs (defBody s_orders) (F_orders (fun _ => C_orders fuel) fuel) :=
  (s_cons (s_if (t_eq F (b_var F 0) (e_lst a_nil).e.b) (s_one (s_ret (e_lst (a_cons (e_lst a_nil).e a_nil)).e)) s_nil)
  (s_cons (s_own F 1 (e_lst a_nil))
  (s_cons (s_for F hp [2, 3] (is_enum F T.n_enumerate (a_cons (e_var F 0) a_nil)) (g_tup F (gs_cons F 2 (gs_cons F 3 gs_nil)))
  (s_one (s_ext F 1 (f_comp (W' := W0) F [("rest", 4)] (i_list F (e_callX (hk := Nat.le_refl _) F tk G_orders (a_cons (e_add F (e_slice F (b_var F 0) o_none (o_some (b_var F 2))).b (e_slice F (b_var F 0) (o_some (e_add F (b_var F 2) (e_int).b).b) o_none).b) a_nil)).b) (fun F1 => (g_name F1 4)) (fun F1 => ts_nil) (fun F1 => (e_add F1 (e_lst (a_cons (e_var F1 3) a_nil)).e.b (b_var F1 4)))).e.b)))
  (s_one (s_frz 1 (s_ret (e_var F 1)))))))
theorem k_orders_n (T : Top K mg) : ∀ fuel, KnownX P w K mg base (1 + fuel) "orders" P_orders (spX mg 1 (C_orders fuel))
  | 0 => knownX_none (k := 0) T.f_orders sc_orders bi_orders 1 (1 + 0) rfl rfl
  | fuel + 1 => knownX_fn T.f_orders sc_orders bi_orders 1 5 (1 + (fuel + 1)) rfl rfl rfl fun W Xs F tk hp hq => b_orders T (k_orders_n T fuel) F tk hp hq
theorem k_orders (T : Top K mg) : KnownX P w K mg base 9 "orders" P_orders (spX mg 1 (C_orders 8)) := k_orders_n T 8
theorem b_all_rankings (T : Top K mg) (G_check_size : KnownX P w K mg base 2 "check_size" P_check_size (spX mg 1 C_check_size)) (G_orders : KnownX P w K mg base 9 "orders" P_orders (spX mg 1 (C_orders 8))) {W : WX} {Xs : Unit → Cx} (F : Fam Xs P w K mg base N_all_rankings (defScope s_all_rankings) (fun _ => true) 9) (tk : ∀ j, Takes (Xs j) W) (hp : ∀ j, PassesOwn (model (Xs j).prog (Xs j).w) (Xs j).A (Xs j).env (Xs j).xe) (hq : ∀ j, (Xs j).stack = (Xs j).env :: (Xs j).outer ∧ (Xs j).env.frame = some (Xs j).env.locals ∧ (Xs j).ex = []) : SSs (cvM mg) W .dat Xs (defBody s_all_rankings) (F_all_rankings) :=
  (s_cons (s_expr (e_callX F tk G_check_size (a_cons (e_var F 0) a_nil)))
  (s_one (s_ret (e_callX F tk G_orders (a_cons (f_list_range2 F T.n_list T.n_range (e_int).b (e_add F (b_var F 0) (e_int).b).b).e a_nil)))))
theorem k_all_rankings (T : Top K mg) : KnownX P w K mg base 10 "all_rankings" P_all_rankings (spX mg 1 C_all_rankings) := knownX_fn T.f_all_rankings sc_all_rankings bi_all_rankings 1 1 10 rfl rfl rfl fun W Xs F tk hp hq => b_all_rankings T (k_check_size T) (k_orders T) F tk hp hq
theorem b_ranking_at (T : Top K mg) (G_is_int : KnownX P w K mg base 1 "is_int" P_is_int (spX mg 3 C_is_int)) {W : WX} {Xs : Unit → Cx} (F : Fam Xs P w K mg base N_ranking_at (defScope s_ranking_at) (fun _ => true) 1) (tk : ∀ j, Takes (Xs j) W) (hp : ∀ j, PassesOwn (model (Xs j).prog (Xs j).w) (Xs j).A (Xs j).env (Xs j).xe) (hq : ∀ j, (Xs j).stack = (Xs j).env :: (Xs j).outer ∧ (Xs j).env.frame = some (Xs j).env.locals ∧ (Xs j).ex = []) : SSs (cvM mg) W .dat Xs (defBody s_ranking_at) (F_ranking_at) :=
  (s_cons (s_if (t_not (t_val (e_callX F tk G_is_int (a_cons (e_var F 0) (a_cons e_int (a_cons e_int a_nil)))))) (s_one (s_raise F tk 2 T.e_BadNumber)) s_nil)
  (s_cons (s_set F 2 e_int)
  (s_cons (s_for F hp [3] (is_range2 F T.n_range (e_int).b (e_add F (b_var F 0) (e_int).b).b) (g_name F 3)
  (s_one (s_aug F (fun _ => iop_mul) ope_mulI noer_mulI 2 (b_var F 3))))
  (s_cons (s_if (t_not (t_val (e_callX F tk G_is_int (a_cons (e_var F 1) (a_cons e_int (a_cons (e_sub (b_var F 2) (e_int).b) a_nil)))))) (s_one (s_raise F tk 2 T.e_BadNumber)) s_nil)
  (s_cons (s_set F 4 (f_list_range2 F T.n_list T.n_range (e_int).b (e_add F (b_var F 0) (e_int).b).b).e)
  (s_cons (s_own F 5 (e_lst a_nil))
  (s_cons (s_for F hp [3] (is_range3 F T.n_range (b_var F 0) (e_int).b (e_neg (e_int).b).b) (g_name F 3)
  (s_cons (s_aug F (fun _ => iop_fdiv) ope_fdivI noer_fdivI 2 (b_var F 3))
  (s_cons (s_app F 5 (e_ix F (b_var F 4) (e_fdiv (b_var F 1) (b_var F 2)).b))
  (s_cons (s_setLc (W' := W0) F 4 [("rank", 6)] (i_list F (b_var F 4)) (fun F1 => (g_name F1 6)) (fun F1 => (ts_one (t_ne F1 (b_var F1 6) (e_ix F1 (b_var F1 5) (e_neg (e_int).b).b).b))) (fun F1 => (e_var F1 6)))
  (s_one (s_aug F (fun _ => iop_mod) ope_modI noer_modI 1 (b_var F 2)))))))
  (s_one (s_frz 5 (s_ret (e_var F 5)))))))))))
theorem k_ranking_at (T : Top K mg) : KnownX P w K mg base 2 "ranking_at" P_ranking_at (spX mg 2 C_ranking_at) := knownX_fn T.f_ranking_at sc_ranking_at bi_ranking_at 2 7 2 rfl rfl rfl fun W Xs F tk hp hq => b_ranking_at T (k_is_int T) F tk hp hq
theorem b_common (T : Top K mg) {W : WX} {Xs : Unit → Cx} (F : Fam Xs P w K mg base N_common (defScope s_common) (fun _ => true) 0) (tk : ∀ j, Takes (Xs j) W) (hp : ∀ j, PassesOwn (model (Xs j).prog (Xs j).w) (Xs j).A (Xs j).env (Xs j).xe) (hq : ∀ j, (Xs j).stack = (Xs j).env :: (Xs j).outer ∧ (Xs j).env.frame = some (Xs j).env.locals ∧ (Xs j).ex = []) : SSs (cvM mg) W .dat Xs (defBody s_common) (F_common) :=
  (s_cons (s_while hp 1000 [] (t_ne F (b_var F 1) (e_int).b)
  (s_one (s_par2 F 0 1 (a_cons (e_var F 1) (a_cons (e_mod (b_var F 0) (b_var F 1)) a_nil)))))
  (s_one (s_ret (e_var F 0))))
theorem k_common (T : Top K mg) : KnownX P w K mg base 1 "common" P_common (spX mg 2 C_common) := knownX_fn T.f_common sc_common bi_common 2 2 1 rfl rfl rfl fun W Xs F tk hp hq => b_common T  F tk hp hq
theorem b_lowest (T : Top K mg) (G_common : KnownX P w K mg base 1 "common" P_common (spX mg 2 C_common)) {W : WX} {Xs : Unit → Cx} (F : Fam Xs P w K mg base N_lowest (defScope s_lowest) (fun _ => true) 1) (tk : ∀ j, Takes (Xs j) W) (hp : ∀ j, PassesOwn (model (Xs j).prog (Xs j).w) (Xs j).A (Xs j).env (Xs j).xe) (hq : ∀ j, (Xs j).stack = (Xs j).env :: (Xs j).outer ∧ (Xs j).env.frame = some (Xs j).env.locals ∧ (Xs j).ex = []) : SSs (cvM mg) W .dat Xs (defBody s_lowest) (F_lowest) :=
  (s_cons (s_set F 2 (e_callX F tk G_common (a_cons (e_abs F T.n_abs (b_var F 0)) (a_cons (e_var F 1) a_nil))))
  (s_one (s_ret (e_tup (a_cons (e_fdiv (b_var F 0) (b_var F 2)) (a_cons (e_fdiv (b_var F 1) (b_var F 2)) a_nil))))))
theorem k_lowest (T : Top K mg) : KnownX P w K mg base 2 "lowest" P_lowest (spX mg 2 C_lowest) := knownX_fn T.f_lowest sc_lowest bi_lowest 2 3 2 rfl rfl rfl fun W Xs F tk hp hq => b_lowest T (k_common T) F tk hp hq
theorem b_check_many (T : Top K mg) (G_is_int : KnownX P w K mg base 1 "is_int" P_is_int (spX mg 3 C_is_int)) {W : WX} {Xs : Unit → Cx} (F : Fam Xs P w K mg base N_check_many (defScope s_check_many) (fun _ => true) 1) (tk : ∀ j, Takes (Xs j) W) (hp : ∀ j, PassesOwn (model (Xs j).prog (Xs j).w) (Xs j).A (Xs j).env (Xs j).xe) (hq : ∀ j, (Xs j).stack = (Xs j).env :: (Xs j).outer ∧ (Xs j).env.frame = some (Xs j).env.locals ∧ (Xs j).ex = []) : SSs (cvM mg) W .dat Xs (defBody s_check_many) (F_check_many) :=
  (s_one (s_if (t_not (t_val (e_callX F tk G_is_int (a_cons (e_var F 0) (a_cons e_int (a_cons e_int a_nil)))))) (s_one (s_raise F tk 2 T.e_BadNumber)) s_nil))
theorem k_check_many (T : Top K mg) : KnownX P w K mg base 2 "check_many" P_check_many (spX mg 1 C_check_many) := knownX_fn T.f_check_many sc_check_many bi_check_many 1 1 2 rfl rfl rfl fun W Xs F tk hp hq => b_check_many T (k_is_int T) F tk hp hq
theorem b_squares_of (T : Top K mg) {W : WX} {Xs : Unit → Cx} (F : Fam Xs P w K mg base N_squares_of (defScope s_squares_of) (fun _ => true) 0) (tk : ∀ j, Takes (Xs j) W) (hp : ∀ j, PassesOwn (model (Xs j).prog (Xs j).w) (Xs j).A (Xs j).env (Xs j).xe) (hq : ∀ j, (Xs j).stack = (Xs j).env :: (Xs j).outer ∧ (Xs j).env.frame = some (Xs j).env.locals ∧ (Xs j).ex = []) : SSs (cvM mg) W .dat Xs (defBody s_squares_of) (F_squares_of) :=
  (s_one (s_ret (e_sum F T.n_sum (f_comp (W' := W0) F [("k", 1), ("rank", 2)] (i_enum F T.n_enumerate (ab_cons (b_var F 0) ab_nil)) (fun F1 => (g_tup F1 (gs_cons F1 1 (gs_cons F1 2 gs_nil)))) (fun F1 => ts_nil) (fun F1 => (e_mul F1 (e_sub (e_sub (b_var F1 2) (b_var F1 1)).b (e_int).b).b (e_sub (e_sub (b_var F1 2) (b_var F1 1)).b (e_int).b).b))).e.b)))
theorem k_squares_of (T : Top K mg) : KnownX P w K mg base 1 "squares_of" P_squares_of (spX mg 1 C_squares_of) := knownX_fn T.f_squares_of sc_squares_of bi_squares_of 1 3 1 rfl rfl rfl fun W Xs F tk hp hq => b_squares_of T  F tk hp hq
theorem b_inversions (T : Top K mg) {W : WX} {Xs : Unit → Cx} (F : Fam Xs P w K mg base N_inversions (defScope s_inversions) (fun _ => true) 0) (tk : ∀ j, Takes (Xs j) W) (hp : ∀ j, PassesOwn (model (Xs j).prog (Xs j).w) (Xs j).A (Xs j).env (Xs j).xe) (hq : ∀ j, (Xs j).stack = (Xs j).env :: (Xs j).outer ∧ (Xs j).env.frame = some (Xs j).env.locals ∧ (Xs j).ex = []) : SSs (cvM mg) W .dat Xs (defBody s_inversions) (F_inversions) :=
  (s_cons (s_set F 1 e_int)
  (s_cons (s_for F hp [2, 3] (is_enum F T.n_enumerate (a_cons (e_var F 0) a_nil)) (g_tup F (gs_cons F 2 (gs_cons F 3 gs_nil)))
  (s_one (s_aug F (fun _ => iop_add) ope_addI noer_addI 1 (e_len F T.n_len (f_comp (W' := W0) F [("other", 4)] (i_list F (e_slice F (b_var F 0) (o_some (e_add F (b_var F 2) (e_int).b).b) o_none).b) (fun F1 => (g_name F1 4)) (fun F1 => (ts_one (t_lt (b_var F1 4) (b_var F1 3)))) (fun F1 => (e_var F1 4))).e.b).b)))
  (s_one (s_ret (e_var F 1)))))
theorem k_inversions (T : Top K mg) : KnownX P w K mg base 1 "inversions" P_inversions (spX mg 1 C_inversions) := knownX_fn T.f_inversions sc_inversions bi_inversions 1 5 1 rfl rfl rfl fun W Xs F tk hp hq => b_inversions T  F tk hp hq
theorem b_least_squares (T : Top K mg) (G_check_size : KnownX P w K mg base 2 "check_size" P_check_size (spX mg 1 C_check_size)) (G_check_many : KnownX P w K mg base 2 "check_many" P_check_many (spX mg 1 C_check_many)) (G_all_rankings : KnownX P w K mg base 10 "all_rankings" P_all_rankings (spX mg 1 C_all_rankings)) (G_inversions : KnownX P w K mg base 1 "inversions" P_inversions (spX mg 1 C_inversions)) (G_squares_of : KnownX P w K mg base 1 "squares_of" P_squares_of (spX mg 1 C_squares_of)) {W : WX} {Xs : Unit → Cx} (F : Fam Xs P w K mg base N_least_squares (defScope s_least_squares) (fun _ => true) 10) (tk : ∀ j, Takes (Xs j) W) (hp : ∀ j, PassesOwn (model (Xs j).prog (Xs j).w) (Xs j).A (Xs j).env (Xs j).xe) (hq : ∀ j, (Xs j).stack = (Xs j).env :: (Xs j).outer ∧ (Xs j).env.frame = some (Xs j).env.locals ∧ (Xs j).ex = []) : SSs (cvM mg) W .dat Xs (defBody s_least_squares) (F_least_squares) :=
  (s_cons (s_expr (e_callX F tk G_check_size (a_cons (e_var F 0) a_nil)))
  (s_cons (s_expr (e_callX F tk G_check_many (a_cons (e_var F 1) a_nil)))
  (s_cons (s_setLc (W' := W0) F 2 [("order", 3)] (i_list F (e_callX F tk G_all_rankings (a_cons (e_var F 0) a_nil)).b) (fun F1 => (g_name F1 3)) (fun F1 => (ts_one (t_eq F1 (e_callX F1 (fun _ => takes0) G_inversions (a_cons (e_var F1 3) a_nil)).b (b_var F1 1)))) (fun F1 => (e_callX F1 (fun _ => takes0) G_squares_of (a_cons (e_var F1 3) a_nil))))
  (s_one (s_ret (e_ifx (t_ne F (b_var F 2) (e_lst a_nil).e.b) (e_min1 F T.n_min (b_var F 2)) e_none))))))
theorem k_least_squares (T : Top K mg) : KnownX P w K mg base 11 "least_squares" P_least_squares (spX mg 2 C_least_squares) := knownX_fn T.f_least_squares sc_least_squares bi_least_squares 2 4 11 rfl rfl rfl fun W Xs F tk hp hq => b_least_squares T (k_check_size T) (k_check_many T) (k_all_rankings T) (k_inversions T) (k_squares_of T) F tk hp hq
theorem b_greatest_squares (T : Top K mg) (G_check_size : KnownX P w K mg base 2 "check_size" P_check_size (spX mg 1 C_check_size)) (G_check_many : KnownX P w K mg base 2 "check_many" P_check_many (spX mg 1 C_check_many)) (G_all_rankings : KnownX P w K mg base 10 "all_rankings" P_all_rankings (spX mg 1 C_all_rankings)) (G_inversions : KnownX P w K mg base 1 "inversions" P_inversions (spX mg 1 C_inversions)) (G_squares_of : KnownX P w K mg base 1 "squares_of" P_squares_of (spX mg 1 C_squares_of)) {W : WX} {Xs : Unit → Cx} (F : Fam Xs P w K mg base N_greatest_squares (defScope s_greatest_squares) (fun _ => true) 10) (tk : ∀ j, Takes (Xs j) W) (hp : ∀ j, PassesOwn (model (Xs j).prog (Xs j).w) (Xs j).A (Xs j).env (Xs j).xe) (hq : ∀ j, (Xs j).stack = (Xs j).env :: (Xs j).outer ∧ (Xs j).env.frame = some (Xs j).env.locals ∧ (Xs j).ex = []) : SSs (cvM mg) W .dat Xs (defBody s_greatest_squares) (F_greatest_squares) :=
  (s_cons (s_expr (e_callX F tk G_check_size (a_cons (e_var F 0) a_nil)))
  (s_cons (s_expr (e_callX F tk G_check_many (a_cons (e_var F 1) a_nil)))
  (s_cons (s_setLc (W' := W0) F 2 [("order", 3)] (i_list F (e_callX F tk G_all_rankings (a_cons (e_var F 0) a_nil)).b) (fun F1 => (g_name F1 3)) (fun F1 => (ts_one (t_eq F1 (e_callX F1 (fun _ => takes0) G_inversions (a_cons (e_var F1 3) a_nil)).b (b_var F1 1)))) (fun F1 => (e_callX F1 (fun _ => takes0) G_squares_of (a_cons (e_var F1 3) a_nil))))
  (s_one (s_ret (e_ifx (t_ne F (b_var F 2) (e_lst a_nil).e.b) (e_max1 F T.n_max (b_var F 2)) e_none))))))
theorem k_greatest_squares (T : Top K mg) : KnownX P w K mg base 11 "greatest_squares" P_greatest_squares (spX mg 2 C_greatest_squares) := knownX_fn T.f_greatest_squares sc_greatest_squares bi_greatest_squares 2 4 11 rfl rfl rfl fun W Xs F tk hp hq => b_greatest_squares T (k_check_size T) (k_check_many T) (k_all_rankings T) (k_inversions T) (k_squares_of T) F tk hp hq
theorem b_order_with_table (T : Top K mg) (G_is_int : KnownX P w K mg base 1 "is_int" P_is_int (spX mg 3 C_is_int)) {W : WX} {Xs : Unit → Cx} (F : Fam Xs P w K mg base N_order_with_table (defScope s_order_with_table) (fun _ => true) 1) (tk : ∀ j, Takes (Xs j) W) (hp : ∀ j, PassesOwn (model (Xs j).prog (Xs j).w) (Xs j).A (Xs j).env (Xs j).xe) (hq : ∀ j, (Xs j).stack = (Xs j).env :: (Xs j).outer ∧ (Xs j).env.frame = some (Xs j).env.locals ∧ (Xs j).ex = []) : SSs (cvM mg) W .dat Xs (defBody s_order_with_table) (F_order_with_table) :=
  (s_cons (s_if ((w_or (t_not (t_val (e_isi F tg_list T.n_isinstance T.n_list PyProof.Rows.boot_list (b_var F 0)))) (w_or1 (t_not (t_chain (fun _ => op_le) ope_le noer_le (fun _ => op_le) ope_le noer_le (e_int).b (e_len F T.n_len (b_var F 0)).b (e_int).b))))).tt (s_one (s_raise F tk 2 T.e_BadNumber)) s_nil)
  (s_cons (s_if (t_not (t_val (e_all F T.n_all (f_comp (W' := W0) F [("k", 4), ("many", 3)] (i_enum F T.n_enumerate (ab_cons (b_var F 0) ab_nil)) (fun F1 => (g_tup F1 (gs_cons F1 4 (gs_cons F1 3 gs_nil)))) (fun F1 => ts_nil) (fun F1 => (e_callX F1 (fun _ => takes0) G_is_int (a_cons (e_var F1 3) (a_cons e_int (a_cons (e_sub (e_sub (e_len F1 T.n_len (b_var F1 0)).b (e_int).b).b (b_var F1 4)) a_nil)))))).e.b))) (s_one (s_raise F tk 2 T.e_BadNumber)) s_nil)
  (s_cons (s_set F 1 (f_list_range2 F T.n_list T.n_range (e_int).b (e_add F (e_len F T.n_len (b_var F 0)).b (e_int).b).b).e)
  (s_cons (s_own F 2 (e_lst a_nil))
  (s_cons (s_for F hp [3] (is_list F (e_var F 0)) (g_name F 3)
  (s_cons (s_app F 2 (e_ix F (b_var F 1) (b_var F 3)))
  (s_one (s_set F 1 (e_add F (e_slice F (b_var F 1) o_none (o_some (b_var F 3))).b (e_slice F (b_var F 1) (o_some (e_add F (b_var F 3) (e_int).b).b) o_none).b)))))
  (s_one (s_frz 2 (s_ret (e_var F 2)))))))))
theorem k_order_with_table (T : Top K mg) : KnownX P w K mg base 2 "order_with_table" P_order_with_table (spX mg 1 C_order_with_table) := knownX_fn T.f_order_with_table sc_order_with_table bi_order_with_table 1 5 2 rfl rfl rfl fun W Xs F tk hp hq => b_order_with_table T (k_is_int T) F tk hp hq
theorem b_after_neighbours (T : Top K mg) (G_check_ranking : KnownX P w K mg base 3 "check_ranking" P_check_ranking (spX mg 1 C_check_ranking)) (G_is_int : KnownX P w K mg base 1 "is_int" P_is_int (spX mg 3 C_is_int)) {W : WX} {Xs : Unit → Cx} (F : Fam Xs P w K mg base N_after_neighbours (defScope s_after_neighbours) (fun _ => true) 3) (tk : ∀ j, Takes (Xs j) W) (hp : ∀ j, PassesOwn (model (Xs j).prog (Xs j).w) (Xs j).A (Xs j).env (Xs j).xe) (hq : ∀ j, (Xs j).stack = (Xs j).env :: (Xs j).outer ∧ (Xs j).env.frame = some (Xs j).env.locals ∧ (Xs j).ex = []) : SSs (cvM mg) W .dat Xs (defBody s_after_neighbours) (F_after_neighbours) :=
  (s_cons (s_expr (e_callX F tk G_check_ranking (a_cons (e_var F 0) a_nil)))
  (s_cons (s_if ((w_or (t_not (t_val (e_isi F tg_list T.n_isinstance T.n_list PyProof.Rows.boot_list (b_var F 1)))) (w_or1 (t_not (t_val (e_all F T.n_all (f_comp (W' := W0) F [("rank", 3)] (i_list F (b_var F 1)) (fun F1 => (g_name F1 3)) (fun F1 => ts_nil) (fun F1 => (e_callX F1 (fun _ => takes0) G_is_int (a_cons (e_var F1 3) (a_cons e_int (a_cons (e_sub (e_len F1 T.n_len (b_var F1 0)).b (e_int).b) a_nil)))))).e.b)))))).tt (s_one (s_raise F tk 2 T.e_BadNumber)) s_nil)
  (s_cons (s_set F 2 (f_list F T.n_list (b_var F 0)).e)
  (s_cons (s_for F hp [3] (is_list F (e_var F 1)) (g_name F 3)
  (s_one (s_setLc (W' := W0) F 2 [("own", 4)] (i_list F (b_var F 2)) (fun F1 => (g_name F1 4)) (fun F1 => ts_nil) (fun F1 => (e_ifx (t_eq F1 (b_var F1 4) (b_var F1 3)) (e_add F1 (b_var F1 3) (e_int).b) (e_ifx (t_eq F1 (b_var F1 4) (e_add F1 (b_var F1 3) (e_int).b).b) (e_var F1 3) (e_var F1 4)))))))
  (s_one (s_ret (e_var F 2)))))))
theorem k_after_neighbours (T : Top K mg) : KnownX P w K mg base 4 "after_neighbours" P_after_neighbours (spX mg 2 C_after_neighbours) := knownX_fn T.f_after_neighbours sc_after_neighbours bi_after_neighbours 2 5 4 rfl rfl rfl fun W Xs F tk hp hq => b_after_neighbours T (k_check_ranking T) (k_is_int T) F tk hp hq
theorem b_after_exchanges (T : Top K mg) (G_check_ranking : KnownX P w K mg base 3 "check_ranking" P_check_ranking (spX mg 1 C_check_ranking)) (G_is_int : KnownX P w K mg base 1 "is_int" P_is_int (spX mg 3 C_is_int)) {W : WX} {Xs : Unit → Cx} (F : Fam Xs P w K mg base N_after_exchanges (defScope s_after_exchanges) (fun _ => true) 3) (tk : ∀ j, Takes (Xs j) W) (hp : ∀ j, PassesOwn (model (Xs j).prog (Xs j).w) (Xs j).A (Xs j).env (Xs j).xe) (hq : ∀ j, (Xs j).stack = (Xs j).env :: (Xs j).outer ∧ (Xs j).env.frame = some (Xs j).env.locals ∧ (Xs j).ex = []) : SSs (cvM mg) W .dat Xs (defBody s_after_exchanges) (F_after_exchanges) :=
  (s_cons (s_expr (e_callX F tk G_check_ranking (a_cons (e_var F 0) a_nil)))
  (s_cons (s_if (t_not (t_val (e_isi F tg_list T.n_isinstance T.n_list PyProof.Rows.boot_list (b_var F 1)))) (s_one (s_raise F tk 2 T.e_BadNumber)) s_nil)
  (s_cons (s_own F 2 (f_list F T.n_list (b_var F 0)))
  (s_cons (s_for F hp [3, 4, 5] (is_list F (e_var F 1)) (g_name F 3)
  (s_cons (s_if ((w_or (t_not (t_val (e_isi F tg_tuple T.n_isinstance T.n_tuple PyProof.Rows.boot_tuple (b_var F 3)))) (w_or (t_ne F (e_len F T.n_len (b_var F 3)).b (e_int).b) (w_or1 (t_not (t_val (e_all F T.n_all (f_comp (W' := W0) F [("k", 6)] (is_tup F (e_var F 3)).i (fun F1 => (g_name F1 6)) (fun F1 => ts_nil) (fun F1 => (e_callX F1 (fun _ => takes0) G_is_int (a_cons (e_var F1 6) (a_cons e_int (a_cons (e_sub (e_len F1 T.n_len (b_var F1 0)).b (e_int).b) a_nil)))))).e.b))))))).tt (s_one (s_raise F tk 2 T.e_BadNumber)) s_nil)
  (s_cons (s_asg (e_var F 3) (g_tup F (gs_cons F 4 (gs_cons F 5 gs_nil))))
  (s_one (s_swap F 2 (a_cons (e_ix F (b_var F 2) (b_var F 5)) (a_cons (e_ix F (b_var F 2) (b_var F 4)) a_nil)) (b_var F 4) (b_var F 5))))))
  (s_one (s_frz 2 (s_ret (e_var F 2))))))))
theorem k_after_exchanges (T : Top K mg) : KnownX P w K mg base 4 "after_exchanges" P_after_exchanges (spX mg 2 C_after_exchanges) := knownX_fn T.f_after_exchanges sc_after_exchanges bi_after_exchanges 2 7 4 rfl rfl rfl fun W Xs F tk hp hq => b_after_exchanges T (k_check_ranking T) (k_is_int T) F tk hp hq
theorem b_check_small (T : Top K mg) (G_check_both : KnownX P w K mg base 4 "check_both" P_check_both (spX mg 2 C_check_both)) {W : WX} {Xs : Unit → Cx} (F : Fam Xs P w K mg base N_check_small (defScope s_check_small) (fun _ => true) 4) (tk : ∀ j, Takes (Xs j) W) (hp : ∀ j, PassesOwn (model (Xs j).prog (Xs j).w) (Xs j).A (Xs j).env (Xs j).xe) (hq : ∀ j, (Xs j).stack = (Xs j).env :: (Xs j).outer ∧ (Xs j).env.frame = some (Xs j).env.locals ∧ (Xs j).ex = []) : SSs (cvM mg) W .dat Xs (defBody s_check_small) (F_check_small) :=
  (s_cons (s_expr (e_callX F tk G_check_both (a_cons (e_var F 0) (a_cons (e_var F 1) a_nil))))
  (s_one (s_if (t_gt (e_len F T.n_len (b_var F 0)).b (e_int).b) (s_one (s_raise F tk 0 T.e_BadRanking)) s_nil)))
theorem k_check_small (T : Top K mg) : KnownX P w K mg base 5 "check_small" P_check_small (spX mg 2 C_check_small) := knownX_fn T.f_check_small sc_check_small bi_check_small 2 2 5 rfl rfl rfl fun W Xs F tk hp hq => b_check_small T (k_check_both T) F tk hp hq
theorem b_near (T : Top K mg) (G_check_small : KnownX P w K mg base 5 "check_small" P_check_small (spX mg 2 C_check_small)) (G_is_int : KnownX P w K mg base 1 "is_int" P_is_int (spX mg 3 C_is_int)) (G_all_rankings : KnownX P w K mg base 10 "all_rankings" P_all_rankings (spX mg 1 C_all_rankings)) (G_against : KnownX P w K mg base 1 "against" P_against (spX mg 2 C_against)) {W : WX} {Xs : Unit → Cx} (F : Fam Xs P w K mg base N_near (defScope s_near) (fun _ => true) 10) (tk : ∀ j, Takes (Xs j) W) (hp : ∀ j, PassesOwn (model (Xs j).prog (Xs j).w) (Xs j).A (Xs j).env (Xs j).xe) (hq : ∀ j, (Xs j).stack = (Xs j).env :: (Xs j).outer ∧ (Xs j).env.frame = some (Xs j).env.locals ∧ (Xs j).ex = []) : SSs (cvM mg) W .dat Xs (defBody s_near) (F_near) :=
  (s_cons (s_expr (e_callX F tk G_check_small (a_cons (e_var F 0) (a_cons (e_var F 0) a_nil))))
  (s_cons (s_if (t_not (t_val (e_callX F tk G_is_int (a_cons (e_var F 1) (a_cons e_int (a_cons e_int a_nil)))))) (s_one (s_raise F tk 2 T.e_BadNumber)) s_nil)
  (s_one (s_ret (f_comp (W' := W0) F [("other", 2)] (i_list F (e_callX F tk G_all_rankings (a_cons (e_len F T.n_len (b_var F 0)) a_nil)).b) (fun F1 => (g_name F1 2)) (fun F1 => (ts_one (t_le (e_len F1 T.n_len (e_callX F1 (fun _ => takes0) G_against (a_cons (e_var F1 0) (a_cons (e_var F1 2) a_nil))).b).b (b_var F1 1)))) (fun F1 => (e_var F1 2))).e))))
theorem k_near (T : Top K mg) : KnownX P w K mg base 11 "near" P_near (spX mg 2 C_near) := knownX_fn T.f_near sc_near bi_near 2 3 11 rfl rfl rfl fun W Xs F tk hp hq => b_near T (k_check_small T) (k_is_int T) (k_all_rankings T) (k_against T) F tk hp hq
theorem b_count_with (T : Top K mg) (G_is_int : KnownX P w K mg base 1 "is_int" P_is_int (spX mg 3 C_is_int)) {W : WX} {Xs : Unit → Cx} (F : Fam Xs P w K mg base N_count_with (defScope s_count_with) (fun _ => true) 1) (tk : ∀ j, Takes (Xs j) W) (hp : ∀ j, PassesOwn (model (Xs j).prog (Xs j).w) (Xs j).A (Xs j).env (Xs j).xe) (hq : ∀ j, (Xs j).stack = (Xs j).env :: (Xs j).outer ∧ (Xs j).env.frame = some (Xs j).env.locals ∧ (Xs j).ex = []) : SSs (cvM mg) W .dat Xs (defBody s_count_with) (F_count_with) :=
  (s_cons (s_if (t_not (t_val (e_callX F tk G_is_int (a_cons (e_var F 0) (a_cons e_int (a_cons e_int a_nil)))))) (s_one (s_raise F tk 2 T.e_BadNumber)) s_nil)
  (s_cons (s_if (t_not (t_val (e_callX F tk G_is_int (a_cons (e_var F 1) (a_cons e_int (a_cons e_int a_nil)))))) (s_one (s_raise F tk 2 T.e_BadNumber)) s_nil)
  (s_cons (s_set F 2 (e_lst (a_cons e_int a_nil)).e)
  (s_cons (s_for F hp [3, 4, 5] (is_range2 F T.n_range (e_int).b (e_add F (b_var F 0) (e_int).b).b) (g_name F 3)
  (s_cons (s_own F 4 (e_lst a_nil))
  (s_cons (s_for F hp [5] (is_range1 F T.n_range (e_sub (e_add F (e_len F T.n_len (b_var F 2)).b (b_var F 3)).b (e_int).b).b) (g_name F 5)
  (s_one (s_app F 4 (e_sum F T.n_sum (e_slice F (b_var F 2) (o_some (e_max2 F T.n_max (e_int).b (e_add F (e_sub (b_var F 5) (b_var F 3)).b (e_int).b).b).b) (o_some (e_add F (b_var F 5) (e_int).b).b)).b))))
  (s_one (s_frz 4 (s_set F 2 (e_var F 4)))))))
  (s_one (s_ret (e_ifx (t_lt (b_var F 1) (e_len F T.n_len (b_var F 2)).b) (e_ix F (b_var F 2) (b_var F 1)) e_int)))))))
theorem k_count_with (T : Top K mg) : KnownX P w K mg base 2 "count_with" P_count_with (spX mg 2 C_count_with) := knownX_fn T.f_count_with sc_count_with bi_count_with 2 6 2 rfl rfl rfl fun W Xs F tk hp hq => b_count_with T (k_is_int T) F tk hp hq
theorem b_value_table (T : Top K mg) (G_check_size : KnownX P w K mg base 2 "check_size" P_check_size (spX mg 1 C_check_size)) (G_all_rankings : KnownX P w K mg base 10 "all_rankings" P_all_rankings (spX mg 1 C_all_rankings)) (G_squares_of : KnownX P w K mg base 1 "squares_of" P_squares_of (spX mg 1 C_squares_of)) (G_inversions : KnownX P w K mg base 1 "inversions" P_inversions (spX mg 1 C_inversions)) {W : WX} {Xs : Unit → Cx} (F : Fam Xs P w K mg base N_value_table (defScope s_value_table) (fun _ => true) 10) (tk : ∀ j, Takes (Xs j) W) (hp : ∀ j, PassesOwn (model (Xs j).prog (Xs j).w) (Xs j).A (Xs j).env (Xs j).xe) (hq : ∀ j, (Xs j).stack = (Xs j).env :: (Xs j).outer ∧ (Xs j).env.frame = some (Xs j).env.locals ∧ (Xs j).ex = []) : SSs (cvM mg) W .dat Xs (defBody s_value_table) (F_value_table) :=
  (s_cons (s_expr (e_callX F tk G_check_size (a_cons (e_var F 0) a_nil)))
  (s_cons (s_dnew F 1)
  (s_cons (s_for F hp [2, 3] (is_list F (e_callX F tk G_all_rankings (a_cons (e_var F 0) a_nil))) (g_name F 2)
  (s_cons (s_set F 3 (e_tup (a_cons (e_callX F tk G_inversions (a_cons (e_var F 2) a_nil)) (a_cons (e_callX F tk G_squares_of (a_cons (e_var F 2) a_nil)) a_nil))))
  (s_one (s_dput F 1 (e_var F 3) (e_add F (e_dget2 F 1 (e_var F 3) e_int).b (e_int).b)))))
  (s_one (s_ret (f_comp (W' := W0) F [("key", 3)] (i_list F (f_dsort F T.n_sorted 1).e.b) (fun F1 => (g_name F1 3)) (fun F1 => ts_nil) (fun F1 => (e_add F1 (b_var F1 3) (e_tup (a_cons (e_dix F1 1 (e_var F1 3)) a_nil)).b))).e)))))
theorem k_value_table (T : Top K mg) : KnownX P w K mg base 11 "value_table" P_value_table (spX mg 1 C_value_table) := knownX_fn T.f_value_table sc_value_table bi_value_table 1 4 11 rfl rfl rfl fun W Xs F tk hp hq => b_value_table T (k_check_size T) (k_all_rankings T) (k_squares_of T) (k_inversions T) F tk hp hq
theorem b_orders_with (T : Top K mg) (G_check_size : KnownX P w K mg base 2 "check_size" P_check_size (spX mg 1 C_check_size)) (G_is_int : KnownX P w K mg base 1 "is_int" P_is_int (spX mg 3 C_is_int)) (G_all_rankings : KnownX P w K mg base 10 "all_rankings" P_all_rankings (spX mg 1 C_all_rankings)) (G_squares_of : KnownX P w K mg base 1 "squares_of" P_squares_of (spX mg 1 C_squares_of)) (G_inversions : KnownX P w K mg base 1 "inversions" P_inversions (spX mg 1 C_inversions)) {W : WX} {Xs : Unit → Cx} (F : Fam Xs P w K mg base N_orders_with (defScope s_orders_with) (fun _ => true) 10) (tk : ∀ j, Takes (Xs j) W) (hp : ∀ j, PassesOwn (model (Xs j).prog (Xs j).w) (Xs j).A (Xs j).env (Xs j).xe) (hq : ∀ j, (Xs j).stack = (Xs j).env :: (Xs j).outer ∧ (Xs j).env.frame = some (Xs j).env.locals ∧ (Xs j).ex = []) : SSs (cvM mg) W .dat Xs (defBody s_orders_with) (F_orders_with) :=
  (s_cons (s_expr (e_callX F tk G_check_size (a_cons (e_var F 0) a_nil)))
  (s_cons (s_if ((w_or (t_not (t_val (e_callX F tk G_is_int (a_cons (e_var F 1) (a_cons e_int (a_cons e_int a_nil)))))) (w_or1 (t_not (t_val (e_callX F tk G_is_int (a_cons (e_var F 2) (a_cons e_int (a_cons e_int a_nil))))))))).tt (s_one (s_raise F tk 2 T.e_BadNumber)) s_nil)
  (s_one (s_ret (f_comp (W' := W0) F [("order", 3)] (i_list F (e_callX F tk G_all_rankings (a_cons (e_var F 0) a_nil)).b) (fun F1 => (g_name F1 3)) (fun F1 => (ts_one (t_eq F1 (e_tup (a_cons (e_callX F1 (fun _ => takes0) G_inversions (a_cons (e_var F1 3) a_nil)) (a_cons (e_callX F1 (fun _ => takes0) G_squares_of (a_cons (e_var F1 3) a_nil)) a_nil))).b (e_tup (a_cons (e_var F1 1) (a_cons (e_var F1 2) a_nil))).b))) (fun F1 => (e_var F1 3))).e))))
theorem k_orders_with (T : Top K mg) : KnownX P w K mg base 11 "orders_with" P_orders_with (spX mg 3 C_orders_with) := knownX_fn T.f_orders_with sc_orders_with bi_orders_with 3 4 11 rfl rfl rfl fun W Xs F tk hp hq => b_orders_with T (k_check_size T) (k_is_int T) (k_all_rankings T) (k_squares_of T) (k_inversions T) F tk hp hq
theorem b_can_be (T : Top K mg) (G_orders_with : KnownX P w K mg base 11 "orders_with" P_orders_with (spX mg 3 C_orders_with)) {W : WX} {Xs : Unit → Cx} (F : Fam Xs P w K mg base N_can_be (defScope s_can_be) (fun _ => true) 11) (tk : ∀ j, Takes (Xs j) W) (hp : ∀ j, PassesOwn (model (Xs j).prog (Xs j).w) (Xs j).A (Xs j).env (Xs j).xe) (hq : ∀ j, (Xs j).stack = (Xs j).env :: (Xs j).outer ∧ (Xs j).env.frame = some (Xs j).env.locals ∧ (Xs j).ex = []) : SSs (cvM mg) W .dat Xs (defBody s_can_be) (F_can_be) :=
  (s_one (s_ret (e_ne F (e_callX F tk G_orders_with (a_cons (e_var F 0) (a_cons (e_var F 1) (a_cons (e_var F 2) a_nil)))).b (e_lst a_nil).e.b)))
theorem k_can_be (T : Top K mg) : KnownX P w K mg base 12 "can_be" P_can_be (spX mg 3 C_can_be) := knownX_fn T.f_can_be sc_can_be bi_can_be 3 3 12 rfl rfl rfl fun W Xs F tk hp hq => b_can_be T (k_orders_with T) F tk hp hq
theorem b_first_with (T : Top K mg) (G_orders_with : KnownX P w K mg base 11 "orders_with" P_orders_with (spX mg 3 C_orders_with)) {W : WX} {Xs : Unit → Cx} (F : Fam Xs P w K mg base N_first_with (defScope s_first_with) (fun _ => true) 11) (tk : ∀ j, Takes (Xs j) W) (hp : ∀ j, PassesOwn (model (Xs j).prog (Xs j).w) (Xs j).A (Xs j).env (Xs j).xe) (hq : ∀ j, (Xs j).stack = (Xs j).env :: (Xs j).outer ∧ (Xs j).env.frame = some (Xs j).env.locals ∧ (Xs j).ex = []) : SSs (cvM mg) W .dat Xs (defBody s_first_with) (F_first_with) :=
  (s_cons (s_set F 3 (e_callX F tk G_orders_with (a_cons (e_var F 0) (a_cons (e_var F 1) (a_cons (e_var F 2) a_nil)))))
  (s_cons (s_if (t_eq F (b_var F 3) (e_lst a_nil).e.b) (s_one (s_raise F tk 4 T.e_NotFound)) s_nil)
  (s_one (s_ret (e_ix F (b_var F 3) (e_int).b)))))
theorem k_first_with (T : Top K mg) : KnownX P w K mg base 12 "first_with" P_first_with (spX mg 3 C_first_with) := knownX_fn T.f_first_with sc_first_with bi_first_with 3 4 12 rfl rfl rfl fun W Xs F tk hp hq => b_first_with T (k_orders_with T) F tk hp hq
theorem b_order_at (T : Top K mg) (G_orders_with : KnownX P w K mg base 11 "orders_with" P_orders_with (spX mg 3 C_orders_with)) (G_is_int : KnownX P w K mg base 1 "is_int" P_is_int (spX mg 3 C_is_int)) {W : WX} {Xs : Unit → Cx} (F : Fam Xs P w K mg base N_order_at (defScope s_order_at) (fun _ => true) 11) (tk : ∀ j, Takes (Xs j) W) (hp : ∀ j, PassesOwn (model (Xs j).prog (Xs j).w) (Xs j).A (Xs j).env (Xs j).xe) (hq : ∀ j, (Xs j).stack = (Xs j).env :: (Xs j).outer ∧ (Xs j).env.frame = some (Xs j).env.locals ∧ (Xs j).ex = []) : SSs (cvM mg) W .dat Xs (defBody s_order_at) (F_order_at) :=
  (s_cons (s_set F 4 (e_callX F tk G_orders_with (a_cons (e_var F 0) (a_cons (e_var F 1) (a_cons (e_var F 2) a_nil)))))
  (s_cons (s_if (t_not (t_val (e_callX F tk G_is_int (a_cons (e_var F 3) (a_cons e_int (a_cons (e_sub (e_len F T.n_len (b_var F 4)).b (e_int).b) a_nil)))))) (s_one (s_raise F tk 2 T.e_BadNumber)) s_nil)
  (s_one (s_ret (e_ix F (b_var F 4) (b_var F 3))))))
theorem k_order_at (T : Top K mg) : KnownX P w K mg base 12 "order_at" P_order_at (spX mg 4 C_order_at) := knownX_fn T.f_order_at sc_order_at bi_order_at 4 5 12 rfl rfl rfl fun W Xs F tk hp hq => b_order_at T (k_orders_with T) (k_is_int T) F tk hp hq
theorem b_check_same (T : Top K mg) (G_check_scores : KnownX P w K mg base 3 "check_scores" P_check_scores (spX mg 1 C_check_scores)) {W : WX} {Xs : Unit → Cx} (F : Fam Xs P w K mg base N_check_same (defScope s_check_same) (fun _ => true) 3) (tk : ∀ j, Takes (Xs j) W) (hp : ∀ j, PassesOwn (model (Xs j).prog (Xs j).w) (Xs j).A (Xs j).env (Xs j).xe) (hq : ∀ j, (Xs j).stack = (Xs j).env :: (Xs j).outer ∧ (Xs j).env.frame = some (Xs j).env.locals ∧ (Xs j).ex = []) : SSs (cvM mg) W .dat Xs (defBody s_check_same) (F_check_same) :=
  (s_cons (s_expr (e_callX F tk G_check_scores (a_cons (e_var F 0) a_nil)))
  (s_cons (s_expr (e_callX F tk G_check_scores (a_cons (e_var F 1) a_nil)))
  (s_one (s_if (t_ne F (e_len F T.n_len (b_var F 0)).b (e_len F T.n_len (b_var F 1)).b) (s_one (s_raise F tk 1 T.e_BadScores)) s_nil))))
theorem k_check_same (T : Top K mg) : KnownX P w K mg base 4 "check_same" P_check_same (spX mg 2 C_check_same) := knownX_fn T.f_check_same sc_check_same bi_check_same 2 2 4 rfl rfl rfl fun W Xs F tk hp hq => b_check_same T (k_check_scores T) F tk hp hq
theorem b_outcomes (T : Top K mg) {W : WX} {Xs : Unit → Cx} (F : Fam Xs P w K mg base N_outcomes (defScope s_outcomes) (fun _ => true) 0) (tk : ∀ j, Takes (Xs j) W) (hp : ∀ j, PassesOwn (model (Xs j).prog (Xs j).w) (Xs j).A (Xs j).env (Xs j).xe) (hq : ∀ j, (Xs j).stack = (Xs j).env :: (Xs j).outer ∧ (Xs j).env.frame = some (Xs j).env.locals ∧ (Xs j).ex = []) : SSs (cvM mg) W .dat Xs (defBody s_outcomes) (F_outcomes) :=
  (s_cons (s_own F 2 (e_lst (a_cons e_int (a_cons e_int (a_cons e_int (a_cons e_int (a_cons e_int a_nil)))))))
  (s_cons (s_for F hp [3, 4, 5, 6] (is_range1 F T.n_range (e_len F T.n_len (b_var F 0)).b) (g_name F 3)
  (s_one (s_for F hp [4, 5, 6] (is_range2 F T.n_range (e_add F (b_var F 3) (e_int).b).b (e_len F T.n_len (b_var F 0)).b) (g_name F 4)
  (s_cons (s_par2 F 5 6 (a_cons (e_sub (e_ix F (b_var F 0) (b_var F 3)).b (e_ix F (b_var F 0) (b_var F 4)).b) (a_cons (e_sub (e_ix F (b_var F 1) (b_var F 3)).b (e_ix F (b_var F 1) (b_var F 4)).b) a_nil)))
  (s_one (s_if ((w_and (t_eq F (b_var F 5) (e_int).b) (w_and1 (t_eq F (b_var F 6) (e_int).b)))).tt (s_one (s_augI F 2 (e_int).b (e_int).b)) (s_one (s_if (t_eq F (b_var F 5) (e_int).b) (s_one (s_augI F 2 (e_int).b (e_int).b)) (s_one (s_if (t_eq F (b_var F 6) (e_int).b) (s_one (s_augI F 2 (e_int).b (e_int).b)) (s_one (s_augI F 2 (e_ifx (t_eq F (e_gt (b_var F 5) (e_int).b).b (e_gt (b_var F 6) (e_int).b).b) e_int e_int).b (e_int).b))))))))))))
  (s_one (s_frz 2 (s_ret (e_var F 2))))))
theorem k_outcomes (T : Top K mg) : KnownX P w K mg base 1 "outcomes" P_outcomes (spX mg 2 C_outcomes) := knownX_fn T.f_outcomes sc_outcomes bi_outcomes 2 7 1 rfl rfl rfl fun W Xs F tk hp hq => b_outcomes T  F tk hp hq
theorem b_pair_outcomes (T : Top K mg) (G_check_same : KnownX P w K mg base 4 "check_same" P_check_same (spX mg 2 C_check_same)) (G_outcomes : KnownX P w K mg base 1 "outcomes" P_outcomes (spX mg 2 C_outcomes)) {W : WX} {Xs : Unit → Cx} (F : Fam Xs P w K mg base N_pair_outcomes (defScope s_pair_outcomes) (fun _ => true) 4) (tk : ∀ j, Takes (Xs j) W) (hp : ∀ j, PassesOwn (model (Xs j).prog (Xs j).w) (Xs j).A (Xs j).env (Xs j).xe) (hq : ∀ j, (Xs j).stack = (Xs j).env :: (Xs j).outer ∧ (Xs j).env.frame = some (Xs j).env.locals ∧ (Xs j).ex = []) : SSs (cvM mg) W .dat Xs (defBody s_pair_outcomes) (F_pair_outcomes) :=
  (s_cons (s_expr (e_callX F tk G_check_same (a_cons (e_var F 0) (a_cons (e_var F 1) a_nil))))
  (s_one (s_ret (e_tuple F T.n_tuple (e_callX F tk G_outcomes (a_cons (e_var F 0) (a_cons (e_var F 1) a_nil))).b))))
theorem k_pair_outcomes (T : Top K mg) : KnownX P w K mg base 5 "pair_outcomes" P_pair_outcomes (spX mg 2 C_pair_outcomes) := knownX_fn T.f_pair_outcomes sc_pair_outcomes bi_pair_outcomes 2 2 5 rfl rfl rfl fun W Xs F tk hp hq => b_pair_outcomes T (k_check_same T) (k_outcomes T) F tk hp hq
theorem b_shared_ranks (T : Top K mg) (G_check_scores : KnownX P w K mg base 3 "check_scores" P_check_scores (spX mg 1 C_check_scores)) {W : WX} {Xs : Unit → Cx} (F : Fam Xs P w K mg base N_shared_ranks (defScope s_shared_ranks) (fun _ => true) 3) (tk : ∀ j, Takes (Xs j) W) (hp : ∀ j, PassesOwn (model (Xs j).prog (Xs j).w) (Xs j).A (Xs j).env (Xs j).xe) (hq : ∀ j, (Xs j).stack = (Xs j).env :: (Xs j).outer ∧ (Xs j).env.frame = some (Xs j).env.locals ∧ (Xs j).ex = []) : SSs (cvM mg) W .dat Xs (defBody s_shared_ranks) (F_shared_ranks) :=
  (s_cons (s_expr (e_callX F tk G_check_scores (a_cons (e_var F 0) a_nil)))
  (s_cons (s_own F 1 (e_lst a_nil))
  (s_cons (s_for F hp [2, 3] (is_list F (e_var F 0)) (g_name F 2)
  (s_cons (s_set F 3 (e_len F T.n_len (f_comp (W' := W0) F [("one", 4)] (i_list F (b_var F 0)) (fun F1 => (g_name F1 4)) (fun F1 => (ts_one (t_lt (b_var F1 4) (b_var F1 2)))) (fun F1 => (e_var F1 4))).e.b))
  (s_one (s_app F 1 (e_add F (e_add F (e_mul F (e_int).b (b_var F 3)).b (e_count F (b_var F 0) (b_var F 2)).b).b (e_int).b)))))
  (s_one (s_frz 1 (s_ret (e_var F 1)))))))
theorem k_shared_ranks (T : Top K mg) : KnownX P w K mg base 4 "shared_ranks" P_shared_ranks (spX mg 1 C_shared_ranks) := knownX_fn T.f_shared_ranks sc_shared_ranks bi_shared_ranks 1 5 4 rfl rfl rfl fun W Xs F tk hp hq => b_shared_ranks T (k_check_scores T) F tk hp hq
theorem b_tie_groups (T : Top K mg) (G_check_scores : KnownX P w K mg base 3 "check_scores" P_check_scores (spX mg 1 C_check_scores)) {W : WX} {Xs : Unit → Cx} (F : Fam Xs P w K mg base N_tie_groups (defScope s_tie_groups) (fun _ => true) 3) (tk : ∀ j, Takes (Xs j) W) (hp : ∀ j, PassesOwn (model (Xs j).prog (Xs j).w) (Xs j).A (Xs j).env (Xs j).xe) (hq : ∀ j, (Xs j).stack = (Xs j).env :: (Xs j).outer ∧ (Xs j).env.frame = some (Xs j).env.locals ∧ (Xs j).ex = []) : SSs (cvM mg) W .dat Xs (defBody s_tie_groups) (F_tie_groups) :=
  (s_cons (s_expr (e_callX F tk G_check_scores (a_cons (e_var F 0) a_nil)))
  (s_one (s_ret (f_comp (W' := W0) F [("score", 1)] (i_list F (f_sortSet F T.n_sorted T.n_set (b_var F 0)).e.b) (fun F1 => (g_name F1 1)) (fun F1 => (ts_one (t_gt (e_count F1 (b_var F1 0) (b_var F1 1)).b (e_int).b))) (fun F1 => (e_tup (a_cons (e_var F1 1) (a_cons (e_count F1 (b_var F1 0) (b_var F1 1)) a_nil))))).e)))
theorem k_tie_groups (T : Top K mg) : KnownX P w K mg base 4 "tie_groups" P_tie_groups (spX mg 1 C_tie_groups) := knownX_fn T.f_tie_groups sc_tie_groups bi_tie_groups 1 2 4 rfl rfl rfl fun W Xs F tk hp hq => b_tie_groups T (k_check_scores T) F tk hp hq
theorem b_plain_agreement (T : Top K mg) (G_check_same : KnownX P w K mg base 4 "check_same" P_check_same (spX mg 2 C_check_same)) (G_outcomes : KnownX P w K mg base 1 "outcomes" P_outcomes (spX mg 2 C_outcomes)) (G_lowest : KnownX P w K mg base 2 "lowest" P_lowest (spX mg 2 C_lowest)) {W : WX} {Xs : Unit → Cx} (F : Fam Xs P w K mg base N_plain_agreement (defScope s_plain_agreement) (fun _ => true) 4) (tk : ∀ j, Takes (Xs j) W) (hp : ∀ j, PassesOwn (model (Xs j).prog (Xs j).w) (Xs j).A (Xs j).env (Xs j).xe) (hq : ∀ j, (Xs j).stack = (Xs j).env :: (Xs j).outer ∧ (Xs j).env.frame = some (Xs j).env.locals ∧ (Xs j).ex = []) : SSs (cvM mg) W .dat Xs (defBody s_plain_agreement) (F_plain_agreement) :=
  (s_cons (s_expr (e_callX F tk G_check_same (a_cons (e_var F 0) (a_cons (e_var F 1) a_nil))))
  (s_cons (s_if (t_eq F (e_len F T.n_len (b_var F 0)).b (e_int).b) (s_one (s_raise F tk 4 T.e_NotFound)) s_nil)
  (s_cons (s_set F 2 (e_callX F tk G_outcomes (a_cons (e_var F 0) (a_cons (e_var F 1) a_nil))))
  (s_one (s_ret (e_callX F tk G_lowest (a_cons (e_sub (e_ix F (b_var F 2) (e_int).b).b (e_ix F (b_var F 2) (e_int).b).b) (a_cons (e_fdiv (e_mul F (e_len F T.n_len (b_var F 0)).b (e_sub (e_len F T.n_len (b_var F 0)).b (e_int).b).b).b (e_int).b) a_nil))))))))
theorem k_plain_agreement (T : Top K mg) : KnownX P w K mg base 5 "plain_agreement" P_plain_agreement (spX mg 2 C_plain_agreement) := knownX_fn T.f_plain_agreement sc_plain_agreement bi_plain_agreement 2 3 5 rfl rfl rfl fun W Xs F tk hp hq => b_plain_agreement T (k_check_same T) (k_outcomes T) (k_lowest T) F tk hp hq
theorem b_untied_agreement (T : Top K mg) (G_check_same : KnownX P w K mg base 4 "check_same" P_check_same (spX mg 2 C_check_same)) (G_outcomes : KnownX P w K mg base 1 "outcomes" P_outcomes (spX mg 2 C_outcomes)) (G_lowest : KnownX P w K mg base 2 "lowest" P_lowest (spX mg 2 C_lowest)) {W : WX} {Xs : Unit → Cx} (F : Fam Xs P w K mg base N_untied_agreement (defScope s_untied_agreement) (fun _ => true) 4) (tk : ∀ j, Takes (Xs j) W) (hp : ∀ j, PassesOwn (model (Xs j).prog (Xs j).w) (Xs j).A (Xs j).env (Xs j).xe) (hq : ∀ j, (Xs j).stack = (Xs j).env :: (Xs j).outer ∧ (Xs j).env.frame = some (Xs j).env.locals ∧ (Xs j).ex = []) : SSs (cvM mg) W .dat Xs (defBody s_untied_agreement) (F_untied_agreement) :=
  (s_cons (s_expr (e_callX F tk G_check_same (a_cons (e_var F 0) (a_cons (e_var F 1) a_nil))))
  (s_cons (s_set F 2 (e_callX F tk G_outcomes (a_cons (e_var F 0) (a_cons (e_var F 1) a_nil))))
  (s_cons (s_if (t_eq F (e_add F (e_ix F (b_var F 2) (e_int).b).b (e_ix F (b_var F 2) (e_int).b).b).b (e_int).b) (s_one (s_raise F tk 4 T.e_NotFound)) s_nil)
  (s_one (s_ret (e_callX F tk G_lowest (a_cons (e_sub (e_ix F (b_var F 2) (e_int).b).b (e_ix F (b_var F 2) (e_int).b).b) (a_cons (e_add F (e_ix F (b_var F 2) (e_int).b).b (e_ix F (b_var F 2) (e_int).b).b) a_nil))))))))
theorem k_untied_agreement (T : Top K mg) : KnownX P w K mg base 5 "untied_agreement" P_untied_agreement (spX mg 2 C_untied_agreement) := knownX_fn T.f_untied_agreement sc_untied_agreement bi_untied_agreement 2 3 5 rfl rfl rfl fun W Xs F tk hp hq => b_untied_agreement T (k_check_same T) (k_outcomes T) (k_lowest T) F tk hp hq
theorem b_dense_ranks (T : Top K mg) (G_check_scores : KnownX P w K mg base 3 "check_scores" P_check_scores (spX mg 1 C_check_scores)) {W : WX} {Xs : Unit → Cx} (F : Fam Xs P w K mg base N_dense_ranks (defScope s_dense_ranks) (fun _ => true) 3) (tk : ∀ j, Takes (Xs j) W) (hp : ∀ j, PassesOwn (model (Xs j).prog (Xs j).w) (Xs j).A (Xs j).env (Xs j).xe) (hq : ∀ j, (Xs j).stack = (Xs j).env :: (Xs j).outer ∧ (Xs j).env.frame = some (Xs j).env.locals ∧ (Xs j).ex = []) : SSs (cvM mg) W .dat Xs (defBody s_dense_ranks) (F_dense_ranks) :=
  (s_cons (s_expr (e_callX F tk G_check_scores (a_cons (e_var F 0) a_nil)))
  (s_one (s_ret (f_comp (W' := W0) F [("score", 1)] (i_list F (b_var F 0)) (fun F1 => (g_name F1 1)) (fun F1 => ts_nil) (fun F1 => (e_add F1 (e_int).b (e_lenSet F1 T.n_len T.n_set (f_comp (W' := W0) F1 [("one", 2)] (i_list F1 (b_var F1 0)) (fun F2 => (g_name F2 2)) (fun F2 => (ts_one (t_lt (b_var F2 2) (b_var F2 1)))) (fun F2 => (e_var F2 2))).e.b).b))).e)))
theorem k_dense_ranks (T : Top K mg) : KnownX P w K mg base 4 "dense_ranks" P_dense_ranks (spX mg 1 C_dense_ranks) := knownX_fn T.f_dense_ranks sc_dense_ranks bi_dense_ranks 1 3 4 rfl rfl rfl fun W Xs F tk hp hq => b_dense_ranks T (k_check_scores T) F tk hp hq
theorem b_first_ranks (T : Top K mg) (G_check_scores : KnownX P w K mg base 3 "check_scores" P_check_scores (spX mg 1 C_check_scores)) {W : WX} {Xs : Unit → Cx} (F : Fam Xs P w K mg base N_first_ranks (defScope s_first_ranks) (fun _ => true) 3) (tk : ∀ j, Takes (Xs j) W) (hp : ∀ j, PassesOwn (model (Xs j).prog (Xs j).w) (Xs j).A (Xs j).env (Xs j).xe) (hq : ∀ j, (Xs j).stack = (Xs j).env :: (Xs j).outer ∧ (Xs j).env.frame = some (Xs j).env.locals ∧ (Xs j).ex = []) : SSs (cvM mg) W .dat Xs (defBody s_first_ranks) (F_first_ranks) :=
  (s_cons (s_expr (e_callX F tk G_check_scores (a_cons (e_var F 0) a_nil)))
  (s_cons (s_set F 1 (f_sortP F T.n_sorted (f_comp (W' := W0) F [("k", 2), ("score", 3)] (i_enum F T.n_enumerate (ab_cons (b_var F 0) ab_nil)) (fun F1 => (g_tup F1 (gs_cons F1 2 (gs_cons F1 3 gs_nil)))) (fun F1 => ts_nil) (fun F1 => (e_tup (a_cons (e_var F1 3) (a_cons (e_var F1 2) a_nil))))).e.b).e)
  (s_one (s_ret (f_comp (W' := W0) F [("k", 2), ("score", 3)] (i_enum F T.n_enumerate (ab_cons (b_var F 0) ab_nil)) (fun F1 => (g_tup F1 (gs_cons F1 2 (gs_cons F1 3 gs_nil)))) (fun F1 => ts_nil) (fun F1 => (e_add F1 (e_index F1 (b_var F1 1) (e_tup (a_cons (e_var F1 3) (a_cons (e_var F1 2) a_nil))).b).b (e_int).b))).e))))
theorem k_first_ranks (T : Top K mg) : KnownX P w K mg base 4 "first_ranks" P_first_ranks (spX mg 1 C_first_ranks) := knownX_fn T.f_first_ranks sc_first_ranks bi_first_ranks 1 4 4 rfl rfl rfl fun W Xs F tk hp hq => b_first_ranks T (k_check_scores T) F tk hp hq
theorem b_without_thing (T : Top K mg) (G_check_ranking : KnownX P w K mg base 3 "check_ranking" P_check_ranking (spX mg 1 C_check_ranking)) (G_is_int : KnownX P w K mg base 1 "is_int" P_is_int (spX mg 3 C_is_int)) {W : WX} {Xs : Unit → Cx} (F : Fam Xs P w K mg base N_without_thing (defScope s_without_thing) (fun _ => true) 3) (tk : ∀ j, Takes (Xs j) W) (hp : ∀ j, PassesOwn (model (Xs j).prog (Xs j).w) (Xs j).A (Xs j).env (Xs j).xe) (hq : ∀ j, (Xs j).stack = (Xs j).env :: (Xs j).outer ∧ (Xs j).env.frame = some (Xs j).env.locals ∧ (Xs j).ex = []) : SSs (cvM mg) W .dat Xs (defBody s_without_thing) (F_without_thing) :=
  (s_cons (s_expr (e_callX F tk G_check_ranking (a_cons (e_var F 0) a_nil)))
  (s_cons (s_if ((w_or (t_not (t_val (e_callX F tk G_is_int (a_cons (e_var F 1) (a_cons e_int (a_cons (e_sub (e_len F T.n_len (b_var F 0)).b (e_int).b) a_nil)))))) (w_or1 (t_eq F (e_len F T.n_len (b_var F 0)).b (e_int).b)))).tt (s_one (s_raise F tk 2 T.e_BadNumber)) s_nil)
  (s_cons (s_set F 2 (e_ix F (b_var F 0) (b_var F 1)))
  (s_one (s_ret (f_comp (W' := W0) F [("rank", 3)] (i_list F (e_add F (e_slice F (b_var F 0) o_none (o_some (b_var F 1))).b (e_slice F (b_var F 0) (o_some (e_add F (b_var F 1) (e_int).b).b) o_none).b).b) (fun F1 => (g_name F1 3)) (fun F1 => ts_nil) (fun F1 => (e_ifx (t_gt (b_var F1 3) (b_var F1 2)) (e_sub (b_var F1 3) (e_int).b) (e_var F1 3)))).e)))))
theorem k_without_thing (T : Top K mg) : KnownX P w K mg base 4 "without_thing" P_without_thing (spX mg 2 C_without_thing) := knownX_fn T.f_without_thing sc_without_thing bi_without_thing 2 4 4 rfl rfl rfl fun W Xs F tk hp hq => b_without_thing T (k_check_ranking T) (k_is_int T) F tk hp hq
theorem b_exchanged (T : Top K mg) {W : WX} {Xs : Unit → Cx} (F : Fam Xs P w K mg base N_exchanged (defScope s_exchanged) (fun _ => true) 0) (tk : ∀ j, Takes (Xs j) W) (hp : ∀ j, PassesOwn (model (Xs j).prog (Xs j).w) (Xs j).A (Xs j).env (Xs j).xe) (hq : ∀ j, (Xs j).stack = (Xs j).env :: (Xs j).outer ∧ (Xs j).env.frame = some (Xs j).env.locals ∧ (Xs j).ex = []) : SSs (cvM mg) W .dat Xs (defBody s_exchanged) (F_exchanged) :=
  (s_one (s_ret (f_comp (W' := W0) F [("own", 2)] (i_list F (b_var F 0)) (fun F1 => (g_name F1 2)) (fun F1 => ts_nil) (fun F1 => (e_ifx (t_eq F1 (b_var F1 2) (b_var F1 1)) (e_add F1 (b_var F1 1) (e_int).b) (e_ifx (t_eq F1 (b_var F1 2) (e_add F1 (b_var F1 1) (e_int).b).b) (e_var F1 1) (e_var F1 2))))).e))
theorem k_exchanged (T : Top K mg) : KnownX P w K mg base 1 "exchanged" P_exchanged (spX mg 2 C_exchanged) := knownX_fn T.f_exchanged sc_exchanged bi_exchanged 2 3 1 rfl rfl rfl fun W Xs F tk hp hq => b_exchanged T  F tk hp hq
theorem b_format_scores (T : Top K mg) (G_check_scores : KnownX P w K mg base 3 "check_scores" P_check_scores (spX mg 1 C_check_scores)) {W : WX} {Xs : Unit → Cx} (F : Fam Xs P w K mg base N_format_scores (defScope s_format_scores) (fun _ => true) 3) (tk : ∀ j, Takes (Xs j) W) (hp : ∀ j, PassesOwn (model (Xs j).prog (Xs j).w) (Xs j).A (Xs j).env (Xs j).xe) (hq : ∀ j, (Xs j).stack = (Xs j).env :: (Xs j).outer ∧ (Xs j).env.frame = some (Xs j).env.locals ∧ (Xs j).ex = []) : SSs (cvM mg) W .dat Xs (defBody s_format_scores) (F_format_scores) :=
  (s_cons (s_expr (e_callX F tk G_check_scores (a_cons (e_var F 0) a_nil)))
  (s_one (s_ret (e_join F e_str (f_comp (W' := W0) F [("score", 1)] (i_list F (b_var F 0)) (fun F1 => (g_name F1 1)) (fun F1 => ts_nil) (fun F1 => (e_strI F1 T.n_str (b_var F1 1)))).e))))
theorem k_format_scores (T : Top K mg) : KnownX P w K mg base 4 "format_scores" P_format_scores (spX mg 1 C_format_scores) := knownX_fn T.f_format_scores sc_format_scores bi_format_scores 1 2 4 rfl rfl rfl fun W Xs F tk hp hq => b_format_scores T (k_check_scores T) F tk hp hq
theorem b_So_left (T : Top K mg) (G_against : KnownX P w K mg base 1 "against" P_against (spX mg 2 C_against)) {W : WX} {Xs : Unit → Cx} (F : Fam Xs P w K mg base N_So_left (defScope s_So_left) (fun _ => true) 1) (tk : ∀ j, Takes (Xs j) W) (hp : ∀ j, PassesOwn (model (Xs j).prog (Xs j).w) (Xs j).A (Xs j).env (Xs j).xe) (hq : ∀ j, (Xs j).stack = (Xs j).env :: (Xs j).outer ∧ (Xs j).env.frame = some (Xs j).env.locals ∧ (Xs j).ex = []) : SSs (cvM mg) W .dat Xs (defBody s_So_left) (F_So_left) :=
  (s_one (s_ret (e_len F T.n_len (e_callX F tk G_against (a_cons (e_now F T.so 0) (a_cons (e_goal F T.so 0) a_nil))).b)))
theorem k_So_left (T : Top K mg) : KnownM P w K mg base 2 "left" P_So_left (spG mg 1 C_So_left) := knownM_G T.f_So_left sc_So_left bi_So_left 1 1 2 rfl rfl rfl fun W Xs F tk hp hq => b_So_left T (k_against T) F tk hp hq
theorem b_So_exchange (T : Top K mg) (G_is_int : KnownX P w K mg base 1 "is_int" P_is_int (spX mg 3 C_is_int)) (G_exchanged : KnownX P w K mg base 1 "exchanged" P_exchanged (spX mg 2 C_exchanged)) (G_So_left : KnownM P w K mg base 2 "left" P_So_left (spG mg 1 C_So_left)) {W : WX} {Xs : Unit → Cx} (F : Fam Xs P w K mg base N_So_exchange (defScope s_So_exchange) (fun _ => true) 2) (tk : ∀ j, Takes (Xs j) W) (hp : ∀ j, PassesOwn (model (Xs j).prog (Xs j).w) (Xs j).A (Xs j).env (Xs j).xe) (hq : ∀ j, (Xs j).stack = (Xs j).env :: (Xs j).outer ∧ (Xs j).env.frame = some (Xs j).env.locals ∧ (Xs j).ex = []) : SSs (cvM mg) W .dat Xs (defBody s_So_exchange) (F_So_exchange) :=
  (s_cons (s_if (t_not (t_val (e_callX F tk G_is_int (a_cons (e_var F 1) (a_cons e_int (a_cons (e_sub (e_len F T.n_len (e_now F T.so 0).b).b (e_int).b) a_nil)))))) (s_one (s_raise F tk 2 T.e_BadNumber)) s_nil)
  (s_cons (s_now F T.so 0 (e_callX F tk G_exchanged (a_cons (e_now F T.so 0) (a_cons (e_var F 1) a_nil))))
  (s_cons (s_appM F T.so 0 (e_var F 1))
  (s_one (s_retS (e_meth0 F tk T.so 0 G_So_left rfl nl_left rfl))))))
theorem k_So_exchange (T : Top K mg) : KnownM P w K mg base 3 "exchange" P_So_exchange (spS mg 2 2 F_So_exchange) := knownM_S T.f_So_exchange sc_So_exchange bi_So_exchange 2 2 3 rfl rfl rfl fun W Xs F tk hp hq => b_So_exchange T (k_is_int T) (k_exchanged T) (k_So_left T) F tk hp hq
theorem b_So_undo (T : Top K mg) (G_exchanged : KnownX P w K mg base 1 "exchanged" P_exchanged (spX mg 2 C_exchanged)) {W : WX} {Xs : Unit → Cx} (F : Fam Xs P w K mg base N_So_undo (defScope s_So_undo) (fun _ => true) 1) (tk : ∀ j, Takes (Xs j) W) (hp : ∀ j, PassesOwn (model (Xs j).prog (Xs j).w) (Xs j).A (Xs j).env (Xs j).xe) (hq : ∀ j, (Xs j).stack = (Xs j).env :: (Xs j).outer ∧ (Xs j).env.frame = some (Xs j).env.locals ∧ (Xs j).ex = []) : SSs (cvM mg) W .dat Xs (defBody s_So_undo) (F_So_undo) :=
  (s_cons (s_if (t_eq F (b_made F T.so 0) (e_lst a_nil).e.b) (s_one (s_raise F tk 4 T.e_NotFound)) s_nil)
  (s_cons (s_popM F T.so 0 1)
  (s_cons (s_now F T.so 0 (e_callX F tk G_exchanged (a_cons (e_now F T.so 0) (a_cons (e_var F 1) a_nil))))
  (s_one (s_retS (e_var F 1))))))
theorem k_So_undo (T : Top K mg) : KnownM P w K mg base 2 "undo" P_So_undo (spS mg 1 2 F_So_undo) := knownM_S T.f_So_undo sc_So_undo bi_So_undo 1 2 2 rfl rfl rfl fun W Xs F tk hp hq => b_So_undo T (k_exchanged T) F tk hp hq
theorem b_So_exchange_g (T : Top K mg) (G_is_int : KnownX P w K mg base 1 "is_int" P_is_int (spX mg 3 C_is_int)) (G_exchanged : KnownX P w K mg base 1 "exchanged" P_exchanged (spX mg 2 C_exchanged)) (G_So_left : KnownM P w K mg base 2 "left" P_So_left (spG mg 1 C_So_left)) {W : WX} {Xs : Unit → Cx} (F : Fam Xs P w K mg base N_So_exchange (defScope s_So_exchange) (fun _ => true) 2) (tk : ∀ j, Takes (Xs j) W) (hp : ∀ j, PassesOwn (model (Xs j).prog (Xs j).w) (Xs j).A (Xs j).env (Xs j).xe) (hq : ∀ j, (Xs j).stack = (Xs j).env :: (Xs j).outer ∧ (Xs j).env.frame = some (Xs j).env.locals ∧ (Xs j).ex = []) : SSs (cvM mg) W .dat Xs (defBody s_So_exchange) (F_So_exchange_g) :=
  (s_cons (s_if (t_not (t_val (e_callX F tk G_is_int (a_cons (e_var F 1) (a_cons e_int (a_cons (e_sub (e_len F T.n_len (e_now F T.so 0).b).b (e_int).b) a_nil)))))) (s_one (s_raise F tk 2 T.e_BadNumber)) s_nil)
  (s_cons (s_now F T.so 0 (e_callX F tk G_exchanged (a_cons (e_now F T.so 0) (a_cons (e_var F 1) a_nil))))
  (s_cons (s_appM F T.so 0 (e_var F 1))
  (s_one (s_ret (e_meth0 F tk T.so 0 G_So_left rfl nl_left rfl))))))
theorem k_So_exchange_g (T : Top K mg) : KnownM P w K mg base 3 "exchange" P_So_exchange (spG mg 2 C_So_exchange_g) := knownM_G T.f_So_exchange sc_So_exchange bi_So_exchange 2 2 3 rfl rfl rfl fun W Xs F tk hp hq => b_So_exchange_g T (k_is_int T) (k_exchanged T) (k_So_left T) F tk hp hq
theorem b_So_undo_g (T : Top K mg) (G_exchanged : KnownX P w K mg base 1 "exchanged" P_exchanged (spX mg 2 C_exchanged)) {W : WX} {Xs : Unit → Cx} (F : Fam Xs P w K mg base N_So_undo (defScope s_So_undo) (fun _ => true) 1) (tk : ∀ j, Takes (Xs j) W) (hp : ∀ j, PassesOwn (model (Xs j).prog (Xs j).w) (Xs j).A (Xs j).env (Xs j).xe) (hq : ∀ j, (Xs j).stack = (Xs j).env :: (Xs j).outer ∧ (Xs j).env.frame = some (Xs j).env.locals ∧ (Xs j).ex = []) : SSs (cvM mg) W .dat Xs (defBody s_So_undo) (F_So_undo_g) :=
  (s_cons (s_if (t_eq F (b_made F T.so 0) (e_lst a_nil).e.b) (s_one (s_raise F tk 4 T.e_NotFound)) s_nil)
  (s_cons (s_popM F T.so 0 1)
  (s_cons (s_now F T.so 0 (e_callX F tk G_exchanged (a_cons (e_now F T.so 0) (a_cons (e_var F 1) a_nil))))
  (s_one (s_ret (e_var F 1))))))
theorem k_So_undo_g (T : Top K mg) : KnownM P w K mg base 2 "undo" P_So_undo (spG mg 1 C_So_undo_g) := knownM_G T.f_So_undo sc_So_undo bi_So_undo 1 2 2 rfl rfl rfl fun W Xs F tk hp hq => b_So_undo_g T (k_exchanged T) F tk hp hq
theorem b__law_call (T : Top K mg) (G_shared_ranks : KnownX P w K mg base 4 "shared_ranks" P_shared_ranks (spX mg 1 C_shared_ranks)) (G_dense_ranks : KnownX P w K mg base 4 "dense_ranks" P_dense_ranks (spX mg 1 C_dense_ranks)) (G_first_ranks : KnownX P w K mg base 4 "first_ranks" P_first_ranks (spX mg 1 C_first_ranks)) (G_tie_groups : KnownX P w K mg base 4 "tie_groups" P_tie_groups (spX mg 1 C_tie_groups)) (G_format_scores : KnownX P w K mg base 4 "format_scores" P_format_scores (spX mg 1 C_format_scores)) (G_pair_outcomes : KnownX P w K mg base 5 "pair_outcomes" P_pair_outcomes (spX mg 2 C_pair_outcomes)) (G_plain_agreement : KnownX P w K mg base 5 "plain_agreement" P_plain_agreement (spX mg 2 C_plain_agreement)) (G_untied_agreement : KnownX P w K mg base 5 "untied_agreement" P_untied_agreement (spX mg 2 C_untied_agreement)) (G_ranking_of : KnownX P w K mg base 2 "ranking_of" P_ranking_of (spX mg 1 C_ranking_of)) (G_order_with_table : KnownX P w K mg base 2 "order_with_table" P_order_with_table (spX mg 1 C_order_with_table)) (G_after_neighbours : KnownX P w K mg base 4 "after_neighbours" P_after_neighbours (spX mg 2 C_after_neighbours)) (G_after_exchanges : KnownX P w K mg base 4 "after_exchanges" P_after_exchanges (spX mg 2 C_after_exchanges)) (G_without_thing : KnownX P w K mg base 4 "without_thing" P_without_thing (spX mg 2 C_without_thing)) (G_near : KnownX P w K mg base 11 "near" P_near (spX mg 2 C_near)) (G_So_exchange_g : KnownM P w K mg base 3 "exchange" P_So_exchange (spG mg 2 C_So_exchange_g)) (G_So_undo_g : KnownM P w K mg base 2 "undo" P_So_undo (spG mg 1 C_So_undo_g)) {W : WX} {Xs : Unit → Cx} (F : Fam Xs P w K mg base N__law_call (defScope s__law_call) (fun _ => true) 11) (tk : ∀ j, Takes (Xs j) W) (hp : ∀ j, PassesOwn (model (Xs j).prog (Xs j).w) (Xs j).A (Xs j).env (Xs j).xe) (hq : ∀ j, (Xs j).stack = (Xs j).env :: (Xs j).outer ∧ (Xs j).env.frame = some (Xs j).env.locals ∧ (Xs j).ex = []) : SSs (cvM mg) W .dat Xs (defBody s__law_call) (F__law_call) :=
  (s_cons (s_if (t_eq F (b_var F 0) (e_int).b) (s_one (s_ret (e_callX F tk G_shared_ranks (a_cons (e_var F 1) a_nil)))) s_nil)
  (s_cons (s_if (t_eq F (b_var F 0) (e_int).b) (s_one (s_ret (e_callX F tk G_dense_ranks (a_cons (e_var F 1) a_nil)))) s_nil)
  (s_cons (s_if (t_eq F (b_var F 0) (e_int).b) (s_one (s_ret (e_callX F tk G_first_ranks (a_cons (e_var F 1) a_nil)))) s_nil)
  (s_cons (s_if (t_eq F (b_var F 0) (e_int).b) (s_one (s_ret (e_callX F tk G_tie_groups (a_cons (e_var F 1) a_nil)))) s_nil)
  (s_cons (s_if (t_eq F (b_var F 0) (e_int).b) (s_one (s_ret (e_callX F tk G_format_scores (a_cons (e_var F 1) a_nil)))) s_nil)
  (s_cons (s_if (t_eq F (b_var F 0) (e_int).b) (s_one (s_ret (e_callX F tk G_pair_outcomes (a_cons (e_var F 1) (a_cons (e_var F 2) a_nil))))) s_nil)
  (s_cons (s_if (t_eq F (b_var F 0) (e_int).b) (s_one (s_ret (e_callX F tk G_plain_agreement (a_cons (e_var F 1) (a_cons (e_var F 2) a_nil))))) s_nil)
  (s_cons (s_if (t_eq F (b_var F 0) (e_int).b) (s_one (s_ret (e_callX F tk G_untied_agreement (a_cons (e_var F 1) (a_cons (e_var F 2) a_nil))))) s_nil)
  (s_cons (s_if (t_eq F (b_var F 0) (e_int).b) (s_one (s_ret (e_callX F tk G_ranking_of (a_cons (e_var F 1) a_nil)))) s_nil)
  (s_cons (s_if (t_eq F (b_var F 0) (e_int).b) (s_one (s_ret (e_callX F tk G_order_with_table (a_cons (e_var F 1) a_nil)))) s_nil)
  (s_cons (s_if (t_eq F (b_var F 0) (e_int).b) (s_one (s_ret (e_callX F tk G_after_neighbours (a_cons (e_lst (a_cons e_int (a_cons e_int (a_cons e_int a_nil)))).e (a_cons (e_var F 1) a_nil))))) s_nil)
  (s_cons (s_if (t_eq F (b_var F 0) (e_int).b) (s_one (s_ret (e_callX F tk G_after_exchanges (a_cons (e_lst (a_cons e_int (a_cons e_int (a_cons e_int a_nil)))).e (a_cons (e_var F 1) a_nil))))) s_nil)
  (s_cons (s_if (t_eq F (b_var F 0) (e_int).b) (s_one (s_ret (e_callX F tk G_without_thing (a_cons (e_lst (a_cons e_int (a_cons e_int (a_cons e_int a_nil)))).e (a_cons (e_var F 1) a_nil))))) s_nil)
  (s_cons (s_if (t_eq F (b_var F 0) (e_int).b) (s_one (s_ret (e_callX F tk G_near (a_cons (e_lst (a_cons e_int (a_cons e_int (a_cons e_int a_nil)))).e (a_cons (e_var F 1) a_nil))))) s_nil)
  (s_one (s_ret (e_ifx (t_eq F (b_var F 0) (e_int).b) (e_meth F tk T.so 1 G_So_exchange_g (a_cons (e_var F 2) a_nil) rfl nl_exchange len1) (e_meth0 F tk T.so 1 G_So_undo_g rfl nl_undo rfl))))))))))))))))))
theorem k__law_call (T : Top K mg) : KnownX P w K mg base 12 "_law_call" P__law_call (spX mg 3 C__law_call) := knownX_fn T.f__law_call sc__law_call bi__law_call 3 3 12 rfl rfl rfl fun W Xs F tk hp hq => b__law_call T (k_shared_ranks T) (k_dense_ranks T) (k_first_ranks T) (k_tie_groups T) (k_format_scores T) (k_pair_outcomes T) (k_plain_agreement T) (k_untied_agreement T) (k_ranking_of T) (k_order_with_table T) (k_after_neighbours T) (k_after_exchanges T) (k_without_thing T) (k_near T) (k_So_exchange_g T) (k_So_undo_g T) F tk hp hq
theorem b__law_number (T : Top K mg) (G_all_rankings : KnownX P w K mg base 10 "all_rankings" P_all_rankings (spX mg 1 C_all_rankings)) (G_value_table : KnownX P w K mg base 11 "value_table" P_value_table (spX mg 1 C_value_table)) (G_least_squares : KnownX P w K mg base 11 "least_squares" P_least_squares (spX mg 2 C_least_squares)) (G_greatest_squares : KnownX P w K mg base 11 "greatest_squares" P_greatest_squares (spX mg 2 C_greatest_squares)) (G_orders_with : KnownX P w K mg base 11 "orders_with" P_orders_with (spX mg 3 C_orders_with)) (G_can_be : KnownX P w K mg base 12 "can_be" P_can_be (spX mg 3 C_can_be)) (G_first_with : KnownX P w K mg base 12 "first_with" P_first_with (spX mg 3 C_first_with)) (G_order_at : KnownX P w K mg base 12 "order_at" P_order_at (spX mg 4 C_order_at)) (G_ranking_at : KnownX P w K mg base 2 "ranking_at" P_ranking_at (spX mg 2 C_ranking_at)) (G_count_with : KnownX P w K mg base 2 "count_with" P_count_with (spX mg 2 C_count_with)) {W : WX} {Xs : Unit → Cx} (F : Fam Xs P w K mg base N__law_number (defScope s__law_number) (fun _ => true) 12) (tk : ∀ j, Takes (Xs j) W) (hp : ∀ j, PassesOwn (model (Xs j).prog (Xs j).w) (Xs j).A (Xs j).env (Xs j).xe) (hq : ∀ j, (Xs j).stack = (Xs j).env :: (Xs j).outer ∧ (Xs j).env.frame = some (Xs j).env.locals ∧ (Xs j).ex = []) : SSs (cvM mg) W .dat Xs (defBody s__law_number) (F__law_number) :=
  (s_cons (s_if (t_eq F (b_var F 0) (e_int).b) (s_one (s_ret (e_callX F tk G_all_rankings (a_cons (e_var F 1) a_nil)))) s_nil)
  (s_cons (s_if (t_eq F (b_var F 0) (e_int).b) (s_one (s_ret (e_callX F tk G_value_table (a_cons (e_var F 1) a_nil)))) s_nil)
  (s_cons (s_if (t_eq F (b_var F 0) (e_int).b) (s_one (s_ret (e_callX F tk G_least_squares (a_cons (e_var F 1) (a_cons (e_var F 2) a_nil))))) s_nil)
  (s_cons (s_if (t_eq F (b_var F 0) (e_int).b) (s_one (s_ret (e_callX F tk G_greatest_squares (a_cons (e_var F 1) (a_cons (e_var F 2) a_nil))))) s_nil)
  (s_cons (s_if (t_eq F (b_var F 0) (e_int).b) (s_one (s_ret (e_callX F tk G_orders_with (a_cons (e_var F 1) (a_cons (e_var F 2) (a_cons (e_var F 3) a_nil)))))) s_nil)
  (s_cons (s_if (t_eq F (b_var F 0) (e_int).b) (s_one (s_ret (e_callX F tk G_can_be (a_cons (e_var F 1) (a_cons (e_var F 2) (a_cons (e_var F 3) a_nil)))))) s_nil)
  (s_cons (s_if (t_eq F (b_var F 0) (e_int).b) (s_one (s_ret (e_callX F tk G_first_with (a_cons (e_var F 1) (a_cons (e_var F 2) (a_cons (e_var F 3) a_nil)))))) s_nil)
  (s_cons (s_if (t_eq F (b_var F 0) (e_int).b) (s_one (s_ret (e_callX F tk G_order_at (a_cons (e_var F 1) (a_cons (e_var F 2) (a_cons (e_var F 3) (a_cons e_int a_nil))))))) s_nil)
  (s_cons (s_if (t_eq F (b_var F 0) (e_int).b) (s_one (s_ret (e_callX F tk G_ranking_at (a_cons (e_var F 1) (a_cons (e_var F 2) a_nil))))) s_nil)
  (s_one (s_ret (e_callX F tk G_count_with (a_cons (e_var F 1) (a_cons (e_var F 2) a_nil))))))))))))))
theorem k__law_number (T : Top K mg) : KnownX P w K mg base 13 "_law_number" P__law_number (spX mg 4 C__law_number) := knownX_fn T.f__law_number sc__law_number bi__law_number 4 4 13 rfl rfl rfl fun W Xs F tk hp hq => b__law_number T (k_all_rankings T) (k_value_table T) (k_least_squares T) (k_greatest_squares T) (k_orders_with T) (k_can_be T) (k_first_with T) (k_order_at T) (k_ranking_at T) (k_count_with T) F tk hp hq
theorem b__law_call_g (T : Top K mg) (G_shared_ranks : KnownX P w K mg base 4 "shared_ranks" P_shared_ranks (spX mg 1 C_shared_ranks)) (G_dense_ranks : KnownX P w K mg base 4 "dense_ranks" P_dense_ranks (spX mg 1 C_dense_ranks)) (G_first_ranks : KnownX P w K mg base 4 "first_ranks" P_first_ranks (spX mg 1 C_first_ranks)) (G_tie_groups : KnownX P w K mg base 4 "tie_groups" P_tie_groups (spX mg 1 C_tie_groups)) (G_format_scores : KnownX P w K mg base 4 "format_scores" P_format_scores (spX mg 1 C_format_scores)) (G_pair_outcomes : KnownX P w K mg base 5 "pair_outcomes" P_pair_outcomes (spX mg 2 C_pair_outcomes)) (G_plain_agreement : KnownX P w K mg base 5 "plain_agreement" P_plain_agreement (spX mg 2 C_plain_agreement)) (G_untied_agreement : KnownX P w K mg base 5 "untied_agreement" P_untied_agreement (spX mg 2 C_untied_agreement)) (G_ranking_of : KnownX P w K mg base 2 "ranking_of" P_ranking_of (spX mg 1 C_ranking_of)) (G_order_with_table : KnownX P w K mg base 2 "order_with_table" P_order_with_table (spX mg 1 C_order_with_table)) (G_after_neighbours : KnownX P w K mg base 4 "after_neighbours" P_after_neighbours (spX mg 2 C_after_neighbours)) (G_after_exchanges : KnownX P w K mg base 4 "after_exchanges" P_after_exchanges (spX mg 2 C_after_exchanges)) (G_without_thing : KnownX P w K mg base 4 "without_thing" P_without_thing (spX mg 2 C_without_thing)) (G_near : KnownX P w K mg base 11 "near" P_near (spX mg 2 C_near)) (G_So_exchange_g : KnownM P w K mg base 3 "exchange" P_So_exchange (spG mg 2 C_So_exchange_g)) (G_So_undo_g : KnownM P w K mg base 2 "undo" P_So_undo (spG mg 1 C_So_undo_g)) {W : WX} {Xs : Unit → Cx} (F : Fam Xs P w K mg base N__law_call (defScope s__law_call) (fun _ => true) 11) (tk : ∀ j, Takes (Xs j) W) (hp : ∀ j, PassesOwn (model (Xs j).prog (Xs j).w) (Xs j).A (Xs j).env (Xs j).xe) (hq : ∀ j, (Xs j).stack = (Xs j).env :: (Xs j).outer ∧ (Xs j).env.frame = some (Xs j).env.locals ∧ (Xs j).ex = []) : SSs (cvM mg) W .dat Xs (defBody s__law_call) (F__law_call_g) :=
  (s_cons (s_if (t_eq F (b_var F 0) (e_int).b) (s_one (s_ret (e_callX F tk G_shared_ranks (a_cons (e_var F 1) a_nil)))) s_nil)
  (s_cons (s_if (t_eq F (b_var F 0) (e_int).b) (s_one (s_ret (e_callX F tk G_dense_ranks (a_cons (e_var F 1) a_nil)))) s_nil)
  (s_cons (s_if (t_eq F (b_var F 0) (e_int).b) (s_one (s_ret (e_callX F tk G_first_ranks (a_cons (e_var F 1) a_nil)))) s_nil)
  (s_cons (s_if (t_eq F (b_var F 0) (e_int).b) (s_one (s_ret (e_callX F tk G_tie_groups (a_cons (e_var F 1) a_nil)))) s_nil)
  (s_cons (s_if (t_eq F (b_var F 0) (e_int).b) (s_one (s_ret (e_callX F tk G_format_scores (a_cons (e_var F 1) a_nil)))) s_nil)
  (s_cons (s_if (t_eq F (b_var F 0) (e_int).b) (s_one (s_ret (e_callX F tk G_pair_outcomes (a_cons (e_var F 1) (a_cons (e_var F 2) a_nil))))) s_nil)
  (s_cons (s_if (t_eq F (b_var F 0) (e_int).b) (s_one (s_ret (e_callX F tk G_plain_agreement (a_cons (e_var F 1) (a_cons (e_var F 2) a_nil))))) s_nil)
  (s_cons (s_if (t_eq F (b_var F 0) (e_int).b) (s_one (s_ret (e_callX F tk G_untied_agreement (a_cons (e_var F 1) (a_cons (e_var F 2) a_nil))))) s_nil)
  (s_cons (s_if (t_eq F (b_var F 0) (e_int).b) (s_one (s_ret (e_callX F tk G_ranking_of (a_cons (e_var F 1) a_nil)))) s_nil)
  (s_cons (s_if (t_eq F (b_var F 0) (e_int).b) (s_one (s_ret (e_callX F tk G_order_with_table (a_cons (e_var F 1) a_nil)))) s_nil)
  (s_cons (s_if (t_eq F (b_var F 0) (e_int).b) (s_one (s_ret (e_callX F tk G_after_neighbours (a_cons (e_lst (a_cons e_int (a_cons e_int (a_cons e_int a_nil)))).e (a_cons (e_var F 1) a_nil))))) s_nil)
  (s_cons (s_if (t_eq F (b_var F 0) (e_int).b) (s_one (s_ret (e_callX F tk G_after_exchanges (a_cons (e_lst (a_cons e_int (a_cons e_int (a_cons e_int a_nil)))).e (a_cons (e_var F 1) a_nil))))) s_nil)
  (s_cons (s_if (t_eq F (b_var F 0) (e_int).b) (s_one (s_ret (e_callX F tk G_without_thing (a_cons (e_lst (a_cons e_int (a_cons e_int (a_cons e_int a_nil)))).e (a_cons (e_var F 1) a_nil))))) s_nil)
  (s_cons (s_if (t_eq F (b_var F 0) (e_int).b) (s_one (s_ret (e_callX F tk G_near (a_cons (e_lst (a_cons e_int (a_cons e_int (a_cons e_int a_nil)))).e (a_cons (e_var F 1) a_nil))))) s_nil)
  (s_one (s_ret (e_ifx (t_eq F (b_var F 0) (e_int).b) (e_meth F tk T.so 1 G_So_exchange_g (a_cons (e_var F 2) a_nil) rfl nl_exchange len1) (e_meth0 F tk T.so 1 G_So_undo_g rfl nl_undo rfl))))))))))))))))))
theorem k__law_call_g (T : Top K mg) : KnownX P w K mg base 12 "_law_call" P__law_call (spG mg 3 C__law_call_g) := knownG_fn T.f__law_call sc__law_call bi__law_call 3 3 12 rfl rfl rfl fun W Xs F tk hp hq => b__law_call_g T (k_shared_ranks T) (k_dense_ranks T) (k_first_ranks T) (k_tie_groups T) (k_format_scores T) (k_pair_outcomes T) (k_plain_agreement T) (k_untied_agreement T) (k_ranking_of T) (k_order_with_table T) (k_after_neighbours T) (k_after_exchanges T) (k_without_thing T) (k_near T) (k_So_exchange_g T) (k_So_undo_g T) F tk hp hq
theorem b__law_asked (T : Top K mg) (G__law_call : KnownX P w K mg base 12 "_law_call" P__law_call (spX mg 3 C__law_call)) (G__law_number : KnownX P w K mg base 13 "_law_number" P__law_number (spX mg 4 C__law_number)) (G__law_error : KnownE P w K mg base 1) {W : WX} {Xs : Unit → Cx} (F : Fam Xs P w K mg base N__law_asked (defScope s__law_asked) (fun _ => true) 13) (tk : ∀ j, Takes (Xs j) W) (hp : ∀ j, PassesOwn (model (Xs j).prog (Xs j).w) (Xs j).A (Xs j).env (Xs j).xe) (hq : ∀ j, (Xs j).stack = (Xs j).env :: (Xs j).outer ∧ (Xs j).env.frame = some (Xs j).env.locals ∧ (Xs j).ex = []) : SSs (cvM mg) W .dat Xs (defBody s__law_asked) (F__law_asked) :=
  (s_cons (s_set F 5 e_none)
  (s_tryR T.xt.choose_spec.choose_spec (s_cons (s_try F hq 6 5 T.xt.choose_spec.choose_spec.base T.xt.choose_spec.choose_spec.exmC (fun W1 {κ} Ys F tk hp => (s_one (s_if (t_eq F (b_var F 0) (e_int).b) (s_one (s_expr (e_callX F tk G__law_call (a_cons (e_var F 1) (a_cons (e_var F 2) (a_cons (e_var F 3) a_nil)))))) (s_one (s_expr (e_callX F tk G__law_number (a_cons (e_var F 1) (a_cons (e_var F 2) (a_cons (e_var F 3) (a_cons (e_var F 4) a_nil))))))))))) (s_one (s_ret (e_ifx (t_isNo F 5) e_str (e_id (e_err F tk G__law_error 5))))))))
theorem k__law_asked (T : Top K mg) : KnownX P w K mg base 14 "_law_asked" P__law_asked (spX mg 5 C__law_asked) := knownX_fn T.f__law_asked sc__law_asked bi__law_asked 5 7 14 rfl rfl rfl fun W Xs F tk hp hq => b__law_asked T (k__law_call T) (k__law_number T) (k__law_error T) F tk hp hq
theorem b__law_asked_g (T : Top K mg) (G__law_call_g : KnownX P w K mg base 12 "_law_call" P__law_call (spG mg 3 C__law_call_g)) (G__law_number : KnownX P w K mg base 13 "_law_number" P__law_number (spX mg 4 C__law_number)) (G__law_error : KnownE P w K mg base 1) {W : WX} {Xs : Unit → Cx} (F : Fam Xs P w K mg base N__law_asked (defScope s__law_asked) (fun _ => true) 13) (tk : ∀ j, Takes (Xs j) W) (hp : ∀ j, PassesOwn (model (Xs j).prog (Xs j).w) (Xs j).A (Xs j).env (Xs j).xe) (hq : ∀ j, (Xs j).stack = (Xs j).env :: (Xs j).outer ∧ (Xs j).env.frame = some (Xs j).env.locals ∧ (Xs j).ex = []) : SSs (cvM mg) W .dat Xs (defBody s__law_asked) (F__law_asked_g) :=
  (s_cons (s_set F 5 e_none)
  (s_tryR T.xt.choose_spec.choose_spec (s_cons (s_try F hq 6 5 T.xt.choose_spec.choose_spec.base T.xt.choose_spec.choose_spec.exmC (fun W1 {κ} Ys F tk hp => (s_one (s_if (t_eq F (b_var F 0) (e_int).b) (s_one (s_expr (e_callG F tk G__law_call_g (ga_cons (g_nam F 1) (ga_cons (g_nam F 2) (ga_cons (g_nam F 3) ga_nil))) (gl_cons (gl_cons (gl_cons gl_nil)))))) (s_one (s_expr (e_callX F tk G__law_number (a_cons (e_var F 1) (a_cons (e_var F 2) (a_cons (e_var F 3) (a_cons (e_var F 4) a_nil))))))))))) (s_one (s_ret (e_ifx (t_isNo F 5) e_str (e_id (e_err F tk G__law_error 5))))))))
theorem k__law_asked_g (T : Top K mg) : KnownX P w K mg base 14 "_law_asked" P__law_asked (spG mg 5 C__law_asked_g) := knownG_fn T.f__law_asked sc__law_asked bi__law_asked 5 7 14 rfl rfl rfl fun W Xs F tk hp hq => b__law_asked_g T (k__law_call_g T) (k__law_number T) (k__law_error T) F tk hp hq
theorem b__law_numbers (T : Top K mg) (G__law_asked : KnownX P w K mg base 14 "_law_asked" P__law_asked (spX mg 5 C__law_asked)) {W : WX} {Xs : Unit → Cx} (F : Fam Xs P w K mg base N__law_numbers (defScope s__law_numbers) (fun _ => true) 14) (tk : ∀ j, Takes (Xs j) W) (hp : ∀ j, PassesOwn (model (Xs j).prog (Xs j).w) (Xs j).A (Xs j).env (Xs j).xe) (hq : ∀ j, (Xs j).stack = (Xs j).env :: (Xs j).outer ∧ (Xs j).env.frame = some (Xs j).env.locals ∧ (Xs j).ex = []) : SSs (cvM mg) W .dat Xs (defBody s__law_numbers) (F__law_numbers) :=
  (s_cons (s_for F hp [0] (is_list F (e_lst (a_cons e_none (a_cons e_int (a_cons e_int (a_cons (e_sub (e_int).b (e_int).b) (a_cons e_bool (a_cons e_str a_nil))))))).e) (g_name F 0)
  (s_one (s_if ((w_or (t_ne F (f_comp (W' := W0) F [("k", 1)] (is_range1 F T.n_range (e_int).b).i (fun F1 => (g_name F1 1)) (fun F1 => ts_nil) (fun F1 => (e_callX F1 (fun _ => takes0) G__law_asked (a_cons e_int (a_cons (e_var F1 1) (a_cons (e_var F1 0) (a_cons e_none (a_cons e_none a_nil)))))))).e.b (e_mul F (e_lst (a_cons e_str a_nil)).e.b (e_int).b).b) (w_or1 (t_ne F (f_comp (W' := W0) F [("k", 1)] (is_range1 F T.n_range (e_int).b).i (fun F1 => (g_name F1 1)) (fun F1 => ts_nil) (fun F1 => (e_callX F1 (fun _ => takes0) G__law_asked (a_cons e_int (a_cons (e_var F1 1) (a_cons (e_var F1 0) (a_cons e_int (a_cons e_int a_nil)))))))).e.b (e_mul F (e_lst (a_cons e_str a_nil)).e.b (e_int).b).b)))).tt (s_one (s_ret e_bool)) s_nil)))
  (s_cons (s_for F hp [0] (is_list F (e_lst (a_cons e_none (a_cons e_int (a_cons (e_sub (e_int).b (e_int).b) (a_cons e_bool (a_cons e_str a_nil)))))).e) (g_name F 0)
  (s_one (s_if ((w_or (t_ne F (f_comp (W' := W0) F [("k", 1)] (is_range2 F T.n_range (e_int).b (e_int).b).i (fun F1 => (g_name F1 1)) (fun F1 => ts_nil) (fun F1 => (e_callX F1 (fun _ => takes0) G__law_asked (a_cons e_int (a_cons (e_var F1 1) (a_cons e_int (a_cons (e_var F1 0) (a_cons e_none a_nil)))))))).e.b (e_mul F (e_lst (a_cons e_str a_nil)).e.b (e_int).b).b) (w_or1 (t_ne F (f_comp (W' := W0) F [("k", 1)] (is_range2 F T.n_range (e_int).b (e_int).b).i (fun F1 => (g_name F1 1)) (fun F1 => ts_nil) (fun F1 => (e_callX F1 (fun _ => takes0) G__law_asked (a_cons e_int (a_cons (e_var F1 1) (a_cons e_int (a_cons (e_var F1 0) (a_cons e_int a_nil)))))))).e.b (e_mul F (e_lst (a_cons e_str a_nil)).e.b (e_int).b).b)))).tt (s_one (s_ret e_bool)) s_nil)))
  (s_cons (s_for F hp [0] (is_list F (e_lst (a_cons e_none (a_cons e_int (a_cons (e_sub (e_int).b (e_int).b) (a_cons e_bool (a_cons e_str a_nil)))))).e) (g_name F 0)
  (s_one (s_if (t_ne F (f_comp (W' := W0) F [("k", 1)] (is_range2 F T.n_range (e_int).b (e_int).b).i (fun F1 => (g_name F1 1)) (fun F1 => ts_nil) (fun F1 => (e_callX F1 (fun _ => takes0) G__law_asked (a_cons e_int (a_cons (e_var F1 1) (a_cons e_int (a_cons e_int (a_cons (e_var F1 0) a_nil)))))))).e.b (e_mul F (e_lst (a_cons e_str a_nil)).e.b (e_int).b).b) (s_one (s_ret e_bool)) s_nil)))
  (s_cons (s_if ((w_or (t_ne F (f_comp (W' := W0) F [("k", 1)] (is_range2 F T.n_range (e_int).b (e_int).b).i (fun F1 => (g_name F1 1)) (fun F1 => ts_nil) (fun F1 => (e_callX F1 (fun _ => takes0) G__law_asked (a_cons e_int (a_cons (e_var F1 1) (a_cons e_int (a_cons e_int (a_cons e_int a_nil)))))))).e.b (e_add F (e_mul F (e_lst (a_cons e_str a_nil)).e.b (e_int).b).b (e_lst (a_cons e_str (a_cons e_str a_nil))).e.b).b) (w_or1 (t_ne F (f_comp (W' := W0) F [("k", 1)] (is_range2 F T.n_range (e_int).b (e_int).b).i (fun F1 => (g_name F1 1)) (fun F1 => ts_nil) (fun F1 => (e_callX F1 (fun _ => takes0) G__law_asked (a_cons e_int (a_cons (e_var F1 1) (a_cons e_int (a_cons e_int (a_cons e_int a_nil)))))))).e.b (e_mul F (e_lst (a_cons e_str a_nil)).e.b (e_int).b).b)))).tt (s_one (s_ret e_bool)) s_nil)
  (s_cons (s_if (t_ne F (f_comp (W' := W0) F [("size", 2)] (is_tup F (e_tup (a_cons e_none (a_cons e_int (a_cons e_int (a_cons e_bool (a_cons e_int (a_cons e_int a_nil)))))))).i (fun F1 => (g_name F1 2)) (fun F1 => ts_nil) (fun F1 => (e_callX F1 (fun _ => takes0) G__law_asked (a_cons e_int (a_cons e_int (a_cons (e_var F1 2) (a_cons e_int (a_cons e_int a_nil)))))))).e.b (e_add F (e_mul F (e_lst (a_cons e_str a_nil)).e.b (e_int).b).b (e_mul F (e_lst (a_cons e_str a_nil)).e.b (e_int).b).b).b) (s_one (s_ret e_bool)) s_nil)
  (s_cons (s_if ((w_or (t_ne F (f_comp (W' := W0) F [("number", 3)] (is_tup F (e_tup (a_cons e_none (a_cons e_int (a_cons (e_sub (e_int).b (e_int).b) (a_cons e_bool (a_cons e_int a_nil))))))).i (fun F1 => (g_name F1 3)) (fun F1 => ts_nil) (fun F1 => (e_callX F1 (fun _ => takes0) G__law_asked (a_cons e_int (a_cons e_int (a_cons e_int (a_cons (e_var F1 3) (a_cons e_int a_nil)))))))).e.b (e_add F (e_mul F (e_lst (a_cons e_str a_nil)).e.b (e_int).b).b (e_lst (a_cons e_str a_nil)).e.b).b) (w_or1 (t_ne F (e_callX F tk G__law_asked (a_cons e_int (a_cons e_int (a_cons e_int (a_cons e_int (a_cons e_int a_nil)))))).b (e_str).b)))).tt (s_one (s_ret e_bool)) s_nil)
  (s_cons (s_if (t_ne F (f_comp (W' := W0) F [("size", 2)] (is_tup F (e_tup (a_cons e_none (a_cons e_int (a_cons e_int (a_cons e_bool (a_cons e_int a_nil))))))).i (fun F1 => (g_name F1 2)) (fun F1 => ts_nil) (fun F1 => (e_callX F1 (fun _ => takes0) G__law_asked (a_cons e_int (a_cons e_int (a_cons (e_var F1 2) (a_cons e_int (a_cons e_int a_nil)))))))).e.b (e_add F (e_mul F (e_lst (a_cons e_str a_nil)).e.b (e_int).b).b (e_lst (a_cons e_str a_nil)).e.b).b) (s_one (s_ret e_bool)) s_nil)
  (s_one (s_ret (e_eq F (f_comp (W' := W0) F [("many", 4)] (is_tup F (e_tup (a_cons e_none (a_cons e_int (a_cons (e_sub (e_int).b (e_int).b) (a_cons e_bool (a_cons e_int (a_cons e_int a_nil)))))))).i (fun F1 => (g_name F1 4)) (fun F1 => ts_nil) (fun F1 => (e_callX F1 (fun _ => takes0) G__law_asked (a_cons e_int (a_cons e_int (a_cons e_int (a_cons (e_var F1 4) (a_cons e_int a_nil)))))))).e.b (e_add F (e_mul F (e_lst (a_cons e_str a_nil)).e.b (e_int).b).b (e_mul F (e_lst (a_cons e_str a_nil)).e.b (e_int).b).b).b))))))))))
theorem k__law_numbers (T : Top K mg) : KnownX P w K mg base 15 "_law_numbers" P__law_numbers (spX mg 0 C__law_numbers) := knownX_fn T.f__law_numbers sc__law_numbers bi__law_numbers 0 5 15 rfl rfl rfl fun W Xs F tk hp hq => b__law_numbers T (k__law_asked T) F tk hp hq
theorem b_So_ranking (T : Top K mg) {W : WX} {Xs : Unit → Cx} (F : Fam Xs P w K mg base N_So_ranking (defScope s_So_ranking) (fun _ => true) 0) (tk : ∀ j, Takes (Xs j) W) (hp : ∀ j, PassesOwn (model (Xs j).prog (Xs j).w) (Xs j).A (Xs j).env (Xs j).xe) (hq : ∀ j, (Xs j).stack = (Xs j).env :: (Xs j).outer ∧ (Xs j).env.frame = some (Xs j).env.locals ∧ (Xs j).ex = []) : SSs (cvM mg) W .lst Xs (defBody s_So_ranking) (F_So_ranking) :=
  (s_one (s_retF (f_list F T.n_list (e_now F T.so 0).b)))
theorem k_So_ranking (T : Top K mg) : KnownM P w K mg base 1 "ranking" P_So_ranking (spGF mg 1 C_So_ranking) := knownM_GF T.f_So_ranking sc_So_ranking bi_So_ranking 1 1 1 rfl rfl rfl fun W Xs F tk hp hq => b_So_ranking T  F tk hp hq
theorem b_So_useful (T : Top K mg) (G_exchanged : KnownX P w K mg base 1 "exchanged" P_exchanged (spX mg 2 C_exchanged)) (G_against : KnownX P w K mg base 1 "against" P_against (spX mg 2 C_against)) (G_So_left : KnownM P w K mg base 2 "left" P_So_left (spG mg 1 C_So_left)) {W : WX} {Xs : Unit → Cx} (F : Fam Xs P w K mg base N_So_useful (defScope s_So_useful) (fun _ => true) 2) (tk : ∀ j, Takes (Xs j) W) (hp : ∀ j, PassesOwn (model (Xs j).prog (Xs j).w) (Xs j).A (Xs j).env (Xs j).xe) (hq : ∀ j, (Xs j).stack = (Xs j).env :: (Xs j).outer ∧ (Xs j).env.frame = some (Xs j).env.locals ∧ (Xs j).ex = []) : SSs (cvM mg) W .lst Xs (defBody s_So_useful) (F_So_useful) :=
  (s_cons (s_own F 1 (e_lst a_nil))
  (s_cons (s_for F hp [2] (is_range2 F T.n_range (e_int).b (e_len F T.n_len (e_now F T.so 0).b).b) (g_name F 2)
  (s_one (s_if (t_lt (e_len F T.n_len (e_callX F tk G_against (a_cons (e_callX F tk G_exchanged (a_cons (e_now F T.so 0) (a_cons (e_var F 2) a_nil))) (a_cons (e_goal F T.so 0) a_nil))).b).b (e_meth0 F tk T.so 0 G_So_left rfl nl_left rfl).b) (s_one (s_app F 1 (e_var F 2))) s_nil)))
  (s_one (s_retO F 1))))
theorem k_So_useful (T : Top K mg) : KnownM P w K mg base 3 "useful" P_So_useful (spGF mg 1 C_So_useful) := knownM_GF T.f_So_useful sc_So_useful bi_So_useful 1 3 3 rfl rfl rfl fun W Xs F tk hp hq => b_So_useful T (k_exchanged T) (k_against T) (k_So_left T) F tk hp hq

theorem k_So___init__ (T : Top K mg) : KnownI P w K mg base 5 C_check_both := knownI_init T.f_So___init__ sc_So___init__ bi_So___init__ T.so 5 rfl fun W X F tk => by
  have h : PSs X (defBody s_So___init__) (tInit X.K (spX mg 2 C_check_both) (L2.WE W)) :=
    pss_cons (ps_expr (ecallX F tk (k_check_both T) (pa_cons (vv F 1) (pa_cons (vv F 2) pa_nil))))
    (pss_cons (ps_fld (vv F 0) (pe_callTy call_list_of (F.gl_ok (by decide +kernel) ()) (F.none T.n_list ()) PyProof.Rows.boot_list (pa_cons (vv F 1) pa_nil)) rfl)
    (pss_cons (ps_fld (vv F 0) (pe_callTy call_list_of (F.gl_ok (by decide +kernel) ()) (F.none T.n_list ()) PyProof.Rows.boot_list (pa_cons (vv F 2) pa_nil)) rfl)
    (pss_one (ps_fld (vv F 0) (pe_lst pa_nil) rfl))))
  have e : X.K = K := F.kk ()
  rw [e] at h
  exact h
-- level 4

theorem b__law_sorter (T : Top K mg) (G_So___init__ : KnownI P w K mg base 5 C_check_both) (G__law_asked_g : KnownX P w K mg base 14 "_law_asked" P__law_asked (spG mg 5 C__law_asked_g)) (G_So_ranking : KnownM P w K mg base 1 "ranking" P_So_ranking (spGF mg 1 C_So_ranking)) (G_So_left : KnownM P w K mg base 2 "left" P_So_left (spG mg 1 C_So_left)) (G_So___len__ : KnownM P w K mg base 1 "__len__" P_So___len__ (spG mg 1 C_So___len__)) (G_So_exchange : KnownM P w K mg base 3 "exchange" P_So_exchange (spS mg 2 2 F_So_exchange)) (G_So_useful : KnownM P w K mg base 3 "useful" P_So_useful (spGF mg 1 C_So_useful)) (G_So_undo : KnownM P w K mg base 2 "undo" P_So_undo (spS mg 1 2 F_So_undo)) {W : WX} {Xs : Unit → Cx} (F : Fam Xs P w K mg base N__law_sorter (defScope s__law_sorter) (fun _ => true) 14) (tk : ∀ j, Takes (Xs j) W) (hp : ∀ j, PassesOwn (model (Xs j).prog (Xs j).w) (Xs j).A (Xs j).env (Xs j).xe) (hq : ∀ j, (Xs j).stack = (Xs j).env :: (Xs j).outer ∧ (Xs j).env.frame = some (Xs j).env.locals ∧ (Xs j).ex = []) : SSs (cvM mg) W .dat Xs (defBody s__law_sorter) (F__law_sorter) :=
  (s_cons (s_new F 0 (n_new F tk T.so G_So___init__ (e_lst (a_cons e_int (a_cons e_int (a_cons e_int a_nil)))).e (e_lst (a_cons e_int (a_cons e_int (a_cons e_int a_nil)))).e))
  (s_cons (s_for F hp [1] (is_list F (e_lst (a_cons e_none (a_cons e_int (a_cons e_int (a_cons (e_sub (e_int).b (e_int).b) (a_cons e_bool (a_cons e_str a_nil))))))).e) (g_name F 1)
  (s_one (s_if (t_ne F (e_callG F tk G__law_asked_g (ga_cons (g_dat e_int) (ga_cons (g_dat e_int) (ga_cons (g_nam F 0) (ga_cons (g_nam F 1) (ga_cons (g_dat e_int) ga_nil))))) (gl_cons (gl_cons (gl_cons (gl_cons (gl_cons gl_nil)))))).b (e_str).b) (s_one (s_ret e_bool)) s_nil)))
  (s_cons (s_if ((w_or (t_ne F (e_callG F tk G__law_asked_g (ga_cons (g_dat e_int) (ga_cons (g_dat e_int) (ga_cons (g_nam F 0) (ga_cons (g_dat e_int) (ga_cons (g_dat e_int) ga_nil))))) (gl_cons (gl_cons (gl_cons (gl_cons (gl_cons gl_nil)))))).b (e_str).b) (w_or (t_ne F (f_meth0 F tk T.so 0 G_So_ranking rfl nl_ranking rfl).e.b (e_lst (a_cons e_int (a_cons e_int (a_cons e_int a_nil)))).e.b) (w_or (t_ne F (e_meth0 F tk T.so 0 G_So_left rfl nl_left rfl).b (e_int).b) (w_or1 (t_ne F (e_lenO F 0 T.n_len G_So___len__ rfl rfl).b (e_int).b)))))).tt (s_one (s_ret e_bool)) s_nil)
  (s_one (s_retX (x_and (x_eq F (x_meth F tk T.so 0 G_So_exchange gOf_runs (a_cons e_int a_nil) rfl nl_exchange len1) e_int) (x_and (x_lift (e_eq F (f_meth0 F tk T.so 0 G_So_useful rfl nl_useful rfl).e.b (e_lst a_nil).e.b)) (x_and (x_eq F (x_meth0 F tk T.so 0 G_So_undo gOf_runs rfl nl_undo rfl) e_int) (x_and (x_lift (e_eq F (f_meth0 F tk T.so 0 G_So_useful rfl nl_useful rfl).e.b (e_lst (a_cons e_int a_nil)).e.b)) (x_one (x_lift (e_eq F (e_callG F tk G__law_asked_g (ga_cons (g_dat e_int) (ga_cons (g_dat e_int) (ga_cons (g_new (n_new F tk T.so G_So___init__ (e_lst (a_cons e_int a_nil)).e (e_lst (a_cons e_int a_nil)).e)) (ga_cons (g_dat e_int) (ga_cons (g_dat e_int) ga_nil))))) (gl_cons (gl_cons (gl_cons (gl_cons (gl_cons gl_nil)))))).b (e_str).b))))))))))))
theorem k__law_sorter (T : Top K mg) : KnownX P w K mg base 15 "_law_sorter" P__law_sorter (spX mg 0 C__law_sorter) := knownX_fn T.f__law_sorter sc__law_sorter bi__law_sorter 0 2 15 rfl rfl rfl fun W Xs F tk hp hq => b__law_sorter T (k_So___init__ T) (k__law_asked_g T) (k_So_ranking T) (k_So_left T) (k_So___len__ T) (k_So_exchange T) (k_So_useful T) (k_So_undo T) F tk hp hq
theorem b_law (T : Top K mg) (G__law_draw : Known P w K mg base 1 "_law_draw" P__law_draw spDraw) (G_is_scores : KnownX P w K mg base 2 "is_scores" P_is_scores (spX mg 1 C_is_scores)) (G__law_asked : KnownX P w K mg base 14 "_law_asked" P__law_asked (spX mg 5 C__law_asked)) (G_order_with_table : KnownX P w K mg base 2 "order_with_table" P_order_with_table (spX mg 1 C_order_with_table)) (G__law_numbers : KnownX P w K mg base 15 "_law_numbers" P__law_numbers (spX mg 0 C__law_numbers)) (G__law_sorter : KnownX P w K mg base 15 "_law_sorter" P__law_sorter (spX mg 0 C__law_sorter)) {Xs : Unit → Cx} (F : Fam Xs P w K mg base N_law (defScope s_law) (fun _ => true) 15) (hp : ∀ j, PassesOwn (model (Xs j).prog (Xs j).w) (Xs j).A (Xs j).env (Xs j).xe) : ∃ s1 rest, defBody s_law = s1 :: rest ∧ (∀ j, PS (Xs j) s1 (tAsg (tCall (spStart K) [] E0 (tCons (tVar 0) tNil)) (gName 1))) ∧ WSs Xs rest W_law :=
  ⟨_, _, rfl, ps_start F 1 (k__law_start T), (ws_cons (ws_set F 2 (we_lst (wa_cons (we_draw F 1 G__law_draw (we_lift (cv := cvM mg) (W := W0) e_int)) (wa_cons (we_lift (cv := cvM mg) (W := W0) e_int) wa_nil))))
  (ws_cons (ws_lift (cv := cvM mg) (W := W0) (s_for F hp [3] (is_list F (e_lst (a_cons e_none (a_cons e_int (a_cons (e_tup a_nil) (a_cons (e_lst a_nil).e (a_cons (e_tup (a_cons e_int (a_cons e_int a_nil))) (a_cons (e_lst (a_cons e_int a_nil)).e (a_cons (e_lst (a_cons (e_sub (e_int).b (e_int).b) a_nil)).e (a_cons (e_lst (a_cons e_bool a_nil)).e (a_cons (e_lst (a_cons e_str a_nil)).e (a_cons (e_mul F (e_lst (a_cons e_int a_nil)).e.b (e_int).b) (a_cons (e_lst (a_cons e_none a_nil)).e a_nil)))))))))))).e) (g_name F 3)
  (s_cons (s_if ((w_or (t_isNot (e_callX F (fun _ => takes0) G_is_scores (a_cons (e_var F 3) a_nil)).b (e_bool).b) (w_or1 (t_ne F (f_comp (W' := W0) F [("k", 4)] (is_range1 F T.n_range (e_int).b).i (fun F1 => (g_name F1 4)) (fun F1 => ts_nil) (fun F1 => (e_callX F1 (fun _ => takes0) G__law_asked (a_cons e_int (a_cons (e_var F1 4) (a_cons (e_var F1 3) (a_cons e_none (a_cons e_int a_nil)))))))).e.b (e_mul F (e_lst (a_cons e_str a_nil)).e.b (e_int).b).b)))).tt (s_one (s_ret e_bool)) s_nil)
  (s_one (s_if (t_ne F (f_comp (W' := W0) F [("k", 4)] (is_tup F (e_tup (a_cons e_int (a_cons e_int (a_cons e_int a_nil))))).i (fun F1 => (g_name F1 4)) (fun F1 => ts_nil) (fun F1 => (e_callX F1 (fun _ => takes0) G__law_asked (a_cons e_int (a_cons (e_var F1 4) (a_cons (e_var F1 2) (a_cons (e_var F1 3) (a_cons e_int a_nil)))))))).e.b (e_mul F (e_lst (a_cons e_str a_nil)).e.b (e_int).b).b) (s_one (s_ret e_bool)) s_nil)))))
  (ws_cons (ws_lift (cv := cvM mg) (W := W0) (s_if ((w_or (t_ne F (f_comp (W' := W0) F [("k", 4)] (is_tup F (e_tup (a_cons e_int (a_cons e_int (a_cons e_int a_nil))))).i (fun F1 => (g_name F1 4)) (fun F1 => ts_nil) (fun F1 => (e_callX F1 (fun _ => takes0) G__law_asked (a_cons e_int (a_cons (e_var F1 4) (a_cons (e_var F1 2) (a_cons (e_lst (a_cons e_int (a_cons e_int (a_cons e_int a_nil)))).e (a_cons e_int a_nil)))))))).e.b (e_mul F (e_lst (a_cons e_str a_nil)).e.b (e_int).b).b) (w_or1 (t_isNot (e_callX F (fun _ => takes0) G_is_scores (a_cons (e_mul F (e_lst (a_cons e_int a_nil)).e.b (e_int).b) a_nil)).b (e_bool).b)))).tt (s_one (s_ret e_bool)) s_nil))
  (ws_cons (ws_lift (cv := cvM mg) (W := W0) (s_if ((w_or (t_ne F (f_comp (W' := W0) F [("k", 4)] (is_tup F (e_tup (a_cons e_int (a_cons e_int (a_cons e_int a_nil))))).i (fun F1 => (g_name F1 4)) (fun F1 => ts_nil) (fun F1 => (e_callX F1 (fun _ => takes0) G__law_asked (a_cons e_int (a_cons (e_var F1 4) (a_cons (e_lst (a_cons e_int a_nil)).e (a_cons (e_lst (a_cons e_int a_nil)).e (a_cons e_int a_nil)))))))).e.b (e_lst (a_cons e_str (a_cons e_str (a_cons e_str a_nil)))).e.b) (w_or1 (t_ne F (e_callX F (fun _ => takes0) G__law_asked (a_cons e_int (a_cons e_int (a_cons (e_lst (a_cons e_int (a_cons e_int a_nil))).e (a_cons (e_lst (a_cons e_int (a_cons e_int a_nil))).e (a_cons e_int a_nil)))))).b (e_str).b)))).tt (s_one (s_ret e_bool)) s_nil))
  (ws_cons (ws_lift (cv := cvM mg) (W := W0) (s_for F hp [3] (is_list F (e_lst (a_cons e_none (a_cons e_int (a_cons (e_tup (a_cons e_int a_nil)) (a_cons (e_lst a_nil).e (a_cons (e_lst (a_cons e_int a_nil)).e (a_cons (e_lst (a_cons e_int (a_cons e_int a_nil))).e (a_cons (e_lst (a_cons e_int (a_cons e_int a_nil))).e (a_cons (e_lst (a_cons e_bool (a_cons e_int a_nil))).e (a_cons (e_lst (a_cons e_str a_nil)).e (a_cons (e_lst (a_cons e_int (a_cons e_int (a_cons e_int (a_cons e_int (a_cons e_int (a_cons e_int (a_cons e_int (a_cons e_int a_nil))))))))).e a_nil))))))))))).e) (g_name F 3)
  (s_one (s_if (t_ne F (e_callX F (fun _ => takes0) G__law_asked (a_cons e_int (a_cons e_int (a_cons (e_var F 3) (a_cons e_int (a_cons e_int a_nil)))))).b (e_str).b) (s_one (s_ret e_bool)) s_nil))))
  (ws_cons (ws_lift (cv := cvM mg) (W := W0) (s_for F hp [3] (is_list F (e_lst (a_cons e_none (a_cons e_int (a_cons (e_tup (a_cons e_int a_nil)) (a_cons (e_lst a_nil).e (a_cons (e_lst (a_cons e_int a_nil)).e (a_cons (e_lst (a_cons (e_sub (e_int).b (e_int).b) a_nil)).e (a_cons (e_lst (a_cons e_int (a_cons e_int a_nil))).e (a_cons (e_lst (a_cons e_int (a_cons e_int a_nil))).e (a_cons (e_lst (a_cons e_bool (a_cons e_int a_nil))).e (a_cons (e_mul F (e_lst (a_cons e_int a_nil)).e.b (e_int).b) (a_cons (e_lst (a_cons e_none a_nil)).e a_nil)))))))))))).e) (g_name F 3)
  (s_one (s_if (t_ne F (e_callX F (fun _ => takes0) G__law_asked (a_cons e_int (a_cons e_int (a_cons (e_var F 3) (a_cons e_int (a_cons e_int a_nil)))))).b (e_str).b) (s_one (s_ret e_bool)) s_nil))))
  (ws_cons (ws_lift (cv := cvM mg) (W := W0) (s_if ((w_or (t_ne F (e_callX F (fun _ => takes0) G_order_with_table (a_cons (e_mul F (e_lst (a_cons e_int a_nil)).e.b (e_int).b) a_nil)).b (e_lst (a_cons e_int (a_cons e_int (a_cons e_int (a_cons e_int (a_cons e_int (a_cons e_int (a_cons e_int a_nil)))))))).e.b) (w_or1 (t_ne F (e_callX F (fun _ => takes0) G__law_asked (a_cons e_int (a_cons e_int (a_cons (e_lst (a_cons e_int (a_cons e_int (a_cons e_int (a_cons e_int (a_cons e_int (a_cons e_int (a_cons e_int a_nil)))))))).e (a_cons e_int (a_cons e_int a_nil)))))).b (e_str).b)))).tt (s_one (s_ret e_bool)) s_nil))
  (ws_cons (ws_lift (cv := cvM mg) (W := W0) (s_for F hp [3] (is_list F (e_lst (a_cons e_none (a_cons e_int (a_cons (e_tup (a_cons e_int a_nil)) (a_cons (e_lst (a_cons e_int a_nil)).e (a_cons (e_lst (a_cons e_int a_nil)).e (a_cons (e_lst (a_cons e_bool a_nil)).e (a_cons (e_lst (a_cons e_int (a_cons e_none a_nil))).e a_nil)))))))).e) (g_name F 3)
  (s_one (s_if (t_ne F (e_callX F (fun _ => takes0) G__law_asked (a_cons e_int (a_cons e_int (a_cons (e_var F 3) (a_cons e_int (a_cons e_int a_nil)))))).b (e_str).b) (s_one (s_ret e_bool)) s_nil))))
  (ws_cons (ws_lift (cv := cvM mg) (W := W0) (s_for F hp [3] (is_list F (e_lst (a_cons e_none (a_cons e_int (a_cons (e_tup (a_cons (e_tup (a_cons e_int (a_cons e_int a_nil))) a_nil)) (a_cons (e_lst (a_cons e_int a_nil)).e (a_cons (e_lst (a_cons (e_tup (a_cons e_int a_nil)) a_nil)).e (a_cons (e_lst (a_cons (e_tup (a_cons e_int (a_cons e_int a_nil))) a_nil)).e (a_cons (e_lst (a_cons (e_tup (a_cons (e_sub (e_int).b (e_int).b) (a_cons e_int a_nil))) a_nil)).e (a_cons (e_lst (a_cons (e_lst (a_cons e_int (a_cons e_int a_nil))).e a_nil)).e (a_cons (e_lst (a_cons (e_tup (a_cons e_bool (a_cons e_int a_nil))) a_nil)).e (a_cons (e_lst (a_cons (e_tup (a_cons e_int (a_cons e_int (a_cons e_int a_nil)))) a_nil)).e a_nil))))))))))).e) (g_name F 3)
  (s_one (s_if (t_ne F (e_callX F (fun _ => takes0) G__law_asked (a_cons e_int (a_cons e_int (a_cons (e_var F 3) (a_cons e_int (a_cons e_int a_nil)))))).b (e_str).b) (s_one (s_ret e_bool)) s_nil))))
  (ws_cons (ws_lift (cv := cvM mg) (W := W0) (s_if (t_ne F (f_comp (W' := W0) F [("bad", 3)] (is_tup F (e_tup (a_cons e_none (a_cons e_int (a_cons (e_sub (e_int).b (e_int).b) (a_cons e_bool (a_cons e_str (a_cons e_int a_nil)))))))).i (fun F1 => (g_name F1 3)) (fun F1 => ts_nil) (fun F1 => (e_callX F1 (fun _ => takes0) G__law_asked (a_cons e_int (a_cons e_int (a_cons (e_var F1 3) (a_cons e_int (a_cons e_int a_nil)))))))).e.b (e_add F (e_mul F (e_lst (a_cons e_str a_nil)).e.b (e_int).b).b (e_lst (a_cons e_str a_nil)).e.b).b) (s_one (s_ret e_bool)) s_nil))
  (ws_one (ws_lift (cv := cvM mg) (W := W0) (s_ret (e_and (e_eq F (f_comp (W' := W0) F [("bad", 3)] (is_tup F (e_tup (a_cons e_none (a_cons e_int (a_cons (e_sub (e_int).b (e_int).b) (a_cons e_bool (a_cons e_int a_nil))))))).i (fun F1 => (g_name F1 3)) (fun F1 => ts_nil) (fun F1 => (e_callX F1 (fun _ => takes0) G__law_asked (a_cons e_int (a_cons e_int (a_cons (e_var F1 3) (a_cons e_int (a_cons e_int a_nil)))))))).e.b (e_add F (e_mul F (e_lst (a_cons e_str a_nil)).e.b (e_int).b).b (e_lst (a_cons e_str a_nil)).e.b).b) (e_and (e_call0 F (fun _ => takes0) G__law_numbers rfl) (e_one (e_call0 F (fun _ => takes0) G__law_sorter rfl)))))))))))))))))⟩
theorem k_law (T : Top K mg) (h : lawOk 5 1 W_law) : ∃ f fd, Fun K "law" "law" s_law f fd ∧ mg "law" = some (.ref f) ∧ FnOk P w K mg base CX0 16 f fd P_law (spLaw K) := law_fn T.f_law sc_law rfl 16 1 (by decide) rfl rfl (fun Xs F hp => b_law T (k__law_draw T) (k_is_scores T) (k__law_asked T) (k_order_with_table T) (k__law_numbers T) (k__law_sorter T) F hp) h
theorem law_end (h : lawOk 5 1 W_law) {fa : Addr} (hfa : mg "law" = some (.ref fa)) (T : Top K mg) :
    ∃ fd : FuncData, (∀ (s : Shared) (v : Value), BindsTo s fd ⟨[v], []⟩ [("script", v)]) ∧ ∀ base : Heap, K.In base → base.Ns mainGlobals mg → FnOk P w K mg base CX0 16 fa fd ["script"] (spLaw K) := by
  obtain ⟨f, fd, Fn, hm⟩ := T.f_law
  have e := hfa.symm.trans hm
  cases e
  refine ⟨fd, ?_, fun base _ _ => ?_⟩
  · obtain ⟨oc, od, kV, doc, pm, an, cdv, ct, osl, rfl, lk, hcd⟩ := Fn.ex
    exact fun s v => .of_eq rfl
  · obtain ⟨f2, fd2, Fn2, hm2, G⟩ := k_law (P := P) (w := w) (base := base) T h
    rw [hm] at hm2
    cases hm2
    obtain ⟨oc, od, kV, doc, pm, an, cdv, ct, osl, e1, lk, hcd⟩ := Fn.ex
    obtain ⟨oc2, od2, kV2, doc2, pm2, an2, cdv2, ct2, osl2, e2, lk2, hcd2⟩ := Fn2.ex
    rw [lk] at lk2
    have e3 : fd = fd2 := by injection lk2 with h1; injection h1 with h2 h3 h4 h5; injection h4
    rw [e3]
    exact G
end
end K17

/-! plain rules for what changes a sorter; running a law's parts -/
namespace DL
open PySem L2
theorem xMet_ok {i : Nat} {g : So → List D → R2_} {fs : En → Rs (List D)} {ρ : En} {sl sl' : Sl} {s s' : So} {ds : List D} {d : D} (h1 : ρ[i]? = some (some sl)) (h2 : soOf sl = some s) (h3 : fs ρ = .ok ds) (h4 : g s ds = .ok d s') (h5 : putSo sl s' = some sl') : xMet i g fs ρ = .ok d (ρ.set i (some sl')) := by
  unfold xMet
  simp only [h1, h2, h3, h4, h5]
theorem xMet_er {i c : Nat} {g : So → List D → R2_} {fs : En → Rs (List D)} {ρ : En} {sl sl' : Sl} {s s' : So} {ds : List D} (h1 : ρ[i]? = some (some sl)) (h2 : soOf sl = some s) (h3 : fs ρ = .ok ds) (h4 : g s ds = .er c s') (h5 : putSo sl s' = some sl') : xMet i g fs ρ = .er c (ρ.set i (some sl')) := by
  unfold xMet
  simp only [h1, h2, h3, h4, h5]
theorem sIfX_b {f : En → R3} {F G : En → Out} {ρ ρ' : En} {b : Bool} (h : f ρ = .ok (.bool b) ρ') : sIfX f F G ρ = if b = true then F ρ' else G ρ' := by
  unfold sIfX
  rw [h]
theorem xOr_b {f g : En → R3} {ρ ρ' : En} {b : Bool} (h : f ρ = .ok (.bool b) ρ') : xOr f g ρ = if b = true then .ok (.bool true) ρ' else g ρ' := by
  unfold xOr
  rw [h]
theorem xAnd_b {f g : En → R3} {ρ ρ' : En} {b : Bool} (h : f ρ = .ok (.bool b) ρ') : xAnd f g ρ = if b = true then g ρ' else .ok (.bool false) ρ' := by
  unfold xAnd
  rw [h]
theorem xIf_b {c : En → Rs Bool} {f g : En → R3} {ρ : En} {b : Bool} (h : c ρ = .ok b) : xIf c f g ρ = if b = true then f ρ else g ρ := by
  unfold xIf
  rw [h]
theorem xOp_ok {h : D → D → Rs D} {f : En → R3} {g : En → Rs D} {ρ ρ' : En} {d e z : D} (h1 : f ρ = .ok d ρ') (h2 : g ρ' = .ok e) (h3 : h d e = .ok z) : xOp h f g ρ = .ok z ρ' := by
  unfold xOp
  simp only [h1, h2, h3]
theorem seq_ls {F : En → Out} {u : WS} {ρ ρ' : En} {K : WO} (h : F ρ = .nx ρ') (g : u ρ' K) : wSeq (ls F) u ρ K := by
  unfold wSeq ls
  rw [h]
  exact g
theorem ret_ls {F : En → Out} {ρ : En} {d : D} {K : WO} (h : F ρ = .rt d) (g : K.rt d) : ls F ρ K := by
  unfold ls
  rw [h]
  exact g
theorem seqNx {F G : En → Out} {ρ ρ' : En} (h : F ρ = .nx ρ') : sSeq F G ρ = G ρ' := by
  unfold sSeq
  rw [h]
theorem sRetX_ok {f : En → R3} {ρ ρ' : En} {d : D} (h : f ρ = .ok d ρ') (hf : flatD d = true) : sRetX f ρ = .rt d := by
  unfold sRetX
  rw [h]
  exact if_pos hf
theorem xAnd_t {f g : En → R3} {ρ ρ' : En} (h : f ρ = .ok (.bool true) ρ') : xAnd f g ρ = g ρ' := by
  rw [xAnd_b h]
  exact if_pos rfl
theorem fAnd_t {f g : En → Rs D} {ρ : En} (h : f ρ = .ok (.bool true)) : fAnd f g ρ = g ρ := by
  unfold fAnd
  rw [h]
  rfl
theorem sRet_ok {f : En → Rs D} {ρ : En} {d : D} (h : f ρ = .ok d) : sRet f ρ = .rt d := by
  unfold sRet
  rw [h]
  rfl
theorem call0_ok {C : List D → Rs D} {ρ : En} {d : D} (h : C [] = .ok d) : apL (callX 0 C) fNil ρ = .ok d := by
  show (if ([] : List D).length = 0 then C [] else .no) = _
  rw [if_pos (show ([] : List D).length = 0 from rfl)]
  exact h
theorem callF_rt {n : Nat} {F : En → Out} {ds : List D} {d : D} (h : F (startE n ds) = .rt d) : callF n F ds = .ok d := by
  unfold callF
  rw [h]
def isT : Out → Bool
  | .rt (.bool b) => b
  | _ => false
theorem isT_eq {o : Out} (h : isT o = true) : o = .rt (.bool true) := by
  unfold isT at h
  split at h
  · rw [h]
  · cases h
end DL

namespace K17
open PySem L2 DL AG
abbrev en (ad an : Addr) (r : Int) : En := [none, some (.dr ad an), some (.sh (.list [.int r, .int 5])), none, none]
def F_1 : En → Out := (sFor (iLs (apL dLst (fCons (fC .none) (fCons (fC (.int 5)) (fCons (apL dTup fNil) (fCons (apL dLst fNil) (fCons (apL dTup (fCons (fC (.int 1)) (fCons (fC (.int 2)) fNil))) (fCons (apL dLst (fCons (fC (.int 100)) fNil)) (fCons (apL dLst (fCons (ap2 dSub (fC (.int 0)) (fC (.int 1))) fNil)) (fCons (apL dLst (fCons (fC (.bool true)) fNil)) (fCons (apL dLst (fCons (fC (.str "1")) fNil)) (fCons (ap2 dMul (apL dLst (fCons (fC (.int 0)) fNil)) (fC (.int 11))) (fCons (apL dLst (fCons (fC .none) fNil)) fNil))))))))))))) (.nm 3) [3]
  (sSeq (sIf (tOrr (tVal (ap2 dIsNotN (apL (callX 1 C_is_scores) (fCons (fSh 3) fNil)) (fC (.bool false)))) (tVal (ap2 dNe (fComp (apI dRng (fCons (fC (.int 8)) fNil)) (.nm 4) tTrue (apL (callX 5 C__law_asked) (fCons (fC (.int 1)) (fCons (fSh 4) (fCons (fSh 3) (fCons (fC .none) (fCons (fC (.int 0)) fNil)))))) [4]) (ap2 dMul (apL dLst (fCons (fC (.str "scores")) fNil)) (fC (.int 8)))))) (sRet (fC (.bool false))) sNil)
  (sIf (tVal (ap2 dNe (fComp (iTp (apL dTup (fCons (fC (.int 5)) (fCons (fC (.int 6)) (fCons (fC (.int 7)) fNil))))) (.nm 4) tTrue (apL (callX 5 C__law_asked) (fCons (fC (.int 1)) (fCons (fSh 4) (fCons (fSh 2) (fCons (fSh 3) (fCons (fC (.int 0)) fNil)))))) [4]) (ap2 dMul (apL dLst (fCons (fC (.str "scores")) fNil)) (fC (.int 3))))) (sRet (fC (.bool false))) sNil)))
def F_2 : En → Out := (sIf (tOrr (tVal (ap2 dNe (fComp (iTp (apL dTup (fCons (fC (.int 5)) (fCons (fC (.int 6)) (fCons (fC (.int 7)) fNil))))) (.nm 4) tTrue (apL (callX 5 C__law_asked) (fCons (fC (.int 1)) (fCons (fSh 4) (fCons (fSh 2) (fCons (apL dLst (fCons (fC (.int 1)) (fCons (fC (.int 2)) (fCons (fC (.int 3)) fNil)))) (fCons (fC (.int 0)) fNil)))))) [4]) (ap2 dMul (apL dLst (fCons (fC (.str "scores")) fNil)) (fC (.int 3))))) (tVal (ap2 dIsNotN (apL (callX 1 C_is_scores) (fCons (ap2 dMul (apL dLst (fCons (fC (.int 99)) fNil)) (fC (.int 10))) fNil)) (fC (.bool true))))) (sRet (fC (.bool false))) sNil)
def F_3 : En → Out := (sIf (tOrr (tVal (ap2 dNe (fComp (iTp (apL dTup (fCons (fC (.int 5)) (fCons (fC (.int 6)) (fCons (fC (.int 7)) fNil))))) (.nm 4) tTrue (apL (callX 5 C__law_asked) (fCons (fC (.int 1)) (fCons (fSh 4) (fCons (apL dLst (fCons (fC (.int 7)) fNil)) (fCons (apL dLst (fCons (fC (.int 7)) fNil)) (fCons (fC (.int 0)) fNil)))))) [4]) (apL dLst (fCons (fC (.str "done")) (fCons (fC (.str "none")) (fCons (fC (.str "none")) fNil)))))) (tVal (ap2 dNe (apL (callX 5 C__law_asked) (fCons (fC (.int 1)) (fCons (fC (.int 7)) (fCons (apL dLst (fCons (fC (.int 1)) (fCons (fC (.int 1)) fNil))) (fCons (apL dLst (fCons (fC (.int 1)) (fCons (fC (.int 2)) fNil))) (fCons (fC (.int 0)) fNil)))))) (fC (.str "none"))))) (sRet (fC (.bool false))) sNil)
def F_4 : En → Out := (sFor (iLs (apL dLst (fCons (fC .none) (fCons (fC (.int 5)) (fCons (apL dTup (fCons (fC (.int 0)) fNil)) (fCons (apL dLst fNil) (fCons (apL dLst (fCons (fC (.int 1)) fNil)) (fCons (apL dLst (fCons (fC (.int 0)) (fCons (fC (.int 0)) fNil))) (fCons (apL dLst (fCons (fC (.int 0)) (fCons (fC (.int 2)) fNil))) (fCons (apL dLst (fCons (fC (.bool true)) (fCons (fC (.int 0)) fNil))) (fCons (apL dLst (fCons (fC (.str "0")) fNil)) (fCons (apL dLst (fCons (fC (.int 0)) (fCons (fC (.int 1)) (fCons (fC (.int 2)) (fCons (fC (.int 3)) (fCons (fC (.int 4)) (fCons (fC (.int 5)) (fCons (fC (.int 6)) (fCons (fC (.int 7)) fNil))))))))) fNil)))))))))))) (.nm 3) [3]
  (sIf (tVal (ap2 dNe (apL (callX 5 C__law_asked) (fCons (fC (.int 1)) (fCons (fC (.int 8)) (fCons (fSh 3) (fCons (fC (.int 0)) (fCons (fC (.int 0)) fNil)))))) (fC (.str "ranking")))) (sRet (fC (.bool false))) sNil))
def F_5 : En → Out := (sFor (iLs (apL dLst (fCons (fC .none) (fCons (fC (.int 5)) (fCons (apL dTup (fCons (fC (.int 0)) fNil)) (fCons (apL dLst fNil) (fCons (apL dLst (fCons (fC (.int 1)) fNil)) (fCons (apL dLst (fCons (ap2 dSub (fC (.int 0)) (fC (.int 1))) fNil)) (fCons (apL dLst (fCons (fC (.int 2)) (fCons (fC (.int 0)) fNil))) (fCons (apL dLst (fCons (fC (.int 0)) (fCons (fC (.int 1)) fNil))) (fCons (apL dLst (fCons (fC (.bool true)) (fCons (fC (.int 0)) fNil))) (fCons (ap2 dMul (apL dLst (fCons (fC (.int 0)) fNil)) (fC (.int 8))) (fCons (apL dLst (fCons (fC .none) fNil)) fNil))))))))))))) (.nm 3) [3]
  (sIf (tVal (ap2 dNe (apL (callX 5 C__law_asked) (fCons (fC (.int 1)) (fCons (fC (.int 9)) (fCons (fSh 3) (fCons (fC (.int 0)) (fCons (fC (.int 0)) fNil)))))) (fC (.str "number")))) (sRet (fC (.bool false))) sNil))
def F_6 : En → Out := (sIf (tOrr (tVal (ap2 dNe (apL (callX 1 C_order_with_table) (fCons (ap2 dMul (apL dLst (fCons (fC (.int 0)) fNil)) (fC (.int 7))) fNil)) (apL dLst (fCons (fC (.int 1)) (fCons (fC (.int 2)) (fCons (fC (.int 3)) (fCons (fC (.int 4)) (fCons (fC (.int 5)) (fCons (fC (.int 6)) (fCons (fC (.int 7)) fNil)))))))))) (tVal (ap2 dNe (apL (callX 5 C__law_asked) (fCons (fC (.int 1)) (fCons (fC (.int 9)) (fCons (apL dLst (fCons (fC (.int 6)) (fCons (fC (.int 5)) (fCons (fC (.int 4)) (fCons (fC (.int 3)) (fCons (fC (.int 2)) (fCons (fC (.int 1)) (fCons (fC (.int 0)) fNil)))))))) (fCons (fC (.int 0)) (fCons (fC (.int 0)) fNil)))))) (fC (.str "done"))))) (sRet (fC (.bool false))) sNil)
def F_7 : En → Out := (sFor (iLs (apL dLst (fCons (fC .none) (fCons (fC (.int 5)) (fCons (apL dTup (fCons (fC (.int 1)) fNil)) (fCons (apL dLst (fCons (fC (.int 0)) fNil)) (fCons (apL dLst (fCons (fC (.int 3)) fNil)) (fCons (apL dLst (fCons (fC (.bool true)) fNil)) (fCons (apL dLst (fCons (fC (.int 1)) (fCons (fC .none) fNil))) fNil))))))))) (.nm 3) [3]
  (sIf (tVal (ap2 dNe (apL (callX 5 C__law_asked) (fCons (fC (.int 1)) (fCons (fC (.int 10)) (fCons (fSh 3) (fCons (fC (.int 0)) (fCons (fC (.int 0)) fNil)))))) (fC (.str "number")))) (sRet (fC (.bool false))) sNil))
def F_8 : En → Out := (sFor (iLs (apL dLst (fCons (fC .none) (fCons (fC (.int 5)) (fCons (apL dTup (fCons (apL dTup (fCons (fC (.int 0)) (fCons (fC (.int 1)) fNil))) fNil)) (fCons (apL dLst (fCons (fC (.int 0)) fNil)) (fCons (apL dLst (fCons (apL dTup (fCons (fC (.int 0)) fNil)) fNil)) (fCons (apL dLst (fCons (apL dTup (fCons (fC (.int 0)) (fCons (fC (.int 3)) fNil))) fNil)) (fCons (apL dLst (fCons (apL dTup (fCons (ap2 dSub (fC (.int 0)) (fC (.int 1))) (fCons (fC (.int 0)) fNil))) fNil)) (fCons (apL dLst (fCons (apL dLst (fCons (fC (.int 0)) (fCons (fC (.int 1)) fNil))) fNil)) (fCons (apL dLst (fCons (apL dTup (fCons (fC (.bool true)) (fCons (fC (.int 0)) fNil))) fNil)) (fCons (apL dLst (fCons (apL dTup (fCons (fC (.int 0)) (fCons (fC (.int 1)) (fCons (fC (.int 2)) fNil)))) fNil)) fNil)))))))))))) (.nm 3) [3]
  (sIf (tVal (ap2 dNe (apL (callX 5 C__law_asked) (fCons (fC (.int 1)) (fCons (fC (.int 11)) (fCons (fSh 3) (fCons (fC (.int 0)) (fCons (fC (.int 0)) fNil)))))) (fC (.str "number")))) (sRet (fC (.bool false))) sNil))
def F_9 : En → Out := (sIf (tVal (ap2 dNe (fComp (iTp (apL dTup (fCons (fC .none) (fCons (fC (.int 3)) (fCons (ap2 dSub (fC (.int 0)) (fC (.int 1))) (fCons (fC (.bool true)) (fCons (fC (.str "0")) (fCons (fC (.int 2)) fNil)))))))) (.nm 3) tTrue (apL (callX 5 C__law_asked) (fCons (fC (.int 1)) (fCons (fC (.int 12)) (fCons (fSh 3) (fCons (fC (.int 0)) (fCons (fC (.int 0)) fNil)))))) [3]) (ap2 dAdd (ap2 dMul (apL dLst (fCons (fC (.str "number")) fNil)) (fC (.int 5))) (apL dLst (fCons (fC (.str "done")) fNil))))) (sRet (fC (.bool false))) sNil)
noncomputable def F_10 : En → Out := (sRet (fAnd (ap2 dEq (fComp (iTp (apL dTup (fCons (fC .none) (fCons (fC (.int 51)) (fCons (ap2 dSub (fC (.int 0)) (fC (.int 1))) (fCons (fC (.bool true)) (fCons (fC (.int 50)) fNil))))))) (.nm 3) tTrue (apL (callX 5 C__law_asked) (fCons (fC (.int 1)) (fCons (fC (.int 13)) (fCons (fSh 3) (fCons (fC (.int 0)) (fCons (fC (.int 0)) fNil)))))) [3]) (ap2 dAdd (ap2 dMul (apL dLst (fCons (fC (.str "number")) fNil)) (fC (.int 4))) (apL dLst (fCons (fC (.str "done")) fNil)))) (fAnd (apL (callX 0 C__law_numbers) fNil) (apL (callX 0 C__law_sorter) fNil))))
theorem f_1 (ad an : Addr) : (List.range 100).map (fun k : Nat => F_1 (en ad an k)) = (List.range 100).map (fun k : Nat => Out.nx (en ad an k)) := by kernel_rfl
theorem f_2 (ad an : Addr) : (List.range 100).map (fun k : Nat => F_2 (en ad an k)) = (List.range 100).map (fun k : Nat => Out.nx (en ad an k)) := by kernel_rfl
theorem f_3 (ad an : Addr) (r : Int) : F_3 (en ad an r) = .nx (en ad an r) := by kernel_rfl
theorem f_4 (ad an : Addr) (r : Int) : F_4 (en ad an r) = .nx (en ad an r) := by kernel_rfl
theorem f_5 (ad an : Addr) (r : Int) : F_5 (en ad an r) = .nx (en ad an r) := by kernel_rfl
theorem f_6 (ad an : Addr) (r : Int) : F_6 (en ad an r) = .nx (en ad an r) := by kernel_rfl
theorem f_7 (ad an : Addr) (r : Int) : F_7 (en ad an r) = .nx (en ad an r) := by kernel_rfl
theorem f_8 (ad an : Addr) (r : Int) : F_8 (en ad an r) = .nx (en ad an r) := by kernel_rfl
theorem f_9 (ad an : Addr) (r : Int) : F_9 (en ad an r) = .nx (en ad an r) := by kernel_rfl
theorem k_numbers : C__law_numbers [] = .ok (.bool true) := by kernel_rfl
abbrev s0 : So := ⟨[2, 1, 3], [1, 2, 3], []⟩
abbrev s1 : So := ⟨[1, 2, 3], [1, 2, 3], [1]⟩
abbrev e0 : En := [some (.mo (.so s0)), none]
abbrev e1 : En := [some (.mo (.so s1)), none]
theorem k_exch : g_So_exchange s0 [.int 1] = .ok (.int 0) s1 := gOf_eq (by simp) fun a dx am => ⟨[some (.pm a dx am s1), some (.sh (.int 1))], by kernel_rfl, rfl⟩
theorem k_undo : g_So_undo s1 [] = .ok (.int 1) s0 := gOf_eq (by simp) fun a dx am => ⟨[some (.pm a dx am s0), some (.sh (.int 1))], by kernel_rfl, rfl⟩
theorem k_sorter : F__law_sorter [none, none] = .rt (.bool true) := by
  refine (seqNx (ρ' := e0) (by kernel_rfl)).trans ((seqNx (ρ' := e0) (by kernel_rfl)).trans ((seqNx (ρ' := e0) (by kernel_rfl)).trans (sRetX_ok (ρ' := e0) ?_ rfl)))
  refine (xAnd_t (ρ' := e1) (xOp_ok (d := .int 0) (e := .int 0) (xMet_ok (sl := .mo (.so s0)) rfl rfl rfl k_exch rfl) rfl rfl)).trans ?_
  refine (xAnd_t (ρ' := e1) (by kernel_rfl)).trans ?_
  refine (xAnd_t (ρ' := e0) (xOp_ok (d := .int 1) (e := .int 1) (xMet_ok (sl := .mo (.so s1)) rfl rfl rfl k_undo rfl) rfl rfl)).trans ?_
  refine (xAnd_t (ρ' := e0) (by kernel_rfl)).trans ?_
  kernel_rfl
theorem c_sorter : C__law_sorter [] = .ok (.bool true) := by
  exact callF_rt k_sorter
theorem f_10 (ad an : Addr) (r : Int) : F_10 (en ad an r) = .rt (.bool true) := sRet_ok ((fAnd_t (by kernel_rfl)).trans ((fAnd_t (call0_ok k_numbers)).trans (call0_ok c_sorter)))
theorem law_ok : lawOk 5 1 W_law := fun ad an => by
  refine ⟨⟨ad, an, rfl⟩, .int 100, rfl, 100, rfl, by decide, by decide, fun r h0 h1 => ⟨.int 5, rfl, .list [.int r, .int 5], rfl, ?_⟩⟩
  have e : ((r.toNat : Nat) : Int) = r := by omega
  have hm : r.toNat ∈ List.range 100 := List.mem_range.mpr (by omega)
  have g1 := List.map_inj_left.mp (f_1 ad an) r.toNat hm
  have g2 := List.map_inj_left.mp (f_2 ad an) r.toNat hm
  rw [e] at g1 g2
  exact seq_ls g1 (seq_ls g2 (seq_ls (f_3 ad an r) (seq_ls (f_4 ad an r) (seq_ls (f_5 ad an r) (seq_ls (f_6 ad an r) (seq_ls (f_7 ad an r) (seq_ls (f_8 ad an r) (seq_ls (f_9 ad an r) (ret_ls (f_10 ad an r) rfl)))))))))
end K17

open PySem PySem.W PyProof.Rows
set_option maxHeartbeats 0 in
theorem PySem.Challenge.cw_agreeranks_k17_more_errors_holds : PySem.Challenge.rw_agreeranks_k17_more_errors.Holds := by
  w_on; o_law; k_head; (case hw => w_witness2)
  k_fill
  refine L2.walk_of (l := PySem.Challenge.rw_agreeranks_k17_more_errors) (n := 63) (k := 16) (x := "script") (CX := fun _ => L2.CX0) (sp := fun w => DL.spLaw _) rfl (by decide) rfl ⟨rfl, by decide, by decide⟩ (fun w h Y => PySem.W.kIn_of Y) ?F (fun _ _ a ns hl _ hS => ⟨a, ns, rfl, hS, hl, fun _ => rfl⟩) (fun _ _ _ _ _ h => h)
  case F =>
    intro w mg fa h KX G hmg
    refine' K17.law_end (sc := ⟨_⟩) K17.law_ok hmg (@K17.Top.mk ⟨_⟩ _ _ (PySem.W.mg_none_of KX G ?z_len) (PySem.W.mg_none_of KX G ?z_abs) (PySem.W.mg_none_of KX G ?z_max) (PySem.W.mg_none_of KX G ?z_min) (PySem.W.mg_none_of KX G ?z_sum) (PySem.W.mg_none_of KX G ?z_all) (PySem.W.mg_none_of KX G ?z_sorted) (PySem.W.mg_none_of KX G ?z_list) (PySem.W.mg_none_of KX G ?z_tuple) (PySem.W.mg_none_of KX G ?z_isinstance) (PySem.W.mg_none_of KX G ?z_range) (PySem.W.mg_none_of KX G ?z_enumerate) (PySem.W.mg_none_of KX G ?z_int) (PySem.W.mg_none_of KX G ?z_bool) (PySem.W.mg_none_of KX G ?z_str) (PySem.W.mg_none_of KX G ?z_set) (DL.top_int KX G ?z_MOST_THINGS) (DL.top_int KX G ?z_MOST_SMALL) (DL.top_exc KX G ?ea_BadRanking ?ee_BadRanking ?ek_BadRanking ?eb_BadRanking ?et_BadRanking) (DL.top_exc KX G ?ea_BadScores ?ee_BadScores ?ek_BadScores ?eb_BadScores ?et_BadScores) (DL.top_exc KX G ?ea_BadNumber ?ee_BadNumber ?ek_BadNumber ?eb_BadNumber ?et_BadNumber) (DL.top_exc KX G ?ea_NotFound ?ee_NotFound ?ek_NotFound ?eb_NotFound ?et_NotFound) ?xt (PySem.W.mg_none_of KX G ?z_ValueError) (DL.top_so KX G ?so_a ?so_b ?so_c ?so_d ?so_e ?so_f ?so_g ?so_h) (DL.top_fun KX G ?a__law_start ?l__law_start ?c__law_start ?k__law_start) (DL.top_fun KX G ?a__law_draw ?l__law_draw ?c__law_draw ?k__law_draw) (DL.top_fun KX G ?a__law_error ?l__law_error ?c__law_error ?k__law_error) (DL.top_meth ?a_So___len__ ?i_So___len__ ?l_So___len__ ?c_So___len__ ?k_So___len__) (DL.top_fun KX G ?a_is_int ?l_is_int ?c_is_int ?k_is_int) (DL.top_fun KX G ?a_is_ranking ?l_is_ranking ?c_is_ranking ?k_is_ranking) (DL.top_fun KX G ?a_check_ranking ?l_check_ranking ?c_check_ranking ?k_check_ranking) (DL.top_fun KX G ?a_check_both ?l_check_both ?c_check_both ?k_check_both) (DL.top_fun KX G ?a_is_scores ?l_is_scores ?c_is_scores ?k_is_scores) (DL.top_fun KX G ?a_check_scores ?l_check_scores ?c_check_scores ?k_check_scores) (DL.top_fun KX G ?a_check_size ?l_check_size ?c_check_size ?k_check_size) (DL.top_fun KX G ?a_ranking_of ?l_ranking_of ?c_ranking_of ?k_ranking_of) (DL.top_fun KX G ?a_against ?l_against ?c_against ?k_against) (DL.top_fun KX G ?a_orders ?l_orders ?c_orders ?k_orders) (DL.top_fun KX G ?a_all_rankings ?l_all_rankings ?c_all_rankings ?k_all_rankings) (DL.top_fun KX G ?a_ranking_at ?l_ranking_at ?c_ranking_at ?k_ranking_at) (DL.top_fun KX G ?a_common ?l_common ?c_common ?k_common) (DL.top_fun KX G ?a_lowest ?l_lowest ?c_lowest ?k_lowest) (DL.top_fun KX G ?a_check_many ?l_check_many ?c_check_many ?k_check_many) (DL.top_fun KX G ?a_squares_of ?l_squares_of ?c_squares_of ?k_squares_of) (DL.top_fun KX G ?a_inversions ?l_inversions ?c_inversions ?k_inversions) (DL.top_fun KX G ?a_least_squares ?l_least_squares ?c_least_squares ?k_least_squares) (DL.top_fun KX G ?a_greatest_squares ?l_greatest_squares ?c_greatest_squares ?k_greatest_squares) (DL.top_fun KX G ?a_order_with_table ?l_order_with_table ?c_order_with_table ?k_order_with_table) (DL.top_fun KX G ?a_after_neighbours ?l_after_neighbours ?c_after_neighbours ?k_after_neighbours) (DL.top_fun KX G ?a_after_exchanges ?l_after_exchanges ?c_after_exchanges ?k_after_exchanges) (DL.top_fun KX G ?a_check_small ?l_check_small ?c_check_small ?k_check_small) (DL.top_fun KX G ?a_near ?l_near ?c_near ?k_near) (DL.top_fun KX G ?a_count_with ?l_count_with ?c_count_with ?k_count_with) (DL.top_fun KX G ?a_value_table ?l_value_table ?c_value_table ?k_value_table) (DL.top_fun KX G ?a_orders_with ?l_orders_with ?c_orders_with ?k_orders_with) (DL.top_fun KX G ?a_can_be ?l_can_be ?c_can_be ?k_can_be) (DL.top_fun KX G ?a_first_with ?l_first_with ?c_first_with ?k_first_with) (DL.top_fun KX G ?a_order_at ?l_order_at ?c_order_at ?k_order_at) (DL.top_fun KX G ?a_check_same ?l_check_same ?c_check_same ?k_check_same) (DL.top_fun KX G ?a_outcomes ?l_outcomes ?c_outcomes ?k_outcomes) (DL.top_fun KX G ?a_pair_outcomes ?l_pair_outcomes ?c_pair_outcomes ?k_pair_outcomes) (DL.top_fun KX G ?a_shared_ranks ?l_shared_ranks ?c_shared_ranks ?k_shared_ranks) (DL.top_fun KX G ?a_tie_groups ?l_tie_groups ?c_tie_groups ?k_tie_groups) (DL.top_fun KX G ?a_plain_agreement ?l_plain_agreement ?c_plain_agreement ?k_plain_agreement) (DL.top_fun KX G ?a_untied_agreement ?l_untied_agreement ?c_untied_agreement ?k_untied_agreement) (DL.top_fun KX G ?a_dense_ranks ?l_dense_ranks ?c_dense_ranks ?k_dense_ranks) (DL.top_fun KX G ?a_first_ranks ?l_first_ranks ?c_first_ranks ?k_first_ranks) (DL.top_fun KX G ?a_without_thing ?l_without_thing ?c_without_thing ?k_without_thing) (DL.top_fun KX G ?a_exchanged ?l_exchanged ?c_exchanged ?k_exchanged) (DL.top_fun KX G ?a_format_scores ?l_format_scores ?c_format_scores ?k_format_scores) (DL.top_meth ?a_So_left ?i_So_left ?l_So_left ?c_So_left ?k_So_left) (DL.top_meth ?a_So_exchange ?i_So_exchange ?l_So_exchange ?c_So_exchange ?k_So_exchange) (DL.top_meth ?a_So_undo ?i_So_undo ?l_So_undo ?c_So_undo ?k_So_undo) (DL.top_fun KX G ?a__law_call ?l__law_call ?c__law_call ?k__law_call) (DL.top_fun KX G ?a__law_number ?l__law_number ?c__law_number ?k__law_number) (DL.top_fun KX G ?a__law_asked ?l__law_asked ?c__law_asked ?k__law_asked) (DL.top_fun KX G ?a__law_numbers ?l__law_numbers ?c__law_numbers ?k__law_numbers) (DL.top_meth ?a_So_ranking ?i_So_ranking ?l_So_ranking ?c_So_ranking ?k_So_ranking) (DL.top_meth ?a_So_useful ?i_So_useful ?l_So_useful ?c_So_useful ?k_So_useful) (DL.top_init ?a_So___init__ ?i_So___init__ ?l_So___init__ ?c_So___init__ ?k_So___init__ ?m_So___init__ ?n_So___init__) (DL.top_fun KX G ?a__law_sorter ?l__law_sorter ?c__law_sorter ?k__law_sorter) (DL.top_fun KX G ?a_law ?l_law ?c_law ?k_law))
    (case z_len => k_is)
    (case z_abs => k_is)
    (case z_max => k_is)
    (case z_min => k_is)
    (case z_sum => k_is)
    (case z_all => k_is)
    (case z_sorted => k_is)
    (case z_list => k_is)
    (case z_tuple => k_is)
    (case z_isinstance => k_is)
    (case z_range => k_is)
    (case z_enumerate => k_is)
    (case z_int => k_is)
    (case z_bool => k_is)
    (case z_str => k_is)
    (case z_set => k_is)
    (case z_MOST_THINGS => k_is)
    (case z_MOST_SMALL => k_is)
    (case ea_BadRanking => k_is); (case ee_BadRanking => k_exc); (case ek_BadRanking => k_is); (case eb_BadRanking => k_is); (case et_BadRanking => k_is)
    (case ea_BadScores => k_is); (case ee_BadScores => k_exc); (case ek_BadScores => k_is); (case eb_BadScores => k_is); (case et_BadScores => k_is)
    (case ea_BadNumber => k_is); (case ee_BadNumber => k_exc); (case ek_BadNumber => k_is); (case eb_BadNumber => k_is); (case et_BadNumber => k_is)
    (case ea_NotFound => k_is); (case ee_NotFound => k_exc); (case ek_NotFound => k_is); (case eb_NotFound => k_is); (case et_NotFound => k_is)
    (case xt =>
      refine' DL.top_xt (DL.xc1 KX G (x := "BadRanking") ?xa0 ?xg0 ?xk0 ?xs0 ?xd0 ?xh0 ?xm0 ?xn0 ?xt0 ?xy0) (DL.xc1 KX G (x := "BadScores") ?xa1 ?xg1 ?xk1 ?xs1 ?xd1 ?xh1 ?xm1 ?xn1 ?xt1 ?xy1) (DL.xc1 KX G (x := "BadNumber") ?xa2 ?xg2 ?xk2 ?xs2 ?xd2 ?xh2 ?xm2 ?xn2 ?xt2 ?xy2) (DL.xc1 KX G (x := "BadText") ?xa3 ?xg3 ?xk3 ?xs3 ?xd3 ?xh3 ?xm3 ?xn3 ?xt3 ?xy3) (DL.xc1 KX G (x := "NotFound") ?xa4 ?xg4 ?xk4 ?xs4 ?xd4 ?xh4 ?xm4 ?xn4 ?xt4 ?xy4) (DL.xc1 KX G (x := "RankError") ?xa5 ?xg5 ?xk5 ?xs5 ?xd5 ?xh5 ?xm5 ?xn5 ?xt5 ?xy5) ?s00 ?s01 ?s02 ?s03 ?s04 ?s10 ?s11 ?s12 ?s13 ?s14 ?s20 ?s21 ?s22 ?s23 ?s24 ?s30 ?s31 ?s32 ?s33 ?s34 ?s40 ?s41 ?s42 ?s43 ?s44 ?r0 ?r1 ?r2 ?r3 ?r4 ?v0 ?v1 ?v2 ?v3 ?v4 (by decide +kernel)
      (case xa0 => k_is)
      (case xa1 => k_is)
      (case xa2 => k_is)
      (case xa3 => k_is)
      (case xa4 => k_is)
      (case xa5 => k_is)
      (case xg0 => k_is); (case xk0 => k_is); (case xs0 => k_is); (case xd0 => k_is); (case xh0 => k_is); (case xm0 => k_is); (case xn0 => k_is); (case xt0 => k_is); (case xy0 => k_is)
      (case xg1 => k_is); (case xk1 => k_is); (case xs1 => k_is); (case xd1 => k_is); (case xh1 => k_is); (case xm1 => k_is); (case xn1 => k_is); (case xt1 => k_is); (case xy1 => k_is)
      (case xg2 => k_is); (case xk2 => k_is); (case xs2 => k_is); (case xd2 => k_is); (case xh2 => k_is); (case xm2 => k_is); (case xn2 => k_is); (case xt2 => k_is); (case xy2 => k_is)
      (case xg3 => k_is); (case xk3 => k_is); (case xs3 => k_is); (case xd3 => k_is); (case xh3 => k_is); (case xm3 => k_is); (case xn3 => k_is); (case xt3 => k_is); (case xy3 => k_is)
      (case xg4 => k_is); (case xk4 => k_is); (case xs4 => k_is); (case xd4 => k_is); (case xh4 => k_is); (case xm4 => k_is); (case xn4 => k_is); (case xt4 => k_is); (case xy4 => k_is)
      (case xg5 => k_is); (case xk5 => k_is); (case xs5 => k_is); (case xd5 => k_is); (case xh5 => k_is); (case xm5 => k_is); (case xn5 => k_is); (case xt5 => k_is); (case xy5 => k_is)
      (case s00 => k_is); (case s01 => k_is); (case s02 => k_is); (case s03 => k_is); (case s04 => k_is); (case s10 => k_is); (case s11 => k_is); (case s12 => k_is); (case s13 => k_is); (case s14 => k_is); (case s20 => k_is); (case s21 => k_is); (case s22 => k_is); (case s23 => k_is); (case s24 => k_is); (case s30 => k_is); (case s31 => k_is); (case s32 => k_is); (case s33 => k_is); (case s34 => k_is); (case s40 => k_is); (case s41 => k_is); (case s42 => k_is); (case s43 => k_is); (case s44 => k_is)
      (case r0 => k_is); (case r1 => k_is); (case r2 => k_is); (case r3 => k_is); (case r4 => k_is); (case v0 => k_is); (case v1 => k_is); (case v2 => k_is); (case v3 => k_is); (case v4 => k_is))
    (case z_ValueError => k_is)
    (case so_a => k_is); (case so_b => k_is); (case so_c => k_is); (case so_d => k_is); (case so_e => k_is); (case so_f => k_is); (case so_g => k_is); (case so_h => k_is)
    (case a__law_start => k_is); (case l__law_start => k_is); (case c__law_start => k_is); (case k__law_start => k_is)
    (case a__law_draw => k_is); (case l__law_draw => k_is); (case c__law_draw => k_is); (case k__law_draw => k_is)
    (case a__law_error => k_is); (case l__law_error => k_is); (case c__law_error => k_is); (case k__law_error => k_is)
    (case a_So___len__ => k_is); (case i_So___len__ => k_is); (case l_So___len__ => k_is); (case c_So___len__ => k_is); (case k_So___len__ => k_is)
    (case a_is_int => k_is); (case l_is_int => k_is); (case c_is_int => k_is); (case k_is_int => k_is)
    (case a_is_ranking => k_is); (case l_is_ranking => k_is); (case c_is_ranking => k_is); (case k_is_ranking => k_is)
    (case a_check_ranking => k_is); (case l_check_ranking => k_is); (case c_check_ranking => k_is); (case k_check_ranking => k_is)
    (case a_check_both => k_is); (case l_check_both => k_is); (case c_check_both => k_is); (case k_check_both => k_is)
    (case a_is_scores => k_is); (case l_is_scores => k_is); (case c_is_scores => k_is); (case k_is_scores => k_is)
    (case a_check_scores => k_is); (case l_check_scores => k_is); (case c_check_scores => k_is); (case k_check_scores => k_is)
    (case a_check_size => k_is); (case l_check_size => k_is); (case c_check_size => k_is); (case k_check_size => k_is)
    (case a_ranking_of => k_is); (case l_ranking_of => k_is); (case c_ranking_of => k_is); (case k_ranking_of => k_is)
    (case a_against => k_is); (case l_against => k_is); (case c_against => k_is); (case k_against => k_is)
    (case a_orders => k_is); (case l_orders => k_is); (case c_orders => k_is); (case k_orders => k_is)
    (case a_all_rankings => k_is); (case l_all_rankings => k_is); (case c_all_rankings => k_is); (case k_all_rankings => k_is)
    (case a_ranking_at => k_is); (case l_ranking_at => k_is); (case c_ranking_at => k_is); (case k_ranking_at => k_is)
    (case a_common => k_is); (case l_common => k_is); (case c_common => k_is); (case k_common => k_is)
    (case a_lowest => k_is); (case l_lowest => k_is); (case c_lowest => k_is); (case k_lowest => k_is)
    (case a_check_many => k_is); (case l_check_many => k_is); (case c_check_many => k_is); (case k_check_many => k_is)
    (case a_squares_of => k_is); (case l_squares_of => k_is); (case c_squares_of => k_is); (case k_squares_of => k_is)
    (case a_inversions => k_is); (case l_inversions => k_is); (case c_inversions => k_is); (case k_inversions => k_is)
    (case a_least_squares => k_is); (case l_least_squares => k_is); (case c_least_squares => k_is); (case k_least_squares => k_is)
    (case a_greatest_squares => k_is); (case l_greatest_squares => k_is); (case c_greatest_squares => k_is); (case k_greatest_squares => k_is)
    (case a_order_with_table => k_is); (case l_order_with_table => k_is); (case c_order_with_table => k_is); (case k_order_with_table => k_is)
    (case a_after_neighbours => k_is); (case l_after_neighbours => k_is); (case c_after_neighbours => k_is); (case k_after_neighbours => k_is)
    (case a_after_exchanges => k_is); (case l_after_exchanges => k_is); (case c_after_exchanges => k_is); (case k_after_exchanges => k_is)
    (case a_check_small => k_is); (case l_check_small => k_is); (case c_check_small => k_is); (case k_check_small => k_is)
    (case a_near => k_is); (case l_near => k_is); (case c_near => k_is); (case k_near => k_is)
    (case a_count_with => k_is); (case l_count_with => k_is); (case c_count_with => k_is); (case k_count_with => k_is)
    (case a_value_table => k_is); (case l_value_table => k_is); (case c_value_table => k_is); (case k_value_table => k_is)
    (case a_orders_with => k_is); (case l_orders_with => k_is); (case c_orders_with => k_is); (case k_orders_with => k_is)
    (case a_can_be => k_is); (case l_can_be => k_is); (case c_can_be => k_is); (case k_can_be => k_is)
    (case a_first_with => k_is); (case l_first_with => k_is); (case c_first_with => k_is); (case k_first_with => k_is)
    (case a_order_at => k_is); (case l_order_at => k_is); (case c_order_at => k_is); (case k_order_at => k_is)
    (case a_check_same => k_is); (case l_check_same => k_is); (case c_check_same => k_is); (case k_check_same => k_is)
    (case a_outcomes => k_is); (case l_outcomes => k_is); (case c_outcomes => k_is); (case k_outcomes => k_is)
    (case a_pair_outcomes => k_is); (case l_pair_outcomes => k_is); (case c_pair_outcomes => k_is); (case k_pair_outcomes => k_is)
    (case a_shared_ranks => k_is); (case l_shared_ranks => k_is); (case c_shared_ranks => k_is); (case k_shared_ranks => k_is)
    (case a_tie_groups => k_is); (case l_tie_groups => k_is); (case c_tie_groups => k_is); (case k_tie_groups => k_is)
    (case a_plain_agreement => k_is); (case l_plain_agreement => k_is); (case c_plain_agreement => k_is); (case k_plain_agreement => k_is)
    (case a_untied_agreement => k_is); (case l_untied_agreement => k_is); (case c_untied_agreement => k_is); (case k_untied_agreement => k_is)
    (case a_dense_ranks => k_is); (case l_dense_ranks => k_is); (case c_dense_ranks => k_is); (case k_dense_ranks => k_is)
    (case a_first_ranks => k_is); (case l_first_ranks => k_is); (case c_first_ranks => k_is); (case k_first_ranks => k_is)
    (case a_without_thing => k_is); (case l_without_thing => k_is); (case c_without_thing => k_is); (case k_without_thing => k_is)
    (case a_exchanged => k_is); (case l_exchanged => k_is); (case c_exchanged => k_is); (case k_exchanged => k_is)
    (case a_format_scores => k_is); (case l_format_scores => k_is); (case c_format_scores => k_is); (case k_format_scores => k_is)
    (case a_So_left => k_is); (case i_So_left => k_is); (case l_So_left => k_is); (case c_So_left => k_is); (case k_So_left => k_is)
    (case a_So_exchange => k_is); (case i_So_exchange => k_is); (case l_So_exchange => k_is); (case c_So_exchange => k_is); (case k_So_exchange => k_is)
    (case a_So_undo => k_is); (case i_So_undo => k_is); (case l_So_undo => k_is); (case c_So_undo => k_is); (case k_So_undo => k_is)
    (case a__law_call => k_is); (case l__law_call => k_is); (case c__law_call => k_is); (case k__law_call => k_is)
    (case a__law_number => k_is); (case l__law_number => k_is); (case c__law_number => k_is); (case k__law_number => k_is)
    (case a__law_asked => k_is); (case l__law_asked => k_is); (case c__law_asked => k_is); (case k__law_asked => k_is)
    (case a__law_numbers => k_is); (case l__law_numbers => k_is); (case c__law_numbers => k_is); (case k__law_numbers => k_is)
    (case a_So_ranking => k_is); (case i_So_ranking => k_is); (case l_So_ranking => k_is); (case c_So_ranking => k_is); (case k_So_ranking => k_is)
    (case a_So_useful => k_is); (case i_So_useful => k_is); (case l_So_useful => k_is); (case c_So_useful => k_is); (case k_So_useful => k_is)
    (case a_So___init__ => k_is); (case i_So___init__ => k_is); (case l_So___init__ => k_is); (case c_So___init__ => k_is); (case k_So___init__ => k_is); (case m_So___init__ => k_is); (case n_So___init__ => k_is)
    (case a__law_sorter => k_is); (case l__law_sorter => k_is); (case c__law_sorter => k_is); (case k__law_sorter => k_is)
    (case a_law => k_is); (case l_law => k_is); (case c_law => k_is); (case k_law => k_is)
