import PyProof.Rows.All
import Wide.All
import OpenK.AllK
import Wide.FinOn
import HandS.ForMost
import HandS.Exc
import HandS.Deep
import HandS.TupAny
import HandS.TupMul
import HandS.TupLe
import HandS.IsInst
import HandS.SetFor
import HandS.Style
import HandS.SortRule
import HandS.SortInts
import HandS.Conv
import KE.LtSeq
import KE.DataMinMax
import KE.SortData
import HandS.Strs
import HandS.TupSets
import HandS.ExcOwn
import HandS.WordsExc
import HandS.ExcIs
import HandS.DictTup
import KE.KDictSum
import PySem.Challenge.RW_agreeranks_k07_whole_tables
set_option Elab.async false
set_option linter.all false
set_option maxRecDepth 100000
/-! the data layer, part a: values without a heap, results, environments, the meanings -/
namespace DL
open PySem L2

abbrev D := PyData
inductive Rs (α : Type) where
  | ok (a : α) | er (c : Nat) | no
def Rs.bind {α β : Type} : Rs α → (α → Rs β) → Rs β
  | .ok a, f => f a
  | .er c, _ => .er c
  | .no, _ => .no
def Rs.noEr {α : Type} : Rs α → Rs α
  | .er _ => .no
  | x => x
@[simp] theorem Rs.bind_ok {α β : Type} (a : α) (f : α → Rs β) : (Rs.ok a).bind f = f a := rfl
@[simp] theorem Rs.bind_er {α β : Type} (c : Nat) (f : α → Rs β) : (Rs.er c : Rs α).bind f = .er c := rfl
@[simp] theorem Rs.bind_no {α β : Type} (f : α → Rs β) : (Rs.no : Rs α).bind f = .no := rfl
@[simp] theorem Rs.noEr_ok {α : Type} (a : α) : (Rs.ok a).noEr = .ok a := rfl

/-- objects that a def owns: a dict by tuples; a sorter -/
inductive Ob where
  | dk (kvs : List (List Key × D)) | so (C : Nat) (now goal made : List Int)
/-- a slot: shared data; a list that this def owns; the draws; an exception; an object -/
inductive Sl where
  | sh (d : D) | ow (ds : List D) | dr (ad an : Nat) | xo (cl : Value) | mo (o : Ob)
abbrev En := List (Option Sl)
abbrev LIM : Nat := 1000000

def fVar (i : Nat) : En → Rs D := fun ρ => match ρ[i]? with
  | some (some (.sh d)) => .ok d
  | some (some (.ow ds)) => .ok (.list ds)
  | _ => .no
def fSh (i : Nat) : En → Rs D := fun ρ => match ρ[i]? with
  | some (some (.sh d)) => .ok d
  | _ => .no
def fC (d : D) : En → Rs D := fun _ => .ok d
def ap1 (g : D → Rs D) (f : En → Rs D) : En → Rs D := fun ρ => (f ρ).bind g
def ap2 (g : D → D → Rs D) (f1 f2 : En → Rs D) : En → Rs D := fun ρ => (f1 ρ).bind fun x => (f2 ρ).bind fun y => g x y
def fNil : En → Rs (List D) := fun _ => .ok []
def fCons (f : En → Rs D) (fs : En → Rs (List D)) : En → Rs (List D) := fun ρ => (f ρ).bind fun d => (fs ρ).bind fun ds => .ok (d :: ds)
def apL (g : List D → Rs D) (fs : En → Rs (List D)) : En → Rs D := fun ρ => (fs ρ).bind g
def dLst (ds : List D) : Rs D := if ds.length ≤ LIM then .ok (.list ds) else .no
def dTup (ds : List D) : Rs D := if ds.length ≤ LIM then .ok (.tuple ds) else .no
def dBool : D → Rs Bool
  | .bool b => .ok b
  | _ => .no
def tVal (f : En → Rs D) : En → Rs Bool := fun ρ => (f ρ).bind dBool
def tAn (f g : En → Rs Bool) : En → Rs Bool := fun ρ => (f ρ).bind fun b => if b = true then g ρ else .ok false
def tOrr (f g : En → Rs Bool) : En → Rs Bool := fun ρ => (f ρ).bind fun b => if b = true then .ok true else g ρ
def tNt (f : En → Rs Bool) : En → Rs Bool := fun ρ => (f ρ).bind fun b => .ok (!b)
def tTrue : En → Rs Bool := fun _ => .ok true
def fAnd (f g : En → Rs D) : En → Rs D := fun ρ => ((f ρ).bind dBool).bind fun b => if b = true then g ρ else .ok (.bool false)
def fOr (f g : En → Rs D) : En → Rs D := fun ρ => ((f ρ).bind dBool).bind fun b => if b = true then .ok (.bool true) else g ρ
def fNot (f : En → Rs D) : En → Rs D := fun ρ => ((f ρ).bind dBool).bind fun b => .ok (.bool (!b))
def fIf (c : En → Rs Bool) (f g : En → Rs D) : En → Rs D := fun ρ => (c ρ).bind fun b => if b = true then f ρ else g ρ
def fChain (g g' : D → D → Rs D) (f1 f2 f3 : En → Rs D) : En → Rs D := fun ρ => (f1 ρ).bind fun x => (f2 ρ).bind fun y => ((g x y).bind dBool).bind fun b =>
  if b = true then (f3 ρ).bind fun z => g' y z else .ok (.bool false)

/-! ### operations on data -/
def dAdd : D → D → Rs D
  | .int i, .int j => .ok (.int (i + j))
  | .str x, .str y => if x.length + y.length ≤ LIM then .ok (.str (x ++ y)) else .no
  | .list xs, .list ys => if xs.length + ys.length ≤ LIM then .ok (.list (xs ++ ys)) else .no
  | .tuple xs, .tuple ys => if xs.length + ys.length ≤ LIM then .ok (.tuple (xs ++ ys)) else .no
  | _, _ => .no
def dSub : D → D → Rs D
  | .int i, .int j => .ok (.int (i - j))
  | _, _ => .no
def dMul : D → D → Rs D
  | .int i, .int j => if (-(2 ^ 64) < i ∧ i < 2 ^ 64) ∨ (-(2 ^ 64) < j ∧ j < 2 ^ 64) then .ok (.int (i * j)) else .no
  | .list xs, .int k => if -(2 ^ 63) ≤ k ∧ k < 2 ^ 63 ∧ xs.length * k.toNat ≤ LIM then .ok (.list (List.replicate k.toNat xs).flatten) else .no
  | .tuple xs, .int k => if xs ≠ [] ∧ 2 ≤ k ∧ k ≤ 1000 ∧ xs.length ≤ 1000 then .ok (.tuple (List.replicate k.toNat xs).flatten) else .no
  | _, _ => .no
def dFdiv : D → D → Rs D
  | .int i, .int j => if j ≠ 0 ∧ j.natAbs < 1073741824 then .ok (.int (i.fdiv j)) else .no
  | _, _ => .no
def dMod : D → D → Rs D
  | .int i, .int j => if j ≠ 0 then .ok (.int (i.fmod j)) else .no
  | _, _ => .no
def dPow : D → D → Rs D
  | .int i, .int j => if 0 ≤ j ∧ j ≤ 1000000 ∧ i.natAbs < 2 ^ 64 then .ok (.int (i ^ j.toNat)) else .no
  | _, _ => .no
def dNeg : D → Rs D
  | .int i => .ok (.int (-i))
  | _ => .no
def dLt : D → D → Rs D
  | .int i, .int j => .ok (.bool (decide (i < j)))
  | _, _ => .no
def dLe : D → D → Rs D
  | .int i, .int j => .ok (.bool (decide (i ≤ j)))
  | _, _ => .no
def dGt : D → D → Rs D
  | .int i, .int j => .ok (.bool (decide (j < i)))
  | _, _ => .no
def dGe : D → D → Rs D
  | .int i, .int j => .ok (.bool (decide (j ≤ i)))
  | _, _ => .no
def dEq (d e : D) : Rs D := if SeqAt.shaped d = true ∧ SeqAt.shaped e = true then .ok (.bool (PyData.eqv d e)) else .no
def dNe (d e : D) : Rs D := if SeqAt.shaped d = true ∧ SeqAt.shaped e = true then .ok (.bool (!PyData.eqv d e)) else .no
def dInT (d : D) : List D → Bool := fun ds => ds.any fun z => PyData.eqv z d
def flatD : D → Bool
  | .none | .bool _ | .int _ | .str _ => true
  | _ => false
def dIn : D → D → Rs D
  | d, .list ds => if SeqAt.shaped d = true ∧ SeqAt.shaped (.list ds) = true then .ok (.bool (dInT d ds)) else .no
  | .int i, .tuple ds => match ds.mapM (fun | PyData.int j => some j | _ => none) with
    | some ns => .ok (.bool (decide (i ∈ ns)))
    | none => .no
  | .str x, .str y => .ok (.bool (!(Builtin.Str.occurrences y x 0 y.length 1).isEmpty))
  | _, _ => .no
def dNot : D → Rs D
  | .bool b => .ok (.bool (!b))
  | _ => .no
def dNotIn (d e : D) : Rs D := (dIn d e).bind dNot
/-- x is None, x is True .. (the right one written) -/
def isNone : D → Bool
  | .none => true
  | _ => false
def dIsN : D → D → Rs D
  | d, .none => .ok (.bool (isNone d))
  | .bool a, .bool b => .ok (.bool (decide (a = b)))
  | _, _ => .no
def dIsNotN (d e : D) : Rs D := (dIsN d e).bind dNot
def dIx : D → D → Rs D
  | .list xs, .int i => match atI xs i with | some d => .ok d | none => .no
  | .tuple xs, .int i => match atI xs i with | some d => .ok d | none => .no
  | .str z, .int i => if z.length ≤ LIM then (match atI z.cps.toList i with | some c => .ok (.str ⟨#[c]⟩) | none => .no) else .no
  | _, _ => .no
def cutD {α : Type} (xs : List α) (lo hi : Option Int) : List α := (xs.drop (HT.sIx xs.length 0 lo)).take (HT.sIx xs.length xs.length hi - HT.sIx xs.length 0 lo)
def dOpt : Option D → Rs (Option Int)
  | none => .ok none
  | some (.int i) => .ok (some i)
  | _ => .no
def dSl (x : D) (lo hi : Option Int) : Rs D := match x with
  | .list xs => .ok (.list (cutD xs lo hi))
  | .str z => if z.length ≤ LIM then .ok (.str (cutS z lo hi)) else .no
  | _ => .no
def fNoPart : En → Rs (Option Int) := fun _ => .ok none
def dPart : D → Rs (Option Int)
  | .int i => .ok (some i)
  | _ => .no
def fPart (f : En → Rs D) : En → Rs (Option Int) := fun ρ => (f ρ).bind dPart
def fSl (f : En → Rs D) (lo hi : En → Rs (Option Int)) : En → Rs D := fun ρ => (f ρ).bind fun x => (lo ρ).bind fun a => (hi ρ).bind fun b => dSl x a b
end DL

namespace DL
open PySem L2

/-! ### heaps -/
def Ex (H H' : Hp) : Prop := ∀ a o, H a = some o → H' a = some o
theorem Ex.refl (H : Hp) : Ex H H := fun _ _ h => h
theorem Ex.trans {H H1 H2 : Hp} (a : Ex H H1) (b : Ex H1 H2) : Ex H H2 := fun x o h => b x o (a x o h)
theorem Ex.new {H : Hp} {p : Addr} {o : HO} (h : H p = none) : Ex H (upd H p o) := fun a u e => by
  rw [upd_ne (ne_of_none e h)]
  exact e
theorem Ex.free {H H' : Hp} {p : Addr} (e : Ex H H') (h : H' p = none) : H p = none := by
  cases h1 : H p with
  | none => rfl
  | some o =>
    rw [e p o h1] at h
    cases h
def hide (O : List Addr) (H : Hp) : Hp := fun a => if a ∈ O then none else H a
theorem hide_some {O : List Addr} {H : Hp} {a : Addr} {o : HO} : hide O H a = some o ↔ a ∉ O ∧ H a = some o := by
  unfold hide
  by_cases h : a ∈ O
  · simp [h]
  · simp [h]
theorem hide_le {O : List Addr} {H : Hp} : Ex (hide O H) H := fun a o h => (hide_some.mp h).2
theorem hide_ex {O : List Addr} {H H' : Hp} (e : Ex H H') : Ex (hide O H) (hide O H') := fun a o h => hide_some.mpr ⟨(hide_some.mp h).1, e a o (hide_some.mp h).2⟩
theorem hide_sub {O O' : List Addr} {H : Hp} (h : ∀ a ∈ O', a ∈ O) : Ex (hide O H) (hide O' H) := fun a o e => hide_some.mpr ⟨fun z => (hide_some.mp e).1 (h a z), (hide_some.mp e).2⟩
theorem hide_new {O : List Addr} {H : Hp} {p : Addr} {o : HO} (h : H p = none) : Ex (hide O H) (hide (p :: O) (upd H p o)) := fun a u e => by
  obtain ⟨h1, h2⟩ := hide_some.mp e
  have ne := ne_of_none h2 h
  refine hide_some.mpr ⟨fun z => ?_, by rw [upd_ne ne]; exact h2⟩
  rcases List.mem_cons.mp z with z | z
  · exact ne z
  · exact h1 z
theorem hide_cons {O : List Addr} {H : Hp} {p : Addr} (h : H p = none) : Ex (hide O H) (hide (p :: O) H) := fun a u e => by
  obtain ⟨h1, h2⟩ := hide_some.mp e
  have ne := ne_of_none h2 h
  refine hide_some.mpr ⟨fun z => ?_, h2⟩
  rcases List.mem_cons.mp z with z | z
  · exact ne z
  · exact h1 z
theorem hide_own {O : List Addr} {H : Hp} {p : Addr} {o : HO} (h : p ∈ O) : Ex (hide O H) (hide O (upd H p o)) := fun a u e => by
  obtain ⟨h1, h2⟩ := hide_some.mp e
  have ne : a ≠ p := fun z => h1 (by rw [z]; exact h)
  exact hide_some.mpr ⟨h1, by rw [upd_ne ne]; exact h2⟩

/-! ### data in a heap -/
mutual
inductive Dq (H : Hp) : V → D → Prop
  | non : Dq H .non .none
  | bl (b : Bool) : Dq H (.bl b) (.bool b)
  | int (i : Int) : Dq H (.int i) (.int i)
  | str (x : Str) : Dq H (.str x) (.str x)
  | lst {a : Addr} {xs : List V} {ds : List D} : H a = some (.lst xs) → DqAll H xs ds → Dq H (.ref a) (.list ds)
  | tup {a : Addr} {xs : List V} {ds : List D} : H a = some (.tup xs) → DqAll H xs ds → Dq H (.ref a) (.tuple ds)
inductive DqAll (H : Hp) : List V → List D → Prop
  | nil : DqAll H [] []
  | cons {v : V} {vs : List V} {d : D} {ds : List D} : Dq H v d → DqAll H vs ds → DqAll H (v :: vs) (d :: ds)
end
mutual
theorem Dq.mono {H H' : Hp} (e : Ex H H') : ∀ {v : V} {d : D}, Dq H v d → Dq H' v d
  | _, _, .non => .non
  | _, _, .bl b => .bl b
  | _, _, .int i => .int i
  | _, _, .str x => .str x
  | _, _, .lst h a => .lst (e _ _ h) (DqAll.mono e a)
  | _, _, .tup h a => .tup (e _ _ h) (DqAll.mono e a)
theorem DqAll.mono {H H' : Hp} (e : Ex H H') : ∀ {vs : List V} {ds : List D}, DqAll H vs ds → DqAll H' vs ds
  | _, _, .nil => .nil
  | _, _, .cons h t => .cons (Dq.mono e h) (DqAll.mono e t)
end
mutual
theorem Dq.dp {K : PySem.W.Frag} {H : Hp} : ∀ {v : V} {d : D}, Dq H v d → Dp K H v d
  | _, _, .non => .non
  | _, _, .bl b => .bl b
  | _, _, .int i => .int i
  | _, _, .str x => .str x
  | _, _, .lst h a => .lst (SqL.of h) (DqAll.dp a)
  | _, _, .tup h a => .tup (SqT.of h) (DqAll.dp a)
theorem DqAll.dp {K : PySem.W.Frag} {H : Hp} : ∀ {vs : List V} {ds : List D}, DqAll H vs ds → DpAll K H vs ds
  | _, _, .nil => .nil
  | _, _, .cons h t => .cons (Dq.dp h) (DqAll.dp t)
end
section
variable {H : Hp} {vs ws : List V} {ds es : List D}
theorem DqAll.length : ∀ {vs : List V} {ds : List D}, DqAll H vs ds → vs.length = ds.length
  | _, _, .nil => rfl
  | _, _, .cons _ t => by simp [DqAll.length t]
theorem DqAll.append : ∀ {vs : List V} {ds : List D}, DqAll H vs ds → DqAll H ws es → DqAll H (vs ++ ws) (ds ++ es)
  | _, _, .nil, b => b
  | _, _, .cons h t, b => .cons h (DqAll.append t b)
theorem DqAll.take : ∀ (n : Nat) {vs : List V} {ds : List D}, DqAll H vs ds → DqAll H (vs.take n) (ds.take n)
  | 0, _, _, _ => by simp; exact .nil
  | n + 1, _, _, .nil => by simp; exact .nil
  | n + 1, _, _, .cons h t => by simp only [List.take_succ_cons]; exact .cons h (DqAll.take n t)
theorem DqAll.drop : ∀ (n : Nat) {vs : List V} {ds : List D}, DqAll H vs ds → DqAll H (vs.drop n) (ds.drop n)
  | 0, _, _, t => t
  | n + 1, _, _, .nil => by simp; exact .nil
  | n + 1, _, _, .cons h t => by simp only [List.drop_succ_cons]; exact DqAll.drop n t
theorem DqAll.get : ∀ {vs : List V} {ds : List D} (i : Nat) {d : D}, DqAll H vs ds → ds[i]? = some d → ∃ v, vs[i]? = some v ∧ Dq H v d
  | _, _, i, d, .nil, e => by simp at e
  | _, _, 0, d, .cons h t, e => by
    simp at e
    subst e
    exact ⟨_, rfl, h⟩
  | _, _, i + 1, d, .cons h t, e => DqAll.get i t (by simpa using e)
theorem DqAll.get' : ∀ {vs : List V} {ds : List D} (i : Nat) {v : V}, DqAll H vs ds → vs[i]? = some v → ∃ d, ds[i]? = some d ∧ Dq H v d
  | _, _, i, d, .nil, e => by simp at e
  | _, _, 0, d, .cons h t, e => by
    simp at e
    subst e
    exact ⟨_, rfl, h⟩
  | _, _, i + 1, d, .cons h t, e => DqAll.get' i t (by simpa using e)
theorem DqAll.set : ∀ {vs : List V} {ds : List D} (i : Nat) {v : V} {d : D}, DqAll H vs ds → Dq H v d → DqAll H (vs.set i v) (ds.set i d)
  | _, _, i, _, _, .nil, _ => by simp; exact .nil
  | _, _, 0, _, _, .cons h t, q => .cons q t
  | _, _, i + 1, _, _, .cons h t, q => .cons h (DqAll.set i t q)
theorem DqAll.rep {n : Nat} (h : DqAll H vs ds) : DqAll H (List.replicate n vs).flatten (List.replicate n ds).flatten := by
  induction n with
  | zero => simp; exact .nil
  | succ n ih =>
    simp only [List.replicate_succ, List.flatten_cons]
    exact h.append ih
theorem DqAll.eraseIdx : ∀ {vs : List V} {ds : List D} (i : Nat), DqAll H vs ds → DqAll H (vs.eraseIdx i) (ds.eraseIdx i)
  | _, _, i, .nil => by simp; exact .nil
  | _, _, 0, .cons h t => t
  | _, _, i + 1, .cons h t => .cons h (DqAll.eraseIdx i t)
theorem DqAll.ints : ∀ {vs : List V} {ns : List Int}, DqAll H vs (ns.map PyData.int) → vs = ns.map V.int
  | vs, [], h => by cases h; rfl
  | vs, n :: ns, h => by
    cases h with
    | cons h t =>
      cases h
      rw [DqAll.ints t]
      rfl
theorem DqAll.ofInts : ∀ (ns : List Int), DqAll H (ns.map V.int) (ns.map PyData.int)
  | [] => .nil
  | n :: ns => .cons (.int n) (DqAll.ofInts ns)
theorem DqAll.bools : ∀ {vs : List V} {ns : List Bool}, DqAll H vs (ns.map PyData.bool) → vs = ns.map V.bl
  | vs, [], h => by cases h; rfl
  | vs, n :: ns, h => by
    cases h with
    | cons h t =>
      cases h
      rw [DqAll.bools t]
      rfl
theorem DqAll.strs : ∀ {vs : List V} {ns : List Str}, DqAll H vs (ns.map PyData.str) → vs = ns.map V.str
  | vs, [], h => by cases h; rfl
  | vs, n :: ns, h => by
    cases h with
    | cons h t =>
      cases h
      rw [DqAll.strs t]
      rfl
theorem DqAll.ofStrs : ∀ (ns : List Str), DqAll H (ns.map V.str) (ns.map PyData.str)
  | [] => .nil
  | n :: ns => .cons (.str n) (DqAll.ofStrs ns)
end

/-- data at the top of which a hidden list may stand -/
def DB (O : List Addr) (H : Hp) (v : V) (d : D) : Prop := Dq (hide O H) v d ∨ ∃ a vs ds, v = .ref a ∧ d = .list ds ∧ H a = some (.lst vs) ∧ DqAll (hide O H) vs ds
section
variable {O : List Addr} {H H' : Hp} {v : V} {d : D}
theorem DB.of (h : Dq (hide O H) v d) : DB O H v d := .inl h
theorem DB.mono (e : Ex H H') (h : DB O H v d) : DB O H' v d := by
  rcases h with h | ⟨a, vs, ds, h1, h2, h3, h4⟩
  · exact .inl (h.mono (hide_ex e))
  · exact .inr ⟨a, vs, ds, h1, h2, e _ _ h3, h4.mono (hide_ex e)⟩
theorem DB.list {ds : List D} (h : DB O H v (.list ds)) : ∃ a vs, v = .ref a ∧ H a = some (.lst vs) ∧ DqAll (hide O H) vs ds := by
  rcases h with h | ⟨a, vs, es, h1, h2, h3, h4⟩
  · cases h with
    | lst h a => exact ⟨_, _, rfl, hide_le _ _ h, a⟩
  · cases h2
    exact ⟨a, vs, h1, h3, h4⟩
theorem DB.tuple {ds : List D} (h : DB O H v (.tuple ds)) : ∃ a vs, v = .ref a ∧ (a ∉ O ∧ H a = some (.tup vs)) ∧ DqAll (hide O H) vs ds := by
  rcases h with h | ⟨a, vs, es, h1, h2, h3, h4⟩
  · cases h with
    | tup h a => exact ⟨_, _, rfl, hide_some.mp h, a⟩
  · cases h2
theorem DB.int {i : Int} (h : DB O H v (.int i)) : v = .int i := by
  rcases h with h | ⟨a, vs, es, h1, h2, h3, h4⟩
  · cases h; rfl
  · cases h2
theorem DB.bool {b : Bool} (h : DB O H v (.bool b)) : v = .bl b := by
  rcases h with h | ⟨a, vs, es, h1, h2, h3, h4⟩
  · cases h; rfl
  · cases h2
theorem DB.str {x : Str} (h : DB O H v (.str x)) : v = .str x := by
  rcases h with h | ⟨a, vs, es, h1, h2, h3, h4⟩
  · cases h; rfl
  · cases h2
theorem DB.non (h : DB O H v .none) : v = .non := by
  rcases h with h | ⟨a, vs, es, h1, h2, h3, h4⟩
  · cases h; rfl
  · cases h2
theorem DB.all (h : DB O H v d) : Dq H v d := by
  rcases h with h | ⟨a, vs, es, h1, h2, h3, h4⟩
  · exact h.mono hide_le
  · subst h1; subst h2
    exact .lst h3 (h4.mono hide_le)
end

/-! ### slots -/
/-- the draws: a list of a list of ints, not empty, and a counter -/
def DrSt (H : Hp) (ad an : Addr) : Prop := ad ≠ an ∧ ∃ (c : Int) (nums : List Int), H ad = some (.lst [.ref an, .int c]) ∧ H an = some (.lst (nums.map V.int)) ∧ nums ≠ [] ∧ nums.length ≤ 1000
theorem DrSt.mono {H H' : Hp} {ad an : Addr} (h : DrSt H ad an) (k1 : ∀ o, H ad = some o → H' ad = some o) (k2 : ∀ o, H an = some o → H' an = some o) : DrSt H' ad an := by
  obtain ⟨h1, c, nums, h2, h3, h4⟩ := h
  exact ⟨h1, c, nums, k1 _ h2, k2 _ h3, h4⟩
/-- a caught exception of the class cl at z -/
def XH (cl : Value) (z : Addr) : HO := .ext fun g => ∃ (ox : Obj) (fl : Array Value), g.get? z = some ox ∧ Zc cl none ox ∧ ox.data = .fields fl
inductive DkAll (H : Hp) : List (List Key × V) → List (List Key × D) → Prop
  | nil : DkAll H [] []
  | cons {k : List Key} {v : V} {d : D} {vs : List (List Key × V)} {ds : List (List Key × D)} : Dq H v d → DkAll H vs ds → DkAll H ((k, v) :: vs) ((k, d) :: ds)
theorem DkAll.mono {H H' : Hp} (e : Ex H H') : ∀ {vs : List (List Key × V)} {ds : List (List Key × D)}, DkAll H vs ds → DkAll H' vs ds
  | _, _, .nil => .nil
  | _, _, .cons h t => .cons (h.mono e) (DkAll.mono e t)
/-- the object that a slot owns, and its cells -/
def ObR (O : List Addr) (H : Hp) : Ob → V → List Addr → Prop
  | .dk kvs, v, l => ∃ a vs, v = .ref a ∧ l = [a] ∧ H a = some (.dT vs) ∧ DkAll (hide O H) vs kvs
  | .so C now goal made, v, l => ∃ a dx an ag am, v = .ref a ∧ l = [a, dx, an, ag, am] ∧ l.Nodup ∧ H a = some (.ins C dx [("now", .ref an), ("goal", .ref ag), ("made", .ref am)]) ∧ H dx = some (.own a) ∧
      H an = some (.lst (now.map V.int)) ∧ H ag = some (.lst (goal.map V.int)) ∧ H am = some (.lst (made.map V.int))
theorem ObR.stay {O O' : List Addr} {H H' : Hp} {o : Ob} {v : V} {l : List Addr} (e : Ex (hide O H) (hide O' H')) (k : ∀ a ∈ l, ∀ u, H a = some u → H' a = some u) (h : ObR O H o v l) : ObR O' H' o v l := by
  cases o with
  | dk kvs =>
    obtain ⟨a, vs, h1, h2, h3, h4⟩ := h
    subst h2
    exact ⟨a, vs, h1, rfl, k a (by simp) _ h3, h4.mono e⟩
  | so C now goal made =>
    obtain ⟨a, dx, an, ag, am, h1, h2, h3, h4, h5, h6, h7, h8⟩ := h
    subst h2
    exact ⟨a, dx, an, ag, am, h1, rfl, h3, k _ (by simp) _ h4, k _ (by simp) _ h5, k _ (by simp) _ h6, k _ (by simp) _ h7, k _ (by simp) _ h8⟩
def SlR (O : List Addr) (H : Hp) : Sl → V → List Addr → Prop
  | .sh d, v, l => l = [] ∧ Dq (hide O H) v d
  | .ow ds, v, l => ∃ a vs, v = .ref a ∧ l = [a] ∧ H a = some (.lst vs) ∧ DqAll (hide O H) vs ds
  | .dr ad an, v, l => v = .ref ad ∧ l = [ad, an] ∧ DrSt H ad an
  | .xo cl, v, l => l = [] ∧ ∃ z, v = .ref z ∧ hide O H z = some (XH cl z)
  | .mo o, v, l => ObR O H o v l
theorem SlR.mono {O : List Addr} {H H' : Hp} {s : Sl} {v : V} {l : List Addr} (e : Ex H H') (h : SlR O H s v l) : SlR O H' s v l := by
  cases s with
  | sh d => exact ⟨h.1, h.2.mono (hide_ex e)⟩
  | ow ds =>
    obtain ⟨a, vs, h1, h2, h3, h4⟩ := h
    exact ⟨a, vs, h1, h2, e _ _ h3, h4.mono (hide_ex e)⟩
  | dr ad an => exact ⟨h.1, h.2.1, h.2.2.mono (e _) (e _)⟩
  | xo cl =>
    obtain ⟨h1, z, h2, h3⟩ := h
    exact ⟨h1, z, h2, hide_ex e _ _ h3⟩
  | mo o => exact ObR.stay (hide_ex e) (fun a _ u q => e a u q) h
/-- the shared part grows, the slot's own cells stand -/
theorem SlR.moved {O O' : List Addr} {H H' : Hp} {s : Sl} {v : V} {l : List Addr} (e : Ex (hide O H) (hide O' H')) (k : ∀ a ∈ l, H' a = H a) (h : SlR O H s v l) : SlR O' H' s v l := by
  cases s with
  | sh d => exact ⟨h.1, h.2.mono e⟩
  | ow ds =>
    obtain ⟨a, vs, h1, h2, h3, h4⟩ := h
    subst h2
    exact ⟨a, vs, h1, rfl, by rw [k a (by simp)]; exact h3, h4.mono e⟩
  | dr ad an =>
    obtain ⟨h1, h2, h3⟩ := h
    subst h2
    exact ⟨h1, rfl, h3.mono (fun o q => by rw [k ad (by simp)]; exact q) (fun o q => by rw [k an (by simp)]; exact q)⟩
  | xo cl =>
    obtain ⟨h1, z, h2, h3⟩ := h
    exact ⟨h1, z, h2, e _ _ h3⟩
  | mo o => exact ObR.stay e (fun a ha u q => by rw [k a ha]; exact q) h

/-- what is hidden is no tuple -/
def NT (O : List Addr) (H : Hp) : Prop := ∀ a ∈ O, ∀ xs, H a ≠ some (.tup xs)
theorem NT.mono {O : List Addr} {H H' : Hp} (e : Ex H H') (od : ∀ a ∈ O, H a ≠ none) (n : NT O H) : NT O H' := fun a ha xs z => by
  cases h : H a with
  | none => exact od a ha h
  | some o =>
    have := e a o h
    rw [z] at this
    cases this
    exact n a ha xs h
theorem NT.cons {O : List Addr} {H : Hp} {p : Addr} {o : HO} (h : H p = some o) (ho : ∀ xs, o ≠ .tup xs) (n : NT O H) : NT (p :: O) H := fun a ha xs z => by
  rcases List.mem_cons.mp ha with rfl | ha
  · rw [h] at z; exact ho xs (Option.some.inj z)
  · exact n a ha xs z
theorem NT.upd {O : List Addr} {H : Hp} {p : Addr} {o : HO} (ho : ∀ xs, o ≠ .tup xs) (n : NT O H) : NT O (upd H p o) := fun a ha xs z => by
  by_cases e : a = p
  · subst e; rw [upd_same] at z; exact ho xs (Option.some.inj z)
  · rw [upd_ne e] at z; exact n a ha xs z
theorem lst_nt {vs : List V} : ∀ xs, HO.lst vs ≠ .tup xs := fun xs z => by cases z
structure RepE (O : List Addr) (σ : St) (ρ : En) (H : Hp) : Prop where
  len : σ.length = ρ.length
  od : ∀ a ∈ O, H a ≠ none
  nt : NT O H
  sl : ∀ (i : Nat) (s : Sl), ρ[i]? = some (some s) → ∃ v l, σ[i]? = some (some v) ∧ SlR O H s v l
theorem RepE.mono {O : List Addr} {σ : St} {ρ : En} {H H' : Hp} (e : Ex H H') (h : RepE O σ ρ H) : RepE O σ ρ H' :=
  ⟨h.len, fun a ha z => h.od a ha (e.free z), h.nt.mono e h.od, fun i s hi => by
    obtain ⟨v, l, h1, h2⟩ := h.sl i s hi
    exact ⟨v, l, h1, h2.mono e⟩⟩
theorem RepE.fresh {O : List Addr} {σ : St} {ρ : En} {H : Hp} (h : RepE O σ ρ H) {p : Addr} (hp : H p = none) : p ∉ O := fun z => h.od p z hp

/-! ### what a meaning says of a reading -/
variable (cv : Nat → Value) (W : WX)
def PosE (O : List Addr) (σ : St) (H : Hp) (Q : VK) : Rs D → Prop
  | .ok d => ∀ v H2, Ex H H2 → Dq (hide O H2) v d → Q v H2
  | .er c => ∀ H2, Ex H H2 → W (cv c) none σ H2
  | .no => False
def PosB (O : List Addr) (σ : St) (H : Hp) (Q : VK) : Rs D → Prop
  | .ok d => ∀ v H2, Ex H H2 → DB O H2 v d → Q v H2
  | .er c => ∀ H2, Ex H H2 → W (cv c) none σ H2
  | .no => False
def PosF (O : List Addr) (σ : St) (H : Hp) (Q : VK) : Rs D → Prop
  | .ok d => ∀ p vs ds H2, d = .list ds → Ex H H2 → H p = none → H2 p = some (.lst vs) → DqAll (hide (p :: O) H2) vs ds → Q (.ref p) H2
  | .er c => ∀ H2, Ex H H2 → W (cv c) none σ H2
  | .no => False
def PosT (O : List Addr) (σ : St) (H : Hp) (Q : Bool → Hp → Prop) : Rs Bool → Prop
  | .ok b => ∀ H2, Ex H H2 → Q b H2
  | .er c => ∀ H2, Ex H H2 → W (cv c) none σ H2
  | .no => False
def PosA (O : List Addr) (σ : St) (H : Hp) (Q : List V → Hp → Prop) : Rs (List D) → Prop
  | .ok ds => ∀ vs H2, Ex H H2 → DqAll (hide O H2) vs ds → Q vs H2
  | .er c => ∀ H2, Ex H H2 → W (cv c) none σ H2
  | .no => False
def PosO (O : List Addr) (σ : St) (H : Hp) (Q : Option Int → Hp → Prop) : Rs (Option Int) → Prop
  | .ok b => ∀ H2, Ex H H2 → Q b H2
  | .er c => ∀ H2, Ex H H2 → W (cv c) none σ H2
  | .no => False
def SndE (t : TE) (f : En → Rs D) : Prop := ∀ O σ ρ H Q, RepE O σ ρ H → PosE cv W O σ H Q (f ρ) → t σ H Q
def SndB (t : TE) (f : En → Rs D) : Prop := ∀ O σ ρ H Q, RepE O σ ρ H → PosB cv W O σ H Q (f ρ) → t σ H Q
def SndF (t : TE) (f : En → Rs D) : Prop := ∀ O σ ρ H Q, RepE O σ ρ H → PosF cv W O σ H Q (f ρ) → t σ H Q
def SndT (t : TT) (f : En → Rs Bool) : Prop := ∀ O σ ρ H Q, RepE O σ ρ H → PosT cv W O σ H Q (f ρ) → t σ H Q
def SndA (t : TA) (f : En → Rs (List D)) : Prop := ∀ O σ ρ H Q, RepE O σ ρ H → PosA cv W O σ H Q (f ρ) → t σ H Q
def SndO (t : TO) (f : En → Rs (Option Int)) : Prop := ∀ O σ ρ H Q, RepE O σ ρ H → PosO cv W O σ H Q (f ρ) → t σ H Q
variable {cv W}
theorem SndE.b {t : TE} {f : En → Rs D} (h : SndE cv W t f) : SndB cv W t f := fun O σ ρ H Q r p => h O σ ρ H Q r (by
  cases e : f ρ with
  | ok d => rw [e] at p; exact fun v H2 x q => p v H2 x (.inl q)
  | er c => rw [e] at p; exact p
  | no => rw [e] at p; exact p)
theorem SndF.e {t : TE} {f : En → Rs D} (h : SndF cv W t f) : SndE cv W t f := fun O σ ρ H Q r p => h O σ ρ H Q r (by
  cases e : f ρ with
  | ok d =>
    rw [e] at p
    intro q vs ds H2 e1 x h1 h2 h3
    subst e1
    exact p _ H2 x (.lst (hide_some.mpr ⟨r.fresh h1, h2⟩) (h3.mono (hide_sub fun a ha => List.mem_cons_of_mem _ ha)))
  | er c => rw [e] at p; exact p
  | no => rw [e] at p; exact p)
end DL

namespace DL
open PySem L2

/-- contexts that share what a derivation reads: the written part, the names, the scope -/
structure Fam {ι : Type} (Xs : ι → Cx) (P : Program) (w : World) (K : PySem.W.Frag) (mg : Str → Option Value) (base : Heap) (N : List Str) (sc : Scope) (fnn : Str → Bool) (k : Nat) : Prop where
  prog : ∀ j, (Xs j).prog = P
  wd : ∀ j, (Xs j).w = w
  kk : ∀ j, (Xs j).K = K
  gl : ∀ j, (Xs j).mg = mg
  bs : ∀ j, (Xs j).base = base
  nm : ∀ j, (Xs j).N = N
  scp : ∀ j, (Xs j).env.scope = sc
  calm : ∀ j, (Xs j).calm = true
  nd : N.Nodup
  room : ∀ j, Room k (Xs j).A
  fn : ∀ j x, (Xs j).fn x = fnn x
def visB (sc : Scope) (x : Str) : Bool := match sc.names.lookup x with
  | some .local | some .cell | some .free => true
  | _ => false
def locB (sc : Scope) (x : Str) : Bool := match sc.names.lookup x with
  | some .local | some .cell => true
  | _ => false
def isLoc (sc : Scope) (x : Str) : Bool := match sc.names.lookup x with
  | some .local => true
  | _ => false
def stB (fnn : Str → Bool) (sc : Scope) (x : Str) : Bool := locB sc x && (fnn x || isLoc sc x)
def glB (sc : Scope) (x : Str) : Bool := match sc.names.lookup x with
  | some .globalImplicit => true
  | _ => false
theorem vis_of {sc : Scope} {x : Str} (h : visB sc x = true) : Vis sc x := by
  unfold visB at h
  unfold Vis
  split at h <;> simp_all
theorem loc_of {sc : Scope} {x : Str} (h : locB sc x = true) : L2.Loc sc x := by
  unfold locB at h
  unfold L2.Loc
  split at h <;> simp_all
theorem isLoc_of {sc : Scope} {x : Str} (h : isLoc sc x = true) : sc.names.lookup x = some .local := by
  unfold isLoc at h
  split at h <;> simp_all
theorem gl_of {sc : Scope} {x : Str} (h : glB sc x = true) : sc.names.lookup x = some .globalImplicit := by
  unfold glB at h
  split at h <;> simp_all
section
variable {ι : Type} {Xs : ι → Cx} {P : Program} {w : World} {K : PySem.W.Frag} {mg : Str → Option Value} {base : Heap} {N : List Str} {sc : Scope} {fnn : Str → Bool} {k : Nat}
theorem Fam.gl_ok (F : Fam Xs P w K mg base N sc fnn k) {x : Str} (h : glB sc x = true) (j : ι) : Gl (Xs j) x := by
  show (Xs j).env.scope.names.lookup x = _
  rw [F.scp j]
  exact gl_of h
theorem Fam.vis (F : Fam Xs P w K mg base N sc fnn k) {x : Str} (h : visB sc x = true) (j : ι) : Vis (Xs j).env.scope x := by
  rw [F.scp j]
  exact vis_of h
theorem Fam.loc (F : Fam Xs P w K mg base N sc fnn k) {x : Str} (h : stB fnn sc x = true) (j : ι) : L2.Loc (Xs j).env.scope x := by
  rw [F.scp j]
  unfold stB at h
  rw [Bool.and_eq_true] at h
  exact loc_of h.1
theorem Fam.hf (F : Fam Xs P w K mg base N sc fnn k) {x : Str} (h : stB fnn sc x = true) (j : ι) : (Xs j).fn x = true ∨ (Xs j).env.scope.names.lookup x = some .local := by
  rw [F.scp j, F.fn j]
  unfold stB at h
  rw [Bool.and_eq_true, Bool.or_eq_true] at h
  rcases h.2 with q | q
  · exact .inl q
  · exact .inr (isLoc_of q)
theorem Fam.at (F : Fam Xs P w K mg base N sc fnn k) {x : Str} {i : Nat} (h : N[i]? = some x) (j : ι) : (Xs j).N[i]? = some x := by
  rw [F.nm j]
  exact h
theorem Fam.ndj (F : Fam Xs P w K mg base N sc fnn k) (j : ι) : (Xs j).N.Nodup := by
  rw [F.nm j]
  exact F.nd
theorem Fam.none (F : Fam Xs P w K mg base N sc fnn k) {x : Str} (h : mg x = none) (j : ι) : (Xs j).mg x = none := by
  rw [F.gl j]
  exact h
theorem Fam.some (F : Fam Xs P w K mg base N sc fnn k) {x : Str} {u : Value} (h : mg x = some u) (j : ι) : (Xs j).mg x = some u := by
  rw [F.gl j]
  exact h
theorem Fam.units (F : Fam Xs P w K mg base N sc fnn k) (j : ι) : (Xs j).A.units + 65 < cLine := by
  have := (F.room j).un
  omega
theorem Fam.units64 (F : Fam Xs P w K mg base N sc fnn k) (j : ι) : (Xs j).A.units + 64 < cLine := by
  have := (F.room j).un
  omega
theorem Fam.units0 (F : Fam Xs P w K mg base N sc fnn k) (j : ι) : (Xs j).A.units < cLine := by
  have := (F.room j).un
  omega
abbrev blkF (Xs : ι → Cx) (scope : Scope) : ι × Shared × Hp × Addr × List (Str × Addr) × List Addr → Cx := fun j =>
  (Xs j.1).blk j.2.1 j.2.2.1 scope (compEnvC scope j.2.2.2.2.1 j.2.2.2.1 (Xs j.1).env) j.2.2.2.2.2
theorem Fam.blk (F : Fam Xs P w K mg base N sc fnn k) (scope : Scope) : Fam (blkF Xs scope) P w K mg base N (relS scope sc) (fun x => scope.names.lookup x == Option.some NameKind.cell) k where
  prog := fun j => F.prog j.1
  wd := fun j => F.wd j.1
  kk := fun j => F.kk j.1
  gl := fun j => F.gl j.1
  bs := fun j => F.bs j.1
  nm := fun j => F.nm j.1
  scp := fun j => by rw [← F.scp j.1]; rfl
  calm := fun j => F.calm j.1
  nd := F.nd
  room := fun j => F.room j.1
  fn := fun j x => rfl
end

/-! ### the judgements: an expression and its meaning -/
section
variable {ι : Type} (cv : Nat → Value) (W : WX) (Xs : ι → Cx)
def EE (e : Expr) (f : En → Rs D) : Prop := ∃ t, (∀ j, PE (Xs j) e t) ∧ SndE cv W t f
def EB (e : Expr) (f : En → Rs D) : Prop := ∃ t, (∀ j, PE (Xs j) e t) ∧ SndB cv W t f
def EF (e : Expr) (f : En → Rs D) : Prop := ∃ t, (∀ j, PE (Xs j) e t) ∧ SndF cv W t f
def ET (e : Expr) (f : En → Rs Bool) : Prop := ∃ t, (∀ j, PT (Xs j) e t) ∧ SndT cv W t f
def EW (e : Expr) (f : En → Rs Bool) : Prop := ∃ t, (∀ j, PW (Xs j) e t) ∧ SndT cv W t f
def EA (es : List Expr) (f : En → Rs (List D)) : Prop := ∃ t, (∀ j, PA (Xs j) es t) ∧ SndA cv W t f
def EO (e : Option Expr) (f : En → Rs (Option Int)) : Prop := ∃ t, (∀ j, PO (Xs j) e t) ∧ SndO cv W t f
/-- arguments that are looked at alone: the first may be a hidden list -/
inductive DBAll (O : List Addr) (H : Hp) : List V → List D → Prop
  | nil : DBAll O H [] []
  | cons {v : V} {vs : List V} {d : D} {ds : List D} : DB O H v d → DBAll O H vs ds → DBAll O H (v :: vs) (d :: ds)
theorem DBAll.mono {O : List Addr} {H H' : Hp} (e : Ex H H') : ∀ {vs : List V} {ds : List D}, DBAll O H vs ds → DBAll O H' vs ds
  | _, _, .nil => .nil
  | _, _, .cons h t => .cons (h.mono e) (t.mono e)
theorem DBAll.of {O : List Addr} {H : Hp} : ∀ {vs : List V} {ds : List D}, DqAll (hide O H) vs ds → DBAll O H vs ds
  | _, _, .nil => .nil
  | _, _, .cons h t => .cons (.of h) (DBAll.of t)
def PosAB (O : List Addr) (σ : St) (H : Hp) (Q : List V → Hp → Prop) : Rs (List D) → Prop
  | .ok ds => ∀ vs H2, Ex H H2 → DBAll O H2 vs ds → Q vs H2
  | .er c => ∀ H2, Ex H H2 → W (cv c) none σ H2
  | .no => False
def SndAB (t : TA) (f : En → Rs (List D)) : Prop := ∀ O σ ρ H Q, RepE O σ ρ H → PosAB cv W O σ H Q (f ρ) → t σ H Q
def EAB (es : List Expr) (f : En → Rs (List D)) : Prop := ∃ t, (∀ j, PA (Xs j) es t) ∧ SndAB cv W t f
end
section
variable {ι : Type} {cv : Nat → Value} {W : WX} {Xs : ι → Cx} {P : Program} {w : World} {K : PySem.W.Frag} {mg : Str → Option Value} {base : Heap} {N : List Str} {sc : Scope} {fnn : Str → Bool} {k : Nat}
theorem EE.b {e : Expr} {f : En → Rs D} (h : EE cv W Xs e f) : EB cv W Xs e f := by
  obtain ⟨t, h1, h2⟩ := h
  exact ⟨t, h1, h2.b⟩
theorem EF.e {e : Expr} {f : En → Rs D} (h : EF cv W Xs e f) : EE cv W Xs e f := by
  obtain ⟨t, h1, h2⟩ := h
  exact ⟨t, h1, h2.e⟩
theorem EF.b {e : Expr} {f : En → Rs D} (h : EF cv W Xs e f) : EB cv W Xs e f := h.e.b
variable {e a b c : Expr} {f fa fb fc : En → Rs D} {pos : Pos}

/-! ### names and constants -/
theorem e_var (F : Fam Xs P w K mg base N sc fnn k) (i : Nat) {x : Str} (hN : N[i]? = some x := by rfl) (hv : visB sc x = true := by decide +kernel) (hd : (x == ("__debug__" : Str)) = false := by decide) (hcd : (x == ("__classdict__" : Str)) = false := by decide) :
    EE cv W Xs (.Name x pos) (fSh i) := by
  refine ⟨tVar i, fun j => pe_var (F.at hN j) (F.vis hv j) hd hcd, fun O σ ρ H Q r p => ?_⟩
  unfold fSh at p
  split at p
  · rename_i d e
    obtain ⟨v, l, h1, h2⟩ := r.sl i _ e
    exact ⟨v, h1, p v H (Ex.refl H) h2.2⟩
  · exact p.elim
theorem b_var (F : Fam Xs P w K mg base N sc fnn k) (i : Nat) {x : Str} (hN : N[i]? = some x := by rfl) (hv : visB sc x = true := by decide +kernel) (hd : (x == ("__debug__" : Str)) = false := by decide) (hcd : (x == ("__classdict__" : Str)) = false := by decide) :
    EB cv W Xs (.Name x pos) (fVar i) := by
  refine ⟨tVar i, fun j => pe_var (F.at hN j) (F.vis hv j) hd hcd, fun O σ ρ H Q r p => ?_⟩
  unfold fVar at p
  split at p
  · rename_i d e
    obtain ⟨v, l, h1, h2⟩ := r.sl i _ e
    exact ⟨v, h1, p v H (Ex.refl H) (.inl h2.2)⟩
  · rename_i ds e
    obtain ⟨v, l, h1, a, vs, h2, h3, h4, h5⟩ := r.sl i _ e
    exact ⟨v, h1, p v H (Ex.refl H) (.inr ⟨a, vs, ds, h2, rfl, h4, h5⟩)⟩
  · exact p.elim
theorem e_c {v : V} {d : D} (h : ∀ j, PE (Xs j) e (tC v)) (hq : ∀ H, Dq H v d) : EE cv W Xs e (fC d) :=
  ⟨tC v, h, fun O σ ρ H Q r p => p v H (Ex.refl H) (hq _)⟩
theorem e_int {i : Int} {n : Nat} : EE cv W Xs (.Constant (.int i) n pos) (fC (.int i)) := e_c (fun _ => pe_int) fun _ => .int i
theorem e_bool {i : Bool} {n : Nat} : EE cv W Xs (.Constant (.bool i) n pos) (fC (.bool i)) := e_c (fun _ => pe_bl) fun _ => .bl i
theorem e_none {n : Nat} : EE cv W Xs (.Constant .none n pos) (fC .none) := e_c (fun _ => pe_non) fun _ => .non
theorem e_str {x : Str} {n : Nat} : EE cv W Xs (.Constant (.str x) n pos) (fC (.str x)) := e_c (fun _ => pe_str) fun _ => .str x
theorem e_globI (F : Fam Xs P w K mg base N sc fnn k) {x : Str} {i : Int} {t : Tok} (hm : mg x = some (.int i t)) (hg : glB sc x = true := by decide +kernel) (hd : (x == ("__debug__" : Str)) = false := by decide) : EE cv W Xs (.Name x pos) (fC (.int i)) :=
  e_c (v := .int i) (fun j => pe_glob (F.gl_ok hg j) (F.some hm j) ⟨t, rfl⟩ hd) fun _ => .int i
theorem e_globS (F : Fam Xs P w K mg base N sc fnn k) {x : Str} {i : Str} {t : Tok} (hm : mg x = some (.str i t)) (hg : glB sc x = true := by decide +kernel) (hd : (x == ("__debug__" : Str)) = false := by decide) : EE cv W Xs (.Name x pos) (fC (.str i)) :=
  e_c (v := .str i) (fun j => pe_glob (F.gl_ok hg j) (F.some hm j) ⟨t, rfl⟩ hd) fun _ => .str i

/-! ### operations by values -/
def OkE (O : List Addr) (H : Hp) (Q : VK) : Rs D → Prop
  | .ok d => ∀ v H2, Ex H H2 → Dq (hide O H2) v d → Q v H2
  | _ => False
def OkF (O : List Addr) (H : Hp) (Q : VK) : Rs D → Prop
  | .ok d => ∀ p vs ds H2, d = .list ds → Ex H H2 → H p = none → H2 p = some (.lst vs) → DqAll (hide (p :: O) H2) vs ds → Q (.ref p) H2
  | _ => False
def OpE (r : R2) (g : D → D → Rs D) : Prop := ∀ O x y H Q d e, (∀ a ∈ O, H a ≠ none) → DB O H x d → DB O H y e → OkE O H Q (g d e) → r x y H Q
def OpF (r : R2) (g : D → D → Rs D) : Prop := ∀ O x y H Q d e, (∀ a ∈ O, H a ≠ none) → DB O H x d → DB O H y e → OkF O H Q (g d e) → r x y H Q
def Noer {α β : Type} (g : α → β → Rs D) : Prop := ∀ x y c, g x y ≠ .er c
theorem snd_op {ta tb : TE} {r : R2} {g : D → D → Rs D} (ha : SndB cv W ta fa) (hb : SndB cv W tb fb) (ho : OpE r g) (hn : Noer g) : SndE cv W (tOp r ta tb) (ap2 g fa fb) := by
  intro O σ ρ H Q R p
  refine ha O σ ρ H _ R ?_
  unfold ap2 at p
  cases ea : fa ρ with
  | no => rw [ea] at p; exact p
  | er c => rw [ea] at p; exact p
  | ok d =>
    rw [ea] at p
    intro x H1 x1 q1
    refine hb O σ ρ H1 _ (R.mono x1) ?_
    rw [Rs.bind_ok] at p
    cases eb : fb ρ with
    | no => rw [eb] at p; exact p
    | er c => rw [eb] at p; exact fun H2 x2 => p H2 (x1.trans x2)
    | ok e =>
      rw [eb, Rs.bind_ok] at p
      intro y H2 x2 q2
      refine ho O x y H2 Q d e ((R.mono x1).mono x2).od (q1.mono x2) q2 ?_
      cases eg : g d e with
      | no => rw [eg] at p; exact p
      | er c => exact absurd eg (hn d e c)
      | ok z => rw [eg] at p; exact fun v H3 x3 q3 => p v H3 ((x1.trans x2).trans x3) q3
theorem snd_opF {ta tb : TE} {r : R2} {g : D → D → Rs D} (ha : SndB cv W ta fa) (hb : SndB cv W tb fb) (ho : OpF r g) (hn : Noer g) : SndF cv W (tOp r ta tb) (ap2 g fa fb) := by
  intro O σ ρ H Q R p
  refine ha O σ ρ H _ R ?_
  unfold ap2 at p
  cases ea : fa ρ with
  | no => rw [ea] at p; exact p
  | er c => rw [ea] at p; exact p
  | ok d =>
    rw [ea] at p
    intro x H1 x1 q1
    refine hb O σ ρ H1 _ (R.mono x1) ?_
    rw [Rs.bind_ok] at p
    cases eb : fb ρ with
    | no => rw [eb] at p; exact p
    | er c => rw [eb] at p; exact fun H2 x2 => p H2 (x1.trans x2)
    | ok e =>
      rw [eb, Rs.bind_ok] at p
      intro y H2 x2 q2
      refine ho O x y H2 Q d e ((R.mono x1).mono x2).od (q1.mono x2) q2 ?_
      cases eg : g d e with
      | no => rw [eg] at p; exact p
      | er c => exact absurd eg (hn d e c)
      | ok z => rw [eg] at p; exact fun q vs ds H3 e1 x3 n1 h3 q3 => p q vs ds H3 e1 ((x1.trans x2).trans x3) ((x1.trans x2).free n1) h3 q3
theorem e_op {op : Operator} {r : R2} {g : D → D → Rs D} (ho : ∀ j, OpR (Xs j) (binaryOp op) r) (hg : OpE r g) (hn : Noer g) (ha : EB cv W Xs a fa) (hb : EB cv W Xs b fb) : EE cv W Xs (.BinOp a op b pos) (ap2 g fa fb) := by
  obtain ⟨ta, h1, h2⟩ := ha
  obtain ⟨tb, h3, h4⟩ := hb
  exact ⟨_, fun j => pe_op (ho j) (h1 j) (h3 j), snd_op h2 h4 hg hn⟩
theorem e_opF {op : Operator} {r : R2} {g : D → D → Rs D} (ho : ∀ j, OpR (Xs j) (binaryOp op) r) (hg : OpF r g) (hn : Noer g) (ha : EB cv W Xs a fa) (hb : EB cv W Xs b fb) : EF cv W Xs (.BinOp a op b pos) (ap2 g fa fb) := by
  obtain ⟨ta, h1, h2⟩ := ha
  obtain ⟨tb, h3, h4⟩ := hb
  exact ⟨_, fun j => pe_op (ho j) (h1 j) (h3 j), snd_opF h2 h4 hg hn⟩
theorem e_cmpR {op : CmpOp} {r : R2} {g : D → D → Rs D} (ho : ∀ j, OpR (Xs j) (compareOp op) r) (hg : OpE r g) (hn : Noer g) (hm : behindInMarks op b = false) (ha : EB cv W Xs a fa) (hb : EB cv W Xs b fb) : EE cv W Xs (.Compare a [op] [b] pos) (ap2 g fa fb) := by
  obtain ⟨ta, h1, h2⟩ := ha
  obtain ⟨tb, h3, h4⟩ := hb
  exact ⟨_, fun j => pe_cmpR (ho j) (h1 j) (h3 j) hm, snd_op h2 h4 hg hn⟩
theorem snd_test {t : TE} (h : SndE cv W t f) : SndT cv W (tTest t) (tVal f) := by
  intro O σ ρ H Q R p
  refine h O σ ρ H _ R ?_
  unfold tVal at p
  cases ea : f ρ with
  | no => rw [ea] at p; exact p
  | er c => rw [ea] at p; exact p
  | ok d =>
    rw [ea, Rs.bind_ok] at p
    intro v H2 x q
    cases q with
    | bl k => exact ⟨k, rfl, p H2 x⟩
    | _ => exact p.elim
theorem t_cmpR {op : CmpOp} {r : R2} {g : D → D → Rs D} (ho : ∀ j, OpR (Xs j) (compareOp op) r) (hg : OpE r g) (hn : Noer g) (hm : behindInMarks op b = false) (ha : EB cv W Xs a fa) (hb : EB cv W Xs b fb) : ET cv W Xs (.Compare a [op] [b] pos) (tVal (ap2 g fa fb)) := by
  obtain ⟨ta, h1, h2⟩ := ha
  obtain ⟨tb, h3, h4⟩ := hb
  exact ⟨_, fun j => pt_cmpR (ho j) (h1 j) (h3 j) hm, snd_test (snd_op h2 h4 hg hn)⟩
theorem snd_chain {ta tb tc : TE} {r r' : R2} {g g' : D → D → Rs D} (ha : SndB cv W ta fa) (hb : SndB cv W tb fb) (hc : SndB cv W tc fc) (ho : OpE r g) (hn : Noer g) (ho' : OpE r' g') (hn' : Noer g') : SndE cv W (tChain r r' ta tb tc) (fChain g g' fa fb fc) := by
  intro O σ ρ H Q R p
  refine ha O σ ρ H _ R ?_
  unfold fChain at p
  cases ea : fa ρ with
  | no => rw [ea] at p; exact p
  | er c => rw [ea] at p; exact p
  | ok d =>
    rw [ea] at p
    intro x H1 x1 q1
    refine hb O σ ρ H1 _ (R.mono x1) ?_
    rw [Rs.bind_ok] at p
    cases eb : fb ρ with
    | no => rw [eb] at p; exact p
    | er c => rw [eb] at p; exact fun H2 x2 => p H2 (x1.trans x2)
    | ok e =>
      rw [eb, Rs.bind_ok] at p
      intro y H2 x2 q2
      refine ho O x y H2 _ d e ((R.mono x1).mono x2).od (q1.mono x2) q2 ?_
      cases eg : g d e with
      | no => rw [eg] at p; exact p
      | er c => exact absurd eg (hn d e c)
      | ok z =>
        rw [eg, Rs.bind_ok] at p
        intro v H3 x3 q3
        cases q3 with
        | bl kk =>
          refine ⟨kk, rfl, ?_⟩
          unfold dBool at p
          rw [Rs.bind_ok] at p
          cases kk with
          | false =>
            rw [if_neg (by decide)] at p ⊢
            exact p _ H3 ((x1.trans x2).trans x3) (.bl false)
          | true =>
            rw [if_pos rfl] at p ⊢
            refine hc O σ ρ H3 _ (((R.mono x1).mono x2).mono x3) ?_
            cases ec : fc ρ with
            | no => rw [ec] at p; exact p
            | er c => rw [ec] at p; exact fun H4 x4 => p H4 (((x1.trans x2).trans x3).trans x4)
            | ok u =>
              rw [ec, Rs.bind_ok] at p
              intro w' H4 x4 q4
              refine ho' O y w' H4 _ e u ((((R.mono x1).mono x2).mono x3).mono x4).od ((q2.mono x3).mono x4) q4 ?_
              cases eg' : g' e u with
              | no => rw [eg'] at p; exact p
              | er c => exact absurd eg' (hn' e u c)
              | ok z' => rw [eg'] at p; exact fun v H5 x5 q5 => p v H5 ((((x1.trans x2).trans x3).trans x4).trans x5) q5
        | _ => exact p.elim
theorem e_chain {op op' : CmpOp} {r r' : R2} {g g' : D → D → Rs D} (ho : ∀ j, OpR (Xs j) (compareOp op) r) (hg : OpE r g) (hn : Noer g) (ho' : ∀ j, OpR (Xs j) (compareOp op') r') (hg' : OpE r' g') (hn' : Noer g') (ha : EB cv W Xs a fa) (hb : EB cv W Xs b fb) (hc : EB cv W Xs c fc)
    (hm : lastMarks [op, op'] [b, c] = false := by with_unfolding_all rfl) : EE cv W Xs (.Compare a [op, op'] [b, c] pos) (fChain g g' fa fb fc) := by
  obtain ⟨ta, h1, h2⟩ := ha
  obtain ⟨tb, h3, h4⟩ := hb
  obtain ⟨tc, h5, h6⟩ := hc
  exact ⟨_, fun j => pe_chain (ho j) (ho' j) (h1 j) (h3 j) (h5 j) hm, snd_chain h2 h4 h6 hg hn hg' hn'⟩
theorem t_chain {op op' : CmpOp} {r r' : R2} {g g' : D → D → Rs D} (ho : ∀ j, OpR (Xs j) (compareOp op) r) (hg : OpE r g) (hn : Noer g) (ho' : ∀ j, OpR (Xs j) (compareOp op') r') (hg' : OpE r' g') (hn' : Noer g') (ha : EB cv W Xs a fa) (hb : EB cv W Xs b fb) (hc : EB cv W Xs c fc)
    (hm : lastMarks [op, op'] [b, c] = false := by with_unfolding_all rfl) : ET cv W Xs (.Compare a [op, op'] [b, c] pos) (tVal (fChain g g' fa fb fc)) := by
  obtain ⟨ta, h1, h2⟩ := ha
  obtain ⟨tb, h3, h4⟩ := hb
  obtain ⟨tc, h5, h6⟩ := hc
  exact ⟨_, fun j => pt_chain (ho j) (ho' j) (h1 j) (h3 j) (h5 j) hm, snd_test (snd_chain h2 h4 h6 hg hn hg' hn')⟩

/-! ### tests -/
theorem t_val (h : EE cv W Xs e f) (he : ∀ env whole, isTrue e env whole = (do let v ← whole; standAt e.pos; holding [v] (truthy v)) := by intro _ _; rfl) : ET cv W Xs e (tVal f) := by
  obtain ⟨t, h1, h2⟩ := h
  exact ⟨_, fun j => pt_val (h1 j) (he _), snd_test h2⟩
variable {ft fu : En → Rs Bool} {rest : List Expr}
theorem EW.tt (h : EW cv W Xs e ft) : ET cv W Xs e ft := by
  obtain ⟨t, h1, h2⟩ := h
  exact ⟨t, fun j => (h1 j).pt, h2⟩
theorem snd_and {t u : TT} (h1 : SndT cv W t ft) (h2 : SndT cv W u fu) : SndT cv W (tAnd t u) (tAn ft fu) := by
  intro O σ ρ H Q R p
  refine h1 O σ ρ H _ R ?_
  unfold tAn at p
  cases ea : ft ρ with
  | no => rw [ea] at p; exact p
  | er c => rw [ea] at p; exact p
  | ok d =>
    rw [ea, Rs.bind_ok] at p
    intro H1 x1
    cases d with
    | false => rw [if_neg (by decide)] at p ⊢; exact p H1 x1
    | true =>
      rw [if_pos rfl] at p ⊢
      refine h2 O σ ρ H1 _ (R.mono x1) ?_
      cases eb : fu ρ with
      | no => rw [eb] at p; exact p
      | er c => rw [eb] at p; exact fun H2 x2 => p H2 (x1.trans x2)
      | ok e => rw [eb] at p; exact fun H2 x2 => p H2 (x1.trans x2)
theorem snd_or {t u : TT} (h1 : SndT cv W t ft) (h2 : SndT cv W u fu) : SndT cv W (tOr t u) (tOrr ft fu) := by
  intro O σ ρ H Q R p
  refine h1 O σ ρ H _ R ?_
  unfold tOrr at p
  cases ea : ft ρ with
  | no => rw [ea] at p; exact p
  | er c => rw [ea] at p; exact p
  | ok d =>
    rw [ea, Rs.bind_ok] at p
    intro H1 x1
    cases d with
    | true => rw [if_pos rfl] at p ⊢; exact p H1 x1
    | false =>
      rw [if_neg (by decide)] at p ⊢
      refine h2 O σ ρ H1 _ (R.mono x1) ?_
      cases eb : fu ρ with
      | no => rw [eb] at p; exact p
      | er c => rw [eb] at p; exact fun H2 x2 => p H2 (x1.trans x2)
      | ok e => rw [eb] at p; exact fun H2 x2 => p H2 (x1.trans x2)
theorem w_and1 (h : ET cv W Xs a ft) : EW cv W Xs (.BoolOp .And [a] pos) ft := by
  obtain ⟨t, h1, h2⟩ := h
  exact ⟨t, fun j => pw_and1 (h1 j), h2⟩
theorem w_or1 (h : ET cv W Xs a ft) : EW cv W Xs (.BoolOp .Or [a] pos) ft := by
  obtain ⟨t, h1, h2⟩ := h
  exact ⟨t, fun j => pw_or1 (h1 j), h2⟩
theorem w_and (h : ET cv W Xs a ft) (hr : EW cv W Xs (.BoolOp .And (b :: rest) pos) fu) : EW cv W Xs (.BoolOp .And (a :: b :: rest) pos) (tAn ft fu) := by
  obtain ⟨t, h1, h2⟩ := h
  obtain ⟨u, h3, h4⟩ := hr
  exact ⟨_, fun j => pw_and (h1 j) (h3 j), snd_and h2 h4⟩
theorem w_or (h : ET cv W Xs a ft) (hr : EW cv W Xs (.BoolOp .Or (b :: rest) pos) fu) : EW cv W Xs (.BoolOp .Or (a :: b :: rest) pos) (tOrr ft fu) := by
  obtain ⟨t, h1, h2⟩ := h
  obtain ⟨u, h3, h4⟩ := hr
  exact ⟨_, fun j => pw_or (h1 j) (h3 j), snd_or h2 h4⟩
theorem t_not (h : ET cv W Xs a ft) : ET cv W Xs (.UnaryOp .Not a pos) (tNt ft) := by
  obtain ⟨t, h1, h2⟩ := h
  refine ⟨_, fun j => pt_not (h1 j), fun O σ ρ H Q R p => h2 O σ ρ H _ R ?_⟩
  unfold tNt at p
  cases ea : ft ρ with
  | no => rw [ea] at p; exact p
  | er c => rw [ea] at p; exact p
  | ok d => rw [ea] at p; exact p

/-! ### and, or, not as values -/
theorem e_one {op} (h : EE cv W Xs a fa) : EE cv W Xs (.BoolOp op [a] pos) fa := by
  obtain ⟨t, h1, h2⟩ := h
  exact ⟨t, fun j => pe_one (h1 j), h2⟩
theorem e_and (ha : EE cv W Xs a fa) (hb : EE cv W Xs (.BoolOp .And (b :: rest) pos) fb) : EE cv W Xs (.BoolOp .And (a :: b :: rest) pos) (fAnd fa fb) := by
  obtain ⟨ta, h1, h2⟩ := ha
  obtain ⟨tb, h3, h4⟩ := hb
  refine ⟨_, fun j => pe_and (h1 j) (h3 j), fun O σ ρ H Q R p => h2 O σ ρ H _ R ?_⟩
  unfold fAnd at p
  cases ea : fa ρ with
  | no => rw [ea] at p; exact p
  | er c => rw [ea] at p; exact p
  | ok d =>
    rw [ea, Rs.bind_ok] at p
    intro x H1 x1 q1
    cases q1 with
    | bl kk =>
      refine ⟨kk, rfl, ?_⟩
      unfold dBool at p
      rw [Rs.bind_ok] at p
      cases kk with
      | false => rw [if_neg (by decide)] at p ⊢; exact p _ H1 x1 (.bl false)
      | true =>
        rw [if_pos rfl] at p ⊢
        refine h4 O σ ρ H1 _ (R.mono x1) ?_
        cases eb : fb ρ with
        | no => rw [eb] at p; exact p
        | er c => rw [eb] at p; exact fun H2 x2 => p H2 (x1.trans x2)
        | ok e => rw [eb] at p; exact fun v H2 x2 q => p v H2 (x1.trans x2) q
    | _ => exact p.elim
theorem e_or (ha : EE cv W Xs a fa) (hb : EE cv W Xs (.BoolOp .Or (b :: rest) pos) fb) : EE cv W Xs (.BoolOp .Or (a :: b :: rest) pos) (fOr fa fb) := by
  obtain ⟨ta, h1, h2⟩ := ha
  obtain ⟨tb, h3, h4⟩ := hb
  refine ⟨_, fun j => pe_or (h1 j) (h3 j), fun O σ ρ H Q R p => h2 O σ ρ H _ R ?_⟩
  unfold fOr at p
  cases ea : fa ρ with
  | no => rw [ea] at p; exact p
  | er c => rw [ea] at p; exact p
  | ok d =>
    rw [ea, Rs.bind_ok] at p
    intro x H1 x1 q1
    cases q1 with
    | bl kk =>
      refine ⟨kk, rfl, ?_⟩
      unfold dBool at p
      rw [Rs.bind_ok] at p
      cases kk with
      | true => rw [if_pos rfl] at p ⊢; exact p _ H1 x1 (.bl true)
      | false =>
        rw [if_neg (by decide)] at p ⊢
        refine h4 O σ ρ H1 _ (R.mono x1) ?_
        cases eb : fb ρ with
        | no => rw [eb] at p; exact p
        | er c => rw [eb] at p; exact fun H2 x2 => p H2 (x1.trans x2)
        | ok e => rw [eb] at p; exact fun v H2 x2 q => p v H2 (x1.trans x2) q
    | _ => exact p.elim
theorem e_not (ha : EE cv W Xs a fa) : EE cv W Xs (.UnaryOp .Not a pos) (fNot fa) := by
  obtain ⟨ta, h1, h2⟩ := ha
  refine ⟨_, fun j => pe_not (h1 j), fun O σ ρ H Q R p => h2 O σ ρ H _ R ?_⟩
  unfold fNot at p
  cases ea : fa ρ with
  | no => rw [ea] at p; exact p
  | er c => rw [ea] at p; exact p
  | ok d =>
    rw [ea, Rs.bind_ok] at p
    intro x H1 x1 q1
    cases q1 with
    | bl kk => exact ⟨kk, rfl, p _ H1 x1 (.bl _)⟩
    | _ => exact p.elim
theorem e_ifx (hc : ET cv W Xs c ft) (ha : EE cv W Xs a fa) (hb : EE cv W Xs b fb) : EE cv W Xs (.IfExp c a b pos) (fIf ft fa fb) := by
  obtain ⟨tc, h5, h6⟩ := hc
  obtain ⟨ta, h1, h2⟩ := ha
  obtain ⟨tb, h3, h4⟩ := hb
  refine ⟨_, fun j => pe_ifExp (h5 j) (h1 j) (h3 j), fun O σ ρ H Q R p => h6 O σ ρ H _ R ?_⟩
  unfold fIf at p
  cases ea : ft ρ with
  | no => rw [ea] at p; exact p
  | er c => rw [ea] at p; exact p
  | ok d =>
    rw [ea, Rs.bind_ok] at p
    intro H1 x1
    cases d with
    | true =>
      rw [if_pos rfl] at p ⊢
      refine h2 O σ ρ H1 _ (R.mono x1) ?_
      cases eb : fa ρ with
      | no => rw [eb] at p; exact p
      | er c => rw [eb] at p; exact fun H2 x2 => p H2 (x1.trans x2)
      | ok e => rw [eb] at p; exact fun v H2 x2 q => p v H2 (x1.trans x2) q
    | false =>
      rw [if_neg (by decide)] at p ⊢
      refine h4 O σ ρ H1 _ (R.mono x1) ?_
      cases eb : fb ρ with
      | no => rw [eb] at p; exact p
      | er c => rw [eb] at p; exact fun H2 x2 => p H2 (x1.trans x2)
      | ok e => rw [eb] at p; exact fun v H2 x2 q => p v H2 (x1.trans x2) q
theorem e_ifxF (hc : ET cv W Xs c ft) (ha : EF cv W Xs a fa) (hb : EF cv W Xs b fb) : EF cv W Xs (.IfExp c a b pos) (fIf ft fa fb) := by
  obtain ⟨tc, h5, h6⟩ := hc
  obtain ⟨ta, h1, h2⟩ := ha
  obtain ⟨tb, h3, h4⟩ := hb
  refine ⟨_, fun j => pe_ifExp (h5 j) (h1 j) (h3 j), fun O σ ρ H Q R p => h6 O σ ρ H _ R ?_⟩
  unfold fIf at p
  cases ea : ft ρ with
  | no => rw [ea] at p; exact p
  | er c => rw [ea] at p; exact p
  | ok d =>
    rw [ea, Rs.bind_ok] at p
    intro H1 x1
    cases d with
    | true =>
      rw [if_pos rfl] at p ⊢
      refine h2 O σ ρ H1 _ (R.mono x1) ?_
      cases eb : fa ρ with
      | no => rw [eb] at p; exact p
      | er c => rw [eb] at p; exact fun H2 x2 => p H2 (x1.trans x2)
      | ok e => rw [eb] at p; exact fun q vs ds H2 e1 x2 n1 => p q vs ds H2 e1 (x1.trans x2) (x1.free n1)
    | false =>
      rw [if_neg (by decide)] at p ⊢
      refine h4 O σ ρ H1 _ (R.mono x1) ?_
      cases eb : fb ρ with
      | no => rw [eb] at p; exact p
      | er c => rw [eb] at p; exact fun H2 x2 => p H2 (x1.trans x2)
      | ok e => rw [eb] at p; exact fun q vs ds H2 e1 x2 n1 => p q vs ds H2 e1 (x1.trans x2) (x1.free n1)

/-! ### arguments -/
variable {es : List Expr} {fs : En → Rs (List D)}
theorem a_nil : EA cv W Xs [] fNil := ⟨tNil, fun _ => pa_nil, fun O σ ρ H Q R p => p [] H (Ex.refl H) .nil⟩
theorem a_cons (h : EE cv W Xs e f) (hr : EA cv W Xs es fs) (hs : ∀ env, starEach (e :: es) env = (false, eval e env) :: starEach es env := by intro _; rfl) : EA cv W Xs (e :: es) (fCons f fs) := by
  obtain ⟨t, h1, h2⟩ := h
  obtain ⟨u, h3, h4⟩ := hr
  refine ⟨_, fun j => pa_cons (h1 j) (h3 j) (hs _), fun O σ ρ H Q R p => h2 O σ ρ H _ R ?_⟩
  unfold fCons at p
  cases ea : f ρ with
  | no => rw [ea] at p; exact p
  | er c => rw [ea] at p; exact p
  | ok d =>
    rw [ea, Rs.bind_ok] at p
    intro x H1 x1 q1
    refine h4 O σ ρ H1 _ (R.mono x1) ?_
    cases eb : fs ρ with
    | no => rw [eb] at p; exact p
    | er c => rw [eb] at p; exact fun H2 x2 => p H2 (x1.trans x2)
    | ok ds => rw [eb] at p; exact fun vs H2 x2 q2 => p (x :: vs) H2 (x1.trans x2) (.cons (q1.mono (hide_ex x2)) q2)
theorem ab_nil : EAB cv W Xs [] fNil := ⟨tNil, fun _ => pa_nil, fun O σ ρ H Q R p => p [] H (Ex.refl H) .nil⟩
theorem ab_cons (h : EB cv W Xs e f) (hr : EAB cv W Xs es fs) (hs : ∀ env, starEach (e :: es) env = (false, eval e env) :: starEach es env := by intro _; rfl) : EAB cv W Xs (e :: es) (fCons f fs) := by
  obtain ⟨t, h1, h2⟩ := h
  obtain ⟨u, h3, h4⟩ := hr
  refine ⟨_, fun j => pa_cons (h1 j) (h3 j) (hs _), fun O σ ρ H Q R p => h2 O σ ρ H _ R ?_⟩
  unfold fCons at p
  cases ea : f ρ with
  | no => rw [ea] at p; exact p
  | er c => rw [ea] at p; exact p
  | ok d =>
    rw [ea, Rs.bind_ok] at p
    intro x H1 x1 q1
    refine h4 O σ ρ H1 _ (R.mono x1) ?_
    cases eb : fs ρ with
    | no => rw [eb] at p; exact p
    | er c => rw [eb] at p; exact fun H2 x2 => p H2 (x1.trans x2)
    | ok ds => rw [eb] at p; exact fun vs H2 x2 q2 => p (x :: vs) H2 (x1.trans x2) (.cons (q1.mono x2) q2)
theorem lim_size {n : Nat} (h : n ≤ LIM) : n ≤ sizeLine := Nat.le_trans h (by decide)
theorem lim_lt {n : Nat} (h : n < LIM) : n < sizeLine := Nat.lt_of_lt_of_le h (by decide)
/-- [a, b, ..] -/
theorem e_lst (h : EA cv W Xs es fs) : EF cv W Xs (.List es pos) (apL dLst fs) := by
  obtain ⟨t, h1, h2⟩ := h
  refine ⟨_, fun j => pe_lst (h1 j), fun O σ ρ H Q R p => h2 O σ ρ H _ R ?_⟩
  unfold apL at p
  cases ea : fs ρ with
  | no => rw [ea] at p; exact p
  | er c => rw [ea] at p; exact p
  | ok ds =>
    rw [ea, Rs.bind_ok] at p
    intro vs H1 x1 q1
    unfold dLst at p
    by_cases hl : ds.length ≤ LIM
    · rw [if_pos hl] at p
      refine ⟨by rw [q1.length]; exact lim_size hl, fun q hq => ?_⟩
      exact p q vs ds _ rfl (x1.trans (Ex.new hq)) (x1.free hq) upd_same (q1.mono (hide_new hq))
    · rw [if_neg hl] at p
      exact p.elim
/-- (a, b, ..) -/
theorem e_tup (h : EA cv W Xs es fs) {x1} : EE cv W Xs (.Tuple es x1 pos) (apL dTup fs) := by
  obtain ⟨t, h1, h2⟩ := h
  refine ⟨_, fun j => pe_tup (h1 j), fun O σ ρ H Q R p => h2 O σ ρ H _ R ?_⟩
  unfold apL at p
  cases ea : fs ρ with
  | no => rw [ea] at p; exact p
  | er c => rw [ea] at p; exact p
  | ok ds =>
    rw [ea, Rs.bind_ok] at p
    intro vs H1 x1 q1
    unfold dTup at p
    by_cases hl : ds.length ≤ LIM
    · rw [if_pos hl] at p
      refine ⟨by rw [q1.length]; exact lim_size hl, fun q hq => ?_⟩
      refine p _ _ (x1.trans (Ex.new hq)) (.tup (hide_some.mpr ⟨(R.mono x1).fresh hq, upd_same⟩) (q1.mono (hide_ex (Ex.new hq))))
    · rw [if_neg hl] at p
      exact p.elim

/-! ### calls of built-ins by values -/
def ClE (r : List V → Hp → VK → Prop) (g : List D → Rs D) : Prop := ∀ O vs H Q ds, (∀ a ∈ O, H a ≠ none) → DBAll O H vs ds → OkE O H Q (g ds) → r vs H Q
def ClF (r : List V → Hp → VK → Prop) (g : List D → Rs D) : Prop := ∀ O vs H Q ds, (∀ a ∈ O, H a ≠ none) → DBAll O H vs ds → OkF O H Q (g ds) → r vs H Q
def Noer1 {α : Type} (g : α → Rs D) : Prop := ∀ x c, g x ≠ .er c
theorem snd_cb {r : List V → Hp → VK → Prop} {t : TA} {g : List D → Rs D} (h : SndAB cv W t fs) (hr : ClE r g) (hn : Noer1 g) : SndE cv W (tCB r t) (apL g fs) := by
  intro O σ ρ H Q R p
  refine h O σ ρ H _ R ?_
  unfold apL at p
  cases ea : fs ρ with
  | no => rw [ea] at p; exact p
  | er c => rw [ea] at p; exact p
  | ok ds =>
    rw [ea, Rs.bind_ok] at p
    intro vs H1 x1 q1
    refine hr O vs H1 Q ds (R.mono x1).od q1 ?_
    cases eg : g ds with
    | no => rw [eg] at p; exact p
    | er c => exact absurd eg (hn ds c)
    | ok z => rw [eg] at p; exact fun v H2 x2 q2 => p v H2 (x1.trans x2) q2
theorem snd_cbF {r : List V → Hp → VK → Prop} {t : TA} {g : List D → Rs D} (h : SndAB cv W t fs) (hr : ClF r g) (hn : Noer1 g) : SndF cv W (tCB r t) (apL g fs) := by
  intro O σ ρ H Q R p
  refine h O σ ρ H _ R ?_
  unfold apL at p
  cases ea : fs ρ with
  | no => rw [ea] at p; exact p
  | er c => rw [ea] at p; exact p
  | ok ds =>
    rw [ea, Rs.bind_ok] at p
    intro vs H1 x1 q1
    refine hr O vs H1 Q ds (R.mono x1).od q1 ?_
    cases eg : g ds with
    | no => rw [eg] at p; exact p
    | er c => exact absurd eg (hn ds c)
    | ok z => rw [eg] at p; exact fun q vs' ds' H2 e1 x2 n1 h2 q2 => p q vs' ds' H2 e1 (x1.trans x2) (x1.free n1) h2 q2
theorem e_callB (F : Fam Xs P w K mg base N sc fnn k) {x : Str} {id : String} {r : List V → Hp → VK → Prop} {g : List D → Rs D} {p : Pos} (hc : ∀ j, CallR (Xs j) (.builtin id) r) (hr : ClE r g) (hn : Noer1 g) (hm : mg x = none) (hv : bootBuiltins x = some (.builtin id)) (ha : EAB cv W Xs (e :: es) fs)
    (hg : glB sc x = true := by decide +kernel) (hn1 : x ≠ "__name__" := by decide) (hdb : (x == ("__debug__" : Str)) = false := by decide)
    (he : ∀ env, starEach (e :: es) env = (false, eval e env) :: starEach es env := by intro _; rfl) (hpl : ∀ env, (backTo pos (starEach es env)).any (·.1) = false := by intro _; rfl) : EE cv W Xs (.Call (.Name x p) (e :: es) [] pos) (apL g fs) := by
  obtain ⟨t, h1, h2⟩ := ha
  exact ⟨_, fun j => pe_callB (hc j) (F.gl_ok hg j) (F.none hm j) hv (h1 j) hn1 hdb (he _) (hpl _), snd_cb h2 hr hn⟩
theorem e_callTy (F : Fam Xs P w K mg base N sc fnn k) {x : Str} {T : String} {r : List V → Hp → VK → Prop} {g : List D → Rs D} {p : Pos} (hc : ∀ j, CallR (Xs j) (.type T) r) (hr : ClE r g) (hn : Noer1 g) (hm : mg x = none) (hv : bootBuiltins x = some (.type T)) (ha : EAB cv W Xs (e :: es) fs)
    (hg : glB sc x = true := by decide +kernel) (hn1 : x ≠ "__name__" := by decide) (hdb : (x == ("__debug__" : Str)) = false := by decide)
    (he : ∀ env, starEach (e :: es) env = (false, eval e env) :: starEach es env := by intro _; rfl) (hpl : ∀ env, (backTo pos (starEach es env)).any (·.1) = false := by intro _; rfl) : EE cv W Xs (.Call (.Name x p) (e :: es) [] pos) (apL g fs) := by
  obtain ⟨t, h1, h2⟩ := ha
  exact ⟨_, fun j => pe_callTy (hc j) (F.gl_ok hg j) (F.none hm j) hv (h1 j) hn1 hdb (he _) (hpl _), snd_cb h2 hr hn⟩
theorem e_callBF (F : Fam Xs P w K mg base N sc fnn k) {x : Str} {id : String} {r : List V → Hp → VK → Prop} {g : List D → Rs D} {p : Pos} (hc : ∀ j, CallR (Xs j) (.builtin id) r) (hr : ClF r g) (hn : Noer1 g) (hm : mg x = none) (hv : bootBuiltins x = some (.builtin id)) (ha : EAB cv W Xs (e :: es) fs)
    (hg : glB sc x = true := by decide +kernel) (hn1 : x ≠ "__name__" := by decide) (hdb : (x == ("__debug__" : Str)) = false := by decide)
    (he : ∀ env, starEach (e :: es) env = (false, eval e env) :: starEach es env := by intro _; rfl) (hpl : ∀ env, (backTo pos (starEach es env)).any (·.1) = false := by intro _; rfl) : EF cv W Xs (.Call (.Name x p) (e :: es) [] pos) (apL g fs) := by
  obtain ⟨t, h1, h2⟩ := ha
  exact ⟨_, fun j => pe_callB (hc j) (F.gl_ok hg j) (F.none hm j) hv (h1 j) hn1 hdb (he _) (hpl _), snd_cbF h2 hr hn⟩
theorem e_callTyF (F : Fam Xs P w K mg base N sc fnn k) {x : Str} {T : String} {r : List V → Hp → VK → Prop} {g : List D → Rs D} {p : Pos} (hc : ∀ j, CallR (Xs j) (.type T) r) (hr : ClF r g) (hn : Noer1 g) (hm : mg x = none) (hv : bootBuiltins x = some (.type T)) (ha : EAB cv W Xs (e :: es) fs)
    (hg : glB sc x = true := by decide +kernel) (hn1 : x ≠ "__name__" := by decide) (hdb : (x == ("__debug__" : Str)) = false := by decide)
    (he : ∀ env, starEach (e :: es) env = (false, eval e env) :: starEach es env := by intro _; rfl) (hpl : ∀ env, (backTo pos (starEach es env)).any (·.1) = false := by intro _; rfl) : EF cv W Xs (.Call (.Name x p) (e :: es) [] pos) (apL g fs) := by
  obtain ⟨t, h1, h2⟩ := ha
  exact ⟨_, fun j => pe_callTy (hc j) (F.gl_ok hg j) (F.none hm j) hv (h1 j) hn1 hdb (he _) (hpl _), snd_cbF h2 hr hn⟩
end
end DL

namespace DL
open PySem L2
section
variable {ι : Type} {cv : Nat → Value} {W : WX} {Xs : ι → Cx} {P : Program} {w : World} {K : PySem.W.Frag} {mg : Str → Option Value} {base : Heap} {N : List Str} {sc : Scope} {fnn : Str → Bool} {k : Nat}
variable {e a b c : Expr} {f fa fb fc : En → Rs D} {pos : Pos}

/-! ### arithmetic -/
theorem ope_I0 {g : D → D → Rs D} {h : Int → Int → V} {hd : Int → Int → D} (hg : ∀ i j, g (.int i) (.int j) = .ok (hd i j)) (hq : ∀ H i j, Dq H (h i j) (hd i j)) (hno : ∀ d e, (∀ i j, ¬ (d = .int i ∧ e = .int j)) → g d e = .no) : OpE (rI0 h) g := by
  intro O x y H Q d e od hx hy p
  by_cases hh : ∃ i j, d = .int i ∧ e = .int j
  · obtain ⟨i, j, rfl, rfl⟩ := hh
    rw [hg] at p
    exact ⟨i, j, hx.int, hy.int, p _ H (Ex.refl H) (hq _ i j)⟩
  · rw [hno d e (fun i j q => hh ⟨i, j, q⟩)] at p
    exact p.elim
theorem noer_of {α β : Type} {g : α → β → Rs D} (h : ∀ x y c, g x y ≠ .er c) : Noer g := h
theorem dSub_no : ∀ d e : D, (∀ i j, ¬ (d = .int i ∧ e = .int j)) → dSub d e = .no := by
  intro d e h
  unfold dSub
  split
  · exact absurd ⟨rfl, rfl⟩ (h _ _)
  · rfl
theorem dLt_no : ∀ d e : D, (∀ i j, ¬ (d = .int i ∧ e = .int j)) → dLt d e = .no := by
  intro d e h
  unfold dLt
  split
  · exact absurd ⟨rfl, rfl⟩ (h _ _)
  · rfl
theorem dLe_no : ∀ d e : D, (∀ i j, ¬ (d = .int i ∧ e = .int j)) → dLe d e = .no := by
  intro d e h
  unfold dLe
  split
  · exact absurd ⟨rfl, rfl⟩ (h _ _)
  · rfl
theorem dGt_no : ∀ d e : D, (∀ i j, ¬ (d = .int i ∧ e = .int j)) → dGt d e = .no := by
  intro d e h
  unfold dGt
  split
  · exact absurd ⟨rfl, rfl⟩ (h _ _)
  · rfl
theorem dGe_no : ∀ d e : D, (∀ i j, ¬ (d = .int i ∧ e = .int j)) → dGe d e = .no := by
  intro d e h
  unfold dGe
  split
  · exact absurd ⟨rfl, rfl⟩ (h _ _)
  · rfl
theorem ope_sub : OpE (rI0 fun i j => .int (i - j)) dSub := ope_I0 (hd := fun i j => .int (i - j)) (fun _ _ => rfl) (fun _ _ _ => .int _) dSub_no
theorem ope_lt : OpE (rI0 fun i j => .bl (decide (i < j))) dLt := ope_I0 (hd := fun i j => .bool (decide (i < j))) (fun _ _ => rfl) (fun _ _ _ => .bl _) dLt_no
theorem ope_le : OpE (rI0 fun i j => .bl (decide (i ≤ j))) dLe := ope_I0 (hd := fun i j => .bool (decide (i ≤ j))) (fun _ _ => rfl) (fun _ _ _ => .bl _) dLe_no
theorem ope_gt : OpE (rI0 fun i j => .bl (decide (j < i))) dGt := ope_I0 (hd := fun i j => .bool (decide (j < i))) (fun _ _ => rfl) (fun _ _ _ => .bl _) dGt_no
theorem ope_ge : OpE (rI0 fun i j => .bl (decide (j ≤ i))) dGe := ope_I0 (hd := fun i j => .bool (decide (j ≤ i))) (fun _ _ => rfl) (fun _ _ _ => .bl _) dGe_no
theorem noer_sub : Noer dSub := fun x y c => by unfold dSub; split <;> simp
theorem noer_lt : Noer dLt := fun x y c => by unfold dLt; split <;> simp
theorem noer_le : Noer dLe := fun x y c => by unfold dLe; split <;> simp
theorem noer_gt : Noer dGt := fun x y c => by unfold dGt; split <;> simp
theorem noer_ge : Noer dGe := fun x y c => by unfold dGe; split <;> simp
theorem noer_add : Noer dAdd := fun x y c => by unfold dAdd; split <;> (try split) <;> simp
theorem noer_mul : Noer dMul := fun x y c => by unfold dMul; split <;> (try split) <;> simp
theorem noer_fdiv : Noer dFdiv := fun x y c => by unfold dFdiv; split <;> (try split) <;> simp
theorem noer_mod : Noer dMod := fun x y c => by unfold dMod; split <;> (try split) <;> simp
theorem noer_pow : Noer dPow := fun x y c => by unfold dPow; split <;> (try split) <;> simp
theorem noer_eq : Noer dEq := fun x y c => by unfold dEq; split <;> simp
theorem noer_ne : Noer dNe := fun x y c => by unfold dNe; split <;> simp
theorem noer_in : Noer dIn := fun x y c => by unfold dIn; split <;> (try split) <;> simp
theorem noer_ix : Noer dIx := fun x y c => by unfold dIx; split <;> (try split) <;> (try split) <;> simp
theorem noer_isN : Noer dIsN := fun x y c => by unfold dIsN; split <;> simp
theorem noer_not {r : Rs D} (h : ∀ c, r ≠ .er c) (c : Nat) : r.bind dNot ≠ .er c := by
  cases r with
  | ok d => unfold dNot; rw [Rs.bind_ok]; split <;> simp
  | er c' => exact absurd rfl (h c')
  | no => simp
theorem noer_notIn : Noer dNotIn := fun x y c => noer_not (noer_in x y) c
theorem noer_isNotN : Noer dIsNotN := fun x y c => noer_not (noer_isN x y) c

theorem dMul_int {i j : Int} : dMul (.int i) (.int j) = if (-(2 ^ 64) < i ∧ i < 2 ^ 64) ∨ (-(2 ^ 64) < j ∧ j < 2 ^ 64) then .ok (.int (i * j)) else .no := rfl
def rAddA (K : PySem.W.Frag) : R2 := fun x y H Q => rI0 (fun i j => .int (i + j)) x y H Q ∨ ((∃ i j, x = .str i ∧ y = .str j ∧ i.length + j.length ≤ sizeLine ∧ Q (.str (i ++ j)) H) ∨ (rCat x y H Q ∨ rCatA K x y H Q))
theorem ope_add : OpE (rAddA K) dAdd := by
  intro O x y H Q d e od hx hy p
  unfold dAdd at p
  split at p
  · exact .inl ⟨_, _, hx.int, hy.int, p _ H (Ex.refl H) (.int _)⟩
  · split at p
    · exact .inr (.inl ⟨_, _, hx.str, hy.str, lim_size ‹_›, p _ H (Ex.refl H) (.str _)⟩)
    · exact p.elim
  · split at p
    · obtain ⟨l, vs, rfl, h1, h2⟩ := hx.list
      obtain ⟨m, ws, rfl, h3, h4⟩ := hy.list
      refine .inr (.inr (.inl ⟨l, m, vs, ws, rfl, rfl, h1, h3, by rw [h2.length, h4.length]; exact lim_size ‹_›, fun q hq => ?_⟩))
      refine p _ _ (Ex.new hq) (.lst (hide_some.mpr ⟨fun z => od q z hq, upd_same⟩) ((h2.append h4).mono (hide_ex (Ex.new hq))))
    · exact p.elim
  · split at p
    · obtain ⟨l, vs, rfl, h1, h2⟩ := hx.tuple
      obtain ⟨m, ws, rfl, h3, h4⟩ := hy.tuple
      refine .inr (.inr (.inr ⟨l, m, vs, ws, rfl, rfl, SqT.of h1.2, SqT.of h3.2, by rw [h2.length, h4.length]; exact lim_size ‹_›, fun z => ?_, fun _ z => ?_, fun _ _ q hq => ?_⟩))
      · subst z
        cases h2
        exact p _ H (Ex.refl H) (.tup (hide_some.mpr h3) h4)
      · subst z
        cases h4
        refine p _ H (Ex.refl H) ?_
        rw [List.append_nil]
        exact .tup (hide_some.mpr h1) h2
      · refine p _ _ (Ex.new hq) (.tup (hide_some.mpr ⟨fun z => od q z hq, upd_same⟩) ((h2.append h4).mono (hide_ex (Ex.new hq))))
    · exact p.elim
  · exact p.elim
theorem e_add (F : Fam Xs P w K mg base N sc fnn k) (ha : EB cv W Xs a fa) (hb : EB cv W Xs b fb) : EE cv W Xs (.BinOp a .Add b pos) (ap2 dAdd fa fb) :=
  e_op (r := rAddA K) (fun j => by
    have h := op_catA (X := Xs j)
    rw [F.kk j] at h
    exact op_add.or (op_add_str.or (op_cat.or h))) ope_add noer_add ha hb
def dCat : D → D → Rs D
  | .list xs, .list ys => if xs.length + ys.length ≤ LIM then .ok (.list (xs ++ ys)) else .no
  | _, _ => .no
theorem noer_cat : Noer dCat := fun x y c => by unfold dCat; split <;> (try split) <;> simp
theorem opf_cat : OpF rCat dCat := by
  intro O x y H Q d e od hx hy p
  unfold dCat at p
  split at p
  · split at p
    · obtain ⟨l, vs, rfl, h1, h2⟩ := hx.list
      obtain ⟨m, ws, rfl, h3, h4⟩ := hy.list
      refine ⟨l, m, vs, ws, rfl, rfl, h1, h3, by rw [h2.length, h4.length]; exact lim_size ‹_›, fun q hq => ?_⟩
      exact p q _ _ _ rfl (Ex.new hq) hq upd_same ((h2.append h4).mono (hide_new hq))
    · exact p.elim
  · exact p.elim
/-- a + b, two lists: a new one -/
theorem f_cat (ha : EB cv W Xs a fa) (hb : EB cv W Xs b fb) : EF cv W Xs (.BinOp a .Add b pos) (ap2 dCat fa fb) := e_opF (fun _ => op_cat) opf_cat noer_cat ha hb
theorem e_sub (ha : EB cv W Xs a fa) (hb : EB cv W Xs b fb) : EE cv W Xs (.BinOp a .Sub b pos) (ap2 dSub fa fb) := e_op (fun _ => op_sub) ope_sub noer_sub ha hb
def rMulA (K : PySem.W.Frag) : R2 := fun x y H Q => rI CMul (fun i j => .int (i * j)) x y H Q ∨ (rRep x y H Q ∨ rRepT K x y H Q)
theorem ope_mul : OpE (rMulA K) dMul := by
  intro O x y H Q d e od hx hy p
  unfold dMul at p
  split at p
  · split at p
    · exact .inl ⟨_, _, hx.int, hy.int, ‹_›, p _ H (Ex.refl H) (.int _)⟩
    · exact p.elim
  · split at p
    · obtain ⟨l, vs, rfl, h1, h2⟩ := hx.list
      rename_i hc
      refine .inr (.inl ⟨l, _, vs, rfl, hy.int, h1, hc.1, hc.2.1, by rw [h2.length]; exact lim_size hc.2.2, fun q hq => ?_⟩)
      refine p _ _ (Ex.new hq) (.lst (hide_some.mpr ⟨fun z => od q z hq, upd_same⟩) (h2.rep.mono (hide_ex (Ex.new hq))))
    · exact p.elim
  · split at p
    · obtain ⟨l, vs, rfl, h1, h2⟩ := hx.tuple
      rename_i hc
      refine .inr (.inr ⟨l, _, vs, rfl, hy.int, SqT.of h1.2, ?_, hc.2.1, hc.2.2.1, by rw [h2.length]; exact hc.2.2.2, fun q hq => ?_⟩)
      · intro z
        subst z
        cases h2
        exact hc.1 rfl
      · refine p _ _ (Ex.new hq) (.tup (hide_some.mpr ⟨fun z => od q z hq, upd_same⟩) (h2.rep.mono (hide_ex (Ex.new hq))))
    · exact p.elim
  · exact p.elim
theorem e_mul (F : Fam Xs P w K mg base N sc fnn k) (ha : EB cv W Xs a fa) (hb : EB cv W Xs b fb) : EE cv W Xs (.BinOp a .Mult b pos) (ap2 dMul fa fb) :=
  e_op (r := rMulA K) (fun j => by
    have h := op_repT (X := Xs j)
    rw [F.kk j] at h
    exact op_mul.or (op_rep.or h)) ope_mul noer_mul ha hb
def dRep : D → D → Rs D
  | .list xs, .int k => if -(2 ^ 63) ≤ k ∧ k < 2 ^ 63 ∧ xs.length * k.toNat ≤ LIM then .ok (.list (List.replicate k.toNat xs).flatten) else .no
  | _, _ => .no
theorem noer_rep : Noer dRep := fun x y c => by unfold dRep; split <;> (try split) <;> simp
theorem opf_rep : OpF rRep dRep := by
  intro O x y H Q d e od hx hy p
  unfold dRep at p
  split at p
  · split at p
    · obtain ⟨l, vs, rfl, h1, h2⟩ := hx.list
      rename_i hc
      refine ⟨l, _, vs, rfl, hy.int, h1, hc.1, hc.2.1, by rw [h2.length]; exact lim_size hc.2.2, fun q hq => ?_⟩
      exact p q _ _ _ rfl (Ex.new hq) hq upd_same (h2.rep.mono (hide_new hq))
    · exact p.elim
  · exact p.elim
/-- [x] * n: a new list -/
theorem f_rep (ha : EB cv W Xs a fa) (hb : EB cv W Xs b fb) : EF cv W Xs (.BinOp a .Mult b pos) (ap2 dRep fa fb) := e_opF (fun _ => op_rep) opf_rep noer_rep ha hb
theorem ope_fdiv : OpE (rI CDivN fun i j => .int (i.fdiv j)) dFdiv := by
  intro O x y H Q d e od hx hy p
  unfold dFdiv at p
  split at p
  · split at p
    · exact ⟨_, _, hx.int, hy.int, ‹_›, p _ H (Ex.refl H) (.int _)⟩
    · exact p.elim
  · exact p.elim
theorem e_fdiv (ha : EB cv W Xs a fa) (hb : EB cv W Xs b fb) : EE cv W Xs (.BinOp a .FloorDiv b pos) (ap2 dFdiv fa fb) := e_op (fun _ => op_fdivN) ope_fdiv noer_fdiv ha hb
theorem ope_mod : OpE (rI (fun _ j => j ≠ 0) fun i j => .int (i.fmod j)) dMod := by
  intro O x y H Q d e od hx hy p
  unfold dMod at p
  split at p
  · split at p
    · exact ⟨_, _, hx.int, hy.int, ‹_›, p _ H (Ex.refl H) (.int _)⟩
    · exact p.elim
  · exact p.elim
theorem e_mod (ha : EB cv W Xs a fa) (hb : EB cv W Xs b fb) : EE cv W Xs (.BinOp a .Mod b pos) (ap2 dMod fa fb) := e_op (fun _ => op_modN) ope_mod noer_mod ha hb
theorem e_neg (ha : EB cv W Xs a fa) : EE cv W Xs (.UnaryOp .USub a pos) (ap1 dNeg fa) := by
  obtain ⟨ta, h1, h2⟩ := ha
  refine ⟨_, fun j => pe_un un_neg (h1 j), fun O σ ρ H Q R p => h2 O σ ρ H _ R ?_⟩
  unfold ap1 at p
  cases ea : fa ρ with
  | no => rw [ea] at p; exact p
  | er c => rw [ea] at p; exact p
  | ok d =>
    rw [ea, Rs.bind_ok] at p
    intro v H1 x1 q1
    unfold dNeg at p
    split at p
    · exact ⟨_, q1.int, p _ H1 x1 (.int _)⟩
    · exact p.elim

/-! ### comparisons -/
theorem e_lt (ha : EB cv W Xs a fa) (hb : EB cv W Xs b fb) : EE cv W Xs (.Compare a [.Lt] [b] pos) (ap2 dLt fa fb) := e_cmpR (fun _ => op_lt) ope_lt noer_lt (nomark _) ha hb
theorem e_le (ha : EB cv W Xs a fa) (hb : EB cv W Xs b fb) : EE cv W Xs (.Compare a [.LtE] [b] pos) (ap2 dLe fa fb) := e_cmpR (fun _ => op_le) ope_le noer_le (nomark _) ha hb
theorem e_gt (ha : EB cv W Xs a fa) (hb : EB cv W Xs b fb) : EE cv W Xs (.Compare a [.Gt] [b] pos) (ap2 dGt fa fb) := e_cmpR (fun _ => op_gt) ope_gt noer_gt (nomark _) ha hb
theorem e_ge (ha : EB cv W Xs a fa) (hb : EB cv W Xs b fb) : EE cv W Xs (.Compare a [.GtE] [b] pos) (ap2 dGe fa fb) := e_cmpR (fun _ => op_ge) ope_ge noer_ge (nomark _) ha hb
theorem t_lt (ha : EB cv W Xs a fa) (hb : EB cv W Xs b fb) : ET cv W Xs (.Compare a [.Lt] [b] pos) (tVal (ap2 dLt fa fb)) := t_cmpR (fun _ => op_lt) ope_lt noer_lt (nomark _) ha hb
theorem t_le (ha : EB cv W Xs a fa) (hb : EB cv W Xs b fb) : ET cv W Xs (.Compare a [.LtE] [b] pos) (tVal (ap2 dLe fa fb)) := t_cmpR (fun _ => op_le) ope_le noer_le (nomark _) ha hb
theorem t_gt (ha : EB cv W Xs a fa) (hb : EB cv W Xs b fb) : ET cv W Xs (.Compare a [.Gt] [b] pos) (tVal (ap2 dGt fa fb)) := t_cmpR (fun _ => op_gt) ope_gt noer_gt (nomark _) ha hb
theorem t_ge (ha : EB cv W Xs a fa) (hb : EB cv W Xs b fb) : ET cv W Xs (.Compare a [.GtE] [b] pos) (tVal (ap2 dGe fa fb)) := t_cmpR (fun _ => op_ge) ope_ge noer_ge (nomark _) ha hb
theorem ope_eq : OpE (rEqD K) dEq := by
  intro O x y H Q d e od hx hy p
  unfold dEq at p
  split at p
  · rename_i h
    exact ⟨d, e, hx.all.dp, hy.all.dp, h.1, h.2, p _ H (Ex.refl H) (.bl _)⟩
  · exact p.elim
theorem ope_ne : OpE (rNeD K) dNe := by
  intro O x y H Q d e od hx hy p
  unfold dNe at p
  split at p
  · rename_i h
    exact ⟨d, e, hx.all.dp, hy.all.dp, h.1, h.2, p _ H (Ex.refl H) (.bl _)⟩
  · exact p.elim
theorem Fam.opEq (F : Fam Xs P w K mg base N sc fnn k) (j : ι) : OpR (Xs j) (compareOp .Eq) (rEqD K) := by
  have h := op_eqD (X := Xs j) (F.units64 j)
  rw [F.kk j] at h
  exact h
theorem Fam.opNe (F : Fam Xs P w K mg base N sc fnn k) (j : ι) : OpR (Xs j) (compareOp .NotEq) (rNeD K) := by
  have h := op_neD (X := Xs j) (F.units64 j)
  rw [F.kk j] at h
  exact h
theorem e_eq (F : Fam Xs P w K mg base N sc fnn k) (ha : EB cv W Xs a fa) (hb : EB cv W Xs b fb) : EE cv W Xs (.Compare a [.Eq] [b] pos) (ap2 dEq fa fb) := e_cmpR F.opEq ope_eq noer_eq (nomark _) ha hb
theorem e_ne (F : Fam Xs P w K mg base N sc fnn k) (ha : EB cv W Xs a fa) (hb : EB cv W Xs b fb) : EE cv W Xs (.Compare a [.NotEq] [b] pos) (ap2 dNe fa fb) := e_cmpR F.opNe ope_ne noer_ne (nomark _) ha hb
theorem t_eq (F : Fam Xs P w K mg base N sc fnn k) (ha : EB cv W Xs a fa) (hb : EB cv W Xs b fb) : ET cv W Xs (.Compare a [.Eq] [b] pos) (tVal (ap2 dEq fa fb)) := t_cmpR F.opEq ope_eq noer_eq (nomark _) ha hb
theorem t_ne (F : Fam Xs P w K mg base N sc fnn k) (ha : EB cv W Xs a fa) (hb : EB cv W Xs b fb) : ET cv W Xs (.Compare a [.NotEq] [b] pos) (tVal (ap2 dNe fa fb)) := t_cmpR F.opNe ope_ne noer_ne (nomark _) ha hb
/-- None, True, False on the right of is -/
def rIsA (neg : Bool) : R2 := fun x y H Q => (y = .non ∧ Q (.bl (if neg then !decide (x = .non) else decide (x = .non))) H) ∨ (∃ a b, x = .bl a ∧ y = .bl b ∧ Q (.bl (if neg then !decide (a = b) else decide (a = b))) H)
theorem dIsN_none (d : D) : dIsN d .none = .ok (.bool (isNone d)) := by
  cases d <;> rfl
theorem non_iff {O : List Addr} {H : Hp} {v : V} {d : D} (h : DB O H v d) : decide (v = V.non) = isNone d := by
  rcases h with h | ⟨a, vs, ds, h1, h2, h3, h4⟩
  · cases h <;> first | rfl | (apply decide_eq_false; intro z; cases z)
  · subst h1; subst h2
    apply decide_eq_false; intro z; cases z
theorem ope_is : OpE (rIsA false) dIsN := by
  intro O x y H Q d e od hx hy p
  by_cases he : e = .none
  · subst he
    rw [dIsN_none] at p
    refine .inl ⟨hy.non, ?_⟩
    rw [if_neg (by decide), non_iff hx]
    exact p _ H (Ex.refl H) (.bl _)
  · unfold dIsN at p
    split at p
    · exact absurd rfl he
    · exact .inr ⟨_, _, hx.bool, hy.bool, by rw [if_neg (by decide)]; exact p _ H (Ex.refl H) (.bl _)⟩
    · exact p.elim
theorem ope_isNot : OpE (rIsA true) dIsNotN := by
  intro O x y H Q d e od hx hy p
  unfold dIsNotN at p
  by_cases he : e = .none
  · subst he
    rw [dIsN_none] at p
    refine .inl ⟨hy.non, ?_⟩
    rw [if_pos rfl, non_iff hx]
    exact p _ H (Ex.refl H) (.bl _)
  · unfold dIsN at p
    split at p
    · exact absurd rfl he
    · exact .inr ⟨_, _, hx.bool, hy.bool, by rw [if_pos rfl]; exact p _ H (Ex.refl H) (.bl _)⟩
    · exact p.elim
theorem op_isA (j : ι) : OpR (Xs j) (compareOp .Is) (rIsA false) := (op_isN (X := Xs j)).or (op_is_bl (X := Xs j))
theorem op_isNotA (j : ι) : OpR (Xs j) (compareOp .IsNot) (rIsA true) := (op_notN (X := Xs j)).or (op_isnot_bl (X := Xs j))
theorem e_is (ha : EB cv W Xs a fa) (hb : EB cv W Xs b fb) : EE cv W Xs (.Compare a [.Is] [b] pos) (ap2 dIsN fa fb) := e_cmpR op_isA ope_is noer_isN (nomark _) ha hb
theorem e_isNot (ha : EB cv W Xs a fa) (hb : EB cv W Xs b fb) : EE cv W Xs (.Compare a [.IsNot] [b] pos) (ap2 dIsNotN fa fb) := e_cmpR op_isNotA ope_isNot noer_isNotN (nomark _) ha hb
theorem t_is (ha : EB cv W Xs a fa) (hb : EB cv W Xs b fb) : ET cv W Xs (.Compare a [.Is] [b] pos) (tVal (ap2 dIsN fa fb)) := t_cmpR op_isA ope_is noer_isN (nomark _) ha hb
theorem t_isNot (ha : EB cv W Xs a fa) (hb : EB cv W Xs b fb) : ET cv W Xs (.Compare a [.IsNot] [b] pos) (tVal (ap2 dIsNotN fa fb)) := t_cmpR op_isNotA ope_isNot noer_isNotN (nomark _) ha hb
/-! in, not in -/
theorem mapM_ints : ∀ {ds : List D} {ns : List Int}, ds.mapM (fun | PyData.int j => some j | _ => none) = some ns → ds = ns.map PyData.int
  | [], ns, h => by simp at h; subst h; rfl
  | d :: ds, ns, h => by
    rw [List.mapM_cons] at h
    cases d with
    | int j =>
      cases h2 : ds.mapM (fun | PyData.int j => some j | _ => none) with
      | none => rw [h2] at h; simp at h
      | some ms =>
        rw [h2] at h
        simp at h
        subst h
        rw [mapM_ints h2]
        rfl
    | _ => simp at h
def rInA (K : PySem.W.Frag) : R2 := fun x y H Q => rInD K x y H Q ∨ (rIn K false x y H Q ∨ (∃ i j, x = .str i ∧ y = .str j ∧ Q (.bl (!(Builtin.Str.occurrences j i 0 j.length 1).isEmpty)) H))
def rNotInA (K : PySem.W.Frag) : R2 := fun x y H Q => rNotInD K x y H Q ∨ (rIn K true x y H Q ∨ (∃ i j, x = .str i ∧ y = .str j ∧ Q (.bl (!(!(Builtin.Str.occurrences j i 0 j.length 1).isEmpty))) H))
theorem inV_ints (i : Int) : ∀ ns : List Int, inV (.int i) (ns.map V.int) = decide (i ∈ ns)
  | [] => by simp [inV]
  | n :: ns => by
    have h := inV_ints i ns
    unfold inV at h ⊢
    rw [List.map_cons, List.any_cons, h]
    have e1 : eqV (.int n) (.int i) = decide (i = n) := by
      unfold eqV
      by_cases q : n = i
      · subst q; simp
      · simp [q, Ne.symm q]
    rw [e1]
    by_cases q : i = n
    · subst q; simp
    · simp [q]
theorem ope_in : OpE (rInA K) dIn := by
  intro O x y H Q d e od hx hy p
  unfold dIn at p
  split at p
  · split at p
    · rename_i h
      exact .inl ⟨d, _, hx.all.dp, hy.all.dp, h.1, h.2, p _ H (Ex.refl H) (.bl _)⟩
    · exact p.elim
  · split at p
    · rename_i h
      have e1 := mapM_ints h
      subst e1
      obtain ⟨m, ws, rfl, h3, h4⟩ := hy.tuple
      have e2 := h4.ints
      subst e2
      refine .inr (.inl ⟨m, _, rfl, .inr (SqT.of h3.2), ?_, ?_, ?_⟩)
      · rw [hx.int]; rfl
      · simp [List.all_map, Function.comp_def, flatV]
      · rw [hx.int, if_neg (by decide), inV_ints]
        exact p _ H (Ex.refl H) (.bl _)
    · exact p.elim
  · exact .inr (.inr ⟨_, _, hx.str, hy.str, p _ H (Ex.refl H) (.bl _)⟩)
  · exact p.elim
theorem ope_notIn : OpE (rNotInA K) dNotIn := by
  intro O x y H Q d e od hx hy p
  unfold dNotIn dIn at p
  split at p
  · split at p
    · rename_i h
      exact .inl ⟨d, _, hx.all.dp, hy.all.dp, h.1, h.2, p _ H (Ex.refl H) (.bl _)⟩
    · exact p.elim
  · split at p
    · rename_i h
      have e1 := mapM_ints h
      subst e1
      obtain ⟨m, ws, rfl, h3, h4⟩ := hy.tuple
      have e2 := h4.ints
      subst e2
      refine .inr (.inl ⟨m, _, rfl, .inr (SqT.of h3.2), ?_, ?_, ?_⟩)
      · rw [hx.int]; rfl
      · simp [List.all_map, Function.comp_def, flatV]
      · rw [hx.int, if_pos rfl, inV_ints]
        exact p _ H (Ex.refl H) (.bl _)
    · exact p.elim
  · exact .inr (.inr ⟨_, _, hx.str, hy.str, p _ H (Ex.refl H) (.bl _)⟩)
  · exact p.elim
theorem Fam.opIn (F : Fam Xs P w K mg base N sc fnn k) (j : ι) : OpR (Xs j) (compareOp .In) (rInA K) := by
  have h1 := op_inD (X := Xs j) (F.units j)
  have h2 := op_in_seq (X := Xs j)
  rw [F.kk j] at h1 h2
  exact h1.or (h2.or op_in_str)
theorem Fam.opNotIn (F : Fam Xs P w K mg base N sc fnn k) (j : ι) : OpR (Xs j) (compareOp .NotIn) (rNotInA K) := by
  have h1 := op_notInD (X := Xs j) (F.units j)
  have h2 := op_notIn_seq (X := Xs j)
  rw [F.kk j] at h1 h2
  exact h1.or (h2.or op_notin_str)
theorem e_in (F : Fam Xs P w K mg base N sc fnn k) (ha : EB cv W Xs a fa) (hb : EB cv W Xs b fb) (hm : behindInMarks .In b = false := by rfl) : EE cv W Xs (.Compare a [.In] [b] pos) (ap2 dIn fa fb) := e_cmpR F.opIn ope_in noer_in hm ha hb
theorem e_notIn (F : Fam Xs P w K mg base N sc fnn k) (ha : EB cv W Xs a fa) (hb : EB cv W Xs b fb) (hm : behindInMarks .NotIn b = false := by rfl) : EE cv W Xs (.Compare a [.NotIn] [b] pos) (ap2 dNotIn fa fb) := e_cmpR F.opNotIn ope_notIn noer_notIn hm ha hb
theorem t_in (F : Fam Xs P w K mg base N sc fnn k) (ha : EB cv W Xs a fa) (hb : EB cv W Xs b fb) (hm : behindInMarks .In b = false := by rfl) : ET cv W Xs (.Compare a [.In] [b] pos) (tVal (ap2 dIn fa fb)) := t_cmpR F.opIn ope_in noer_in hm ha hb
theorem t_notIn (F : Fam Xs P w K mg base N sc fnn k) (ha : EB cv W Xs a fa) (hb : EB cv W Xs b fb) (hm : behindInMarks .NotIn b = false := by rfl) : ET cv W Xs (.Compare a [.NotIn] [b] pos) (tVal (ap2 dNotIn fa fb)) := t_cmpR F.opNotIn ope_notIn noer_notIn hm ha hb

/-! ### subscripts, slices -/
theorem atI_get {H : Hp} {vs : List V} {ds : List D} {i : Int} {d : D} (h : DqAll H vs ds) (ha : atI ds i = some d) : ∃ v, atI vs i = some v ∧ Dq H v d := by
  unfold atI at ha ⊢
  rw [h.length]
  cases hx : ixN ds.length i with
  | none => rw [hx] at ha; cases ha
  | some j =>
    rw [hx] at ha
    obtain ⟨v, h1, h2⟩ := h.get j ha
    exact ⟨v, h1, h2⟩
theorem ope_ix : OpE (rIx K) dIx := by
  intro O x y H Q d e od hx hy p
  unfold dIx at p
  split at p
  · split at p
    · rename_i h
      obtain ⟨l, vs, rfl, h1, h2⟩ := hx.list
      obtain ⟨v, h3, h4⟩ := atI_get h2 h
      exact .inl ⟨l, vs, _, v, rfl, hy.int, SqL.of h1, h3, p v H (Ex.refl H) h4⟩
    · exact p.elim
  · split at p
    · rename_i h
      obtain ⟨l, vs, rfl, h1, h2⟩ := hx.tuple
      obtain ⟨v, h3, h4⟩ := atI_get h2 h
      exact .inr (.inl ⟨l, vs, _, v, rfl, hy.int, SqT.of h1.2, h3, p v H (Ex.refl H) h4⟩)
    · exact p.elim
  · split at p
    · split at p
      · rename_i h1 _ _ h2
        exact .inr (.inr ⟨_, _, _, hx.str, hy.int, lim_size h1, h2, p _ H (Ex.refl H) (.str _)⟩)
      · exact p.elim
    · exact p.elim
  · exact p.elim
theorem e_ix (F : Fam Xs P w K mg base N sc fnn k) (ha : EB cv W Xs a fa) (hb : EB cv W Xs b fb) (hs : PlainIx b := by intro _ _; rfl) : EE cv W Xs (.Subscript a b pos) (ap2 dIx fa fb) := by
  obtain ⟨ta, h1, h2⟩ := ha
  obtain ⟨tb, h3, h4⟩ := hb
  exact ⟨tOp (rIx K) ta tb, fun j => pe_ix (by have h := ix_seq (X := Xs j); rw [F.kk j] at h; exact h) (h1 j) (h3 j) hs, snd_op h2 h4 ope_ix noer_ix⟩
theorem o_none : EO cv W Xs none fNoPart := ⟨_, fun _ => po_none, fun O σ ρ H Q R p => p H (Ex.refl H)⟩
theorem o_some (h : EB cv W Xs e f) : EO cv W Xs (some e) (fPart f) := by
  obtain ⟨t, h1, h2⟩ := h
  refine ⟨_, fun j => po_some (h1 j), fun O σ ρ H Q R p => h2 O σ ρ H _ R ?_⟩
  unfold fPart at p
  cases ea : f ρ with
  | no => rw [ea] at p; exact p
  | er c => rw [ea] at p; exact p
  | ok d =>
    rw [ea, Rs.bind_ok] at p
    intro v H1 x1 q1
    unfold dPart at p
    split at p
    · exact ⟨_, q1.int, p H1 x1⟩
    · exact p.elim
variable {lo hi : Option Expr} {fl fh : En → Rs (Option Int)} {p2 : Pos}
def rSlA (K : PySem.W.Frag) : V → Option Int → Option Int → Hp → VK → Prop := fun x lo hi H Q => rSlL K x lo hi H Q ∨ rSlS x lo hi H Q
theorem cutD_len {α β : Type} {xs : List α} {ys : List β} (h : xs.length = ys.length) (lo hi : Option Int) : HT.sIx xs.length 0 lo = HT.sIx ys.length 0 lo ∧ HT.sIx xs.length xs.length hi = HT.sIx ys.length ys.length hi := by rw [h]; exact ⟨rfl, rfl⟩
theorem DqAll.cut {H : Hp} {vs : List V} {ds : List D} (h : DqAll H vs ds) (lo hi : Option Int) : DqAll H (cutV vs lo hi) (cutD ds lo hi) := by
  unfold cutV cutD
  rw [h.length]
  exact (h.drop _).take _
theorem snd_sl {te : TE} {tl th : TO} (h : SndB cv W te f) (hl : SndO cv W tl fl) (hh : SndO cv W th fh) : SndE cv W (tSl (rSlA K) te tl th) (fSl f fl fh) := by
  intro O σ ρ H Q R p
  refine h O σ ρ H _ R ?_
  unfold fSl at p
  cases ea : f ρ with
  | no => rw [ea] at p; exact p
  | er c => rw [ea] at p; exact p
  | ok d =>
    rw [ea, Rs.bind_ok] at p
    intro x H1 x1 q1
    refine hl O σ ρ H1 _ (R.mono x1) ?_
    cases eb : fl ρ with
    | no => rw [eb] at p; exact p
    | er c => rw [eb] at p; exact fun H2 x2 => p H2 (x1.trans x2)
    | ok l =>
      rw [eb, Rs.bind_ok] at p
      intro H2 x2
      refine hh O σ ρ H2 _ ((R.mono x1).mono x2) ?_
      cases ec : fh ρ with
      | no => rw [ec] at p; exact p
      | er c => rw [ec] at p; exact fun H3 x3 => p H3 ((x1.trans x2).trans x3)
      | ok u =>
        rw [ec, Rs.bind_ok] at p
        intro H3 x3
        have q3 := (q1.mono x2).mono x3
        have R3 := ((R.mono x1).mono x2).mono x3
        have xx := (x1.trans x2).trans x3
        unfold dSl at p
        split at p
        · obtain ⟨b, vs, rfl, h1, h2⟩ := q3.list
          refine .inl ⟨b, vs, rfl, SqL.of h1, fun q hq => ?_⟩
          exact p _ _ (xx.trans (Ex.new hq)) (.lst (hide_some.mpr ⟨R3.fresh hq, upd_same⟩) ((h2.cut l u).mono (hide_ex (Ex.new hq))))
        · split at p
          · rename_i hz
            exact .inr ⟨_, q3.str, lim_size hz, p _ H3 xx (.str _)⟩
          · exact p.elim
        · exact p.elim
theorem e_slice (F : Fam Xs P w K mg base N sc fnn k) (h : EB cv W Xs e f) (hl : EO cv W Xs lo fl) (hh : EO cv W Xs hi fh) : EE cv W Xs (.Subscript e (.Slice lo hi none p2) pos) (fSl f fl fh) := by
  obtain ⟨t, h1, h2⟩ := h
  obtain ⟨tl, h3, h4⟩ := hl
  obtain ⟨th, h5, h6⟩ := hh
  refine ⟨tSl (rSlA K) t tl th, fun j => pe_slice ?_ (h1 j) (h3 j) (h5 j), snd_sl h2 h4 h6⟩
  have h := sl_list (X := Xs j)
  rw [F.kk j] at h
  exact h.or sl_str
end
end DL

namespace DL
open PySem L2

/-! ### targets -/
inductive Tg where
  | nm (i : Nat) | tp (is : List Nat)
def Tg.ix : Tg → List Nat
  | .nm i => [i]
  | .tp is => is
def Tg.parts : Tg → D → Option (List D)
  | .nm _, d => some [d]
  | .tp is, .tuple ds => if ds.length = is.length then some ds else none
  | .tp _, _ => none
def setV : St → List Nat → List V → St
  | σ, i :: is, v :: vs => setV (σ.set i (some v)) is vs
  | σ, _, _ => σ
def setD : En → List Nat → List D → En
  | ρ, i :: is, d :: ds => setD (ρ.set i (some (.sh d))) is ds
  | ρ, _, _ => ρ
def wipeE (ρ : En) : List Nat → En
  | [] => ρ
  | v :: vs => (wipeE ρ vs).set v none
def Tg.asg (t : Tg) (d : D) (ρ : En) : Option En := (t.parts d).map (setD ρ t.ix)
theorem setV_length : ∀ (σ : St) (is : List Nat) (vs : List V), (setV σ is vs).length = σ.length
  | σ, [], _ => rfl
  | σ, i :: is, [] => rfl
  | σ, i :: is, v :: vs => by
    unfold setV
    rw [setV_length]
    exact List.length_set
theorem setD_length : ∀ (σ : En) (is : List Nat) (vs : List D), (setD σ is vs).length = σ.length
  | σ, [], _ => rfl
  | σ, i :: is, [] => rfl
  | σ, i :: is, v :: vs => by
    unfold setD
    rw [setD_length]
    exact List.length_set
theorem wipeE_length (ρ : En) : ∀ vs : List Nat, (wipeE ρ vs).length = ρ.length
  | [] => rfl
  | v :: vs => by
    unfold wipeE
    rw [List.length_set]
    exact wipeE_length ρ vs
theorem wipe_get (σ : St) : ∀ (vs : List Nat) (i : Nat), i ∉ vs → (wipe σ vs)[i]? = σ[i]?
  | [], i, _ => rfl
  | v :: vs, i, h => by
    unfold wipe
    rw [List.getElem?_set_ne (fun z => h (by simp [z])), wipe_get σ vs i (fun z => h (List.mem_cons_of_mem _ z))]
theorem wipeE_get (σ : En) : ∀ (vs : List Nat) (i : Nat), i ∉ vs → (wipeE σ vs)[i]? = σ[i]?
  | [], i, _ => rfl
  | v :: vs, i, h => by
    unfold wipeE
    rw [List.getElem?_set_ne (fun z => h (by simp [z])), wipeE_get σ vs i (fun z => h (List.mem_cons_of_mem _ z))]
theorem wipeE_not (σ : En) : ∀ (vs : List Nat) (i : Nat), i ∈ vs → ∀ s, (wipeE σ vs)[i]? ≠ some (some s)
  | [], i, h, s => by simp at h
  | v :: vs, i, h, s => by
    unfold wipeE
    by_cases e : v = i
    · subst e
      rw [List.getElem?_set]
      split
      · split <;> simp
      · exact absurd rfl ‹_›
    · rw [List.getElem?_set_ne e]
      exact wipeE_not σ vs i (by simpa [Ne.symm e] using h) s
/-- two lists that are the same outside of vs are the same when wiped -/
theorem wipe_eq_of (σ τ : St) (hl : σ.length = τ.length) : ∀ (vs : List Nat), (∀ i, i ∉ vs → σ[i]? = τ[i]?) → wipe σ vs = wipe τ vs := by
  intro vs h
  apply List.ext_getElem?
  intro i
  by_cases hi : i ∈ vs
  · have key : ∀ (α : St) (ws : List Nat), i ∈ ws → (wipe α ws)[i]? = if i < α.length then some none else none := by
      intro α ws
      induction ws with
      | nil => intro z; simp at z
      | cons v ws ih =>
        intro z
        unfold wipe
        rw [List.getElem?_set, L2.wipe_length]
        by_cases e : v = i
        · rw [if_pos e]; subst e; rfl
        · rw [if_neg e]; exact ih (by simpa [Ne.symm e] using z)
    rw [key σ vs hi, key τ vs hi, hl]
  · rw [wipe_get σ vs i hi, wipe_get τ vs i hi]
    exact h i hi
theorem setV_get : ∀ (is : List Nat) (σ : St) (vs : List V) (i : Nat), i ∉ is → (setV σ is vs)[i]? = σ[i]?
  | [], σ, vs, i, h => rfl
  | j :: is, σ, [], i, h => rfl
  | j :: is, σ, v :: vs, i, h => by
    unfold setV
    rw [setV_get is _ vs i (fun z => h (List.mem_cons_of_mem _ z)), List.getElem?_set_ne (fun z => h (by simp [z]))]
theorem wipe_setV (σ : St) (vs is : List Nat) (ws : List V) (h : ∀ i ∈ is, i ∈ vs) : wipe (setV (wipe σ vs) is ws) vs = wipe σ vs := by
  apply wipe_eq_of
  · rw [setV_length, L2.wipe_length]
  · intro i hi
    rw [setV_get is _ ws i (fun z => hi (h i z)), wipe_get σ vs i hi]

theorem RepE.set {O : List Addr} {σ : St} {ρ : En} {H : Hp} (h : RepE O σ ρ H) {i : Nat} {v : V} {d : D} (q : Dq (hide O H) v d) : RepE O (σ.set i (some v)) (ρ.set i (some (.sh d))) H :=
  ⟨by rw [List.length_set, List.length_set]; exact h.len, h.od, h.nt, fun j s e => by
    by_cases hj : i = j
    · subst hj
      rw [List.getElem?_set] at e ⊢
      rw [if_pos rfl] at e ⊢
      by_cases hl : i < ρ.length
      · rw [if_pos hl] at e
        rw [if_pos (h.len ▸ hl)]
        cases e
        exact ⟨v, [], rfl, rfl, q⟩
      · rw [if_neg hl] at e
        cases e
    · rw [List.getElem?_set_ne hj] at e ⊢
      exact h.sl j s e⟩
theorem RepE.setD {O : List Addr} {H : Hp} : ∀ {is : List Nat} {σ : St} {ρ : En} {vs : List V} {ds : List D}, RepE O σ ρ H → DqAll (hide O H) vs ds → RepE O (setV σ is vs) (setD ρ is ds) H
  | [], σ, ρ, vs, ds, h, q => h
  | i :: is, σ, ρ, _, _, h, .nil => h
  | i :: is, σ, ρ, _, _, h, .cons q r => by
    unfold setV DL.setD
    exact RepE.setD (h.set q) r
theorem RepE.wipe {O : List Addr} {σ : St} {ρ : En} {H : Hp} (h : RepE O σ ρ H) (vs : List Nat) : RepE O (wipe σ vs) (wipeE ρ vs) H :=
  ⟨by rw [L2.wipe_length, wipeE_length]; exact h.len, h.od, h.nt, fun i s e => by
    by_cases hi : i ∈ vs
    · exact absurd e (wipeE_not ρ vs i hi s)
    · rw [wipeE_get ρ vs i hi] at e
      rw [wipe_get σ vs i hi]
      exact h.sl i s e⟩

def SndG (g : TG) (T : Tg) : Prop := ∀ v d ds σ H Q S, Dq S v d → Ex S H → T.parts d = some ds → (∀ ws, DqAll S ws ds → Q (setV σ T.ix ws) H) → g v σ H Q
def SndGs (g : TGs) (is : List Nat) : Prop := ∀ (vs : List V) σ H Q, vs.length = is.length → Q (setV σ is vs) H → g vs σ H Q
section
variable {ι : Type} {cv : Nat → Value} {W W' : WX} {Xs : ι → Cx} {P : Program} {w : World} {K : PySem.W.Frag} {mg : Str → Option Value} {base : Heap} {N : List Str} {sc : Scope} {fnn : Str → Bool} {k : Nat}
variable {e a b c tg iter elt : Expr} {es : List Expr} {f fa fb fc fe : En → Rs D} {fs : En → Rs (List D)} {pos : Pos} {is : List Nat} {T : Tg}
def EG (Xs : ι → Cx) (tg : Expr) (T : Tg) : Prop := ∃ g, (∀ j, PG (Xs j) tg g) ∧ SndG g T
def EGs (Xs : ι → Cx) (tgs : List Expr) (is : List Nat) : Prop := ∃ g, (∀ j, PGs (Xs j) tgs g) ∧ SndGs g is
theorem g_name (F : Fam Xs P w K mg base N sc fnn k) (i : Nat) {x : Str} (hN : N[i]? = some x := by rfl) (hs : stB fnn sc x = true := by decide +kernel) : EG Xs (.Name x pos) (.nm i) :=
  ⟨gName i, fun j => pg_name (F.ndj j) (F.at hN j) (F.loc hs j) (F.hf hs j), fun v d ds σ H Q S q x p h => by
    cases p
    exact h [v] (.cons q .nil)⟩
theorem gs_nil : EGs Xs [] [] := ⟨gNil, fun _ => pgs_nil, fun vs σ H Q hl h => by
  cases vs with
  | nil => exact ⟨rfl, h⟩
  | cons _ _ => simp at hl⟩
theorem gs_cons (F : Fam Xs P w K mg base N sc fnn k) (i : Nat) {x : Str} (h : EGs Xs es is) (hN : N[i]? = some x := by rfl) (hs : stB fnn sc x = true := by decide +kernel)
    (ha : ∀ env, (assignEach (.Name x pos :: es) env).map (·.2) = assign (.Name x pos) env :: (assignEach es env).map (·.2) := by intro _; rfl) : EGs Xs (.Name x pos :: es) (i :: is) := by
  obtain ⟨g, h1, h2⟩ := h
  refine ⟨gCons (gName i) g, fun j => pgs_cons (pg_name (F.ndj j) (F.at hN j) (F.loc hs j) (F.hf hs j)) (h1 j) (ha _), fun vs σ H Q hl h => ?_⟩
  cases vs with
  | nil => simp at hl
  | cons v vs => exact ⟨v, vs, rfl, h2 vs _ H Q (by simpa using hl) h⟩
theorem g_tup (F : Fam Xs P w K mg base N sc fnn k) {kk : Nat} (h : EGs Xs es is) (hn : ∀ env, (assignEach es env).length = is.length := by intro _; rfl) (hst : ∀ env, (assignEach es env).findIdx? (·.1) = none := by intro _; rfl) : EG Xs (.Tuple es kk pos) (.tp is) := by
  obtain ⟨g, h1, h2⟩ := h
  refine ⟨gTup K is.length g, fun j => ?_, fun v d ds σ H Q S q x p h => ?_⟩
  · have := pg_tup (pos := pos) (k := kk) (F.calm j) (h1 j) (hn _) (hst _)
    rw [F.kk j] at this
    exact this
  · unfold Tg.parts at p
    split at p
    · cases p; contradiction
    · rename_i e
      split at p
      · cases p
        cases e
        cases q with
        | tup q1 q2 => exact ⟨_, _, rfl, SqT.of (x _ _ q1), by rw [q2.length]; assumption, h2 _ σ H Q (by rw [q2.length]; assumption) (h _ q2)⟩
      · cases p
    · cases p

/-! ### what is walked -/
structure ItD (J : It) (B S : Hp) (items : List D) : Prop where
  go : ∀ (i : Nat) d H', Ex B H' → items[i]? = some d → J.go i H' ∧ ∀ x H2, J.yld i H' x H2 → Ex H' H2 ∧ ∀ S', Ex S S' → (∀ a o, H' a = none → H2 a = some o → S' a = some o) → Dq S' x d
  stop : ∀ H', Ex B H' → J.stop items.length H'
def PosI (cv : Nat → Value) (W : WX) (O : List Addr) (σ : St) (H : Hp) (R : It → Hp → Prop) : Rs (List D) → Prop
  | .ok items => ∀ J H2, Ex H H2 → ItD J H2 (hide O H2) items → R J H2
  | .er c => ∀ H2, Ex H H2 → W (cv c) none σ H2
  | .no => False
def PosIS (cv : Nat → Value) (W : WX) (O : List Addr) (σ : St) (H : Hp) (R : It → Hp → Prop) : Rs (List D) → Prop
  | .ok items => ∀ J H2, Ex H H2 → ItD J (hide O H2) (hide O H2) items → R J H2
  | .er c => ∀ H2, Ex H H2 → W (cv c) none σ H2
  | .no => False
def SndI (cv : Nat → Value) (W : WX) (t : TI) (f : En → Rs (List D)) : Prop := ∀ O σ ρ H R, RepE O σ ρ H → PosI cv W O σ H R (f ρ) → t σ H R
def SndIS (cv : Nat → Value) (W : WX) (t : TI) (f : En → Rs (List D)) : Prop := ∀ O σ ρ H R, RepE O σ ρ H → PosIS cv W O σ H R (f ρ) → t σ H R
def EI (cv : Nat → Value) (W : WX) (Xs : ι → Cx) (tg iter : Expr) (f : En → Rs (List D)) : Prop := ∃ t, (∀ j, PI (Xs j) tg iter t) ∧ SndI cv W t f
def EIS (cv : Nat → Value) (W : WX) (Xs : ι → Cx) (tg iter : Expr) (f : En → Rs (List D)) : Prop := ∃ t, (∀ j, PI (Xs j) tg iter t) ∧ SndIS cv W t f
theorem EIS.i {it : En → Rs (List D)} (h : EIS cv W Xs tg iter it) : EI cv W Xs tg iter it := by
  obtain ⟨t, h1, h2⟩ := h
  refine ⟨t, h1, fun O σ ρ H R r p => h2 O σ ρ H R r ?_⟩
  cases e : it ρ with
  | no => rw [e] at p; exact p
  | er c => rw [e] at p; exact p
  | ok items =>
    rw [e] at p
    exact fun J H2 x d => p J H2 x ⟨fun i d' H' z => d.go i d' H' (hide_le.trans z), fun H' z => d.stop H' (hide_le.trans z)⟩
def dItL : D → Rs (List D)
  | .list ds => .ok ds
  | _ => .no
def dItT : D → Rs (List D)
  | .tuple ds => .ok ds
  | _ => .no
def iLs (f : En → Rs D) : En → Rs (List D) := fun ρ => (f ρ).bind dItL
def iTp (f : En → Rs D) : En → Rs (List D) := fun ρ => (f ρ).bind dItT
theorem itd_list {a : Addr} {B S : Hp} {vs : List V} {ds : List D} (h : B a = some (.lst vs)) (q : DqAll S vs ds) : ItD (Itl K a) B S ds where
  go := fun i d H' x e => by
    obtain ⟨v, h1, h2⟩ := q.get i e
    refine ⟨⟨vs, v, SqL.of (x _ _ h), h1⟩, fun y H2 hy => ?_⟩
    obtain ⟨rfl, hy⟩ := hy
    have ev := hy vs (SqL.of (x _ _ h))
    rw [h1] at ev
    cases ev
    exact ⟨Ex.refl _, fun S' z _ => h2.mono z⟩
  stop := fun H' x => ⟨vs, SqL.of (x _ _ h), by rw [q.length]; exact Nat.le_refl _⟩
theorem itd_tup {a : Addr} {B S : Hp} {vs : List V} {ds : List D} (h : B a = some (.tup vs)) (q : DqAll S vs ds) : ItD (Itt K a) B S ds where
  go := fun i d H' x e => by
    obtain ⟨v, h1, h2⟩ := q.get i e
    refine ⟨⟨vs, v, SqT.of (x _ _ h), h1⟩, fun y H2 hy => ?_⟩
    obtain ⟨rfl, hy⟩ := hy
    have ev := hy vs (SqT.of (x _ _ h))
    rw [h1] at ev
    cases ev
    exact ⟨Ex.refl _, fun S' z _ => h2.mono z⟩
  stop := fun H' x => ⟨vs, SqT.of (x _ _ h), by rw [q.length]; exact Nat.le_refl _⟩
theorem i_list (F : Fam Xs P w K mg base N sc fnn k) (h : EB cv W Xs e f) : EI cv W Xs tg e (iLs f) := by
  obtain ⟨t, h1, h2⟩ := h
  refine ⟨iList K t, fun j => by have := pi_list (tg := tg) (h1 j); rw [F.kk j] at this; exact this, fun O σ ρ H R r p => h2 O σ ρ H _ r ?_⟩
  unfold iLs at p
  cases ea : f ρ with
  | no => rw [ea] at p; exact p
  | er c => rw [ea] at p; exact p
  | ok d =>
    rw [ea, Rs.bind_ok] at p
    intro v H1 x1 q1
    unfold dItL at p
    split at p
    · obtain ⟨a, vs, rfl, h3, h4⟩ := q1.list
      exact ⟨a, rfl, ⟨vs, SqL.of h3⟩, p _ H1 x1 (itd_list h3 h4)⟩
    · exact p.elim
theorem is_list (F : Fam Xs P w K mg base N sc fnn k) (h : EE cv W Xs e f) : EIS cv W Xs tg e (iLs f) := by
  obtain ⟨t, h1, h2⟩ := h
  refine ⟨iList K t, fun j => by have := pi_list (tg := tg) (h1 j); rw [F.kk j] at this; exact this, fun O σ ρ H R r p => h2 O σ ρ H _ r ?_⟩
  unfold iLs at p
  cases ea : f ρ with
  | no => rw [ea] at p; exact p
  | er c => rw [ea] at p; exact p
  | ok d =>
    rw [ea, Rs.bind_ok] at p
    intro v H1 x1 q1
    unfold dItL at p
    split at p
    · cases q1 with
      | lst h3 h4 => exact ⟨_, rfl, ⟨_, SqL.of (hide_le _ _ h3)⟩, p _ H1 x1 (itd_list h3 h4)⟩
    · exact p.elim
theorem is_tup (F : Fam Xs P w K mg base N sc fnn k) (h : EE cv W Xs e f) : EIS cv W Xs tg e (iTp f) := by
  obtain ⟨t, h1, h2⟩ := h
  refine ⟨iTup K t, fun j => by have := pi_tup (tg := tg) (h1 j); rw [F.kk j] at this; exact this, fun O σ ρ H R r p => h2 O σ ρ H _ r ?_⟩
  unfold iTp at p
  cases ea : f ρ with
  | no => rw [ea] at p; exact p
  | er c => rw [ea] at p; exact p
  | ok d =>
    rw [ea, Rs.bind_ok] at p
    intro v H1 x1 q1
    unfold dItT at p
    split at p
    · cases q1 with
      | tup h3 h4 => exact ⟨_, rfl, ⟨_, SqT.of (hide_le _ _ h3)⟩, p _ H1 x1 (itd_tup h3 h4)⟩
    · exact p.elim
def rangeD (lo : Int) (n : Nat) : List D := (List.range n).map fun i => .int (lo + (i : Nat))
def downD (hi : Int) (n : Nat) : List D := (List.range n).map fun i => .int (hi + (i : Nat) * (-1))
theorem rangeD_get {lo : Int} {n i : Nat} {d : D} (h : (rangeD lo n)[i]? = some d) : i < n ∧ d = .int (lo + i) := by
  unfold rangeD at h
  rw [List.getElem?_map] at h
  by_cases hi : i < n
  · rw [List.getElem?_range hi] at h
    exact ⟨hi, (Option.some.inj h).symm⟩
  · rw [List.getElem?_eq_none (by rw [List.length_range]; omega)] at h
    cases h
theorem downD_get {lo : Int} {n i : Nat} {d : D} (h : (downD lo n)[i]? = some d) : i < n ∧ d = .int (lo + (i : Nat) * (-1)) := by
  unfold downD at h
  rw [List.getElem?_map] at h
  by_cases hi : i < n
  · rw [List.getElem?_range hi] at h
    exact ⟨hi, (Option.some.inj h).symm⟩
  · rw [List.getElem?_eq_none (by rw [List.length_range]; omega)] at h
    cases h
theorem rangeD_len (lo : Int) (n : Nat) : (rangeD lo n).length = n := by unfold rangeD; simp
theorem downD_len (lo : Int) (n : Nat) : (downD lo n).length = n := by unfold downD; simp
theorem itd_range {lo : Int} {n : Nat} {B S : Hp} : ItD (Itr lo n) B S (rangeD lo n) where
  go := fun i d H' x e => by
    obtain ⟨h1, rfl⟩ := rangeD_get e
    refine ⟨h1, fun y H2 hy => ?_⟩
    obtain ⟨rfl, rfl⟩ := hy
    exact ⟨Ex.refl _, fun S' _ _ => .int _⟩
  stop := fun H' x => by rw [rangeD_len]; exact Nat.le_refl n
theorem itd_down {lo : Int} {n : Nat} {B S : Hp} : ItD (Itc lo (-1) n) B S (downD lo n) where
  go := fun i d H' x e => by
    obtain ⟨h1, rfl⟩ := downD_get e
    refine ⟨h1, fun y H2 hy => ?_⟩
    obtain ⟨rfl, rfl⟩ := hy
    exact ⟨Ex.refl _, fun S' _ _ => .int _⟩
  stop := fun H' x => by rw [downD_len]; exact Nat.le_refl n
def apI (g : List D → Rs (List D)) (fs : En → Rs (List D)) : En → Rs (List D) := fun ρ => (fs ρ).bind g
def dRng : List D → Rs (List D)
  | [.int j] => if -(2 ^ 62) ≤ j ∧ j < 2 ^ 62 then .ok (rangeD 0 j.toNat) else .no
  | [.int i, .int j] => if -(2 ^ 62) ≤ i ∧ i < 2 ^ 62 ∧ -(2 ^ 62) ≤ j ∧ j < 2 ^ 62 then .ok (rangeD i (j - i).toNat) else .no
  | [.int i, .int j, .int c] => if (-(2 ^ 62) ≤ i ∧ i < 2 ^ 62 ∧ -(2 ^ 62) ≤ j ∧ j < 2 ^ 62) ∧ c = -1 then .ok (downD i (i - j).toNat) else .no
  | _ => .no
theorem DBAll.one {O : List Addr} {H : Hp} {vs : List V} {d : D} (h : DBAll O H vs [d]) : ∃ v, vs = [v] ∧ DB O H v d := by
  cases h with
  | cons h t => cases t; exact ⟨_, rfl, h⟩
theorem DBAll.two {O : List Addr} {H : Hp} {vs : List V} {d d' : D} (h : DBAll O H vs [d, d']) : ∃ v v', vs = [v, v'] ∧ DB O H v d ∧ DB O H v' d' := by
  cases h with
  | cons h t => obtain ⟨v, rfl, q⟩ := t.one; exact ⟨_, _, rfl, h, q⟩
theorem DBAll.three {O : List Addr} {H : Hp} {vs : List V} {d d' d'' : D} (h : DBAll O H vs [d, d', d'']) : ∃ v v' v'', vs = [v, v', v''] ∧ DB O H v d ∧ DB O H v' d' ∧ DB O H v'' d'' := by
  cases h with
  | cons h t => obtain ⟨v, v', rfl, q, q'⟩ := t.two; exact ⟨_, _, _, rfl, h, q, q'⟩
theorem DBAll.len {O : List Addr} {H : Hp} : ∀ {vs : List V} {ds : List D}, DBAll O H vs ds → vs.length = ds.length
  | _, _, .nil => rfl
  | _, _, .cons _ t => by simp [t.len]

theorem ab_one (ha : EB cv W Xs a fa) (hs : ∀ env, starEach [a] env = (false, eval a env) :: starEach [] env) : EAB cv W Xs [a] (fCons fa fNil) := ab_cons ha ab_nil hs
theorem fCons1 {ρ : En} {ds : List D} (h : fCons fa fNil ρ = .ok ds) : ∃ d, ds = [d] := by
  unfold fCons fNil at h
  cases e : fa ρ with
  | ok d => rw [e] at h; cases h; exact ⟨d, rfl⟩
  | er c => rw [e] at h; cases h
  | no => rw [e] at h; cases h
theorem fCons2 {ρ : En} {ds : List D} (h : fCons fa (fCons fb fNil) ρ = .ok ds) : ∃ d e, ds = [d, e] := by
  unfold fCons at h
  cases e : fa ρ with
  | ok d =>
    rw [e, Rs.bind_ok] at h
    cases e2 : fb ρ with
    | ok d2 => rw [e2] at h; cases h; exact ⟨d, d2, rfl⟩
    | er c => rw [e2] at h; cases h
    | no => rw [e2] at h; cases h
  | er c => rw [e] at h; cases h
  | no => rw [e] at h; cases h
theorem fCons3 {ρ : En} {ds : List D} (h : fCons fa (fCons fb (fCons fc fNil)) ρ = .ok ds) : ∃ d e g, ds = [d, e, g] := by
  unfold fCons at h
  cases e : fa ρ with
  | ok d =>
    rw [e, Rs.bind_ok] at h
    cases e2 : fb ρ with
    | ok d2 =>
      rw [e2, Rs.bind_ok] at h
      cases e3 : fc ρ with
      | ok d3 => rw [e3] at h; cases h; exact ⟨d, d2, d3, rfl⟩
      | er c => rw [e3] at h; cases h
      | no => rw [e3] at h; cases h
    | er c => rw [e2] at h; cases h
    | no => rw [e2] at h; cases h
  | er c => rw [e] at h; cases h
  | no => rw [e] at h; cases h
theorem is_range1 (F : Fam Xs P w K mg base N sc fnn k) {p : Pos} (hm : mg "range" = none) (ha : EB cv W Xs a fa) (hg : glB sc "range" = true := by decide +kernel) (hs : ∀ env, starEach [a] env = [(false, eval a env)] := by intro _; rfl) : EIS cv W Xs tg (.Call (.Name "range" p) [a] [] pos) (apI dRng (fCons fa fNil)) := by
  obtain ⟨t, h1, h2⟩ := ab_one ha hs
  refine ⟨_, fun j => pi_range1 (F.gl_ok hg j) (F.none hm j) (h1 j) (hs _), fun O σ ρ H R r p => h2 O σ ρ H _ r ?_⟩
  unfold apI at p
  cases ea : fCons fa fNil ρ with
  | no => rw [ea] at p; exact p
  | er c => rw [ea] at p; exact p
  | ok ds =>
    rw [ea, Rs.bind_ok] at p
    intro vs H1 x1 q1
    obtain ⟨d, rfl⟩ := fCons1 ea
    obtain ⟨v, rfl, q⟩ := q1.one
    unfold dRng at p
    split at p
    · split at p
      · rename_i h3 h4
        simp only [List.cons.injEq, and_true] at h3
        subst h3
        exact ⟨_, by rw [q.int], h4.1, h4.2, p _ H1 x1 itd_range⟩
      · exact p.elim
    all_goals first | exact p.elim | (exfalso; rename_i h; simp at h)
theorem is_range2 (F : Fam Xs P w K mg base N sc fnn k) {p : Pos} (hm : mg "range" = none) (ha : EB cv W Xs a fa) (hb : EB cv W Xs b fb) (hg : glB sc "range" = true := by decide +kernel) (hs : ∀ env, starEach [a, b] env = [(false, eval a env), (false, eval b env)] := by intro _; rfl) (hs2 : ∀ env, starEach [b] env = [(false, eval b env)] := by intro _; rfl) : EIS cv W Xs tg (.Call (.Name "range" p) [a, b] [] pos) (apI dRng (fCons fa (fCons fb fNil))) := by
  obtain ⟨t, h1, h2⟩ := ab_cons ha (ab_one hb hs2) (fun env => by rw [hs, hs2])
  refine ⟨_, fun j => pi_range2 (F.gl_ok hg j) (F.none hm j) (h1 j) (hs _) (hs2 _), fun O σ ρ H R r p => h2 O σ ρ H _ r ?_⟩
  unfold apI at p
  cases ea : fCons fa (fCons fb fNil) ρ with
  | no => rw [ea] at p; exact p
  | er c => rw [ea] at p; exact p
  | ok ds =>
    rw [ea, Rs.bind_ok] at p
    intro vs H1 x1 q1
    obtain ⟨d, d2, rfl⟩ := fCons2 ea
    obtain ⟨v, v2, rfl, q, q2⟩ := q1.two
    unfold dRng at p
    split at p
    rotate_left
    · split at p
      · rename_i h3 h4
        simp only [List.cons.injEq, and_true] at h3
        obtain ⟨rfl, rfl⟩ := h3
        exact ⟨_, _, by rw [q.int, q2.int], h4, p _ H1 x1 itd_range⟩
      · exact p.elim
    all_goals first | exact p.elim | (exfalso; rename_i h; simp at h)
theorem is_range3 (F : Fam Xs P w K mg base N sc fnn k) {p : Pos} (hm : mg "range" = none) (ha : EB cv W Xs a fa) (hb : EB cv W Xs b fb) (hc : EB cv W Xs c fc) (hg : glB sc "range" = true := by decide +kernel) (hs : ∀ env, starEach [a, b, c] env = (false, eval a env) :: starEach [b, c] env := by intro _; rfl) (hs2 : ∀ env, starEach [b, c] env = (false, eval b env) :: starEach [c] env := by intro _; rfl) (hs3 : ∀ env, starEach [c] env = [(false, eval c env)] := by intro _; rfl) (hpl : ∀ env, (backTo pos (starEach [b, c] env)).any (·.1) = false := by intro _; rfl) : EIS cv W Xs tg (.Call (.Name "range" p) [a, b, c] [] pos) (apI dRng (fCons fa (fCons fb (fCons fc fNil)))) := by
  obtain ⟨t, h1, h2⟩ := ab_cons ha (ab_cons hb (ab_one hc hs3) hs2) hs
  refine ⟨_, fun j => pi_range3 (F.gl_ok hg j) (F.none hm j) (h1 j) (hs _) (hpl _), fun O σ ρ H R r p => h2 O σ ρ H _ r ?_⟩
  unfold apI at p
  cases ea : fCons fa (fCons fb (fCons fc fNil)) ρ with
  | no => rw [ea] at p; exact p
  | er c => rw [ea] at p; exact p
  | ok ds =>
    rw [ea, Rs.bind_ok] at p
    intro vs H1 x1 q1
    obtain ⟨d, d2, d3, rfl⟩ := fCons3 ea
    obtain ⟨v, v2, v3, rfl, q, q2, q3⟩ := q1.three
    unfold dRng at p
    split at p
    rotate_left 2
    · split at p
      · rename_i h3 h4
        simp only [List.cons.injEq, and_true] at h3
        obtain ⟨rfl, rfl, rfl⟩ := h3
        obtain ⟨⟨b1, b2, b3, b4⟩, rfl⟩ := h4
        exact ⟨_, _, _, _, by rw [q.int, q2.int, q3.int], RgC.neg b1 b2 b3 b4, p _ H1 x1 itd_down⟩
      · exact p.elim
    all_goals first | exact p.elim | (exfalso; rename_i h; simp at h)
def enumD (ds : List D) : List D := (List.range ds.length).map fun i => .tuple [.int (i : Nat), ds.getD i .none]
def zipD (xs ys : List D) : List D := (List.range (min xs.length ys.length)).map fun i => .tuple [xs.getD i .none, ys.getD i .none]
theorem getD_some {xs : List D} {i : Nat} (h : i < xs.length) : xs[i]? = some (xs.getD i .none) := by
  rw [List.getD_eq_getElem?_getD, List.getElem?_eq_getElem h]
  rfl
theorem enumD_get {ds : List D} {i : Nat} {d : D} (h : (enumD ds)[i]? = some d) : ∃ x, ds[i]? = some x ∧ d = .tuple [.int (i : Nat), x] := by
  unfold enumD at h
  rw [List.getElem?_map] at h
  by_cases hi : i < ds.length
  · rw [List.getElem?_range hi] at h
    exact ⟨_, getD_some hi, (Option.some.inj h).symm⟩
  · rw [List.getElem?_eq_none (by rw [List.length_range]; omega)] at h
    cases h
theorem zipD_get {xs ys : List D} {i : Nat} {d : D} (h : (zipD xs ys)[i]? = some d) : ∃ x y, xs[i]? = some x ∧ ys[i]? = some y ∧ d = .tuple [x, y] := by
  unfold zipD at h
  rw [List.getElem?_map] at h
  by_cases hi : i < min xs.length ys.length
  · rw [List.getElem?_range hi] at h
    exact ⟨_, _, getD_some (by omega), getD_some (by omega), (Option.some.inj h).symm⟩
  · rw [List.getElem?_eq_none (by rw [List.length_range]; omega)] at h
    cases h
theorem itd_enum {a : Addr} {B S : Hp} {vs : List V} {ds : List D} (h : B a = some (.lst vs)) (q : DqAll S vs ds) : ItD (Ite K a) B S (enumD ds) where
  go := fun i d H' x e => by
    obtain ⟨y, h0, rfl⟩ := enumD_get e
    obtain ⟨v, h1, h2⟩ := q.get i h0
    refine ⟨⟨vs, v, SqL.of (x _ _ h), h1⟩, fun y H2 hy => ?_⟩
    obtain ⟨T, u, rfl, nT, rfl, hy⟩ := hy
    have ev := hy vs (SqL.of (x _ _ h))
    rw [h1] at ev
    cases ev
    exact ⟨Ex.new nT, fun S' z n => .tup (n T _ nT upd_same) (.cons (.int _) (.cons (h2.mono z) .nil))⟩
  stop := fun H' x => ⟨vs, SqL.of (x _ _ h), by rw [q.length]; unfold enumD; simp⟩
theorem itd_zip {a b : Addr} {B S : Hp} {vs ws : List V} {ds es : List D} (h : B a = some (.lst vs)) (h' : B b = some (.lst ws)) (q : DqAll S vs ds) (q' : DqAll S ws es) : ItD (Itz K a b) B S (zipD ds es) where
  go := fun i d H' x e => by
    obtain ⟨y, y', h0, h0', rfl⟩ := zipD_get e
    obtain ⟨v, h1, h2⟩ := q.get i h0
    obtain ⟨v', h1', h2'⟩ := q'.get i h0'
    refine ⟨⟨vs, ws, v, v', SqL.of (x _ _ h), SqL.of (x _ _ h'), h1, h1'⟩, fun y H2 hy => ?_⟩
    obtain ⟨T, u, u', rfl, nT, rfl, hy, hy'⟩ := hy
    have ev := hy vs (SqL.of (x _ _ h))
    have ev' := hy' ws (SqL.of (x _ _ h'))
    rw [h1] at ev
    rw [h1'] at ev'
    cases ev
    cases ev'
    exact ⟨Ex.new nT, fun S' z n => .tup (n T _ nT upd_same) (.cons (h2.mono z) (.cons (h2'.mono z) .nil))⟩
  stop := fun H' x => ⟨vs, ws, SqL.of (x _ _ h), SqL.of (x _ _ h'), by rw [q.length, q'.length]; unfold zipD; simp; omega⟩
def dEnum : List D → Rs (List D)
  | [.list ds] => .ok (enumD ds)
  | _ => .no
def dZip : List D → Rs (List D)
  | [.list ds, .list es] => .ok (zipD ds es)
  | _ => .no
variable {elts : List Expr} {kt : Nat} {tpos : Pos}
theorem i_enum (F : Fam Xs P w K mg base N sc fnn k) {p : Pos} (hm : mg "enumerate" = none) (ha : EAB cv W Xs [a] fs) (hg : glB sc "enumerate" = true := by decide +kernel) (hs : ∀ env, starEach [a] env = [(false, eval a env)] := by intro _; rfl) : EI cv W Xs (.Tuple elts kt tpos) (.Call (.Name "enumerate" p) [a] [] pos) (apI dEnum fs) := by
  obtain ⟨t, h1, h2⟩ := ha
  refine ⟨iEnum K t, fun j => by have := pi_enum (elts := elts) (kk := kt) (tpos := tpos) (p := p) (pos := pos) (F.gl_ok hg j) (F.none hm j) (h1 j) (hs _); rw [F.kk j] at this; exact this, fun O σ ρ H R r p => h2 O σ ρ H _ r ?_⟩
  unfold apI at p
  cases ea : fs ρ with
  | no => rw [ea] at p; exact p
  | er c => rw [ea] at p; exact p
  | ok ds =>
    rw [ea, Rs.bind_ok] at p
    intro vs H1 x1 q1
    unfold dEnum at p
    split at p
    · obtain ⟨v, rfl, q⟩ := q1.one
      obtain ⟨l, ws, rfl, h3, h4⟩ := q.list
      exact ⟨l, ws, rfl, SqL.of h3, p _ H1 x1 (itd_enum h3 h4)⟩
    · exact p.elim
theorem is_enum (F : Fam Xs P w K mg base N sc fnn k) {p : Pos} (hm : mg "enumerate" = none) (ha : EA cv W Xs [a] fs) (hg : glB sc "enumerate" = true := by decide +kernel) (hs : ∀ env, starEach [a] env = [(false, eval a env)] := by intro _; rfl) : EIS cv W Xs (.Tuple elts kt tpos) (.Call (.Name "enumerate" p) [a] [] pos) (apI dEnum fs) := by
  obtain ⟨t, h1, h2⟩ := ha
  refine ⟨iEnum K t, fun j => by have := pi_enum (elts := elts) (kk := kt) (tpos := tpos) (p := p) (pos := pos) (F.gl_ok hg j) (F.none hm j) (h1 j) (hs _); rw [F.kk j] at this; exact this, fun O σ ρ H R r p => h2 O σ ρ H _ r ?_⟩
  unfold apI at p
  cases ea : fs ρ with
  | no => rw [ea] at p; exact p
  | er c => rw [ea] at p; exact p
  | ok ds =>
    rw [ea, Rs.bind_ok] at p
    intro vs H1 x1 q1
    unfold dEnum at p
    split at p
    · cases q1 with
      | cons q t =>
        cases t
        cases q with
        | lst h3 h4 => exact ⟨_, _, rfl, SqL.of (hide_le _ _ h3), p _ H1 x1 (itd_enum h3 h4)⟩
    · exact p.elim
theorem i_zip (F : Fam Xs P w K mg base N sc fnn k) {p : Pos} (hm : mg "zip" = none) (ha : EAB cv W Xs [a, b] fs) (hg : glB sc "zip" = true := by decide +kernel) (hs : ∀ env, starEach [a, b] env = (false, eval a env) :: starEach [b] env := by intro _; rfl) (hpl : ∀ env, (backTo pos (starEach [b] env)).any (·.1) = false := by intro _; rfl) : EI cv W Xs (.Tuple elts kt tpos) (.Call (.Name "zip" p) [a, b] [] pos) (apI dZip fs) := by
  obtain ⟨t, h1, h2⟩ := ha
  refine ⟨iZip K t, fun j => by have := pi_zip (elts := elts) (kk := kt) (tpos := tpos) (p := p) (pos := pos) (F.gl_ok hg j) (F.none hm j) (h1 j) (hs _) (hpl _); rw [F.kk j] at this; exact this, fun O σ ρ H R r p => h2 O σ ρ H _ r ?_⟩
  unfold apI at p
  cases ea : fs ρ with
  | no => rw [ea] at p; exact p
  | er c => rw [ea] at p; exact p
  | ok ds =>
    rw [ea, Rs.bind_ok] at p
    intro vs H1 x1 q1
    unfold dZip at p
    split at p
    · obtain ⟨v, v', rfl, q, q'⟩ := q1.two
      obtain ⟨l, ws, rfl, h3, h4⟩ := q.list
      obtain ⟨l', ws', rfl, h3', h4'⟩ := q'.list
      exact ⟨l, l', ws, ws', rfl, SqL.of h3, SqL.of h3', p _ H1 x1 (itd_zip h3 h3' h4 h4')⟩
    · exact p.elim
theorem is_zip (F : Fam Xs P w K mg base N sc fnn k) {p : Pos} (hm : mg "zip" = none) (ha : EA cv W Xs [a, b] fs) (hg : glB sc "zip" = true := by decide +kernel) (hs : ∀ env, starEach [a, b] env = (false, eval a env) :: starEach [b] env := by intro _; rfl) (hpl : ∀ env, (backTo pos (starEach [b] env)).any (·.1) = false := by intro _; rfl) : EIS cv W Xs (.Tuple elts kt tpos) (.Call (.Name "zip" p) [a, b] [] pos) (apI dZip fs) := by
  obtain ⟨t, h1, h2⟩ := ha
  refine ⟨iZip K t, fun j => by have := pi_zip (elts := elts) (kk := kt) (tpos := tpos) (p := p) (pos := pos) (F.gl_ok hg j) (F.none hm j) (h1 j) (hs _) (hpl _); rw [F.kk j] at this; exact this, fun O σ ρ H R r p => h2 O σ ρ H _ r ?_⟩
  unfold apI at p
  cases ea : fs ρ with
  | no => rw [ea] at p; exact p
  | er c => rw [ea] at p; exact p
  | ok ds =>
    rw [ea, Rs.bind_ok] at p
    intro vs H1 x1 q1
    unfold dZip at p
    split at p
    · cases q1 with
      | cons q t =>
        cases t with
        | cons q' t' =>
          cases t'
          cases q with
          | lst h3 h4 =>
            cases q' with
            | lst h3' h4' => exact ⟨_, _, _, _, rfl, SqL.of (hide_le _ _ h3), SqL.of (hide_le _ _ h3'), p _ H1 x1 (itd_zip h3 h3' h4 h4')⟩
    · exact p.elim

/-! ### list comprehensions -/
def compL (T : Tg) (ft : En → Rs Bool) (fe : En → Rs D) (ρ : En) : List D → Rs (List D)
  | [] => .ok []
  | d :: r => match T.asg d ρ with
    | none => .no
    | some ρ1 => (ft ρ1).noEr.bind fun b => if b = true then (fe ρ1).noEr.bind fun y => (compL T ft fe ρ r).bind fun ys => .ok (y :: ys) else compL T ft fe ρ r
def fComp (it : En → Rs (List D)) (T : Tg) (ft : En → Rs Bool) (fe : En → Rs D) (vs : List Nat) : En → Rs D := fun ρ => (it ρ).bind fun items =>
  if items.length ≤ LIM then (compL T ft fe (wipeE ρ vs) items).noEr.bind fun ys => .ok (.list ys) else .no
def ETs (cv : Nat → Value) (W : WX) (Xs : ι → Cx) (es : List Expr) (f : En → Rs Bool) : Prop := ∃ t, (∀ j, PTs (Xs j) es t) ∧ SndT cv W t f
theorem ts_nil : ETs cv W Xs [] tTrue := ⟨tYes, fun _ => pts_nil, fun O σ ρ H Q r p => p H (Ex.refl H)⟩
theorem ts_one {ft : En → Rs Bool} (h : ET cv W Xs c ft) : ETs cv W Xs [c] ft := by
  obtain ⟨t, h1, h2⟩ := h
  exact ⟨t, fun j => pts_one (h1 j), h2⟩
theorem noEr_ok {α : Type} {r : Rs α} {a : α} (h : r.noEr = .ok a) : r = .ok a := by
  cases r with
  | ok b => exact h
  | er c => cases h
  | no => cases h
theorem snd_comp {ti : TI} {g : TG} {tt : TT} {te : TE} {it : En → Rs (List D)} {ft : En → Rs Bool} {vs : List Nat} (hi : SndI cv W ti it) (hg : SndG g T) (ht : SndT cv W' tt ft) (he : SndE cv W' te fe) (hv : ∀ i ∈ T.ix, i ∈ vs) : SndF cv W (tLc ti g tt te vs) (fComp it T ft fe vs) := by
  intro O σ ρ H Q R p
  refine hi O σ ρ H _ R ?_
  unfold fComp at p
  cases ei : it ρ with
  | no => rw [ei] at p; exact p
  | er c => rw [ei] at p; exact p
  | ok items =>
    rw [ei, Rs.bind_ok] at p
    by_cases hl : items.length ≤ LIM
    · rw [if_pos hl] at p
      intro J H1 x1 dd A hA
      cases ec : (compL T ft fe (wipeE ρ vs) items).noEr with
      | no => rw [ec] at p; exact p.elim
      | er c => cases hz : compL T ft fe (wipeE ρ vs) items <;> rw [hz] at ec <;> cases ec
      | ok total =>
        rw [ec, Rs.bind_ok] at p
        have ec := noEr_ok ec
        have R1 := R.mono x1
        refine ⟨fun i m H' => m + i = items.length ∧ Ex H1 H' ∧ ∃ ws ds rest, H' A = some (.lst ws) ∧ DqAll (hide (A :: O) H') ws ds ∧ ds.length ≤ i ∧ compL T ft fe (wipeE ρ vs) (items.drop i) = .ok rest ∧ ds ++ rest = total,
          ⟨items.length, by omega, Ex.new hA, [], [], total, upd_same, .nil, Nat.le_refl _, by simpa using ec, rfl⟩, ?_⟩
        rintro i m H' ⟨hm, x2, ws, ds, rest, hD, qs, hlen, hcomp, htot⟩
        have hAO : A ∉ O := R1.fresh hA
        have mv : Ex (hide O H1) (hide (A :: O) H') := (hide_cons hA).trans (hide_ex x2)
        by_cases hlt : i < items.length
        · refine .inr ?_
          have hd : items[i]? = some items[i] := List.getElem?_eq_getElem hlt
          obtain ⟨hgo, hy⟩ := dd.go i _ H' x2 hd
          refine ⟨hgo, fun H3 => ∃ m', m' < m ∧ m' + (i + 1) = items.length ∧ Ex H1 H3 ∧ ∃ ws ds rest, H3 A = some (.lst ws) ∧ DqAll (hide (A :: O) H3) ws ds ∧ ds.length ≤ i + 1 ∧ compL T ft fe (wipeE ρ vs) (items.drop (i + 1)) = .ok rest ∧ ds ++ rest = total,
            fun H3 ⟨m', h1, h2, h3⟩ => ⟨m', h1, h2, h3⟩, fun x H3 hyl => ?_⟩
          obtain ⟨x3, hq⟩ := hy x H3 hyl
          have od3 : ∀ a ∈ A :: O, H' a ≠ none := by
            intro a ha z
            rcases List.mem_cons.mp ha with rfl | ha
            · rw [hD] at z; cases z
            · exact R1.od a ha (x2.free z)
          have qx : Dq (hide (A :: O) H3) x items[i] := hq _ (mv.trans (hide_ex x3)) fun a o n1 n2 => hide_some.mpr ⟨fun z => od3 a z n1, n2⟩
          -- the turn in the meaning
          rw [List.drop_eq_getElem_cons hlt] at hcomp
          unfold compL at hcomp
          cases ea : T.asg items[i] (wipeE ρ vs) with
          | none => rw [ea] at hcomp; cases hcomp
          | some ρ1 =>
            rw [ea] at hcomp
            unfold Tg.asg at ea
            cases ep : T.parts items[i] with
            | none => rw [ep] at ea; cases ea
            | some es =>
              rw [ep] at ea
              cases ea
              dsimp only at hcomp
              refine hg x items[i] es (wipe σ vs) H3 _ (hide (A :: O) H3) qx hide_le ep fun us hus => ?_
              refine ⟨wipe_setV σ vs T.ix us hv, ?_⟩
              have RW : RepE (A :: O) (wipe σ vs) (wipeE ρ vs) H3 := by
                refine RepE.wipe ⟨R1.len, fun a ha z => od3 a ha (x3.free z), NT.mono x3 od3 (NT.cons hD lst_nt (R1.nt.mono x2 R1.od)), fun j s e => ?_⟩ vs
                obtain ⟨v, l, q1, q2⟩ := R1.sl j s e
                refine ⟨v, l, q1, ?_⟩
                cases s with
                | sh d => exact ⟨q2.1, q2.2.mono (mv.trans (hide_ex x3))⟩
                | ow ds =>
                  obtain ⟨a, vs', h1, h2, h3, h4⟩ := q2
                  exact ⟨a, vs', h1, h2, x3 _ _ (x2 _ _ h3), h4.mono (mv.trans (hide_ex x3))⟩
                | dr ad an => exact ⟨q2.1, q2.2.1, q2.2.2.mono (fun o q => x3 _ _ (x2 _ _ q)) (fun o q => x3 _ _ (x2 _ _ q))⟩
                | xo cl =>
                  obtain ⟨h1, z, h2, h3⟩ := q2
                  exact ⟨h1, z, h2, mv.trans (hide_ex x3) _ _ h3⟩
                | mo o => exact ObR.stay (mv.trans (hide_ex x3)) (fun a _ u q => x3 _ _ (x2 _ _ q)) q2
              have R2 := RW.setD (is := T.ix) hus
              refine ht (A :: O) _ _ H3 _ R2 ?_
              cases eb : ft (setD (wipeE ρ vs) T.ix es) with
              | no => rw [eb] at hcomp; cases hcomp
              | er c => rw [eb] at hcomp; cases hcomp
              | ok bb =>
                simp only [eb, Rs.noEr_ok, Rs.bind_ok] at hcomp
                intro H4 x4
                cases bb with
                | false =>
                  rw [if_neg (by decide)] at hcomp ⊢
                  exact ⟨m - 1, by omega, by omega, (x2.trans x3).trans x4, ws, ds, rest, x4 _ _ (x3 _ _ hD), qs.mono (hide_ex (x3.trans x4)), by omega, hcomp, htot⟩
                | true =>
                  rw [if_pos rfl] at hcomp ⊢
                  refine he (A :: O) _ _ H4 _ (R2.mono x4) ?_
                  cases ee : fe (setD (wipeE ρ vs) T.ix es) with
                  | no => rw [ee] at hcomp; cases hcomp
                  | er c => rw [ee] at hcomp; cases hcomp
                  | ok y =>
                    simp only [ee, Rs.noEr_ok, Rs.bind_ok] at hcomp
                    intro v H5 x5 q5
                    have hD5 := x5 _ _ (x4 _ _ (x3 _ _ hD))
                    refine ⟨ws, hD5, ?_, ?_⟩
                    · rw [qs.length]
                      exact lim_lt (by omega)
                    · cases er : compL T ft fe (wipeE ρ vs) (items.drop (i + 1)) with
                      | no => rw [er] at hcomp; cases hcomp
                      | er c => rw [er] at hcomp; cases hcomp
                      | ok ys =>
                        rw [er, Rs.bind_ok] at hcomp
                        cases hcomp
                        refine ⟨m - 1, by omega, by omega, ?_, ws ++ [v], ds ++ [y], ys, upd_same, ?_, by simp; omega, rfl, by rw [← htot]; simp⟩
                        · intro a o ha
                          rw [upd_ne (ne_of_none ha hA)]
                          exact x5 _ _ (x4 _ _ (x3 _ _ (x2 _ _ ha)))
                        · refine DqAll.mono (hide_own (by simp)) ((qs.mono (hide_ex ((x3.trans x4).trans x5))).append (.cons q5 .nil))
        · have ei : i = items.length := by omega
          subst ei
          refine .inl ⟨dd.stop H' x2, ?_⟩
          rw [List.drop_length] at hcomp
          cases hcomp
          rw [List.append_nil] at htot
          subst htot
          exact p A ws _ H' rfl (x1.trans x2) (x1.free hA) hD qs
    · rw [if_neg hl] at p
      exact fun _ _ _ _ => p.elim
end
end DL

namespace DL
open PySem L2
section
variable {ι : Type} {cv : Nat → Value} {W W' : WX} {Xs : ι → Cx} {P : Program} {w : World} {K : PySem.W.Frag} {mg : Str → Option Value} {base : Heap} {N : List Str} {sc : Scope} {fnn : Str → Bool} {k : Nat}
variable {e a b c tg iter elt : Expr} {es ifs : List Expr} {f fa fb fc fe : En → Rs D} {fs : En → Rs (List D)} {ft : En → Rs Bool} {it : En → Rs (List D)} {pos : Pos} {is : List Nat} {T : Tg} {scope : Scope}

/-- [elt for tg in iter if ..] -/
theorem f_comp (F : Fam Xs P w K mg base N sc fnn k) (own : List (Str × Nat)) (hi : EI cv W Xs tg iter it)
    (hg : Fam (blkF Xs scope) P w K mg base N (relS scope sc) (fun x => scope.names.lookup x == Option.some NameKind.cell) k → EG (blkF Xs scope) tg T)
    (ht : Fam (blkF Xs scope) P w K mg base N (relS scope sc) (fun x => scope.names.lookup x == Option.some NameKind.cell) k → ETs cv W' (blkF Xs scope) ifs ft)
    (he : Fam (blkF Xs scope) P w K mg base N (relS scope sc) (fun x => scope.names.lookup x == Option.some NameKind.cell) k → EE cv W' (blkF Xs scope) elt fe)
    (ok : blkC N sc scope own = true := by decide +kernel) (hv : ∀ i ∈ T.ix, i ∈ own.map (·.2) := by decide) (hs : ∀ env x, foldedSetIterable iter env x = pure x := by intro _ _; rfl) :
    EF cv W Xs (.ListComp elt [⟨tg, iter, ifs, 0⟩] scope pos) (fComp it T ft fe (own.map (·.2))) := by
  obtain ⟨ti, h1, h2⟩ := hi
  obtain ⟨g, h3, h4⟩ := hg (F.blk scope)
  obtain ⟨tt, h5, h6⟩ := ht (F.blk scope)
  obtain ⟨te, h7, h8⟩ := he (F.blk scope)
  refine ⟨tLc ti g tt te (own.map (·.2)), fun j => ?_, snd_comp h2 h4 h6 h8 hv⟩
  refine pe_lc (F.calm j) (F.ndj j) (h1 j) ?_ (fun s H C cl fp => h3 (j, s, H, C, cl, fp)) (fun s H C cl fp => h5 (j, s, H, C, cl, fp)) (fun s H C cl fp => h7 (j, s, H, C, cl, fp)) (hs _)
  rw [F.nm j, F.scp j]
  exact blkOk_by ok

/-! ### isinstance -/
def tyName : D → String
  | .none => "NoneType"
  | .bool _ => "bool"
  | .int _ => "int"
  | .str _ => "str"
  | .list _ => "list"
  | .tuple _ => "tuple"
  | .dict _ => "dict"
def isiB (a T : String) : Bool := a == T || (a == "bool" && T == "int")
def dIsi (T : String) (d : D) : Rs D := .ok (.bool (isiB (tyName d) T))
def TyGood (T : String) : Prop := ∀ d : D, kitB (tyName d) T = some (isiB (tyName d) T)
def tyNames : List String := ["NoneType", "bool", "int", "str", "list", "tuple", "dict"]
theorem tyName_mem (d : D) : tyName d ∈ tyNames := by cases d <;> simp [tyName, tyNames]
theorem tg_of {T : String} (h : (tyNames.all fun a => decide (kitB a T = some (isiB a T))) = true) : TyGood T := fun d => of_decide_eq_true (List.all_eq_true.mp h _ (tyName_mem d))
theorem tg_int : TyGood "int" := tg_of (by decide +kernel)
theorem tg_bool : TyGood "bool" := tg_of (by decide +kernel)
theorem tg_list : TyGood "list" := tg_of (by decide +kernel)
theorem tg_tuple : TyGood "tuple" := tg_of (by decide +kernel)
theorem tg_str : TyGood "str" := tg_of (by decide +kernel)
theorem DB.ty {O : List Addr} {H : Hp} {v : V} {d : D} (h : DB O H v d) : TyX K H v (.type (tyName d)) := by
  have q := h.all
  cases q with
  | non => exact .base .non
  | bl b => exact .base (.bl b)
  | int i => exact .base (.int i)
  | str x => exact .base (.str x)
  | lst h1 _ => exact .base (.lst h1)
  | tup h1 _ => exact .base (.tup h1)
theorem e_isi (F : Fam Xs P w K mg base N sc fnn k) {p pp : Pos} {x : Str} {TN : String} (tg : TyGood TN) (hm : mg "isinstance" = none) (hmx : mg x = none) (hvx : bootBuiltins x = some (.type TN)) (ha : EB cv W Xs a fa)
    (hg : glB sc "isinstance" = true := by decide +kernel) (hgx : glB sc x = true := by decide +kernel) (hnx : x ≠ "__name__" := by decide) (hdx : (x == ("__debug__" : Str)) = false := by decide)
    (hs : ∀ env, starEach [a, .Name x pp] env = (false, eval a env) :: starEach [.Name x pp] env := by intro _; rfl) : EE cv W Xs (.Call (.Name "isinstance" p) [a, .Name x pp] [] pos) (ap1 (dIsi TN) fa) := by
  obtain ⟨ta, h1, h2⟩ := ha
  refine ⟨tCB (rIsi K) (tCons ta (tCons (tC (.ty TN)) tNil)), fun j => ?_, fun O σ ρ H Q R p => h2 O σ ρ H _ R ?_⟩
  · have hc := call_isi (X := Xs j)
    rw [F.kk j] at hc
    exact pe_callB hc (F.gl_ok hg j) (F.none hm j) PyProof.Rows.boot_isinstance (pa_cons (h1 j) (pa_cons (pe_bltn (v := .ty TN) (F.gl_ok hgx j) (F.none hmx j) hvx rfl hnx hdx) pa_nil rfl) (hs _)) (by decide) (by decide) (hs _) rfl
  · unfold ap1 at p
    cases ea : fa ρ with
    | no => rw [ea] at p; exact p
    | er c => rw [ea] at p; exact p
    | ok d =>
      rw [ea, Rs.bind_ok] at p
      intro v H1 x1 q1
      exact ⟨v, .ty TN, _, _, _, rfl, .ty TN, q1.ty, kit_ty (tg d), p _ H1 x1 (.bl _)⟩

/-! ### built-in functions -/
def dLen : List D → Rs D
  | [.list ds] => .ok (.int (ds.length : Nat))
  | [.tuple ds] => .ok (.int (ds.length : Nat))
  | [.str z] => if z.length ≤ LIM then .ok (.int (z.length : Nat)) else .no
  | _ => .no
def rLenA (K : PySem.W.Frag) : List V → Hp → VK → Prop := fun xs H Q => (∃ p ys, xs = [.ref p] ∧ (SqL K H p ys ∨ SqT K H p ys) ∧ Q (.int (ys.length : Nat)) H) ∨ (∃ z, xs = [.str z] ∧ z.length ≤ sizeLine ∧ Q (.int (z.length : Nat)) H)
theorem cle_len : ClE (rLenA K) dLen := by
  intro O vs H Q ds od q p
  unfold dLen at p
  split at p
  · obtain ⟨v, rfl, qq⟩ := q.one
    obtain ⟨l, ws, rfl, h3, h4⟩ := qq.list
    exact .inl ⟨l, ws, rfl, .inl (SqL.of h3), by rw [h4.length]; exact p _ H (Ex.refl H) (.int _)⟩
  · obtain ⟨v, rfl, qq⟩ := q.one
    obtain ⟨l, ws, rfl, h3, h4⟩ := qq.tuple
    exact .inl ⟨l, ws, rfl, .inr (SqT.of h3.2), by rw [h4.length]; exact p _ H (Ex.refl H) (.int _)⟩
  · obtain ⟨v, rfl, qq⟩ := q.one
    split at p
    · exact .inr ⟨_, by rw [qq.str], lim_size ‹_›, p _ H (Ex.refl H) (.int _)⟩
    · exact p.elim
  · exact p.elim
theorem noer_len : Noer1 dLen := fun x c => by unfold dLen; split <;> (try split) <;> simp
theorem e_len (F : Fam Xs P w K mg base N sc fnn k) {p : Pos} (hm : mg "len" = none) (ha : EB cv W Xs a fa) (hg : glB sc "len" = true := by decide +kernel) (hs : ∀ env, starEach [a] env = (false, eval a env) :: starEach [] env := by intro _; rfl) :
    EE cv W Xs (.Call (.Name "len" p) [a] [] pos) (apL dLen (fCons fa fNil)) :=
  e_callB F (fun j => by have h := call_len_seq (X := Xs j); rw [F.kk j] at h; exact h.or call_len_str) (cle_len (K := K)) noer_len hm PySem.boot_len (ab_one ha hs) hg (by decide) (by decide) hs (by intro _; rfl)
def dAbs : List D → Rs D
  | [.int i] => .ok (.int (if i < 0 then -i else i))
  | _ => .no
theorem noer_abs : Noer1 dAbs := fun x c => by unfold dAbs; split <;> simp
theorem cle_abs : ClE (fun xs H Q => ∃ i, xs = [.int i] ∧ Q (.int (if i < 0 then -i else i)) H) dAbs := by
  intro O vs H Q ds od q p
  unfold dAbs at p
  split at p
  · obtain ⟨v, rfl, qq⟩ := q.one
    exact ⟨_, by rw [qq.int], p _ H (Ex.refl H) (.int _)⟩
  · exact p.elim
theorem e_abs (F : Fam Xs P w K mg base N sc fnn k) {p : Pos} (hm : mg "abs" = none) (ha : EB cv W Xs a fa) (hg : glB sc "abs" = true := by decide +kernel) (hs : ∀ env, starEach [a] env = (false, eval a env) :: starEach [] env := by intro _; rfl) :
    EE cv W Xs (.Call (.Name "abs" p) [a] [] pos) (apL dAbs (fCons fa fNil)) :=
  e_callB F (fun j => call_abs) cle_abs noer_abs hm PyProof.Rows.boot_abs (ab_one ha hs) hg (by decide) (by decide) hs (by intro _; rfl)
def intsOf : List D → Option (List Int)
  | [] => some []
  | .int i :: r => (intsOf r).map (i :: ·)
  | _ => none
theorem intsOf_eq : ∀ {ds : List D} {ns : List Int}, intsOf ds = some ns → ds = ns.map PyData.int
  | [], ns, h => by cases h; rfl
  | d :: ds, ns, h => by
    cases d with
    | int i =>
      unfold intsOf at h
      cases e : intsOf ds with
      | none => rw [e] at h; cases h
      | some ms => rw [e] at h; cases h; rw [intsOf_eq e]; rfl
    | _ => cases h
theorem intsOf_map : ∀ ns : List Int, intsOf (ns.map PyData.int) = some ns
  | [] => rfl
  | n :: ns => by
    show (intsOf (ns.map PyData.int)).map (n :: ·) = _
    rw [intsOf_map ns]
    rfl
def boolsOf : List D → Option (List Bool)
  | [] => some []
  | .bool i :: r => (boolsOf r).map (i :: ·)
  | _ => none
theorem boolsOf_eq : ∀ {ds : List D} {ns : List Bool}, boolsOf ds = some ns → ds = ns.map PyData.bool
  | [], ns, h => by cases h; rfl
  | d :: ds, ns, h => by
    cases d with
    | bool i =>
      unfold boolsOf at h
      cases e : boolsOf ds with
      | none => rw [e] at h; cases h
      | some ms => rw [e] at h; cases h; rw [boolsOf_eq e]; rfl
    | _ => cases h
theorem boolsOf_map : ∀ ns : List Bool, boolsOf (ns.map PyData.bool) = some ns
  | [] => rfl
  | n :: ns => by
    show (boolsOf (ns.map PyData.bool)).map (n :: ·) = _
    rw [boolsOf_map ns]
    rfl
def maxI : List Int → Int
  | [] => 0
  | [x] => x
  | x :: r => max x (maxI r)
def minI : List Int → Int
  | [] => 0
  | [x] => x
  | x :: r => min x (minI r)
theorem maxI_spec : ∀ (ns : List Int), ns ≠ [] → maxI ns ∈ ns ∧ ∀ y ∈ ns, y ≤ maxI ns
  | [], h => absurd rfl h
  | [x], _ => by simp [maxI]
  | x :: y :: r, _ => by
    obtain ⟨h1, h2⟩ := maxI_spec (y :: r) (by simp)
    have e : maxI (x :: y :: r) = max x (maxI (y :: r)) := rfl
    refine ⟨?_, fun z hz => ?_⟩
    · rw [e]
      by_cases h : x ≤ maxI (y :: r)
      · rw [Int.max_eq_right h]; exact List.mem_cons_of_mem _ h1
      · rw [Int.max_eq_left (by omega)]; simp
    · rw [e]
      rcases List.mem_cons.mp hz with rfl | hz
      · omega
      · have := h2 z hz; omega
theorem minI_spec : ∀ (ns : List Int), ns ≠ [] → minI ns ∈ ns ∧ ∀ y ∈ ns, minI ns ≤ y
  | [], h => absurd rfl h
  | [x], _ => by simp [minI]
  | x :: y :: r, _ => by
    obtain ⟨h1, h2⟩ := minI_spec (y :: r) (by simp)
    have e : minI (x :: y :: r) = min x (minI (y :: r)) := rfl
    refine ⟨?_, fun z hz => ?_⟩
    · rw [e]
      by_cases h : x ≤ minI (y :: r)
      · rw [Int.min_eq_left h]; simp
      · rw [Int.min_eq_right (by omega)]; exact List.mem_cons_of_mem _ h1
    · rw [e]
      rcases List.mem_cons.mp hz with rfl | hz
      · omega
      · have := h2 z hz; omega
def dMax : List D → Rs D
  | [.list ds] => match intsOf ds with
    | some ns => if ns ≠ [] then .ok (.int (maxI ns)) else .no
    | none => .no
  | [.int i, .int j] => .ok (.int (if j > i then j else i))
  | _ => .no
def dMin : List D → Rs D
  | [.list ds] => match intsOf ds with
    | some ns => if ns ≠ [] then .ok (.int (minI ns)) else .no
    | none => .no
  | [.int i, .int j] => .ok (.int (if j < i then j else i))
  | _ => .no
theorem noer_max : Noer1 dMax := fun x c => by unfold dMax; split <;> (try split) <;> (try split) <;> simp
theorem noer_min : Noer1 dMin := fun x c => by unfold dMin; split <;> (try split) <;> (try split) <;> simp
theorem cle_max : ClE (fun xs H Q => rMax K xs H Q ∨ (∃ i j, xs = [.int i, .int j] ∧ Q (.int (if j > i then j else i)) H)) dMax := by
  intro O vs H Q ds od q p
  unfold dMax at p
  split at p
  · split at p
    · split at p
      · rename_i _ ns h hn
        have e := intsOf_eq h
        subst e
        obtain ⟨v, rfl, qq⟩ := q.one
        obtain ⟨l, ws, rfl, h3, h4⟩ := qq.list
        have e := h4.ints
        subst e
        refine .inl ⟨l, ns, rfl, SqL.of h3, List.length_pos_iff.mpr hn, fun m hm1 hm2 => ?_⟩
        obtain ⟨h5, h6⟩ := maxI_spec ns hn
        have e : m = maxI ns := Int.le_antisymm (h6 m hm1) (hm2 _ h5)
        subst e
        exact p _ H (Ex.refl H) (.int _)
      · exact p.elim
    · exact p.elim
  · obtain ⟨v, v', rfl, q1, q2⟩ := q.two
    exact .inr ⟨_, _, by rw [q1.int, q2.int], p _ H (Ex.refl H) (.int _)⟩
  · exact p.elim
theorem cle_min : ClE (fun xs H Q => rMin K xs H Q ∨ (∃ i j, xs = [.int i, .int j] ∧ Q (.int (if j < i then j else i)) H)) dMin := by
  intro O vs H Q ds od q p
  unfold dMin at p
  split at p
  · split at p
    · split at p
      · rename_i _ ns h hn
        have e := intsOf_eq h
        subst e
        obtain ⟨v, rfl, qq⟩ := q.one
        obtain ⟨l, ws, rfl, h3, h4⟩ := qq.list
        have e := h4.ints
        subst e
        refine .inl ⟨l, ns, rfl, SqL.of h3, List.length_pos_iff.mpr hn, fun m hm1 hm2 => ?_⟩
        obtain ⟨h5, h6⟩ := minI_spec ns hn
        have e : m = minI ns := Int.le_antisymm (hm2 _ h5) (h6 m hm1)
        subst e
        exact p _ H (Ex.refl H) (.int _)
      · exact p.elim
    · exact p.elim
  · obtain ⟨v, v', rfl, q1, q2⟩ := q.two
    exact .inr ⟨_, _, by rw [q1.int, q2.int], p _ H (Ex.refl H) (.int _)⟩
  · exact p.elim
theorem e_max1 (F : Fam Xs P w K mg base N sc fnn k) {p : Pos} (hm : mg "max" = none) (ha : EB cv W Xs a fa) (hg : glB sc "max" = true := by decide +kernel) (hs : ∀ env, starEach [a] env = (false, eval a env) :: starEach [] env := by intro _; rfl) :
    EE cv W Xs (.Call (.Name "max" p) [a] [] pos) (apL dMax (fCons fa fNil)) :=
  e_callB F (fun j => by have h := cr_max (X := Xs j) (F.calm j); rw [F.kk j] at h; exact h.or (call_max2 (F.calm j))) (cle_max (K := K)) noer_max hm PyProof.Rows.boot_max (ab_one ha hs) hg (by decide) (by decide) hs (by intro _; rfl)
theorem e_max2 (F : Fam Xs P w K mg base N sc fnn k) {p : Pos} (hm : mg "max" = none) (ha : EB cv W Xs a fa) (hb : EB cv W Xs b fb) (hg : glB sc "max" = true := by decide +kernel) (hs : ∀ env, starEach [a, b] env = (false, eval a env) :: starEach [b] env := by intro _; rfl) (hs2 : ∀ env, starEach [b] env = (false, eval b env) :: starEach [] env := by intro _; rfl) (hpl : ∀ env, (backTo pos (starEach [b] env)).any (·.1) = false := by intro _; rfl) :
    EE cv W Xs (.Call (.Name "max" p) [a, b] [] pos) (apL dMax (fCons fa (fCons fb fNil))) :=
  e_callB F (fun j => by have h := cr_max (X := Xs j) (F.calm j); rw [F.kk j] at h; exact h.or (call_max2 (F.calm j))) (cle_max (K := K)) noer_max hm PyProof.Rows.boot_max (ab_cons ha (ab_one hb hs2) hs) hg (by decide) (by decide) hs hpl
theorem e_min1 (F : Fam Xs P w K mg base N sc fnn k) {p : Pos} (hm : mg "min" = none) (ha : EB cv W Xs a fa) (hg : glB sc "min" = true := by decide +kernel) (hs : ∀ env, starEach [a] env = (false, eval a env) :: starEach [] env := by intro _; rfl) :
    EE cv W Xs (.Call (.Name "min" p) [a] [] pos) (apL dMin (fCons fa fNil)) :=
  e_callB F (fun j => by have h := cr_min (X := Xs j) (F.calm j); rw [F.kk j] at h; exact h.or (call_min2 (F.calm j))) (cle_min (K := K)) noer_min hm PyProof.Rows.boot_min (ab_one ha hs) hg (by decide) (by decide) hs (by intro _; rfl)
theorem e_min2 (F : Fam Xs P w K mg base N sc fnn k) {p : Pos} (hm : mg "min" = none) (ha : EB cv W Xs a fa) (hb : EB cv W Xs b fb) (hg : glB sc "min" = true := by decide +kernel) (hs : ∀ env, starEach [a, b] env = (false, eval a env) :: starEach [b] env := by intro _; rfl) (hs2 : ∀ env, starEach [b] env = (false, eval b env) :: starEach [] env := by intro _; rfl) (hpl : ∀ env, (backTo pos (starEach [b] env)).any (·.1) = false := by intro _; rfl) :
    EE cv W Xs (.Call (.Name "min" p) [a, b] [] pos) (apL dMin (fCons fa (fCons fb fNil))) :=
  e_callB F (fun j => by have h := cr_min (X := Xs j) (F.calm j); rw [F.kk j] at h; exact h.or (call_min2 (F.calm j))) (cle_min (K := K)) noer_min hm PyProof.Rows.boot_min (ab_cons ha (ab_one hb hs2) hs) hg (by decide) (by decide) hs hpl
def dSum : List D → Rs D
  | [.list ds] => match intsOf ds with
    | some ns => .ok (.int ns.sum)
    | none => .no
  | _ => .no
theorem noer_sum : Noer1 dSum := fun x c => by unfold dSum; split <;> (try split) <;> simp
theorem cle_sum : ClE (rSum K) dSum := by
  intro O vs H Q ds od q p
  unfold dSum at p
  split at p
  · split at p
    · rename_i _ ns h
      have e := intsOf_eq h
      subst e
      obtain ⟨v, rfl, qq⟩ := q.one
      obtain ⟨l, ws, rfl, h3, h4⟩ := qq.list
      have e := h4.ints
      subst e
      exact ⟨l, ns, rfl, SqL.of h3, p _ H (Ex.refl H) (.int _)⟩
    · exact p.elim
  · exact p.elim
theorem e_sum (F : Fam Xs P w K mg base N sc fnn k) {p : Pos} (hm : mg "sum" = none) (ha : EB cv W Xs a fa) (hg : glB sc "sum" = true := by decide +kernel) (hs : ∀ env, starEach [a] env = (false, eval a env) :: starEach [] env := by intro _; rfl) :
    EE cv W Xs (.Call (.Name "sum" p) [a] [] pos) (apL dSum (fCons fa fNil)) :=
  e_callB F (fun j => by have h := cr_sum (X := Xs j) (F.calm j); rw [F.kk j] at h; exact h) cle_sum noer_sum hm PyProof.Rows.boot_sum (ab_one ha hs) hg (by decide) (by decide) hs (by intro _; rfl)
def dAll : List D → Rs D
  | [.list ds] => match boolsOf ds with
    | some ns => .ok (.bool (ns.all id))
    | none => .no
  | _ => .no
theorem noer_all : Noer1 dAll := fun x c => by unfold dAll; split <;> (try split) <;> simp
theorem cle_all : ClE (rAll K) dAll := by
  intro O vs H Q ds od q p
  unfold dAll at p
  split at p
  · split at p
    · rename_i _ ns h
      have e := boolsOf_eq h
      subst e
      obtain ⟨v, rfl, qq⟩ := q.one
      obtain ⟨l, ws, rfl, h3, h4⟩ := qq.list
      have e := h4.bools
      subst e
      exact ⟨l, ns, rfl, SqL.of h3, p _ H (Ex.refl H) (.bl _)⟩
    · exact p.elim
  · exact p.elim
theorem e_all (F : Fam Xs P w K mg base N sc fnn k) {p : Pos} (hm : mg "all" = none) (ha : EB cv W Xs a fa) (hg : glB sc "all" = true := by decide +kernel) (hs : ∀ env, starEach [a] env = (false, eval a env) :: starEach [] env := by intro _; rfl) :
    EE cv W Xs (.Call (.Name "all" p) [a] [] pos) (apL dAll (fCons fa fNil)) :=
  e_callB F (fun j => by have h := cr_all (X := Xs j) (F.calm j); rw [F.kk j] at h; exact h) cle_all noer_all hm PyProof.Rows.boot_all (ab_one ha hs) hg (by decide) (by decide) hs (by intro _; rfl)
/-! sorted of ints -/
def insI (x : Int) : List Int → List Int
  | [] => [x]
  | y :: r => if x ≤ y then x :: y :: r else y :: insI x r
def sortI : List Int → List Int
  | [] => []
  | x :: r => insI x (sortI r)
theorem insI_perm (x : Int) : ∀ l : List Int, (insI x l).Perm (x :: l)
  | [] => List.Perm.refl _
  | y :: r => by
    unfold insI
    split
    · exact List.Perm.refl _
    · exact ((insI_perm x r).cons y).trans (List.Perm.swap x y r)
theorem sortI_perm : ∀ l : List Int, (sortI l).Perm l
  | [] => List.Perm.refl _
  | x :: r => (insI_perm x _).trans ((sortI_perm r).cons x)
theorem insI_sorted (x : Int) : ∀ l : List Int, l.Pairwise (· ≤ ·) → (insI x l).Pairwise (· ≤ ·)
  | [], _ => by simp [insI]
  | y :: r, h => by
    unfold insI
    split
    · rename_i hxy
      rw [List.pairwise_cons]
      refine ⟨fun z hz => ?_, h⟩
      rcases List.mem_cons.mp hz with rfl | hz
      · exact hxy
      · exact Int.le_trans hxy ((List.pairwise_cons.mp h).1 z hz)
    · rename_i hxy
      rw [List.pairwise_cons] at h ⊢
      refine ⟨fun z hz => ?_, insI_sorted x r h.2⟩
      have := (insI_perm x r).mem_iff.mp hz
      rcases List.mem_cons.mp this with rfl | hz'
      · omega
      · exact h.1 z hz'
theorem sortI_sorted : ∀ l : List Int, (sortI l).Pairwise (· ≤ ·)
  | [] => by simp [sortI]
  | x :: r => insI_sorted x _ (sortI_sorted r)
theorem sorted_unique : ∀ {l m : List Int}, l.Perm m → l.Pairwise (· ≤ ·) → m.Pairwise (· ≤ ·) → l = m
  | [], m, h, _, _ => by rw [List.nil_perm] at h; exact h.symm
  | x :: l, [], h, _, _ => by have := h.length_eq; simp at this
  | x :: l, y :: m, h, hl, hm => by
    rw [List.pairwise_cons] at hl hm
    have e : x = y := by
      have hx : x ∈ y :: m := h.mem_iff.mp (by simp)
      have hy : y ∈ x :: l := h.mem_iff.mpr (by simp)
      rcases List.mem_cons.mp hx with q | q
      · exact q
      · rcases List.mem_cons.mp hy with q' | q'
        · exact q'.symm
        · exact Int.le_antisymm (hl.1 y q') (hm.1 x q)
    subst e
    rw [sorted_unique ((List.perm_cons x).mp h) hl.2 hm.2]
def dSorted : List D → Rs D
  | [.list ds] => match intsOf ds with
    | some ns => .ok (.list ((sortI ns).map PyData.int))
    | none => .no
  | _ => .no
theorem noer_sorted : Noer1 dSorted := fun x c => by unfold dSorted; split <;> (try split) <;> simp
theorem clf_sorted : ClF (rSortedI K) dSorted := by
  intro O vs H Q ds od q p
  unfold dSorted at p
  split at p
  · split at p
    · rename_i _ ns h
      have e := intsOf_eq h
      subst e
      obtain ⟨v, rfl, qq⟩ := q.one
      obtain ⟨l, ws, rfl, h3, h4⟩ := qq.list
      have e := h4.ints
      subst e
      refine ⟨l, ns, rfl, SqL.of h3, fun ms q hp hs hq => ?_⟩
      have e : ms = sortI ns := sorted_unique (hp.trans (sortI_perm ns).symm) hs (sortI_sorted ns)
      subst e
      exact p q _ _ _ rfl (Ex.new hq) hq upd_same (DqAll.ofInts _)
    · exact p.elim
  · exact p.elim
theorem f_sorted (F : Fam Xs P w K mg base N sc fnn k) {p : Pos} (hm : mg "sorted" = none) (ha : EB cv W Xs a fa) (hg : glB sc "sorted" = true := by decide +kernel) (hs : ∀ env, starEach [a] env = (false, eval a env) :: starEach [] env := by intro _; rfl) :
    EF cv W Xs (.Call (.Name "sorted" p) [a] [] pos) (apL dSorted (fCons fa fNil)) :=
  e_callBF F (fun j => by have h := cr_sortedI (X := Xs j); rw [F.kk j] at h; exact h) clf_sorted noer_sorted hm PyProof.Rows.boot_sorted (ab_one ha hs) hg (by decide) (by decide) hs (by intro _; rfl)
/-! list(x), tuple(x), list(range(..)) -/
def dList : List D → Rs D
  | [.list ds] => .ok (.list ds)
  | [.tuple ds] => .ok (.list ds)
  | _ => .no
theorem noer_list : Noer1 dList := fun x c => by unfold dList; split <;> simp
theorem clf_list : ClF (fun xs H Q => ∃ p ys, xs = [.ref p] ∧ (SqL K H p ys ∨ SqT K H p ys) ∧ ∀ l, H l = none → Q (.ref l) (upd H l (.lst ys))) dList := by
  intro O vs H Q ds od q p
  unfold dList at p
  split at p
  · obtain ⟨v, rfl, qq⟩ := q.one
    obtain ⟨l, ws, rfl, h3, h4⟩ := qq.list
    exact ⟨l, ws, rfl, .inl (SqL.of h3), fun q hq => p q _ _ _ rfl (Ex.new hq) hq upd_same (h4.mono (hide_new hq))⟩
  · obtain ⟨v, rfl, qq⟩ := q.one
    obtain ⟨l, ws, rfl, h3, h4⟩ := qq.tuple
    exact ⟨l, ws, rfl, .inr (SqT.of h3.2), fun q hq => p q _ _ _ rfl (Ex.new hq) hq upd_same (h4.mono (hide_new hq))⟩
  · exact p.elim
theorem f_list (F : Fam Xs P w K mg base N sc fnn k) {p : Pos} (hm : mg "list" = none) (ha : EB cv W Xs a fa) (hg : glB sc "list" = true := by decide +kernel) (hs : ∀ env, starEach [a] env = (false, eval a env) :: starEach [] env := by intro _; rfl) :
    EF cv W Xs (.Call (.Name "list" p) [a] [] pos) (apL dList (fCons fa fNil)) :=
  e_callTyF F (fun j => by have h := call_list_of (X := Xs j); rw [F.kk j] at h; exact h) clf_list noer_list hm PyProof.Rows.boot_list (ab_one ha hs) hg (by decide) (by decide) hs (by intro _; rfl)
def dTuple : List D → Rs D
  | [.list ds] => .ok (.tuple ds)
  | [.tuple ds] => .ok (.tuple ds)
  | _ => .no
theorem noer_tuple : Noer1 dTuple := fun x c => by unfold dTuple; split <;> simp
theorem cle_tuple : ClE (fun xs H Q => ∃ p ys, xs = [.ref p] ∧ ((SqL K H p ys ∧ ∀ l, H l = none → Q (.ref l) (upd H l (.tup ys))) ∨ (SqT K H p ys ∧ Q (.ref p) H))) dTuple := by
  intro O vs H Q ds od q p
  unfold dTuple at p
  split at p
  · obtain ⟨v, rfl, qq⟩ := q.one
    obtain ⟨l, ws, rfl, h3, h4⟩ := qq.list
    exact ⟨l, ws, rfl, .inl ⟨SqL.of h3, fun q hq => p _ _ (Ex.new hq) (.tup (hide_some.mpr ⟨fun z => od q z hq, upd_same⟩) (h4.mono (hide_ex (Ex.new hq))))⟩⟩
  · obtain ⟨v, rfl, qq⟩ := q.one
    obtain ⟨l, ws, rfl, h3, h4⟩ := qq.tuple
    exact ⟨l, ws, rfl, .inr ⟨SqT.of h3.2, p _ H (Ex.refl H) (.tup (hide_some.mpr h3) h4)⟩⟩
  · exact p.elim
theorem e_tuple (F : Fam Xs P w K mg base N sc fnn k) {p : Pos} (hm : mg "tuple" = none) (ha : EB cv W Xs a fa) (hg : glB sc "tuple" = true := by decide +kernel) (hs : ∀ env, starEach [a] env = (false, eval a env) :: starEach [] env := by intro _; rfl) :
    EE cv W Xs (.Call (.Name "tuple" p) [a] [] pos) (apL dTuple (fCons fa fNil)) :=
  e_callTy F (fun j => by have h := call_tuple_of (X := Xs j); rw [F.kk j] at h; exact h) cle_tuple noer_tuple hm PyProof.Rows.boot_tuple (ab_one ha hs) hg (by decide) (by decide) hs (by intro _; rfl)
theorem DqAll.range {H : Hp} (a b : Int) : DqAll H (rgV a b) (rangeD a (b - a).toNat) := by
  unfold rgV rangeD
  generalize List.range (b - a).toNat = l
  induction l with
  | nil => exact .nil
  | cons x l ih => exact .cons (.int _) ih
def dRange : D → D → Rs D
  | .int i, .int j => if (-(2 ^ 62) ≤ i ∧ i < 2 ^ 62 ∧ -(2 ^ 62) ≤ j ∧ j < 2 ^ 62) ∧ (j - i).toNat ≤ LIM then .ok (.list (rangeD i (j - i).toNat)) else .no
  | _, _ => .no
theorem f_list_range2 (F : Fam Xs P w K mg base N sc fnn k) {p pp ppos : Pos} (hm : mg "list" = none) (hmr : mg "range" = none) (ha : EB cv W Xs a fa) (hb : EB cv W Xs b fb) (hg : glB sc "list" = true := by decide +kernel) (hgr : glB sc "range" = true := by decide +kernel)
    (hs : ∀ env, starEach [a, b] env = (false, eval a env) :: starEach [b] env := by intro _; rfl) (hs2 : ∀ env, starEach [b] env = (false, eval b env) :: starEach [] env := by intro _; rfl) (hpl : ∀ env, (backTo ppos (starEach [b] env)).any (·.1) = false := by intro _; rfl) :
    EF cv W Xs (.Call (.Name "list" p) [.Call (.Name "range" pp) [a, b] [] ppos] [] pos) (ap2 dRange fa fb) := by
  obtain ⟨ta, h1, h2⟩ := ha
  obtain ⟨tb, h3, h4⟩ := hb
  refine ⟨tLstRg (tRg2 ta tb), fun j => pe_listRg (F.calm j) (F.gl_ok hg j) (F.none hm j) (prg_2 (F.gl_ok hgr j) (F.none hmr j) (h1 j) (h3 j) (hs _) (hs2 _) (hpl _)) rfl, fun O σ ρ H Q R p => h2 O σ ρ H _ R ?_⟩
  unfold ap2 at p
  cases ea : fa ρ with
  | no => rw [ea] at p; exact p
  | er c => rw [ea] at p; exact p
  | ok d =>
    rw [ea, Rs.bind_ok] at p
    intro x H1 x1 q1
    refine h4 O σ ρ H1 _ (R.mono x1) ?_
    cases eb : fb ρ with
    | no => rw [eb] at p; exact p
    | er c => rw [eb] at p; exact fun H2 x2 => p H2 (x1.trans x2)
    | ok e =>
      rw [eb, Rs.bind_ok] at p
      intro y H2 x2 q2
      unfold dRange at p
      split at p
      · split at p
        · rename_i hc
          obtain ⟨⟨b1, b2, b3, b4⟩, b5⟩ := hc
          refine ⟨_, _, q1.int, q2.int, ⟨b1, b2, b3, b4, Nat.le_trans b5 (by decide)⟩, fun q hq => ?_⟩
          exact p q _ _ _ rfl ((x1.trans x2).trans (Ex.new hq)) ((x1.trans x2).free hq) upd_same (DqAll.range _ _)
        · exact p.elim
      · exact p.elim
theorem f_list_range1 (F : Fam Xs P w K mg base N sc fnn k) {p pp ppos : Pos} (hm : mg "list" = none) (hmr : mg "range" = none) (ha : EB cv W Xs a fa) (hg : glB sc "list" = true := by decide +kernel) (hgr : glB sc "range" = true := by decide +kernel)
    (hs : ∀ env, starEach [a] env = (false, eval a env) :: starEach [] env := by intro _; rfl) :
    EF cv W Xs (.Call (.Name "list" p) [.Call (.Name "range" pp) [a] [] ppos] [] pos) (ap2 dRange (fC (.int 0)) fa) := by
  obtain ⟨ta, h1, h2⟩ := ha
  refine ⟨tLstRg (tRg1 ta), fun j => pe_listRg (F.calm j) (F.gl_ok hg j) (F.none hm j) (prg_1 (F.gl_ok hgr j) (F.none hmr j) (h1 j) (hs _)) rfl, fun O σ ρ H Q R p => h2 O σ ρ H _ R ?_⟩
  unfold ap2 fC at p
  rw [Rs.bind_ok] at p
  cases ea : fa ρ with
  | no => rw [ea] at p; exact p
  | er c => rw [ea] at p; exact p
  | ok d =>
    rw [ea, Rs.bind_ok] at p
    intro x H1 x1 q1
    unfold dRange at p
    split at p
    · rename_i e0
      cases e0
      split at p
      · rename_i hc
        obtain ⟨⟨b1, b2, b3, b4⟩, b5⟩ := hc
        refine ⟨_, q1.int, ⟨b1, b2, b3, b4, Nat.le_trans b5 (by decide)⟩, fun q hq => ?_⟩
        exact p q _ _ _ rfl (x1.trans (Ex.new hq)) (x1.free hq) upd_same (DqAll.range _ _)
      · exact p.elim
    · exact p.elim
/-! methods of lists that look -/
def apML (g : List D → List D → Rs D) (fo : En → Rs D) (fs : En → Rs (List D)) : En → Rs D := fun ρ => (fo ρ).bind fun x => match x with
  | .list xs => (fs ρ).bind fun ds => g xs ds
  | _ => .no
def dIndex (xs ds : List D) : Rs D := match ds with
  | [d] => if SeqAt.shaped (.list xs) = true ∧ SeqAt.shaped d = true then (match xs.findIdx? fun z => PyData.eqv z d with | some j => .ok (.int (j : Nat)) | none => .no) else .no
  | _ => .no
def dCount (xs ds : List D) : Rs D := match intsOf xs, ds with
  | some ns, [.int k] => .ok (.int (ns.count k : Nat))
  | _, _ => .no
def MlE (r : V → List V → Hp → VK → Prop) (g : List D → List D → Rs D) : Prop := ∀ O x vs H Q xs ds, (∀ a ∈ O, H a ≠ none) → DB O H x (.list xs) → DBAll O H vs ds → OkE O H Q (g xs ds) → r x vs H Q
theorem snd_bm {to : TE} {t : TA} {r : V → List V → Hp → VK → Prop} {g : List D → List D → Rs D} (ho : SndB cv W to fa) (h : SndAB cv W t fs) (hr : MlE r g) (hn : Noer g) : SndE cv W (tBM K "list" r to t) (apML g fa fs) := by
  intro O σ ρ H Q R p
  refine ho O σ ρ H _ R ?_
  unfold apML at p
  cases ea : fa ρ with
  | no => rw [ea] at p; exact p
  | er c => rw [ea] at p; exact p
  | ok d =>
    rw [ea, Rs.bind_ok] at p
    intro x H1 x1 q1
    cases d with
    | list xs =>
      dsimp only at p
      obtain ⟨l, ws, e1, h3, h4⟩ := q1.list
      refine ⟨by rw [e1]; exact Or.inl ⟨rfl, ws, SqL.of h3⟩, ?_⟩
      refine h O σ ρ H1 _ (R.mono x1) ?_
      cases eb : fs ρ with
      | no => rw [eb] at p; exact p
      | er c => rw [eb] at p; exact fun H2 x2 => p H2 (x1.trans x2)
      | ok ds =>
        rw [eb, Rs.bind_ok] at p
        intro vs H2 x2 q2
        refine hr O x vs H2 Q xs ds ((R.mono x1).mono x2).od (q1.mono x2) q2 ?_
        cases eg : g xs ds with
        | no => rw [eg] at p; exact p
        | er c => exact absurd eg (hn xs ds c)
        | ok z => rw [eg] at p; exact fun v H3 x3 q3 => p v H3 ((x1.trans x2).trans x3) q3
    | _ => exact p.elim
variable {o : Expr} {fo : En → Rs D} {name : Str} {apos cpos : Pos}
theorem e_bmL (F : Fam Xs P w K mg base N sc fnn k) {id : String} {r : V → List V → Hp → VK → Prop} {g : List D → List D → Rs D} (slot : PySem.Slot "list" name id) (hty : typeOf (.builtin id) = pure (.type "method_descriptor")) (hm : ∀ j, MtR (Xs j) id r) (hr : MlE r g) (hn : Noer g) (ho : EB cv W Xs o fo) (ha : EAB cv W Xs (e :: es) fs)
    (hbase : ∀ env, attributeBase o name env (eval o env) = eval o env)
    (hfew : ∀ env, ((backTo cpos (starEach (e :: es) env)).all (fun x => !x.1) && (backToKw cpos (keywordEach [] env)).all (fun x => x.1.isSome)
      && decide ((e :: es).length + ([] : List Keyword).length + (if ([] : List Keyword).isEmpty then 0 else 1) < 30)) = true)
    (hline : (apos.endLine == cpos.line) = true) (hs : ∀ env, starEach (e :: es) env = (false, eval e env) :: starEach es env) (hplain : ∀ env, (backTo cpos (starEach es env)).any (·.1) = false) :
    EE cv W Xs (.Call (.Attribute o name apos) (e :: es) [] cpos) (apML g fo fs) := by
  obtain ⟨to, h1, h2⟩ := ho
  obtain ⟨t, h3, h4⟩ := ha
  refine ⟨tBM K "list" r to t, fun j => ?_, snd_bm h2 h4 hr hn⟩
  have := pe_bm PySem.F.plainAttrs_list slot hty (hm j) (h1 j) (h3 j) (hbase _) (hfew _) hline (hs _) (hplain _)
  rw [F.kk j] at this
  exact this
theorem findIdx?_spec {xs : List D} {p : D → Bool} {j : Nat} (h : xs.findIdx? p = some j) : ∃ z, xs[j]? = some z ∧ p z = true ∧ ∀ (m : Nat) (z' : D), m < j → xs[m]? = some z' → p z' = false := by
  rw [List.findIdx?_eq_some_iff_getElem] at h
  obtain ⟨h1, h2, h3⟩ := h
  refine ⟨xs[j], List.getElem?_eq_getElem h1, h2, fun m z hm e => ?_⟩
  have hm' : m < xs.length := by omega
  rw [List.getElem?_eq_getElem hm'] at e
  cases e
  simpa using h3 m hm
theorem mle_index : MlE (rIndexD K) dIndex := by
  intro O x vs H Q xs ds od hx q p
  unfold dIndex at p
  split at p
  · split at p
    · split at p
      · rename_i hc _ j hj
        obtain ⟨v, rfl, qq⟩ := q.one
        obtain ⟨z, h1, h2, h3⟩ := findIdx?_spec hj
        obtain ⟨l, ws, e1, h4, h5⟩ := hx.list
        subst e1
        exact ⟨l, v, _, xs, j, z, rfl, rfl, hx.all.dp, qq.all.dp, hc.1, hc.2, h1, h2, h3, p _ H (Ex.refl H) (.int _)⟩
      · exact p.elim
    · exact p.elim
  · exact p.elim
theorem noer_index : Noer dIndex := fun x y c => by unfold dIndex; split <;> (try split) <;> (try split) <;> simp
theorem noer_count : Noer dCount := fun x y c => by unfold dCount; split <;> simp
theorem mle_count : MlE (rCntI K) dCount := by
  intro O x vs H Q xs ds od hx q p
  unfold dCount at p
  split at p
  · rename_i ns kk h
    have e := intsOf_eq h
    subst e
    obtain ⟨v, rfl, qq⟩ := q.one
    obtain ⟨l, ws, e1, h4, h5⟩ := hx.list
    subst e1
    have e := h5.ints
    subst e
    exact ⟨l, ns, kk, rfl, by rw [qq.int], SqL.of h4, p _ H (Ex.refl H) (.int _)⟩
  · exact p.elim
theorem e_index (F : Fam Xs P w K mg base N sc fnn k) (ho : EB cv W Xs o fo) (ha : EB cv W Xs a fa)
    (hbase : ∀ env, attributeBase o "index" env (eval o env) = eval o env := by intro _; rfl)
    (hline : (apos.endLine == cpos.line) = true := by rfl) (hs : ∀ env, starEach [a] env = (false, eval a env) :: starEach [] env := by intro _; rfl) :
    EE cv W Xs (.Call (.Attribute o "index" apos) [a] [] cpos) (apML dIndex fo (fCons fa fNil)) :=
  e_bmL F PySem.F.slot_list_index PySem.F.type_list_index (fun j => by have h := mt_indexD (X := Xs j) (F.units j); rw [F.kk j] at h; exact h) mle_index noer_index ho (ab_one ha hs) hbase (by intro env; rw [hs]; rfl) hline hs (by intro _; rfl)
theorem e_count (F : Fam Xs P w K mg base N sc fnn k) (ho : EB cv W Xs o fo) (ha : EB cv W Xs a fa)
    (hbase : ∀ env, attributeBase o "count" env (eval o env) = eval o env := by intro _; rfl)
    (hline : (apos.endLine == cpos.line) = true := by rfl) (hs : ∀ env, starEach [a] env = (false, eval a env) :: starEach [] env := by intro _; rfl) :
    EE cv W Xs (.Call (.Attribute o "count" apos) [a] [] cpos) (apML dCount fo (fCons fa fNil)) :=
  e_bmL F PySem.F.slot_list_count PySem.F.type_list_count (fun j => by have h := mt_lcount (X := Xs j); rw [F.kk j] at h; exact h) mle_count noer_count ho (ab_one ha hs) hbase (by intro env; rw [hs]; rfl) hline hs (by intro _; rfl)
end
end DL

namespace DL
open PySem L2

/-! ### statements: meanings -/
inductive Out where
  | nx (ρ : En) | rt (d : D) | bk (ρ : En) | ct (ρ : En) | ex (c : Nat) (ρ : En) | no
def ofR {α : Type} (r : Rs α) (ρ : En) (k : α → Out) : Out := match r with
  | .ok a => k a
  | .er c => .ex c ρ
  | .no => .no
@[simp] theorem ofR_ok {α : Type} (a : α) (ρ : En) (k : α → Out) : ofR (.ok a) ρ k = k a := rfl
@[simp] theorem ofR_er {α : Type} (c : Nat) (ρ : En) (k : α → Out) : ofR (.er c : Rs α) ρ k = .ex c ρ := rfl
@[simp] theorem ofR_no {α : Type} (ρ : En) (k : α → Out) : ofR (.no : Rs α) ρ k = .no := rfl
def sNil : En → Out := fun ρ => .nx ρ
def sSeq (F G : En → Out) : En → Out := fun ρ => match F ρ with
  | .nx ρ' => G ρ'
  | o => o
def sSet (i : Nat) (f : En → Rs D) : En → Out := fun ρ => ofR (f ρ) ρ fun d => .nx (ρ.set i (some (.sh d)))
def sOwn (i : Nat) (f : En → Rs D) : En → Out := fun ρ => ofR (f ρ) ρ fun d => match d with
  | .list ds => .nx (ρ.set i (some (.ow ds)))
  | _ => .no
def sAsg (T : Tg) (f : En → Rs D) : En → Out := fun ρ => ofR (f ρ) ρ fun d => match T.asg d ρ with
  | some ρ' => .nx ρ'
  | none => .no
def sPar (is : List Nat) (fs : En → Rs (List D)) : En → Out := fun ρ => ofR (fs ρ) ρ fun ds => if ds.length = is.length then .nx (setD ρ is ds) else .no
def sIf (c : En → Rs Bool) (F G : En → Out) : En → Out := fun ρ => ofR (c ρ) ρ fun b => if b = true then F ρ else G ρ
def sRet (f : En → Rs D) : En → Out := fun ρ => ofR (f ρ) ρ .rt
def sRetN : En → Out := fun _ => .rt .none
def sRetO (i : Nat) : En → Out := fun ρ => match ρ[i]? with
  | some (some (.ow ds)) => .rt (.list ds)
  | _ => .no
def sExp (f : En → Rs D) : En → Out := fun ρ => ofR (f ρ) ρ fun _ => .nx ρ
def sNo : En → Out := fun _ => .no
def sApp (i : Nat) (f : En → Rs D) : En → Out := fun ρ => match ρ[i]? with
  | some (some (.ow ds)) => ofR (f ρ) ρ fun d => if ds.length < LIM then .nx (ρ.set i (some (.ow (ds ++ [d])))) else .no
  | _ => .no
def sRem (i : Nat) (f : En → Rs D) : En → Out := fun ρ => match ρ[i]? with
  | some (some (.ow ds)) => ofR (f ρ) ρ fun d => match intsOf ds, d with
    | some ns, .int k => match ns.findIdx? (· == k) with
      | some j => .nx (ρ.set i (some (.ow ((ns.eraseIdx j).map PyData.int))))
      | none => .no
    | _, _ => .no
  | _ => .no
def sSetI (i : Nat) (fk f : En → Rs D) : En → Out := fun ρ => ofR (f ρ) ρ fun d => match ρ[i]? with
  | some (some (.ow ds)) => ofR (fk ρ) ρ fun e => match e with
    | .int k => match ixN ds.length k with
      | some j => .nx (ρ.set i (some (.ow (ds.set j d))))
      | none => .no
    | _ => .no
  | _ => .no
/-- x[k] += e, ints -/
def sAugI (i : Nat) (fk f : En → Rs D) : En → Out := fun ρ => match ρ[i]? with
  | some (some (.ow ds)) => ofR (fk ρ) ρ fun e => match e with
    | .int k => match ixN ds.length k with
      | some j => ofR (f ρ) ρ fun d => match ds[j]?, d with
        | some (.int u), .int v => .nx (ρ.set i (some (.ow (ds.set j (.int (u + v))))))
        | _, _ => .no
      | none => .no
    | _ => .no
  | _ => .no
/-- x += e, ints -/
def sAug (i : Nat) (g : D → D → Rs D) (f : En → Rs D) : En → Out := fun ρ => match ρ[i]? with
  | some (some (.sh x)) => ofR (f ρ) ρ fun d => ofR (g x d) ρ fun z => .nx (ρ.set i (some (.sh z)))
  | _ => .no
/-- x += [..], x an own list -/
def sExt (i : Nat) (f : En → Rs D) : En → Out := fun ρ => match ρ[i]? with
  | some (some (.ow ds)) => ofR (f ρ) ρ fun d => match d with
    | .list es => if ds.length + es.length ≤ LIM then .nx (ρ.set i (some (.ow (ds ++ es)))) else .no
    | _ => .no
  | _ => .no
/-- x[a], x[b] = (e, e') -/
def sSwap (i : Nat) (fa fb : En → Rs D) (fs : En → Rs (List D)) : En → Out := fun ρ => ofR (fs ρ) ρ fun ws => match ws, ρ[i]? with
  | [d, e], some (some (.ow ds)) => ofR (fa ρ) ρ fun x => match x with
    | .int ka => match ixN ds.length ka with
      | some ja => match fb (ρ.set i (some (.ow (ds.set ja d)))) with
        | .ok (.int kb) => match ixN ds.length kb with
          | some jb => .nx (ρ.set i (some (.ow ((ds.set ja d).set jb e))))
          | none => .no
        | _ => .no
      | none => .no
    | _ => .no
  | _, _ => .no
/-- from here on x is shared -/
def sFrz (i : Nat) (F : En → Out) : En → Out := fun ρ => match ρ[i]? with
  | some (some (.ow ds)) => F (ρ.set i (some (.sh (.list ds))))
  | _ => .no
def forL (T : Tg) (vs : List Nat) (body : En → Out) : List D → En → Out
  | [], ρ => .nx ρ
  | d :: r, ρ => match T.asg d ρ with
    | none => .no
    | some ρ1 => match body ρ1 with
      | .nx ρ' => forL T vs body r (wipeE ρ' vs)
      | .ct ρ' => forL T vs body r (wipeE ρ' vs)
      | .bk ρ' => .nx (wipeE ρ' vs)
      | o => o
def sFor (it : En → Rs (List D)) (T : Tg) (vs : List Nat) (body : En → Out) : En → Out := fun ρ => ofR (it ρ) ρ fun items => forL T vs body items (wipeE ρ vs)
def whileL (c : En → Rs Bool) (vs : List Nat) (body : En → Out) : Nat → En → Out
  | 0, _ => .no
  | n + 1, ρ => ofR (c ρ) ρ fun b => if b = true then (match body ρ with
      | .nx ρ' => whileL c vs body n (wipeE ρ' vs)
      | .ct ρ' => whileL c vs body n (wipeE ρ' vs)
      | .bk ρ' => .nx (wipeE ρ' vs)
      | o => o) else .nx ρ
def sWhile (n : Nat) (c : En → Rs Bool) (vs : List Nat) (body : En → Out) : En → Out := fun ρ => whileL c vs body n (wipeE ρ vs)

/-! ### the state of a body -/
structure RepS (Oc : List Addr) (H0 : Hp) (O : List Addr) (σ : St) (ρ : En) (H : Hp) : Prop where
  len : σ.length = ρ.length
  base : Ex H0 H
  oc : ∀ a ∈ Oc, a ∈ O
  oh : ∀ a ∈ Oc, H0 a ≠ none
  od : ∀ a ∈ O, H a ≠ none
  nt : NT O H
  fp : ∃ fp : Nat → List Addr, (∀ (i : Nat) (s : Sl), ρ[i]? = some (some s) → ∃ v, σ[i]? = some (some v) ∧ SlR O H s v (fp i)) ∧ (∀ i j a, a ∈ fp i → a ∈ fp j → i = j) ∧ ∀ i a, a ∈ fp i → a ∈ O ∧ H0 a = none
section
variable {Oc O : List Addr} {H0 H H' : Hp} {σ : St} {ρ : En} {i : Nat}
theorem RepS.e (h : RepS Oc H0 O σ ρ H) : RepE O σ ρ H := by
  obtain ⟨fp, h1, h2, h3⟩ := h.fp
  exact ⟨h.len, h.od, h.nt, fun i s e => by
    obtain ⟨v, q1, q2⟩ := h1 i s e
    exact ⟨v, _, q1, q2⟩⟩
theorem RepS.mono (h : RepS Oc H0 O σ ρ H) (x : Ex H H') : RepS Oc H0 O σ ρ H' := by
  obtain ⟨fp, h1, h2, h3⟩ := h.fp
  exact ⟨h.len, h.base.trans x, h.oc, h.oh, fun a ha z => h.od a ha (x.free z), h.nt.mono x h.od, fp, fun i s e => by
    obtain ⟨v, q1, q2⟩ := h1 i s e
    exact ⟨v, q1, q2.mono x⟩, h2, h3⟩
theorem RepS.forget (h : RepS Oc H0 O σ ρ H) (vs : List Nat) : RepS Oc H0 O σ (wipeE ρ vs) H := by
  obtain ⟨fp, h1, h2, h3⟩ := h.fp
  refine ⟨by rw [wipeE_length]; exact h.len, h.base, h.oc, h.oh, h.od, h.nt, fp, fun i s e => ?_, h2, h3⟩
  by_cases hi : i ∈ vs
  · exact absurd e (wipeE_not ρ vs i hi s)
  · rw [wipeE_get ρ vs i hi] at e
    exact h1 i s e
/-- a slot is stored; the cells that it owns are new ones -/
theorem RepS.put {O' : List Addr} {v : V} {s : Sl} {l : List Addr} (h : RepS Oc H0 O σ ρ H) (x : Ex H H') (ho : ∀ a ∈ O, a ∈ O') (hl : ∀ a ∈ l, a ∈ O' ∧ a ∉ O ∧ H0 a = none) (od : ∀ a ∈ O', H' a ≠ none) (nt : NT O' H') (e : Ex (hide O H) (hide O' H')) (q : SlR O' H' s v l) :
    RepS Oc H0 O' (σ.set i (some v)) (ρ.set i (some s)) H' := by
  obtain ⟨fp, h1, h2, h3⟩ := h.fp
  refine ⟨by rw [List.length_set, List.length_set]; exact h.len, h.base.trans x, fun a ha => ho a (h.oc a ha), h.oh, od, nt, fun j => if j = i then l else fp j, fun j s' ej => ?_, fun j j' a => ?_, fun j a => ?_⟩
  · by_cases hj : j = i
    · subst hj
      rw [List.getElem?_set, if_pos rfl] at ej ⊢
      by_cases hlt : j < ρ.length
      · rw [if_pos hlt] at ej
        rw [if_pos (h.len ▸ hlt)]
        cases ej
        exact ⟨v, rfl, by simpa using q⟩
      · rw [if_neg hlt] at ej
        cases ej
    · rw [List.getElem?_set_ne (Ne.symm hj)] at ej ⊢
      obtain ⟨u, q1, q2⟩ := h1 j s' ej
      refine ⟨u, q1, ?_⟩
      show SlR O' H' s' u (if j = i then l else fp j)
      rw [if_neg hj]
      cases s' with
      | sh d => exact ⟨q2.1, q2.2.mono e⟩
      | ow ds =>
        obtain ⟨a, vs', g1, g2, g3, g4⟩ := q2
        exact ⟨a, vs', g1, g2, x _ _ g3, g4.mono e⟩
      | dr ad an => exact ⟨q2.1, q2.2.1, q2.2.2.mono (x _) (x _)⟩
      | xo cl =>
        obtain ⟨g1, z, g2, g3⟩ := q2
        exact ⟨g1, z, g2, e _ _ g3⟩
      | mo o => exact ObR.stay e (fun a _ u q => x _ _ q) q2
  · intro ha hb
    by_cases hj : j = i
    · by_cases hj' : j' = i
      · rw [hj, hj']
      · simp only [hj, if_true] at ha
        simp only [hj', if_false] at hb
        exact absurd (h3 j' a hb).1 (hl a ha).2.1
    · by_cases hj' : j' = i
      · simp only [hj', if_true] at hb
        simp only [hj, if_false] at ha
        exact absurd (h3 j a ha).1 (hl a hb).2.1
      · simp only [hj, hj', if_false] at ha hb
        exact h2 j j' a ha hb
  · intro ha
    by_cases hj : j = i
    · simp only [hj, if_true] at ha
      exact ⟨(hl a ha).1, (hl a ha).2.2⟩
    · simp only [hj, if_false] at ha
      exact ⟨ho a (h3 j a ha).1, (h3 j a ha).2⟩
theorem RepS.set {v : V} {d : D} (h : RepS Oc H0 O σ ρ H) (q : Dq (hide O H) v d) : RepS Oc H0 O (σ.set i (some v)) (ρ.set i (some (.sh d))) H :=
  h.put (Ex.refl H) (fun _ z => z) (l := []) (fun a z => by simp at z) h.od h.nt (Ex.refl _) ⟨rfl, q⟩
theorem RepS.setD : ∀ {is : List Nat} {σ : St} {ρ : En} {vs : List V} {ds : List D}, RepS Oc H0 O σ ρ H → DqAll (hide O H) vs ds → RepS Oc H0 O (setV σ is vs) (setD ρ is ds) H
  | [], σ, ρ, vs, ds, h, q => h
  | i :: is, σ, ρ, _, _, h, .nil => h
  | i :: is, σ, ρ, _, _, h, .cons q r => by
    unfold setV DL.setD
    exact RepS.setD (h.set q) r
theorem RepS.own {p : Addr} {vs : List V} {ds : List D} (h : RepS Oc H0 O σ ρ H) (x : Ex H H') (hp : H p = none) (h2 : H' p = some (.lst vs)) (q : DqAll (hide (p :: O) H') vs ds) :
    RepS Oc H0 (p :: O) (σ.set i (some (.ref p))) (ρ.set i (some (.ow ds))) H' ∧ Ex (hide O H) (hide (p :: O) H') := by
  have e : Ex (hide O H) (hide (p :: O) H') := (hide_cons hp).trans (hide_ex x)
  refine ⟨h.put x (fun a z => List.mem_cons_of_mem _ z) (l := [p]) (fun a z => ?_) (fun a z => ?_) (NT.cons h2 lst_nt (h.nt.mono x h.od)) e ⟨p, vs, rfl, rfl, h2, q⟩, e⟩
  · rcases List.mem_singleton.mp z with rfl
    exact ⟨by simp, fun z => h.od a z hp, h.base.free hp⟩
  · rcases List.mem_cons.mp z with rfl | z
    · rw [h2]; simp
    · exact fun y => h.od a z (x.free y)
/-- what stands at an owned slot -/
theorem RepS.at_own {ds : List D} (h : RepS Oc H0 O σ ρ H) (e : ρ[i]? = some (some (.ow ds))) : ∃ a vs, σ[i]? = some (some (.ref a)) ∧ a ∈ O ∧ H0 a = none ∧ H a = some (.lst vs) ∧ DqAll (hide O H) vs ds := by
  obtain ⟨fp, h1, h2, h3⟩ := h.fp
  obtain ⟨v, q1, a, vs, q2, q3, q4, q5⟩ := h1 i _ e
  subst q2
  obtain ⟨g1, g2⟩ := h3 i a (by rw [q3]; simp)
  exact ⟨a, vs, q1, g1, g2, q4, q5⟩
/-- the owned list is changed -/
theorem RepS.mut {ds es : List D} {a : Addr} {ws : List V} (h : RepS Oc H0 O σ ρ H) (e : ρ[i]? = some (some (.ow ds))) (ea : σ[i]? = some (some (.ref a))) (q : DqAll (hide O H) ws es) :
    RepS Oc H0 O σ (ρ.set i (some (.ow es))) (upd H a (.lst ws)) ∧ Ex (hide O H) (hide O (upd H a (.lst ws))) := by
  obtain ⟨fp, h1, h2, h3⟩ := h.fp
  obtain ⟨v, q1, b, vs, q2, q3, q4, q5⟩ := h1 i _ e
  subst q2
  rw [ea] at q1
  cases q1
  obtain ⟨g1, g2⟩ := h3 i a (by rw [q3]; simp)
  have ex : Ex (hide O H) (hide O (upd H a (.lst ws))) := hide_own g1
  refine ⟨⟨by rw [List.length_set]; exact h.len, fun b o hb => ?_, h.oc, h.oh, fun b hb => ?_, h.nt.upd lst_nt, fp, fun j s ej => ?_, h2, h3⟩, ex⟩
  · rw [upd_ne (ne_of_none hb g2)]
    exact h.base b o hb
  · by_cases hba : b = a
    · subst hba; rw [upd_same]; simp
    · rw [upd_ne hba]; exact h.od b hb
  · by_cases hj : i = j
    · subst hj
      have hlt : i < ρ.length := by
        rw [List.getElem?_eq_some_iff] at e
        exact e.1
      rw [List.getElem?_set, if_pos rfl, if_pos hlt] at ej
      cases ej
      exact ⟨_, ea, a, ws, rfl, q3, upd_same, q.mono ex⟩
    · rw [List.getElem?_set_ne hj] at ej
      obtain ⟨u, p1, p2⟩ := h1 j s ej
      refine ⟨u, p1, ?_⟩
      have ne : ∀ b ∈ fp j, b ≠ a := fun b hb z => hj (h2 i j a (by rw [q3]; simp) (z ▸ hb))
      exact p2.moved ex fun b hb => upd_ne (ne b hb)
/-- the owned list becomes shared -/
theorem RepS.frz {ds : List D} (h : RepS Oc H0 O σ ρ H) (e : ρ[i]? = some (some (.ow ds))) : ∃ O', RepS Oc H0 O' σ (ρ.set i (some (.sh (.list ds)))) H ∧ Ex (hide O H) (hide O' H) := by
  obtain ⟨fp, h1, h2, h3⟩ := h.fp
  obtain ⟨v, q1, a, vs, q2, q3, q4, q5⟩ := h1 i _ e
  subst q2
  obtain ⟨g1, g2⟩ := h3 i a (by rw [q3]; simp)
  have hs : ∀ b ∈ O.filter (fun b => decide (b ≠ a)), b ∈ O := fun b hb => (List.mem_filter.mp hb).1
  have ex : Ex (hide O H) (hide (O.filter (fun b => decide (b ≠ a))) H) := hide_sub hs
  refine ⟨O.filter (fun b => decide (b ≠ a)), ⟨by rw [List.length_set]; exact h.len, h.base, fun b hb => ?_, h.oh, fun b hb => h.od b (hs b hb), fun b hb => h.nt b (hs b hb), fun j => if j = i then [] else fp j, fun j s ej => ?_, fun j j' b => ?_, fun j b => ?_⟩, ex⟩
  · exact List.mem_filter.mpr ⟨h.oc b hb, decide_eq_true fun z => h.oh b hb (by rw [z]; exact g2)⟩
  · by_cases hj : j = i
    · subst hj
      have hlt : j < ρ.length := by
        rw [List.getElem?_eq_some_iff] at e
        exact e.1
      rw [List.getElem?_set, if_pos rfl, if_pos hlt] at ej
      cases ej
      refine ⟨_, q1, by simp, .lst (hide_some.mpr ⟨?_, q4⟩) (q5.mono ex)⟩
      intro z
      simpa using (List.mem_filter.mp z).2
    · rw [List.getElem?_set_ne (Ne.symm hj)] at ej
      obtain ⟨u, p1, p2⟩ := h1 j s ej
      refine ⟨u, p1, ?_⟩
      show SlR _ H s u (if j = i then [] else fp j)
      rw [if_neg hj]
      exact p2.moved ex fun b hb => rfl
  · intro hb hb'
    by_cases hj : j = i
    · simp [hj] at hb
    · by_cases hj' : j' = i
      · simp [hj'] at hb'
      · simp only [hj, hj', if_false] at hb hb'
        exact h2 j j' b hb hb'
  · intro hb
    by_cases hj : j = i
    · simp [hj] at hb
    · simp only [hj, if_false] at hb
      obtain ⟨p1, p2⟩ := h3 j b hb
      refine ⟨List.mem_filter.mpr ⟨p1, decide_eq_true fun z => ?_⟩, p2⟩
      subst z
      exact hj (h2 j i b hb (by rw [q3]; simp))
end

/-! ### what a statement's meaning says of its reading -/
/-- ways to hand back: data; a new list; anything -/
inductive RM where
  | dat | lst | any
def Ret (Oc : List Addr) (H0 : Hp) : RM → Hp → V → D → Prop
  | .dat, H', v, d => Dq (hide Oc H') v d
  | .any, _, _, _ => True
  | .lst, H', v, d => ∃ p vs ds, v = .ref p ∧ d = .list ds ∧ H0 p = none ∧ H' p = some (.lst vs) ∧ DqAll (hide (p :: Oc) H') vs ds
def PosS (cv : Nat → Value) (W : WX) (fr : RM) (Oc : List Addr) (H0 : Hp) (O : List Addr) (H : Hp) (Z : Ends) : Out → Prop
  | .nx ρ' => ∀ O' σ' H', RepS Oc H0 O' σ' ρ' H' → Ex (hide O H) (hide O' H') → Z.nx σ' H'
  | .rt d => ∀ v H', Ex H0 H' → Ret Oc H0 fr H' v d → Z.rt v H'
  | .bk ρ' => ∀ O' σ' H', RepS Oc H0 O' σ' ρ' H' → Ex (hide O H) (hide O' H') → Z.bk σ' H'
  | .ct ρ' => ∀ O' σ' H', RepS Oc H0 O' σ' ρ' H' → Ex (hide O H) (hide O' H') → Z.ct σ' H'
  | .ex c ρ' => ∀ O' σ' H', RepS Oc H0 O' σ' ρ' H' → Ex (hide O H) (hide O' H') → W (cv c) none σ' H'
  | .no => False
def SndS (cv : Nat → Value) (W : WX) (fr : RM) (t : TS) (F : En → Out) : Prop := ∀ Oc H0 O σ ρ H Z, RepS Oc H0 O σ ρ H → PosS cv W fr Oc H0 O H Z (F ρ) → t Z σ H
section
variable {ι : Type} (cv : Nat → Value) (W : WX) (fr : RM) (Xs : ι → Cx)
def SS (s : Stmt) (F : En → Out) : Prop := ∃ t, (∀ j, PS (Xs j) s t) ∧ SndS cv W fr t F
def SSs (ss : List Stmt) (F : En → Out) : Prop := ∃ t, (∀ j, PSs (Xs j) ss t) ∧ SndS cv W fr t F
end
section
variable {cv : Nat → Value} {W : WX} {fr : RM} {Oc O O2 : List Addr} {H0 H H2 : Hp} {σ : St} {ρ : En} {Z : Ends}
/-- the same wish a little later -/
theorem PosS.later (e : Ex (hide O H) (hide O2 H2)) : ∀ {o : Out}, PosS cv W fr Oc H0 O H Z o → PosS cv W fr Oc H0 O2 H2 Z o
  | .nx ρ', p => fun O' σ' H' r x => p O' σ' H' r (e.trans x)
  | .rt d, p => p
  | .bk ρ', p => fun O' σ' H' r x => p O' σ' H' r (e.trans x)
  | .ct ρ', p => fun O' σ' H' r x => p O' σ' H' r (e.trans x)
  | .ex c ρ', p => fun O' σ' H' r x => p O' σ' H' r (e.trans x)
  | .no, p => p
/-- an expression in a statement -/
theorem posE_of {r : Rs D} {k : D → Out} {Q : VK} (R : RepS Oc H0 O σ ρ H) (p : PosS cv W fr Oc H0 O H Z (ofR r ρ k)) (h : ∀ d, r = .ok d → ∀ v H2, Ex H H2 → Dq (hide O H2) v d → PosS cv W fr Oc H0 O H Z (k d) → Q v H2) : PosE cv W O σ H Q r := by
  cases r with
  | ok d => exact fun v H2 x q => h d rfl v H2 x q p
  | er c => exact fun H2 x => p O σ H2 (R.mono x) (hide_ex x)
  | no => exact p
theorem posB_of {r : Rs D} {k : D → Out} {Q : VK} (R : RepS Oc H0 O σ ρ H) (p : PosS cv W fr Oc H0 O H Z (ofR r ρ k)) (h : ∀ d, r = .ok d → ∀ v H2, Ex H H2 → DB O H2 v d → PosS cv W fr Oc H0 O H Z (k d) → Q v H2) : PosB cv W O σ H Q r := by
  cases r with
  | ok d => exact fun v H2 x q => h d rfl v H2 x q p
  | er c => exact fun H2 x => p O σ H2 (R.mono x) (hide_ex x)
  | no => exact p
theorem posF_of {r : Rs D} {k : D → Out} {Q : VK} (R : RepS Oc H0 O σ ρ H) (p : PosS cv W fr Oc H0 O H Z (ofR r ρ k)) (h : ∀ ds, r = .ok (.list ds) → ∀ q vs H2, Ex H H2 → H q = none → H2 q = some (.lst vs) → DqAll (hide (q :: O) H2) vs ds → PosS cv W fr Oc H0 O H Z (k (.list ds)) → Q (.ref q) H2) : PosF cv W O σ H Q r := by
  cases r with
  | ok d => exact fun q vs ds H2 e x n1 h2 q2 => by subst e; exact h ds rfl q vs H2 x n1 h2 q2 p
  | er c => exact fun H2 x => p O σ H2 (R.mono x) (hide_ex x)
  | no => exact p
theorem posT_of {r : Rs Bool} {k : Bool → Out} {Q : Bool → Hp → Prop} (R : RepS Oc H0 O σ ρ H) (p : PosS cv W fr Oc H0 O H Z (ofR r ρ k)) (h : ∀ b, r = .ok b → ∀ H2, Ex H H2 → PosS cv W fr Oc H0 O H Z (k b) → Q b H2) : PosT cv W O σ H Q r := by
  cases r with
  | ok d => exact fun H2 x => h d rfl H2 x p
  | er c => exact fun H2 x => p O σ H2 (R.mono x) (hide_ex x)
  | no => exact p
theorem posA_of {r : Rs (List D)} {k : List D → Out} {Q : List V → Hp → Prop} (R : RepS Oc H0 O σ ρ H) (p : PosS cv W fr Oc H0 O H Z (ofR r ρ k)) (h : ∀ ds, r = .ok ds → ∀ vs H2, Ex H H2 → DqAll (hide O H2) vs ds → PosS cv W fr Oc H0 O H Z (k ds) → Q vs H2) : PosA cv W O σ H Q r := by
  cases r with
  | ok d => exact fun v H2 x q => h d rfl v H2 x q p
  | er c => exact fun H2 x => p O σ H2 (R.mono x) (hide_ex x)
  | no => exact p
end
end DL

namespace DL
open PySem L2
section
variable {ι : Type} {cv : Nat → Value} {W W' : WX} {fr : RM} {Xs : ι → Cx} {P : Program} {w : World} {K : PySem.W.Frag} {mg : Str → Option Value} {base : Heap} {N : List Str} {sc : Scope} {fnn : Str → Bool} {k : Nat}
variable {e a b c tg iter elt : Expr} {es ifs : List Expr} {f fa fb fc fe fk : En → Rs D} {fs : En → Rs (List D)} {ft : En → Rs Bool} {it : En → Rs (List D)} {pos ppos npos : Pos} {is : List Nat} {T : Tg} {scope : Scope} {st : Stmt} {rest ss ss' : List Stmt} {F G : En → Out} {te : TE} {i : Nat} {x : Str}

theorem s_nil : SSs cv W fr Xs [] sNil := ⟨tNext, fun _ => pss_nil, fun Oc H0 O σ ρ H Z R p => p O σ H R (Ex.refl _)⟩
theorem s_one (h : SS cv W fr Xs st F) : SSs cv W fr Xs [st] F := by
  obtain ⟨t, h1, h2⟩ := h
  exact ⟨t, fun j => pss_one (h1 j), h2⟩
theorem s_cons (h : SS cv W fr Xs st F) (hr : SSs cv W fr Xs rest G) : SSs cv W fr Xs (st :: rest) (sSeq F G) := by
  obtain ⟨t, h1, h2⟩ := h
  obtain ⟨u, h3, h4⟩ := hr
  refine ⟨_, fun j => pss_cons (h1 j) (h3 j), fun Oc H0 O σ ρ H Z R p => h2 Oc H0 O σ ρ H _ R ?_⟩
  unfold sSeq at p
  cases e : F ρ with
  | nx ρ' => rw [e] at p; exact fun O' σ' H' R' x => h4 Oc H0 O' σ' ρ' H' Z R' (p.later x)
  | rt d => rw [e] at p; exact p
  | bk ρ' => rw [e] at p; exact p
  | ct ρ' => rw [e] at p; exact p
  | ex c ρ' => rw [e] at p; exact p
  | no => rw [e] at p; exact p
theorem s_frz (i : Nat) (h : SS cv W fr Xs st F) : SS cv W fr Xs st (sFrz i F) := by
  obtain ⟨t, h1, h2⟩ := h
  refine ⟨t, h1, fun Oc H0 O σ ρ H Z R p => ?_⟩
  unfold sFrz at p
  split at p
  · rename_i ds e
    obtain ⟨O', R', x⟩ := R.frz e
    exact h2 Oc H0 O' σ _ H Z R' (p.later x)
  · exact p.elim
theorem s_never : SS cv W fr Xs st sNo := ⟨tNever, fun _ => ps_never, fun Oc H0 O σ ρ H Z R p => p.elim⟩
theorem snd_set (h : SndE cv W te f) : SndS cv W fr (tAsg te (gName i)) (sSet i f) := fun Oc H0 O σ ρ H Z R p => h O σ ρ H _ R.e (posE_of R p fun d _ v H2 x q p => p O _ H2 ((R.mono x).set q) (hide_ex x))
theorem snd_own (h : SndF cv W te f) : SndS cv W fr (tAsg te (gName i)) (sOwn i f) := fun Oc H0 O σ ρ H Z R p => h O σ ρ H _ R.e (posF_of R p fun ds _ q vs H2 x n1 h2 q2 p => by
  obtain ⟨R', e⟩ := R.own (i := i) x n1 h2 q2
  exact p _ _ H2 R' e)
/-- x = e -/
theorem s_set (Fm : Fam Xs P w K mg base N sc fnn k) (i : Nat) (h : EE cv W Xs e f) (hN : N[i]? = some x := by rfl) (hx : stB fnn sc x = true := by decide +kernel) (hs : ∀ env, swapsWith e (some (.Name x npos)) pos.line env = pure false := by intro _; rfl) :
    SS cv W fr Xs (.Assign [.Name x npos] e pos) (sSet i f) := by
  obtain ⟨t, h1, h2⟩ := h
  exact ⟨_, fun j => ps_set (Fm.ndj j) (Fm.at hN j) (Fm.loc hx j) (h1 j) (hs _) (Fm.hf hx j), snd_set h2⟩
theorem s_own (Fm : Fam Xs P w K mg base N sc fnn k) (i : Nat) (h : EF cv W Xs e f) (hN : N[i]? = some x := by rfl) (hx : stB fnn sc x = true := by decide +kernel) (hs : ∀ env, swapsWith e (some (.Name x npos)) pos.line env = pure false := by intro _; rfl) :
    SS cv W fr Xs (.Assign [.Name x npos] e pos) (sOwn i f) := by
  obtain ⟨t, h1, h2⟩ := h
  exact ⟨_, fun j => ps_set (Fm.ndj j) (Fm.at hN j) (Fm.loc hx j) (h1 j) (hs _) (Fm.hf hx j), snd_own h2⟩
/-- x = [elt for tg in iter if ..], x a plain local -/
theorem lc_set (Fm : Fam Xs P w K mg base N sc fnn k) (i : Nat) (own : List (Str × Nat)) (hi : EI cv W Xs tg iter it)
    (hg : Fam (blkF Xs scope) P w K mg base N (relS scope sc) (fun x => scope.names.lookup x == Option.some NameKind.cell) k → EG (blkF Xs scope) tg T)
    (ht : Fam (blkF Xs scope) P w K mg base N (relS scope sc) (fun x => scope.names.lookup x == Option.some NameKind.cell) k → ETs cv W' (blkF Xs scope) ifs ft)
    (he : Fam (blkF Xs scope) P w K mg base N (relS scope sc) (fun x => scope.names.lookup x == Option.some NameKind.cell) k → EE cv W' (blkF Xs scope) elt fe)
    (hN : N[i]? = some x) (hx : isLoc sc x = true) (hk : sc.kind = .function) (hl : (npos.line == ppos.line) = true) (ha : (scope.names.any fun (n, k) => n == x && (k == .local || k == .cell)) = false)
    (ok : blkC N sc scope own = true) (hv : ∀ i ∈ T.ix, i ∈ own.map (·.2)) (hs : ∀ env x, foldedSetIterable iter env x = pure x) :
    ∃ te, (∀ j, PS (Xs j) (.Assign [.Name x npos] (.ListComp elt [⟨tg, iter, ifs, 0⟩] scope ppos) pos) (tAsg te (gName i))) ∧ SndF cv W te (fComp it T ft fe (own.map (·.2))) := by
  obtain ⟨ti, h1, h2⟩ := hi
  obtain ⟨g, h3, h4⟩ := hg (Fm.blk scope)
  obtain ⟨tt, h5, h6⟩ := ht (Fm.blk scope)
  obtain ⟨te, h7, h8⟩ := he (Fm.blk scope)
  refine ⟨tLc ti g tt te (own.map (·.2)), fun j => ?_, snd_comp h2 h4 h6 h8 hv⟩
  have hy : (Xs j).env.scope.names.lookup x = some .local := by rw [Fm.scp j]; exact isLoc_of hx
  refine ps_setLc (Fm.calm j) (Fm.ndj j) (Fm.at hN j) hy (sw_true (by rw [Fm.scp j]; exact hk) hy hl ha) (h1 j) ?_ (fun s H C cl fp => h3 (j, s, H, C, cl, fp)) (fun s H C cl fp => h5 (j, s, H, C, cl, fp)) (fun s H C cl fp => h7 (j, s, H, C, cl, fp)) (hs _)
  rw [Fm.nm j, Fm.scp j]
  exact blkOk_by ok
theorem s_setLc (Fm : Fam Xs P w K mg base N sc fnn k) (i : Nat) (own : List (Str × Nat)) (hi : EI cv W Xs tg iter it)
    (hg : Fam (blkF Xs scope) P w K mg base N (relS scope sc) (fun x => scope.names.lookup x == Option.some NameKind.cell) k → EG (blkF Xs scope) tg T)
    (ht : Fam (blkF Xs scope) P w K mg base N (relS scope sc) (fun x => scope.names.lookup x == Option.some NameKind.cell) k → ETs cv W' (blkF Xs scope) ifs ft)
    (he : Fam (blkF Xs scope) P w K mg base N (relS scope sc) (fun x => scope.names.lookup x == Option.some NameKind.cell) k → EE cv W' (blkF Xs scope) elt fe)
    (hN : N[i]? = some x := by rfl) (hx : isLoc sc x = true := by decide +kernel) (hk : sc.kind = .function := by decide +kernel) (hl : (npos.line == ppos.line) = true := by decide +kernel) (ha : (scope.names.any fun (n, k) => n == x && (k == .local || k == .cell)) = false := by decide +kernel)
    (ok : blkC N sc scope own = true := by decide +kernel) (hv : ∀ i ∈ T.ix, i ∈ own.map (·.2) := by decide) (hs : ∀ env x, foldedSetIterable iter env x = pure x := by intro _ _; rfl) :
    SS cv W fr Xs (.Assign [.Name x npos] (.ListComp elt [⟨tg, iter, ifs, 0⟩] scope ppos) pos) (sSet i (fComp it T ft fe (own.map (·.2)))) := by
  obtain ⟨te, h1, h2⟩ := lc_set (npos := npos) (pos := pos) (ppos := ppos) Fm i own hi hg ht he hN hx hk hl ha ok hv hs
  exact ⟨_, h1, snd_set h2.e⟩
theorem s_ownLc (Fm : Fam Xs P w K mg base N sc fnn k) (i : Nat) (own : List (Str × Nat)) (hi : EI cv W Xs tg iter it)
    (hg : Fam (blkF Xs scope) P w K mg base N (relS scope sc) (fun x => scope.names.lookup x == Option.some NameKind.cell) k → EG (blkF Xs scope) tg T)
    (ht : Fam (blkF Xs scope) P w K mg base N (relS scope sc) (fun x => scope.names.lookup x == Option.some NameKind.cell) k → ETs cv W' (blkF Xs scope) ifs ft)
    (he : Fam (blkF Xs scope) P w K mg base N (relS scope sc) (fun x => scope.names.lookup x == Option.some NameKind.cell) k → EE cv W' (blkF Xs scope) elt fe)
    (hN : N[i]? = some x := by rfl) (hx : isLoc sc x = true := by decide +kernel) (hk : sc.kind = .function := by decide +kernel) (hl : (npos.line == ppos.line) = true := by decide +kernel) (ha : (scope.names.any fun (n, k) => n == x && (k == .local || k == .cell)) = false := by decide +kernel)
    (ok : blkC N sc scope own = true := by decide +kernel) (hv : ∀ i ∈ T.ix, i ∈ own.map (·.2) := by decide) (hs : ∀ env x, foldedSetIterable iter env x = pure x := by intro _ _; rfl) :
    SS cv W fr Xs (.Assign [.Name x npos] (.ListComp elt [⟨tg, iter, ifs, 0⟩] scope ppos) pos) (sOwn i (fComp it T ft fe (own.map (·.2)))) := by
  obtain ⟨te, h1, h2⟩ := lc_set (npos := npos) (pos := pos) (ppos := ppos) Fm i own hi hg ht he hN hx hk hl ha ok hv hs
  exact ⟨_, h1, snd_own h2⟩
/-- tg = e, by parts -/
theorem s_asg (h : EE cv W Xs e f) (hg : EG Xs tg T) (hs : ∀ env, swapsWithSole [tg] e pos.line env = pure false := by intro _; rfl) (hw : ∀ j, swappedStores [tg] e (Xs j).env = pure none := by intro _; rfl)
    (h1 : ∀ env, (assignEach [tg] env).map (·.2) = [assign tg env] := by intro _; rfl) : SS cv W fr Xs (.Assign [tg] e pos) (sAsg T f) := by
  obtain ⟨t, h2, h3⟩ := h
  obtain ⟨g, h4, h5⟩ := hg
  refine ⟨_, fun j => ps_asg (h2 j) (h4 j) (hs _) (hw j) (h1 _), fun Oc H0 O σ ρ H Z R p => h3 O σ ρ H _ R.e (posE_of R p fun d hr0 v H2 x q p => ?_)⟩
  unfold Tg.asg at p
  cases ep : T.parts d with
  | none => rw [ep] at p; exact p.elim
  | some ds =>
    rw [ep] at p
    exact h5 v d ds σ H2 _ _ q hide_le ep fun ws hws => p O _ H2 ((R.mono x).setD hws) (hide_ex x)
/-- the names of a tuple of targets that are plain locals on one line -/
def swNames (sc : Scope) (ts : List Expr) : List Str := ts.filterMap fun
  | .Name id pos => if sc.names.lookup id == some .local && pos.line == (ts.head?.map (·.pos.line)).getD 0 then some id else none
  | _ => none
theorem swapped_none {ts vs : List Expr} {kt k2 : Nat} {pt p2 : Pos} {env : Env} (he : env.scope = sc) (h : ((swNames sc ts).length != ts.length) = true) : swappedStores [.Tuple ts kt pt] (.Tuple vs k2 p2) env = pure none := by
  unfold swappedStores
  have e1 : ∀ id, env.kindOf id = sc.names.lookup id := fun id => by unfold Env.kindOf; rw [he]
  dsimp only
  split
  · rfl
  · split
    · rfl
    · simp only [e1]
      generalize hq : List.filterMap _ ts = l
      have e2 : l = swNames sc ts := by rw [← hq]; rfl
      rw [e2, if_pos (by rw [h]; rfl)]
theorem swapped_some {ts vs : List Expr} {ns : List Str} {kt k2 : Nat} {pt p2 : Pos} {env : Env} (he : env.scope = sc) (hk : sc.kind = .function) (hn : swNames sc ts = ns) (hl : ns.length = ts.length) (hd : (ns.eraseDups.length != ns.length) = false) (h2 : (ts.length == 2 || ts.length == 3) = true) (hv : (vs.length != ts.length) = false)
    (hst : (vs.any fun | .Starred .. => true | _ => false) = false) (hf : vs.all (foldedForSure 8) = false) (hc : vs.all (constantsAlone 8) = false) : swappedStores [.Tuple ts kt pt] (.Tuple vs k2 p2) env = pure (some ns) := by
  unfold swappedStores
  have e1 : ∀ id, env.kindOf id = sc.names.lookup id := fun id => by unfold Env.kindOf; rw [he]
  have e3 : (env.blockKind != ScopeKind.function) = false := by unfold Env.blockKind; rw [he, hk]; rfl
  dsimp only
  rw [h2, hv, e3]
  rw [if_neg (by decide)]
  generalize hq0 : vs.any _ = l0
  have hst' : l0 = false := by rw [← hq0]; exact hst
  rw [if_neg (by rw [hst']; decide)]
  simp only [e1]
  generalize hq : List.filterMap _ ts = l
  have e2 : l = swNames sc ts := by rw [← hq]; rfl
  rw [e2, hn, hd, hl, if_neg (by simp), hf, hc, if_neg (by decide), if_neg (by decide)]
theorem s_asgT (Fm : Fam Xs P w K mg base N sc fnn k) {ts vs : List Expr} {kt k2 : Nat} {pt p2 : Pos} (h : EE cv W Xs (.Tuple vs k2 p2) f) (hg : EG Xs (.Tuple ts kt pt) T) (hw : ((swNames sc ts).length != ts.length) = true := by decide +kernel)
    (h1 : ∀ env, (assignEach [.Tuple ts kt pt] env).map (·.2) = [assign (.Tuple ts kt pt) env] := by intro _; rfl) : SS cv W fr Xs (.Assign [.Tuple ts kt pt] (.Tuple vs k2 p2) pos) (sAsg T f) :=
  s_asg h hg (fun _ => rfl) (fun j => swapped_none (Fm.scp j) hw) h1
/-- x, y = e, e' with plain locals -/
theorem s_par2 (Fm : Fam Xs P w K mg base N sc fnn k) (i i' : Nat) {y : Str} {px py pt p2 : Pos} {kt k2 : Nat} (ha : EA cv W Xs [a, b] fs) (hi : N[i]? = some x := by rfl) (hj : N[i']? = some y := by rfl) (hij : i ≠ i' := by decide) (hx : isLoc sc x = true := by decide +kernel) (hy : isLoc sc y = true := by decide +kernel) (hk : sc.kind = .function := by decide +kernel)
    (hn : swNames sc [.Name x px, .Name y py] = [x, y] := by decide +kernel) (hd : (([x, y] : List Str).eraseDups.length != ([x, y] : List Str).length) = false := by decide +kernel) (hst : ([a, b].any fun | .Starred .. => true | _ => false) = false := by rfl) (hf : [a, b].all (foldedForSure 8) = false := by rfl) (hc : [a, b].all (constantsAlone 8) = false := by rfl) :
    SS cv W fr Xs (.Assign [.Tuple [.Name x px, .Name y py] kt pt] (.Tuple [a, b] k2 p2) pos) (sPar [i, i'] fs) := by
  obtain ⟨t, h1, h2⟩ := ha
  refine ⟨tPar i i' t, fun j => ps_par (Fm.calm j) (Fm.ndj j) (Fm.at hi j) (Fm.at hj j) hij (by rw [Fm.scp j]; exact isLoc_of hx) (by rw [Fm.scp j]; exact isLoc_of hy) (h1 j) (swapped_some (Fm.scp j) hk hn rfl hd rfl rfl hst hf hc) rfl, fun Oc H0 O σ ρ H Z R p => h2 O σ ρ H _ R.e (posA_of R p fun ds _ vs H2 x q p => ?_)⟩
  by_cases hl : ds.length = 2
  · rw [if_pos (by exact hl)] at p
    match vs, ds, q, hl with
    | [v, v'], [d, d'], q, _ => exact ⟨v, v', rfl, p O _ H2 ((R.mono x).setD (is := [i, i']) q) (hide_ex x)⟩
    | [], [d, d'], q, _ => cases q
    | [_], [d, d'], q, _ => cases q; rename_i q; cases q
    | _ :: _ :: _ :: _, [d, d'], q, _ => have := q.length; simp at this
  · rw [if_neg (by exact hl)] at p
    exact p.elim
theorem s_par3 (Fm : Fam Xs P w K mg base N sc fnn k) (i i' i'' : Nat) {y z : Str} {px py pz pt p2 : Pos} {kt k2 : Nat} (ha : EA cv W Xs [a, b, c] fs) (hi : N[i]? = some x := by rfl) (hj : N[i']? = some y := by rfl) (hl : N[i'']? = some z := by rfl) (hij : i ≠ i' := by decide) (hil : i ≠ i'' := by decide) (hjl : i' ≠ i'' := by decide) (hx : isLoc sc x = true := by decide +kernel) (hy : isLoc sc y = true := by decide +kernel) (hz : isLoc sc z = true := by decide +kernel) (hk : sc.kind = .function := by decide +kernel)
    (hn : swNames sc [.Name x px, .Name y py, .Name z pz] = [x, y, z] := by decide +kernel) (hd : (([x, y, z] : List Str).eraseDups.length != ([x, y, z] : List Str).length) = false := by decide +kernel) (hst : ([a, b, c].any fun | .Starred .. => true | _ => false) = false := by rfl) (hf : [a, b, c].all (foldedForSure 8) = false := by rfl) (hc : [a, b, c].all (constantsAlone 8) = false := by rfl) :
    SS cv W fr Xs (.Assign [.Tuple [.Name x px, .Name y py, .Name z pz] kt pt] (.Tuple [a, b, c] k2 p2) pos) (sPar [i, i', i''] fs) := by
  obtain ⟨t, h1, h2⟩ := ha
  refine ⟨_, fun j => ps_par3 (Fm.calm j) (Fm.ndj j) (Fm.at hi j) (Fm.at hj j) (Fm.at hl j) hij hil hjl (by rw [Fm.scp j]; exact isLoc_of hx) (by rw [Fm.scp j]; exact isLoc_of hy) (by rw [Fm.scp j]; exact isLoc_of hz) (h1 j) (swapped_some (Fm.scp j) hk hn rfl hd rfl rfl hst hf hc) rfl, fun Oc H0 O σ ρ H Z R p => h2 O σ ρ H _ R.e (posA_of R p fun ds _ vs H2 x q p => ?_)⟩
  by_cases hl : ds.length = 3
  · rw [if_pos (by exact hl)] at p
    match vs, ds, q, hl with
    | [v, v', v''], [d, d', d''], q, _ => exact ⟨v, v', v'', rfl, p O _ H2 ((R.mono x).setD (is := [i, i', i'']) q) (hide_ex x)⟩
    | [], [d, d', d''], q, _ => cases q
    | [_], [d, d', d''], q, _ => have := q.length; simp at this
    | [_, _], [d, d', d''], q, _ => have := q.length; simp at this
    | _ :: _ :: _ :: _ :: _, [d, d', d''], q, _ => have := q.length; simp at this
  · rw [if_neg (by exact hl)] at p
    exact p.elim
theorem s_if (h : ET cv W Xs c ft) (h1 : SSs cv W fr Xs ss F) (h2 : SSs cv W fr Xs ss' G) : SS cv W fr Xs (.If c ss ss' pos) (sIf ft F G) := by
  obtain ⟨t, h3, h4⟩ := h
  obtain ⟨u, h5, h6⟩ := h1
  obtain ⟨v, h7, h8⟩ := h2
  refine ⟨_, fun j => ps_if (h3 j) (h5 j) (h7 j), fun Oc H0 O σ ρ H Z R p => h4 O σ ρ H _ R.e (posT_of R p fun b _ H2 x p => ?_)⟩
  cases b with
  | true => rw [if_pos rfl] at p ⊢; exact h6 Oc H0 O σ ρ H2 Z (R.mono x) (p.later (hide_ex x))
  | false => rw [if_neg (by decide)] at p ⊢; exact h8 Oc H0 O σ ρ H2 Z (R.mono x) (p.later (hide_ex x))
theorem s_ret (h : EE cv W Xs e f) : SS cv W .dat Xs (.Return (some e) pos) (sRet f) := by
  obtain ⟨t, h1, h2⟩ := h
  refine ⟨_, fun j => ps_ret (h1 j), fun Oc H0 O σ ρ H Z R p => h2 O σ ρ H _ R.e (posE_of R p fun d hr0 v H2 x q p => ?_)⟩
  exact p v H2 (R.base.trans x) (q.mono (hide_sub R.oc))
theorem s_retF (h : EF cv W Xs e f) : SS cv W .lst Xs (.Return (some e) pos) (sRet f) := by
  obtain ⟨t, h1, h2⟩ := h
  refine ⟨_, fun j => ps_ret (h1 j), fun Oc H0 O σ ρ H Z R p => h2 O σ ρ H _ R.e (posF_of R p fun ds _ q vs H2 x n1 g1 g2 p => ?_)⟩
  refine p _ H2 (R.base.trans x) ⟨q, vs, ds, rfl, rfl, R.base.free n1, g1, g2.mono (hide_sub fun a ha => ?_)⟩
  rcases List.mem_cons.mp ha with rfl | ha
  · simp
  · exact List.mem_cons_of_mem _ (R.oc a ha)
theorem s_retO (Fm : Fam Xs P w K mg base N sc fnn k) (i : Nat) (hN : N[i]? = some x := by rfl) (hv : visB sc x = true := by decide +kernel) (hd : (x == ("__debug__" : Str)) = false := by decide) (hcd : (x == ("__classdict__" : Str)) = false := by decide) : SS cv W .lst Xs (.Return (some (.Name x npos)) pos) (sRetO i) := by
  refine ⟨_, fun j => ps_ret (pe_var (Fm.at hN j) (Fm.vis hv j) hd hcd), fun Oc H0 O σ ρ H Z R p => ?_⟩
  unfold sRetO at p
  split at p
  · rename_i ds e
    obtain ⟨a, vs, h1, h2, h3, h4, h5⟩ := R.at_own e
    refine ⟨_, h1, p _ H R.base ⟨a, vs, ds, rfl, rfl, h3, h4, h5.mono (hide_sub fun b hb => ?_)⟩⟩
    rcases List.mem_cons.mp hb with rfl | hb
    · exact h2
    · exact R.oc b hb
  · exact p.elim
theorem s_retN : SS cv W .dat Xs (.Return none pos) sRetN := ⟨tRetN, fun _ => ps_retN, fun Oc H0 O σ ρ H Z R p => p _ H R.base .non⟩
theorem s_expr (h : EE cv W Xs e f) (hs : ∀ env, swapsWith e none pos.line env = pure false := by intro _; rfl) : SS cv W fr Xs (.Expr e pos) (sExp f) := by
  obtain ⟨t, h1, h2⟩ := h
  exact ⟨_, fun j => ps_expr (h1 j) (hs _), fun Oc H0 O σ ρ H Z R p => h2 O σ ρ H _ R.e (posE_of R p fun d _ v H2 x q p => p O σ H2 (R.mono x) (hide_ex x))⟩
theorem s_pass : SS cv W fr Xs (.Pass pos) sNil := ⟨_, fun _ => ps_pass, fun Oc H0 O σ ρ H Z R p => p O σ H R (Ex.refl _)⟩
variable {apos cpos opos : Pos}
/-- x.append(e) -/
theorem s_app (Fm : Fam Xs P w K mg base N sc fnn k) (i : Nat) (h : EE cv W Xs e f) (hN : N[i]? = some x := by rfl) (hv : visB sc x = true := by decide +kernel) (hd : (x == ("__debug__" : Str)) = false := by decide) (hcd : (x == ("__classdict__" : Str)) = false := by decide)
    (hline : (apos.endLine == cpos.line) = true := by rfl) (hs : ∀ env, starEach [e] env = (false, eval e env) :: starEach [] env := by intro _; rfl) :
    SS cv W fr Xs (.Expr (.Call (.Attribute (.Name x opos) "append" apos) [e] [] cpos) pos) (sApp i f) := by
  obtain ⟨t, h1, h2⟩ := h
  refine ⟨tDrop (tBM K "list" rAppend (tVar i) (tCons t tNil)), fun j => ?_, fun Oc H0 O σ ρ H Z R p => ?_⟩
  · have := ps_expr (pos := pos) (pe_bm (X := Xs j) (cpos := cpos) (apos := apos) PySem.F.plainAttrs_list PySem.F.slot_list_append PySem.F.type_list_append mt_append (pe_var (pos := opos) (Fm.at hN j) (Fm.vis hv j) hd hcd) (pa_cons (h1 j) pa_nil (hs _)) rfl (by rw [hs]; rfl) hline (hs _) rfl) rfl
    rw [Fm.kk j] at this
    exact this
  · unfold sApp at p
    split at p
    · rename_i ds e
      obtain ⟨a, vs, g1, g2, g3, g4, g5⟩ := R.at_own e
      refine ⟨_, g1, Or.inl ⟨rfl, vs, SqL.of g4⟩, h2 O σ ρ H _ R.e (posE_of R p fun d hr0 v H2 x q p => ?_)⟩
      by_cases hl : ds.length < LIM
      · rw [if_pos hl] at p
        refine ⟨a, vs, v, rfl, rfl, x _ _ g4, by rw [g5.length]; exact lim_lt hl, ?_⟩
        obtain ⟨R', ex⟩ := (R.mono x).mut e g1 (ws := vs ++ [v]) (es := ds ++ [d]) ((g5.mono (hide_ex x)).append (.cons q .nil))
        exact p O σ _ R' ((hide_ex x).trans ex)
      · rw [if_neg hl] at p
        exact p.elim
    · exact p.elim
/-- x.remove(e), a list of ints -/
theorem s_rem (Fm : Fam Xs P w K mg base N sc fnn k) (i : Nat) (h : EE cv W Xs e f) (hN : N[i]? = some x := by rfl) (hv : visB sc x = true := by decide +kernel) (hd : (x == ("__debug__" : Str)) = false := by decide) (hcd : (x == ("__classdict__" : Str)) = false := by decide)
    (hline : (apos.endLine == cpos.line) = true := by rfl) (hs : ∀ env, starEach [e] env = (false, eval e env) :: starEach [] env := by intro _; rfl) :
    SS cv W fr Xs (.Expr (.Call (.Attribute (.Name x opos) "remove" apos) [e] [] cpos) pos) (sRem i f) := by
  obtain ⟨t, h1, h2⟩ := h
  refine ⟨tDrop (tBM K "list" rRemI (tVar i) (tCons t tNil)), fun j => ?_, fun Oc H0 O σ ρ H Z R p => ?_⟩
  · have := ps_expr (pos := pos) (pe_bm (X := Xs j) (cpos := cpos) (apos := apos) PySem.F.plainAttrs_list PySem.F.slot_list_remove PySem.F.type_list_remove mt_remove (pe_var (pos := opos) (Fm.at hN j) (Fm.vis hv j) hd hcd) (pa_cons (h1 j) pa_nil (hs _)) rfl (by rw [hs]; rfl) hline (hs _) rfl) rfl
    rw [Fm.kk j] at this
    exact this
  · unfold sRem at p
    split at p
    · rename_i ds e
      obtain ⟨a, vs, g1, g2, g3, g4, g5⟩ := R.at_own e
      refine ⟨_, g1, Or.inl ⟨rfl, vs, SqL.of g4⟩, h2 O σ ρ H _ R.e (posE_of R p fun d hr0 v H2 x q p2 => ?_)⟩
      split at p2
      · rename_i ns kk hi
        have e1 := intsOf_eq hi
        subst e1
        have e2 := g5.ints
        subst e2
        split at p2
        · rename_i j hj
          rw [List.findIdx?_eq_some_iff_getElem] at hj
          obtain ⟨j1, j2, j3⟩ := hj
          have hjk : ns[j]? = some kk := by rw [List.getElem?_eq_getElem j1]; simpa using j2
          cases q
          refine ⟨a, ns, kk, j, rfl, rfl, x _ _ g4, hjk, fun m hm z => ?_, ?_⟩
          · have hm' : m < ns.length := by omega
            have := j3 m hm
            rw [List.getElem?_eq_getElem hm'] at z
            cases z
            simp at this
          · obtain ⟨R', ex⟩ := (R.mono x).mut e g1 (ws := (ns.eraseIdx j).map V.int) (es := (ns.eraseIdx j).map PyData.int) (DqAll.ofInts _)
            exact p2 O σ _ R' ((hide_ex x).trans ex)
        · exact p2.elim
      · exact p2.elim
    · exact p.elim
/-- x[k] = e -/
theorem s_setI (Fm : Fam Xs P w K mg base N sc fnn k) (i : Nat) (hk : EB cv W Xs b fk) (h : EE cv W Xs e f) (hN : N[i]? = some x := by rfl) (hv : visB sc x = true := by decide +kernel) (hd : (x == ("__debug__" : Str)) = false := by decide) (hcd : (x == ("__classdict__" : Str)) = false := by decide)
    (ha : ∀ env v, assign (.Subscript (.Name x opos) b apos) env v = (do
      let ov ← holding [v] (eval (.Name x opos) env)
      let iv ← holding [v, ov] (eval b env)
      standAt apos
      holding [v, ov, iv] (setItem ov iv v)
      release [v, ov, iv] []) := by intro _ _; rfl) (hs : ∀ env, swapsWithSole [.Subscript (.Name x opos) b apos] e pos.line env = pure false := by intro _; rfl) (hw : ∀ env, swappedStores [.Subscript (.Name x opos) b apos] e env = pure none := by intro _; rfl)
    (h1 : ∀ env, (assignEach [.Subscript (.Name x opos) b apos] env).map (·.2) = [assign (.Subscript (.Name x opos) b apos) env] := by intro _; rfl) :
    SS cv W fr Xs (.Assign [.Subscript (.Name x opos) b apos] e pos) (sSetI i fk f) := by
  obtain ⟨t, g1, g2⟩ := h
  obtain ⟨tk, g3, g4⟩ := hk
  refine ⟨tAsg t (gSub (tVar i) tk rSetL), fun j => ps_asg (g1 j) (pg_sub (pe_var (Fm.at hN j) (Fm.vis hv j) hd hcd) (g3 j) set_list (ha _)) (hs _) (hw _) (h1 _), fun Oc H0 O σ ρ H Z R p => g2 O σ ρ H _ R.e (posE_of R p fun d hr0 v H2 x q p => ?_)⟩
  split at p
  · rename_i ds e
    obtain ⟨a, vs, q1, q2, q3, q4, q5⟩ := R.at_own e
    refine ⟨_, q1, g4 O σ ρ H2 _ (R.mono x).e (posB_of (R.mono x) (p.later (hide_ex x)) fun dk hr1 u H3 x3 qk p => ?_)⟩
    split at p
    · split at p
      · rename_i kk _ j hj
        refine ⟨a, vs, kk, j, rfl, qk.int, x3 _ _ (x _ _ q4), by rw [q5.length]; exact hj, ?_⟩
        obtain ⟨R', ex⟩ := ((R.mono x).mono x3).mut e q1 (ws := vs.set j v) (es := ds.set j d) ((q5.mono (hide_ex (x.trans x3))).set j (q.mono (hide_ex x3)))
        exact p O σ _ R' ((hide_ex x3).trans ex)
      · exact p.elim
    · exact p.elim
  · exact p.elim
/-- x op= e -/
theorem s_aug (Fm : Fam Xs P w K mg base N sc fnn k) {op : Operator} {r : R2} {g : D → D → Rs D} (ho : ∀ j, OpR (Xs j) (inplaceOp op) r) (hr : OpE r g) (hn : Noer g) (i : Nat) (h : EB cv W Xs e f) (hN : N[i]? = some x := by rfl) (hx : stB fnn sc x = true := by decide +kernel) :
    SS cv W fr Xs (.AugAssign (.Name x npos) op e pos) (sAug i g f) := by
  obtain ⟨t, h1, h2⟩ := h
  refine ⟨tAug i t r, fun j => ps_aug (Fm.ndj j) (Fm.at hN j) (Fm.loc hx j) (h1 j) (ho j) (Fm.hf hx j), fun Oc H0 O σ ρ H Z R p => ?_⟩
  unfold sAug at p
  split at p
  · rename_i d0 e0
    obtain ⟨v0, l0, q1, q2⟩ := R.e.sl i _ e0
    refine ⟨v0, q1, h2 O σ ρ H _ R.e (posB_of R p fun d hr0 v H2 x q p => ?_)⟩
    refine hr O v0 v H2 _ d0 d (R.mono x).od (.inl (q2.2.mono (hide_ex x))) q ?_
    cases eg : g d0 d with
    | no => rw [eg] at p; exact p
    | er c => exact absurd eg (hn d0 d c)
    | ok z => rw [eg] at p; exact fun u H3 x3 q3 => p O _ H3 (((R.mono x).mono x3).set q3) (hide_ex (x.trans x3))
  · exact p.elim
/-- x += [..], x an own list -/
theorem s_ext (Fm : Fam Xs P w K mg base N sc fnn k) (i : Nat) (h : EB cv W Xs e f) (hN : N[i]? = some x := by rfl) (hx : stB fnn sc x = true := by decide +kernel) :
    SS cv W fr Xs (.AugAssign (.Name x npos) .Add e pos) (sExt i f) := by
  obtain ⟨t, h1, h2⟩ := h
  refine ⟨tAug i t rExt2, fun j => ps_aug (Fm.ndj j) (Fm.at hN j) (Fm.loc hx j) (h1 j) iop_ext (Fm.hf hx j), fun Oc H0 O σ ρ H Z R p => ?_⟩
  unfold sExt at p
  split at p
  · rename_i ds e
    obtain ⟨a, vs, q1, q2, q3, q4, q5⟩ := R.at_own e
    refine ⟨_, q1, h2 O σ ρ H _ R.e (posB_of R p fun d hr0 v H2 x q p => ?_)⟩
    split at p
    · split at p
      · rename_i es hl
        obtain ⟨b, ws, rfl, h3, h4⟩ := q.list
        refine ⟨a, b, vs, ws, rfl, rfl, x _ _ q4, h3, by rw [q5.length, h4.length]; exact lim_size hl, ?_⟩
        obtain ⟨R', ex⟩ := (R.mono x).mut e q1 (ws := vs ++ ws) (es := ds ++ es) ((q5.mono (hide_ex x)).append h4)
        have e2 : σ.set i (some (.ref a)) = σ := by
          apply List.ext_getElem?
          intro j
          by_cases hj : i = j
          · subst hj
            rw [List.getElem?_set, if_pos rfl, q1]
            have : i < σ.length := by
              rw [List.getElem?_eq_some_iff] at q1
              exact q1.1
            rw [if_pos this]
          · rw [List.getElem?_set_ne hj]
        show Z.nx (σ.set i (some (.ref a))) _
        rw [e2]
        exact p O σ _ R' ((hide_ex x).trans ex)
      · exact p.elim
    · exact p.elim
  · exact p.elim
end
end DL

namespace DL
open PySem L2
section
variable {ι : Type} {cv : Nat → Value} {W W' : WX} {fr : RM} {Xs : ι → Cx} {P : Program} {w : World} {K : PySem.W.Frag} {mg : Str → Option Value} {base : Heap} {N : List Str} {sc : Scope} {fnn : Str → Bool} {k : Nat}
variable {e a b c tg iter elt : Expr} {es ifs : List Expr} {f fa fb fc fe fk : En → Rs D} {fs : En → Rs (List D)} {ft : En → Rs Bool} {it : En → Rs (List D)} {pos ppos npos opos apos : Pos} {is : List Nat} {T : Tg} {scope : Scope} {st : Stmt} {rest ss ss' : List Stmt} {F G : En → Out} {te : TE} {i : Nat} {x : Str}

/-! ### for -/
theorem s_for (Fm : Fam Xs P w K mg base N sc fnn k) (hp : ∀ j, PassesOwn (model (Xs j).prog (Xs j).w) (Xs j).A (Xs j).env (Xs j).xe) (vs : List Nat) (hi : EIS cv W Xs tg iter it) (hg : EG Xs tg T) (hb : SSs cv W fr Xs ss F)
    (hf : ∀ env x, foldedSetIterable iter env x = pure x := by intro _ _; rfl) : SS cv W fr Xs (.For tg iter ss [] pos) (sFor it T vs F) := by
  obtain ⟨ti, h1, h2⟩ := hi
  obtain ⟨g, h3, h4⟩ := hg
  obtain ⟨tb, h5, h6⟩ := hb
  refine ⟨tFor ti g tb, fun j => ps_for (hp j) (Fm.calm j) (h1 j) (h3 j) (h5 j) (hf _), fun Oc H0 O σ ρ H Z R p => h2 O σ ρ H _ R.e ?_⟩
  unfold sFor at p
  cases ei : it ρ with
  | no => rw [ei] at p; exact p
  | er c => rw [ei] at p; exact fun H2 x => p O σ H2 (R.mono x) (hide_ex x)
  | ok items =>
    rw [ei, ofR_ok] at p
    intro J H1 x1 dd
    generalize ho : forL T vs F items (wipeE ρ vs) = out at p
    refine ⟨fun i m σ' H' => m + i = items.length ∧ ∃ O' ρ', RepS Oc H0 O' σ' ρ' H' ∧ Ex (hide O H1) (hide O' H') ∧ forL T vs F (items.drop i) ρ' = out,
      ⟨items.length, by omega, O, wipeE ρ vs, (R.mono x1).forget vs, Ex.refl _, by simpa using ho⟩, ?_⟩
    rintro i m σ' H' ⟨hm, O', ρ', R', x2, hout⟩
    have x2' : Ex (hide O H1) H' := x2.trans hide_le
    by_cases hlt : i < items.length
    · have hd : items[i]? = some items[i] := List.getElem?_eq_getElem hlt
      obtain ⟨hgo, hy⟩ := dd.go i _ H' x2' hd
      refine .inr ⟨hgo, fun σ3 H3 => ∃ m', m' < m ∧ m' + (i + 1) = items.length ∧ ∃ O' ρ', RepS Oc H0 O' σ3 ρ' H3 ∧ Ex (hide O H1) (hide O' H3) ∧ forL T vs F (items.drop (i + 1)) ρ' = out,
        fun σ3 H3 ⟨m', g1, g2, g3⟩ => ⟨m', g1, g2, g3⟩, fun y H3 hyl => ?_⟩
      obtain ⟨x3, hq⟩ := hy y H3 hyl
      have qx : Dq (hide O' H3) y items[i] := hq _ (x2.trans (hide_ex x3)) fun a o n1 n2 => hide_some.mpr ⟨fun z => R'.od a z n1, n2⟩
      rw [List.drop_eq_getElem_cons hlt] at hout
      unfold forL at hout
      cases ea : T.asg items[i] ρ' with
      | none => rw [ea] at hout; subst hout; exact p.elim
      | some ρ1 =>
        rw [ea] at hout
        dsimp only at hout
        unfold Tg.asg at ea
        cases ep : T.parts items[i] with
        | none => rw [ep] at ea; cases ea
        | some es =>
          rw [ep] at ea
          cases ea
          refine h4 y items[i] es σ' H3 _ (hide O' H3) qx hide_le ep fun us hus => ?_
          have R3 := (R'.mono x3).setD (is := T.ix) hus
          refine h6 Oc H0 O' _ _ H3 _ R3 ?_
          cases eb : F (setD ρ' T.ix es) with
          | nx ρ2 =>
            rw [eb] at hout
            exact fun O4 σ4 H4 R4 x4 => ⟨m - 1, by omega, by omega, O4, _, R4.forget vs, (x2.trans (hide_ex x3)).trans x4, hout⟩
          | ct ρ2 =>
            rw [eb] at hout
            exact fun O4 σ4 H4 R4 x4 => ⟨m - 1, by omega, by omega, O4, _, R4.forget vs, (x2.trans (hide_ex x3)).trans x4, hout⟩
          | bk ρ2 =>
            rw [eb] at hout
            subst hout
            exact fun O4 σ4 H4 R4 x4 => p O4 σ4 H4 (R4.forget vs) (((hide_ex x1).trans (x2.trans (hide_ex x3))).trans x4)
          | rt d => rw [eb] at hout; subst hout; exact p
          | ex c ρ2 =>
            rw [eb] at hout
            subst hout
            exact fun O4 σ4 H4 R4 x4 => p O4 σ4 H4 R4 (((hide_ex x1).trans (x2.trans (hide_ex x3))).trans x4)
          | no => rw [eb] at hout; subst hout; exact p.elim
    · have ei : i = items.length := by omega
      subst ei
      rw [List.drop_length] at hout
      subst hout
      exact .inl ⟨dd.stop H' x2', p O' σ' H' R' ((hide_ex x1).trans x2)⟩
/-! ### while -/
theorem s_while (hp : ∀ j, PassesOwn (model (Xs j).prog (Xs j).w) (Xs j).A (Xs j).env (Xs j).xe) (n : Nat) (vs : List Nat) (hc : ET cv W Xs c ft) (hb : SSs cv W fr Xs ss F) : SS cv W fr Xs (.While c ss [] pos) (sWhile n ft vs F) := by
  obtain ⟨tc, h1, h2⟩ := hc
  obtain ⟨tb, h5, h6⟩ := hb
  refine ⟨tWhile tc tb, fun j => ps_while (hp j) (h1 j) (h5 j), fun Oc H0 O σ ρ H Z R p => ?_⟩
  unfold sWhile at p
  generalize ho : whileL ft vs F n (wipeE ρ vs) = out at p
  refine ⟨fun m σ' H' => ∃ O' ρ', RepS Oc H0 O' σ' ρ' H' ∧ Ex (hide O H) (hide O' H') ∧ whileL ft vs F m ρ' = out, ⟨n, O, _, R.forget vs, Ex.refl _, ho⟩, ?_⟩
  rintro m σ' H' ⟨O', ρ', R', x2, hout⟩
  cases m with
  | zero => subst hout; exact p.elim
  | succ m =>
    refine h2 O' σ' ρ' H' _ R'.e ?_
    unfold whileL at hout
    cases ec : ft ρ' with
    | no => rw [ec] at hout; subst hout; exact p.elim
    | er c => rw [ec] at hout; subst hout; exact fun H3 x3 => p O' σ' H3 (R'.mono x3) (x2.trans (hide_ex x3))
    | ok b =>
      rw [ec, ofR_ok] at hout
      intro H3 x3
      cases b with
      | false =>
        rw [if_neg (by decide)] at hout ⊢
        subst hout
        exact p O' σ' H3 (R'.mono x3) (x2.trans (hide_ex x3))
      | true =>
        rw [if_pos rfl] at hout ⊢
        refine ⟨fun σ4 H4 => ∃ O' ρ', RepS Oc H0 O' σ4 ρ' H4 ∧ Ex (hide O H) (hide O' H4) ∧ whileL ft vs F m ρ' = out, fun σ4 H4 h => ⟨m, Nat.lt_succ_self m, h⟩, ?_⟩
        refine h6 Oc H0 O' σ' ρ' H3 _ (R'.mono x3) ?_
        cases eb : F ρ' with
        | nx ρ2 =>
          rw [eb] at hout
          exact fun O4 σ4 H4 R4 x4 => ⟨O4, _, R4.forget vs, (x2.trans (hide_ex x3)).trans x4, hout⟩
        | ct ρ2 =>
          rw [eb] at hout
          exact fun O4 σ4 H4 R4 x4 => ⟨O4, _, R4.forget vs, (x2.trans (hide_ex x3)).trans x4, hout⟩
        | bk ρ2 =>
          rw [eb] at hout
          subst hout
          exact fun O4 σ4 H4 R4 x4 => p O4 σ4 H4 (R4.forget vs) ((x2.trans (hide_ex x3)).trans x4)
        | rt d => rw [eb] at hout; subst hout; exact p
        | ex c ρ2 =>
          rw [eb] at hout
          subst hout
          exact fun O4 σ4 H4 R4 x4 => p O4 σ4 H4 R4 ((x2.trans (hide_ex x3)).trans x4)
        | no => rw [eb] at hout; subst hout; exact p.elim

/-! ### x[k] += e ; x[a], x[b] = (e, e') -/
theorem gets_list {X : Cx} : PGet X (rIxL X.K) := by
  intro pins s σ H x y v u Q I rx ry h
  obtain ⟨p, xs, i, z, rfl, rfl, hq, he, q⟩ := h
  cases rx
  obtain ⟨t, rfl⟩ := ry
  obtain ⟨its, r, pl, hz⟩ := I.list hq
  obtain ⟨j, h1, h2, h3, h4, h5⟩ := L2.atI_get he
  obtain ⟨w, ew, rw'⟩ := r.get h2
  have hl := r.length
  have hn := line63
  have fin : EP X pins σ Q w s := ⟨z, H, I, rw', q⟩
  by_cases h0 : 0 ≤ i
  · have hj : i.toNat = j := by
      rw [seqIndex_of h0 h5] at h1
      exact Option.some.inj h1
    exact wpAny_getItem_list pl.isList h0 (by omega) (by rw [hj]; simpa using ew) fin
  · have hj : (i + (its.toArray.size : Int)).toNat = j := by
      rw [seqIndex_neg (by omega) h4] at h1
      rw [List.size_toArray, ← hl]
      exact Option.some.inj h1
    exact wpAny_getItem_list_neg pl.isList (by omega) (by rw [List.size_toArray] <;> omega) (by omega) (by rw [hj]; simpa using ew) fin
theorem s_augI (Fm : Fam Xs P w K mg base N sc fnn k) (i : Nat) (hk : EB cv W Xs b fk) (h : EB cv W Xs e f) (hN : N[i]? = some x := by rfl) (hv : visB sc x = true := by decide +kernel) (hd : (x == ("__debug__" : Str)) = false := by decide) (hcd : (x == ("__classdict__" : Str)) = false := by decide)
    (ha : ∀ ov iv new, augStore b ov iv new = (do holding [new, ov, iv] (setItem ov iv new); release [new, ov, iv] []; pure .next) := by intros; rfl) :
    SS cv W fr Xs (.AugAssign (.Subscript (.Name x opos) b apos) .Add e pos) (sAugI i fk f) := by
  obtain ⟨t, g1, g2⟩ := h
  obtain ⟨tk, g3, g4⟩ := hk
  refine ⟨tAugS (tVar i) tk t (rIxL K) (ipI fun i j => i + j) rSetL, fun j => ps_augS (pe_var (Fm.at hN j) (Fm.vis hv j) hd hcd) (g3 j) (by have := gets_list (X := Xs j); rw [Fm.kk j] at this; exact this) (g1 j) ip_add set_list ha, fun Oc H0 O σ ρ H Z R p => ?_⟩
  unfold sAugI at p
  split at p
  · rename_i ds e
    obtain ⟨a, vs, q1, q2, q3, q4, q5⟩ := R.at_own e
    refine ⟨_, q1, g4 O σ ρ H _ R.e (posB_of R p fun dk hr1 u H2 x2 qk p2 => ?_)⟩
    split at p2
    · split at p2
      · rename_i kk _ jj hj
        have hjl : jj < ds.length := (ixN_seq hj).2.1
        have hdj : atI ds kk = some ds[jj] := by
          unfold atI
          rw [hj]
          exact List.getElem?_eq_getElem hjl
        obtain ⟨v0, a1, a2⟩ := atI_get (q5.mono (hide_ex x2)) hdj
        refine ⟨a, vs, kk, v0, rfl, qk.int, SqL.of (x2 _ _ q4), a1, ?_⟩
        refine g2 O σ ρ H2 _ (R.mono x2).e (posB_of (R.mono x2) (p2.later (hide_ex x2)) fun d hr2 v H3 x3 q p3 => ?_)
        rw [List.getElem?_eq_getElem hjl] at p3
        split at p3
        · rename_i uu vv e1
          have e1 := Option.some.inj e1
          rw [e1] at a2
          cases a2
          refine ⟨uu, vv, rfl, q.int, a, vs, kk, jj, rfl, qk.int, x3 _ _ (x2 _ _ q4), by rw [q5.length]; exact hj, ?_⟩
          obtain ⟨R', ex⟩ := ((R.mono x2).mono x3).mut e q1 (ws := vs.set jj (.int (uu + vv))) (es := ds.set jj (.int (uu + vv))) ((q5.mono (hide_ex (x2.trans x3))).set jj (.int _))
          exact p3 O σ _ R' ((hide_ex x3).trans ex)
        · exact p3.elim
      · exact p2.elim
    · exact p2.elim
  · exact p.elim
theorem s_swap (Fm : Fam Xs P w K mg base N sc fnn k) (i : Nat) {vs : List Expr} {kt k2 : Nat} {pt p2 opos' apos' : Pos} (h : EA cv W Xs vs fs) (ha : EB cv W Xs a fa) (hb : EB cv W Xs b fb) (hN : N[i]? = some x := by rfl) (hv : visB sc x = true := by decide +kernel) (hd : (x == ("__debug__" : Str)) = false := by decide) (hcd : (x == ("__classdict__" : Str)) = false := by decide)
    (hsa : ∀ env v, assign (.Subscript (.Name x opos) a apos) env v = (do
      let ov ← holding [v] (eval (.Name x opos) env)
      let iv ← holding [v, ov] (eval a env)
      standAt apos
      holding [v, ov, iv] (setItem ov iv v)
      release [v, ov, iv] []) := by intro _ _; rfl)
    (hsb : ∀ env v, assign (.Subscript (.Name x opos') b apos') env v = (do
      let ov ← holding [v] (eval (.Name x opos') env)
      let iv ← holding [v, ov] (eval b env)
      standAt apos'
      holding [v, ov, iv] (setItem ov iv v)
      release [v, ov, iv] []) := by intro _ _; rfl)
    (hw : ((swNames sc [.Subscript (.Name x opos) a apos, .Subscript (.Name x opos') b apos']).length != 2) = true := by decide +kernel)
    (h1 : ∀ env, (assignEach [.Tuple [.Subscript (.Name x opos) a apos, .Subscript (.Name x opos') b apos'] kt pt] env).map (·.2) = [assign (.Tuple [.Subscript (.Name x opos) a apos, .Subscript (.Name x opos') b apos'] kt pt) env] := by intro _; rfl)
    (ha1 : ∀ env, (assignEach [.Subscript (.Name x opos) a apos, .Subscript (.Name x opos') b apos'] env).map (·.2) = assign (.Subscript (.Name x opos) a apos) env :: (assignEach [.Subscript (.Name x opos') b apos'] env).map (·.2) := by intro _; rfl)
    (ha2 : ∀ env, (assignEach [.Subscript (.Name x opos') b apos'] env).map (·.2) = assign (.Subscript (.Name x opos') b apos') env :: (assignEach [] env).map (·.2) := by intro _; rfl)
    (hn : ∀ env, (assignEach [.Subscript (.Name x opos) a apos, .Subscript (.Name x opos') b apos'] env).length = 2 := by intro _; rfl) (hst : ∀ env, (assignEach [.Subscript (.Name x opos) a apos, .Subscript (.Name x opos') b apos'] env).findIdx? (·.1) = none := by intro _; rfl) :
    SS cv W fr Xs (.Assign [.Tuple [.Subscript (.Name x opos) a apos, .Subscript (.Name x opos') b apos'] kt pt] (.Tuple vs k2 p2) pos) (sSwap i fa fb fs) := by
  obtain ⟨t, g1, g2⟩ := h
  obtain ⟨ta, g3, g4⟩ := ha
  obtain ⟨tb, g5, g6⟩ := hb
  refine ⟨tAsg (tTup t) (gTup K 2 (gCons (gSub (tVar i) ta rSetL) (gCons (gSub (tVar i) tb rSetL) gNil))), fun j => ?_, fun Oc H0 O σ ρ H Z R p => g2 O σ ρ H _ R.e (posA_of R p fun ws hr0 us H2 x2 qs p2 => ?_)⟩
  · have := ps_asg (pos := pos) (pe_tup (x1 := k2) (pos := p2) (g1 j)) (pg_tup (pos := pt) (k := kt) (Fm.calm j) (pgs_cons (pg_sub (pe_var (Fm.at hN j) (Fm.vis hv j) hd hcd) (g3 j) set_list (hsa _)) (pgs_cons (pg_sub (pe_var (Fm.at hN j) (Fm.vis hv j) hd hcd) (g5 j) set_list (hsb _)) pgs_nil (ha2 _)) (ha1 _)) (hn _) (hst _)) rfl (swapped_none (Fm.scp j) hw) (h1 _)
    rw [Fm.kk j] at this
    exact this
  · split at p2
    · rename_i d e ds he
      have hus : us.length = 2 := by rw [qs.length]; rfl
      refine ⟨by rw [hus]; decide, fun T hT => ?_⟩
      obtain ⟨al, vl, q1, q2, q3, q4, q5⟩ := R.at_own he
      cases qs with
      | cons qd qs =>
        cases qs with
        | cons qe qs =>
          cases qs
          rename_i v1 v2
          have xT : Ex H2 (upd H2 T (.tup [v1, v2])) := Ex.new hT
          have x3 := x2.trans xT
          refine ⟨T, _, rfl, SqT.of upd_same, rfl, v1, [v2], rfl, ⟨_, q1, ?_⟩⟩
          have R3 := R.mono x3
          refine g4 O σ ρ _ _ R3.e (posB_of R3 (p2.later (hide_ex x3)) fun da hr1 ua H4 x4 qa p3 => ?_)
          split at p3
          · split at p3
            · rename_i ka _ ja hja
              refine ⟨al, vl, ka, ja, rfl, qa.int, x4 _ _ (x3 _ _ q4), by rw [q5.length]; exact hja, v2, [], rfl, ⟨_, q1, ?_⟩⟩
              have qd4 := qd.mono (hide_ex (xT.trans x4))
              obtain ⟨R4, ex4⟩ := (R3.mono x4).mut he q1 (ws := vl.set ja v1) (es := ds.set ja d) ((q5.mono (hide_ex (x3.trans x4))).set ja qd4)
              have he4 : (ρ.set i (some (.ow (ds.set ja d))))[i]? = some (some (.ow (ds.set ja d))) := by
                have hlt : i < ρ.length := by
                  rw [List.getElem?_eq_some_iff] at he
                  exact he.1
                rw [List.getElem?_set, if_pos rfl, if_pos hlt]
              refine g6 O σ _ _ _ R4.e ?_
              cases hr : fb (ρ.set i (some (.ow (ds.set ja d)))) with
              | no => rw [hr] at p3; exact p3.elim
              | er c => rw [hr] at p3; exact p3.elim
              | ok db =>
                intro ub H5 x5 qb
                rw [hr] at p3
                split at p3
                · split at p3
                  · rename_i kb e5 _ jb hjb
                    cases e5
                    refine ⟨al, vl.set ja v1, kb, jb, rfl, qb.int, x5 _ _ upd_same, by rw [List.length_set, q5.length]; exact hjb, rfl, ?_⟩
                    obtain ⟨R5, ex5⟩ := (R4.mono x5).mut he4 q1 (ws := (vl.set ja v1).set jb v2) (es := (ds.set ja d).set jb e) ((((q5.mono (hide_ex (x3.trans x4))).set ja qd4).mono (ex4.trans (hide_ex x5))).set jb ((qe.mono (hide_ex (xT.trans x4))).mono (ex4.trans (hide_ex x5))))
                    rw [List.set_set] at R5
                    exact p3 O σ _ R5 ((hide_ex x4).trans (ex4.trans ((hide_ex x5).trans ex5)))
                  · exact p3.elim
                · exact p3.elim
            · exact p3.elim
          · exact p3.elim
    · exact p2.elim
end
end DL

namespace DL
open PySem L2

/-! ### defs -/
def startE (n : Nat) (ds : List D) : En := ds.map (fun d => some (.sh d)) ++ List.replicate (n - ds.length) none
def callF (n : Nat) (F : En → Out) (ds : List D) : Rs D := match F (startE n ds) with
  | .rt d => .ok d
  | .nx _ => .ok .none
  | .ex c _ => .er c
  | _ => .no
/-- a def that owns what it hands back: its last statement returns -/
def callR (n : Nat) (F : En → Out) (ds : List D) : Rs D := match F (startE n ds) with
  | .rt d => .ok d
  | .ex c _ => .er c
  | _ => .no
def sp0 (np : Nat) (g : List D → Rs D) : Sp := fun vs H Q _ => vs.length = np ∧ ∃ O ds, (∀ a ∈ O, H a ≠ none) ∧ NT O H ∧ DqAll (hide O H) vs ds ∧ OkE O H Q (g ds)
def spF (np : Nat) (g : List D → Rs D) : Sp := fun vs H Q _ => vs.length = np ∧ ∃ O ds, (∀ a ∈ O, H a ≠ none) ∧ NT O H ∧ DqAll (hide O H) vs ds ∧ OkF O H Q (g ds)
def Known (P : Program) (w : World) (K : PySem.W.Frag) (mg : Str → Option Value) (base : Heap) (kc : Nat) (x : Str) (ps : List Str) (sp : Sp) : Prop :=
  ∃ f fd, FnOk P w K mg base CX0 kc f fd ps sp ∧ mg x = some (.ref f) ∧ PySem.W.keepIn K (.ref f) = true ∧ Binds K fd ps []
abbrev cv0 : Nat → Value := fun _ => .none
abbrev W0 : WX := fun _ _ _ _ => False
theorem start_rep {O : List Addr} {H : Hp} {N : List Str} {vs : List V} {ds : List D} (od : ∀ a ∈ O, H a ≠ none) (nt : NT O H) (q : DqAll (hide O H) vs ds) : RepS O H O (L2.start N vs) (startE N.length ds) H := by
  refine ⟨by simp [L2.start, startE, q.length], Ex.refl H, fun _ z => z, od, od, nt, fun _ => [], fun i s e => ?_, fun i j a z => by simp at z, fun i a z => by simp at z⟩
  unfold startE at e
  unfold L2.start
  by_cases hi : i < ds.length
  · rw [List.getElem?_append_left (by simpa using hi), List.getElem?_map, List.getElem?_eq_getElem hi] at e
    have e := Option.some.inj (Option.some.inj e)
    subst e
    obtain ⟨v, h1, h2⟩ := q.get i (List.getElem?_eq_getElem hi)
    refine ⟨v, ?_, rfl, h2⟩
    rw [List.getElem?_append_left (by simpa [q.length] using hi), List.getElem?_map, h1]
    rfl
  · rw [List.getElem?_append_right (by simpa using hi), List.getElem?_replicate] at e
    split at e <;> simp at e
section
variable {P : Program} {w : World} {K : PySem.W.Frag} {mg : Str → Option Value} {base : Heap} {N ps : List Str} {k : Nat} {x qual : Str} {st : Stmt} {f : Addr} {fd : FuncData} {F : En → Out}
theorem fam_of {cdv : Value} {A : Around} {outer : List Env} {s : Shared} {H : Hp} {E : XK} (S : FnScope N ps (defScope st)) (hr : Room k (A.deeper (PyProof.Rows.envOfC qual (defScope st) s.heap.objs.size f cdv))) :
    Fam (fun _ : Unit => (cxOf CX0 P w K mg base N qual (defScope st) f cdv A outer s H E).nox) P w K mg base N (defScope st) (fun _ => true) k where
  prog := fun _ => rfl
  wd := fun _ => rfl
  kk := fun _ => rfl
  gl := fun _ => rfl
  bs := fun _ => rfl
  nm := fun _ => rfl
  scp := fun _ => rfl
  calm := fun _ => rfl
  nd := S.nd
  room := fun _ => hr
  fn := fun _ _ => rfl
theorem ok_fn (Fn : Fun K x qual st f fd) (S : FnScope N ps (defScope st))
    (hb : ∀ (Xs : Unit → Cx), Fam Xs P w K mg base N (defScope st) (fun _ => true) k → (∀ j, PassesOwn (model (Xs j).prog (Xs j).w) (Xs j).A (Xs j).env (Xs j).xe) → SSs cv0 W0 .dat Xs (defBody st) F) :
    FnOk P w K mg base CX0 (k + 1) f fd ps (sp0 ps.length (callF N.length F)) := by
  refine Fn.ok S (fun vs H Q E h => h.1) (fun cdv A outer s H vs Q E hr h => ?_)
  obtain ⟨hl, O, ds, od, nt, q, p⟩ := h
  obtain ⟨t, h1, h2⟩ := hb _ (fam_of S hr) (fun _ => PassesOwn.never)
  refine ⟨t, h1 (), h2 O H O _ _ H _ (start_rep od nt q) ?_⟩
  unfold callF at p
  cases e : F (startE N.length ds) with
  | rt d => rw [e] at p; exact fun v H' x q => p v H' x q
  | nx ρ' => rw [e] at p; exact fun O' σ' H' R x => p .non H' R.base .non
  | bk ρ' => rw [e] at p; exact p.elim
  | ct ρ' => rw [e] at p; exact p.elim
  | ex c ρ' => rw [e] at p; exact p.elim
  | no => rw [e] at p; exact p.elim
theorem ok_fnF (Fn : Fun K x qual st f fd) (S : FnScope N ps (defScope st))
    (hb : ∀ (Xs : Unit → Cx), Fam Xs P w K mg base N (defScope st) (fun _ => true) k → (∀ j, PassesOwn (model (Xs j).prog (Xs j).w) (Xs j).A (Xs j).env (Xs j).xe) → SSs cv0 W0 .lst Xs (defBody st) F) :
    FnOk P w K mg base CX0 (k + 1) f fd ps (spF ps.length (callR N.length F)) := by
  refine Fn.ok S (fun vs H Q E h => h.1) (fun cdv A outer s H vs Q E hr h => ?_)
  obtain ⟨hl, O, ds, od, nt, q, p⟩ := h
  obtain ⟨t, h1, h2⟩ := hb _ (fam_of S hr) (fun _ => PassesOwn.never)
  refine ⟨t, h1 (), h2 O H O _ _ H _ (start_rep od nt q) ?_⟩
  unfold callR at p
  cases e : F (startE N.length ds) with
  | rt d =>
    rw [e] at p
    rintro v H' x ⟨q, ws, es, rfl, e1, n1, g1, g2⟩
    exact p q ws es H' e1 x n1 g1 g2
  | nx ρ' => rw [e] at p; exact p.elim
  | bk ρ' => rw [e] at p; exact p.elim
  | ct ρ' => rw [e] at p; exact p.elim
  | ex c ρ' => rw [e] at p; exact p.elim
  | no => rw [e] at p; exact p.elim
theorem known (Fn : Fun K x qual st f fd) (hm : mg x = some (.ref f)) {sp : Sp} (b : Binds K fd ps []) (G : FnOk P w K mg base CX0 k f fd ps sp) : Known P w K mg base k x ps sp := ⟨f, fd, G, hm, Fn.kp, b⟩
theorem Known.mono {sp : Sp} {k' : Nat} (h : Known P w K mg base k x ps sp) (hk : k ≤ k') : Known P w K mg base k' x ps sp := by
  obtain ⟨f, fd, G, h1, h2, h3⟩ := h
  exact ⟨f, fd, G.mono hk, h1, h2, h3⟩
end
section
variable {ι : Type} {cv : Nat → Value} {W W' : WX} {fr : RM} {Xs : ι → Cx} {P : Program} {w : World} {K : PySem.W.Frag} {mg : Str → Option Value} {base : Heap} {N ps : List Str} {sc : Scope} {fnn : Str → Bool} {k kc : Nat}
variable {e a b c : Expr} {es : List Expr} {f fa fb : En → Rs D} {fs : En → Rs (List D)} {pos p : Pos} {x : Str} {g : List D → Rs D}
def callG (np : Nat) (g : List D → Rs D) (ds : List D) : Rs D := if ds.length = np then (g ds).noEr else .no
theorem snd_call {t : TA} {E : XK} (h : SndA cv W t fs) : SndE cv W (tCall (sp0 ps.length g) [] E t) (apL (callG ps.length g) fs) := by
  intro O σ ρ H Q R p
  refine h O σ ρ H _ R ?_
  unfold apL at p
  cases ea : fs ρ with
  | no => rw [ea] at p; exact p
  | er c => rw [ea] at p; exact p
  | ok ds =>
    rw [ea, Rs.bind_ok] at p
    intro vs H1 x1 q1
    rw [List.append_nil]
    unfold callG at p
    by_cases hl : ds.length = ps.length
    · rw [if_pos hl] at p
      refine ⟨by rw [q1.length]; exact hl, O, ds, (R.mono x1).od, (R.mono x1).nt, q1, ?_⟩
      cases eg : g ds with
      | no => rw [eg] at p; exact p
      | er c => rw [eg] at p; exact p
      | ok z => rw [eg] at p; exact fun v H2 x2 q2 => p v H2 (x1.trans x2) q2
    · rw [if_neg hl] at p
      exact p.elim
theorem snd_callF {t : TA} {E : XK} (h : SndA cv W t fs) : SndF cv W (tCall (spF ps.length g) [] E t) (apL (callG ps.length g) fs) := by
  intro O σ ρ H Q R p
  refine h O σ ρ H _ R ?_
  unfold apL at p
  cases ea : fs ρ with
  | no => rw [ea] at p; exact p
  | er c => rw [ea] at p; exact p
  | ok ds =>
    rw [ea, Rs.bind_ok] at p
    intro vs H1 x1 q1
    rw [List.append_nil]
    unfold callG at p
    by_cases hl : ds.length = ps.length
    · rw [if_pos hl] at p
      refine ⟨by rw [q1.length]; exact hl, O, ds, (R.mono x1).od, (R.mono x1).nt, q1, ?_⟩
      cases eg : g ds with
      | no => rw [eg] at p; exact p
      | er c => rw [eg] at p; exact p
      | ok z => rw [eg] at p; exact fun q ws es' H2 e1 x2 n1 => p q ws es' H2 e1 (x1.trans x2) (x1.free n1)
    · rw [if_neg hl] at p
      exact p.elim
theorem e_call (Fm : Fam Xs P w K mg base N sc fnn k) (G : Known P w K mg base kc x ps (sp0 ps.length g)) (ha : EA cv W Xs (e :: es) fs) (hk : kc ≤ k := by decide) (hg : glB sc x = true := by decide +kernel)
    (hd : (x == ("__debug__" : Str)) = false := by decide) (hs : ∀ env, starEach (e :: es) env = (false, eval e env) :: starEach es env := by intro _; rfl) (hpl : ∀ env, (backTo pos (starEach es env)).any (·.1) = false := by intro _; rfl) :
    EE cv W Xs (.Call (.Name x p) (e :: es) [] pos) (apL (callG ps.length g) fs) := by
  obtain ⟨f, fd, G, hm, kp, b⟩ := G
  obtain ⟨t, h1, h2⟩ := ha
  refine ⟨tCall (sp0 ps.length g) [] E0 t, fun j => ?_, snd_call h2⟩
  refine pe_call (fd := fd) (CX := CX0) (k := kc) (ps := ps) ?_ ((Fm.room j).mono hk) (Fm.gl_ok hg j) (Fm.some hm j) (by rw [Fm.kk j]; exact kp) (by rw [Fm.kk j]; exact b) .nil pass0 (h1 j) hd (hs _) (hpl _)
  rw [Fm.prog j, Fm.wd j, Fm.kk j, Fm.gl j, Fm.bs j]
  exact G
theorem f_call (Fm : Fam Xs P w K mg base N sc fnn k) (G : Known P w K mg base kc x ps (spF ps.length g)) (ha : EA cv W Xs (e :: es) fs) (hk : kc ≤ k := by decide) (hg : glB sc x = true := by decide +kernel)
    (hd : (x == ("__debug__" : Str)) = false := by decide) (hs : ∀ env, starEach (e :: es) env = (false, eval e env) :: starEach es env := by intro _; rfl) (hpl : ∀ env, (backTo pos (starEach es env)).any (·.1) = false := by intro _; rfl) :
    EF cv W Xs (.Call (.Name x p) (e :: es) [] pos) (apL (callG ps.length g) fs) := by
  obtain ⟨f, fd, G, hm, kp, b⟩ := G
  obtain ⟨t, h1, h2⟩ := ha
  refine ⟨tCall (spF ps.length g) [] E0 t, fun j => ?_, snd_callF h2⟩
  refine pe_call (fd := fd) (CX := CX0) (k := kc) (ps := ps) ?_ ((Fm.room j).mono hk) (Fm.gl_ok hg j) (Fm.some hm j) (by rw [Fm.kk j]; exact kp) (by rw [Fm.kk j]; exact b) .nil pass0 (h1 j) hd (hs _) (hpl _)
  rw [Fm.prog j, Fm.wd j, Fm.kk j, Fm.gl j, Fm.bs j]
  exact G
end
end DL
namespace DL
open PySem L2
/-! in-place operators on ints -/
def dAddI : D → D → Rs D
  | .int i, .int j => .ok (.int (i + j))
  | _, _ => .no
def dSubI : D → D → Rs D
  | .int i, .int j => .ok (.int (i - j))
  | _, _ => .no
def dMulI : D → D → Rs D
  | .int i, .int j => if (-(2 ^ 64) < i ∧ i < 2 ^ 64) ∨ (-(2 ^ 64) < j ∧ j < 2 ^ 64) then .ok (.int (i * j)) else .no
  | _, _ => .no
def dFdivI : D → D → Rs D
  | .int i, .int j => if 0 < j ∧ j < 1073741824 then .ok (.int (i / j)) else .no
  | _, _ => .no
def dModI : D → D → Rs D
  | .int i, .int j => if 0 < j then .ok (.int (i % j)) else .no
  | _, _ => .no
theorem noer_addI : Noer dAddI := fun x y c => by unfold dAddI; split <;> simp
theorem noer_subI : Noer dSubI := fun x y c => by unfold dSubI; split <;> simp
theorem noer_mulI : Noer dMulI := fun x y c => by unfold dMulI; split <;> (try split) <;> simp
theorem noer_fdivI : Noer dFdivI := fun x y c => by unfold dFdivI; split <;> (try split) <;> simp
theorem noer_modI : Noer dModI := fun x y c => by unfold dModI; split <;> (try split) <;> simp
theorem ope_addI : OpE (rI0 fun i j => .int (i + j)) dAddI := by
  intro O x y H Q d e od hx hy p
  unfold dAddI at p
  split at p
  · exact ⟨_, _, hx.int, hy.int, p _ H (Ex.refl H) (.int _)⟩
  · exact p.elim
theorem ope_subI : OpE (rI0 fun i j => .int (i - j)) dSubI := by
  intro O x y H Q d e od hx hy p
  unfold dSubI at p
  split at p
  · exact ⟨_, _, hx.int, hy.int, p _ H (Ex.refl H) (.int _)⟩
  · exact p.elim
theorem ope_mulI : OpE (rI CMul fun i j => .int (i * j)) dMulI := by
  intro O x y H Q d e od hx hy p
  unfold dMulI at p
  split at p
  · split at p
    · exact ⟨_, _, hx.int, hy.int, ‹_›, p _ H (Ex.refl H) (.int _)⟩
    · exact p.elim
  · exact p.elim
theorem ope_fdivI : OpE (rI CDiv fun i j => .int (i / j)) dFdivI := by
  intro O x y H Q d e od hx hy p
  unfold dFdivI at p
  split at p
  · split at p
    · exact ⟨_, _, hx.int, hy.int, ‹_›, p _ H (Ex.refl H) (.int _)⟩
    · exact p.elim
  · exact p.elim
theorem ope_modI : OpE (rI (fun _ j => 0 < j) fun i j => .int (i % j)) dModI := by
  intro O x y H Q d e od hx hy p
  unfold dModI at p
  split at p
  · split at p
    · exact ⟨_, _, hx.int, hy.int, ‹_›, p _ H (Ex.refl H) (.int _)⟩
    · exact p.elim
  · exact p.elim
end DL
namespace DL
open PySem L2
section
variable {P : Program} {w : World} {K : PySem.W.Frag} {mg : Str → Option Value} {base : Heap} {N ps : List Str} {k : Nat} {x : Str} {st : Stmt} {F : En → Out}
/-- no defaults: how the arguments bind -/
def BindsB (x : Str) (st : Stmt) (ps : List Str) : Prop := ∀ (kV doc pm : Value) (an : Option Addr) (cdv ct : Value) (us : List Value), us.length = ps.length → bindArgs (PySem.W.fnOf x x (defArgs st) (defBody st) (defScope st) .none kV doc pm an cdv ct) ⟨us, []⟩ = pure (ps.zip us)
theorem known_fn (h : ∃ f fd, Fun K x x st f fd ∧ mg x = some (.ref f)) (S : FnScope N ps (defScope st)) (B : BindsB x st ps) (np nN kk : Nat) (hnp : ps.length = np) (hnN : N.length = nN) (hk : k + 1 = kk)
    (hb : ∀ (Xs : Unit → Cx), Fam Xs P w K mg base N (defScope st) (fun _ => true) k → (∀ j, PassesOwn (model (Xs j).prog (Xs j).w) (Xs j).A (Xs j).env (Xs j).xe) → SSs cv0 W0 .dat Xs (defBody st) F) :
    Known P w K mg base kk x ps (sp0 np (callF nN F)) := by
  subst hnp hnN hk
  obtain ⟨f, fd, Fn, hm⟩ := h
  exact known Fn hm (Fn.binds B) (ok_fn Fn S hb)
theorem known_fnF (h : ∃ f fd, Fun K x x st f fd ∧ mg x = some (.ref f)) (S : FnScope N ps (defScope st)) (B : BindsB x st ps) (np nN kk : Nat) (hnp : ps.length = np) (hnN : N.length = nN) (hk : k + 1 = kk)
    (hb : ∀ (Xs : Unit → Cx), Fam Xs P w K mg base N (defScope st) (fun _ => true) k → (∀ j, PassesOwn (model (Xs j).prog (Xs j).w) (Xs j).A (Xs j).env (Xs j).xe) → SSs cv0 W0 .lst Xs (defBody st) F) :
    Known P w K mg base kk x ps (spF np (callR nN F)) := by
  subst hnp hnN hk
  obtain ⟨f, fd, Fn, hm⟩ := h
  exact known Fn hm (Fn.binds B) (ok_fnF Fn S hb)
theorem known_none (h : ∃ f fd, Fun K x x st f fd ∧ mg x = some (.ref f)) (S : FnScope N ps (defScope st)) (B : BindsB x st ps) (np kk : Nat) (hnp : ps.length = np) (hk : k + 1 = kk) : Known P w K mg base kk x ps (sp0 np fun _ => .no) := by
  have := known_fn (P := P) (w := w) (base := base) (F := sNo) (k := k) h S B np N.length kk hnp rfl hk fun Xs F hp => ⟨tNever, fun _ => pss_never, fun _ _ _ _ _ _ _ _ p => p.elim⟩
  exact this
end
end DL
namespace DL
open PySem L2
theorem top_fun {K : PySem.W.Frag} {h : Heap} {mg : Str → Option Value} (X : K.In h) (G : h.Ns mainGlobals mg) {x : Str} {st : Stmt} {f : Addr} {od an : Option Addr} {sl : Array (Option Value)} {oc kV dc pm cd ct : Value}
    (a : PySem.W.nsIn K mainGlobals x = some (some (.ref f))) (l : K.lookup f = some ⟨oc, od, .func (PySem.W.fnOf x x (defArgs st) (defBody st) (defScope st) .none kV dc pm an cd ct), sl⟩) (c : PySem.W.codeIn K cd x = true) (k : PySem.W.keepIn K (.ref f) = true) :
    ∃ f fd, Fun K x x st f fd ∧ mg x = some (.ref f) := ⟨f, _, fun_mk l c k, PySem.W.mg_of X G a⟩
theorem top_int {K : PySem.W.Frag} {h : Heap} {mg : Str → Option Value} (X : K.In h) (G : h.Ns mainGlobals mg) {x : Str} {i : Int} {t : Tok} (a : PySem.W.nsIn K mainGlobals x = some (some (.int i t))) : ∃ t, mg x = some (.int i t) := ⟨t, PySem.W.mg_of X G a⟩
theorem top_str {K : PySem.W.Frag} {h : Heap} {mg : Str → Option Value} (X : K.In h) (G : h.Ns mainGlobals mg) {x : Str} {i : Str} {t : Tok} (a : PySem.W.nsIn K mainGlobals x = some (some (.str i t))) : ∃ t, mg x = some (.str i t) := ⟨t, PySem.W.mg_of X G a⟩
end DL

namespace DL
open PySem L2

/-! ### with draws: what holds for every draw -/
abbrev WE := En → (D → Prop) → Prop
abbrev WA := En → (List D → Prop) → Prop
abbrev WT := En → (Bool → Prop) → Prop
def MonoE {α : Type} (w : En → (α → Prop) → Prop) : Prop := ∀ ρ (A B : α → Prop), (∀ d, A d → B d) → w ρ A → w ρ B
/-- all but the draws' cells stands -/
def Fr (ρ : En) (H H2 : Hp) : Prop := ∀ a o, H a = some o → (∀ (i : Nat) ad an, ρ[i]? = some (some (.dr ad an)) → a ≠ ad ∧ a ≠ an) → H2 a = some o
structure Later (O : List Addr) (ρ : En) (H H2 : Hp) : Prop where
  ex : Ex (hide O H) (hide O H2)
  fr : Fr ρ H H2
  dr : ∀ (i : Nat) ad an, ρ[i]? = some (some (.dr ad an)) → DrSt H2 ad an
section
variable {Oc O O' : List Addr} {H0 H H1 H2 : Hp} {σ : St} {ρ : En}
theorem Fr.trans (a : Fr ρ H H1) (b : Fr ρ H1 H2) : Fr ρ H H2 := fun x o h n => b x o (a x o h n) n
theorem Later.trans (a : Later O ρ H H1) (b : Later O ρ H1 H2) : Later O ρ H H2 := ⟨a.ex.trans b.ex, a.fr.trans b.fr, b.dr⟩
theorem RepS.drs (R : RepS Oc H0 O σ ρ H) : ∀ (i : Nat) ad an, ρ[i]? = some (some (.dr ad an)) → DrSt H ad an := fun i ad an e => by
  obtain ⟨fp, h1, h2, h3⟩ := R.fp
  obtain ⟨v, q1, q2⟩ := h1 i _ e
  exact q2.2.2
theorem RepS.later_ex (R : RepS Oc H0 O σ ρ H) (x : Ex H H2) : Later O ρ H H2 := ⟨hide_ex x, fun a o h _ => x a o h, (R.mono x).drs⟩
theorem RepS.later_refl (R : RepS Oc H0 O σ ρ H) : Later O ρ H H := R.later_ex (Ex.refl H)
theorem RepS.back (R : RepS Oc H0 O σ ρ H) (ho : ∀ a ∈ O, a ∈ O') (od : ∀ a ∈ O', a ∉ O → H2 a ≠ none) (nt : ∀ a ∈ O', a ∉ O → ∀ xs, H2 a ≠ some (.tup xs)) (ex : Ex (hide O H) (hide O' H2)) (fr : Fr ρ H H2) (dr : ∀ (i : Nat) ad an, ρ[i]? = some (some (.dr ad an)) → DrSt H2 ad an) : RepS Oc H0 O' σ ρ H2 := by
  obtain ⟨fp, h1, h2, h3⟩ := R.fp
  have key : ∀ a o, H a = some o → H2 a ≠ none := fun a o h z => by
    by_cases q : ∀ (i : Nat) ad an, ρ[i]? = some (some (.dr ad an)) → a ≠ ad ∧ a ≠ an
    · rw [fr a o h q] at z
      cases z
    · apply q
      intro i ad an e
      obtain ⟨d1, c, nums, d2, d3, d4⟩ := dr i ad an e
      refine ⟨fun y => ?_, fun y => ?_⟩
      · subst y; rw [d2] at z; cases z
      · subst y; rw [d3] at z; cases z
  refine ⟨R.len, fun a o h => ?_, fun a ha => ho a (R.oc a ha), R.oh, fun a ha => ?_, fun a ha xs z => ?_, fp, fun i s e => ?_, h2, fun i a ha => ⟨ho a (h3 i a ha).1, (h3 i a ha).2⟩⟩
  · refine fr a o (R.base a o h) fun i ad an e => ?_
    obtain ⟨v, q1, q2, q3, q4⟩ := h1 i _ e
    refine ⟨fun y => ?_, fun y => ?_⟩
    · subst y
      have := (h3 i a (by rw [q3]; simp)).2
      rw [h] at this; cases this
    · subst y
      have := (h3 i a (by rw [q3]; simp)).2
      rw [h] at this; cases this
  · by_cases q : a ∈ O
    · cases h : H a with
      | none => exact absurd h (R.od a q)
      | some o => exact key a o h
    · exact od a ha q
  · by_cases q : a ∈ O
    · cases h : H a with
      | none => exact R.od a q h
      | some o =>
        by_cases q2 : ∀ (i : Nat) ad an, ρ[i]? = some (some (.dr ad an)) → a ≠ ad ∧ a ≠ an
        · have := fr a o h q2
          rw [z] at this
          cases this
          exact R.nt a q xs h
        · apply q2
          intro i ad an e
          obtain ⟨d1, c, nums, d2, d3, d4⟩ := dr i ad an e
          refine ⟨fun y => ?_, fun y => ?_⟩
          · subst y; rw [d2] at z; cases z
          · subst y; rw [d3] at z; cases z
    · exact nt a ha q xs z
  · obtain ⟨v, q1, q2⟩ := h1 i s e
    refine ⟨v, q1, ?_⟩
    cases s with
    | sh d => exact ⟨q2.1, q2.2.mono ex⟩
    | dr ad an => exact ⟨q2.1, q2.2.1, dr i ad an e⟩
    | xo cl =>
      obtain ⟨g1, z, g2, g3⟩ := q2
      exact ⟨g1, z, g2, ex _ _ g3⟩
    | mo o =>
      refine ObR.stay ex (fun a ha u g3 => fr a u g3 fun j ad an e' => ?_) q2
      obtain ⟨v', p1, p2, p3, p4⟩ := h1 j _ e'
      have ne : ∀ b ∈ fp j, a ≠ b := fun b hb z => by
        subst z
        have := h2 i j a ha hb
        subst this
        rw [e] at e'
        cases e'
      exact ⟨ne _ (by rw [p3]; simp), ne _ (by rw [p3]; simp)⟩
    | ow ds =>
      obtain ⟨a, vs, g1, g2, g3, g4⟩ := q2
      refine ⟨a, vs, g1, g2, fr a _ g3 fun j ad an e' => ?_, g4.mono ex⟩
      obtain ⟨v', p1, p2, p3, p4⟩ := h1 j _ e'
      have ne : ∀ b ∈ fp j, a ≠ b := fun b hb z => by
        subst z
        have := h2 i j a (by rw [g2]; simp) hb
        subst this
        rw [e] at e'
        cases e'
      exact ⟨ne ad (by rw [p3]; simp), ne an (by rw [p3]; simp)⟩
theorem RepS.later (R : RepS Oc H0 O σ ρ H) (l : Later O ρ H H2) : RepS Oc H0 O σ ρ H2 := R.back (fun _ z => z) (fun a h n => absurd h n) (fun a h n => absurd h n) l.ex l.fr l.dr
/-- where the block's own names are forgotten -/
theorem later_wipe (R : RepS Oc H0 O σ ρ H) {vs : List Nat} {is : List Nat} {ds : List D} (hv : ∀ i ∈ is, i ∈ vs) (fr : Fr (setD (wipeE ρ vs) is ds) H H2) (dr : ∀ (i : Nat) ad an, (setD (wipeE ρ vs) is ds)[i]? = some (some (.dr ad an)) → DrSt H2 ad an) :
    Fr ρ H H2 ∧ ∀ (i : Nat) ad an, ρ[i]? = some (some (.dr ad an)) → DrSt H2 ad an := by
  have key : ∀ (is : List Nat) (ρ' : En) (ds : List D) (i : Nat) ad an, (setD ρ' is ds)[i]? = some (some (.dr ad an)) → ρ'[i]? = some (some (.dr ad an)) := by
    intro is
    induction is with
    | nil => intro ρ' ds i ad an h; cases ds <;> exact h
    | cons j is ih =>
      intro ρ' ds i ad an h
      cases ds with
      | nil => exact h
      | cons d ds =>
        unfold setD at h
        have := ih _ ds i ad an h
        by_cases e : j = i
        · subst e
          rw [List.getElem?_set] at this
          rw [if_pos rfl] at this
          split at this <;> simp at this
        · rw [List.getElem?_set_ne e] at this
          exact this
  have sub : ∀ (i : Nat) ad an, (setD (wipeE ρ vs) is ds)[i]? = some (some (.dr ad an)) → ρ[i]? = some (some (.dr ad an)) := by
    intro i ad an h
    have h := key is _ ds i ad an h
    by_cases hi : i ∈ vs
    · exact absurd h (wipeE_not ρ vs i hi _)
    · rw [wipeE_get ρ vs i hi] at h
      exact h
  have keep : ∀ (is : List Nat) (ρ' : En) (ds : List D) (i : Nat), i ∉ is → (setD ρ' is ds)[i]? = ρ'[i]? := by
    intro is
    induction is with
    | nil => intro ρ' ds i h; cases ds <;> rfl
    | cons j is ih =>
      intro ρ' ds i h
      cases ds with
      | nil => rfl
      | cons d ds =>
        unfold setD
        rw [ih _ ds i (fun z => h (List.mem_cons_of_mem _ z)), List.getElem?_set_ne (fun z => h (by simp [z]))]
  refine ⟨fun a o h n => fr a o h fun i ad an e => n i ad an (sub i ad an e), fun i ad an e => ?_⟩
  by_cases hi : i ∈ vs
  · obtain ⟨fp, h1, h2, h3⟩ := R.fp
    obtain ⟨v, q1, q2, q3, q4⟩ := h1 i _ e
    have ne : ∀ b ∈ fp i, ∀ (j : Nat) ad' an', (setD (wipeE ρ vs) is ds)[j]? = some (some (.dr ad' an')) → b ≠ ad' ∧ b ≠ an' := by
      intro b hb j ad' an' e'
      have e2 := sub j ad' an' e'
      obtain ⟨v', p1, p2, p3, p4⟩ := h1 j _ e2
      have hij : i ≠ j := fun z => by
        subst z
        have := key is _ ds i ad' an' e'
        exact wipeE_not ρ vs i hi _ this
      refine ⟨fun z => hij (h2 i j b hb (by rw [p3, z]; simp)), fun z => hij (h2 i j b hb (by rw [p3, z]; simp))⟩
    exact q4.mono (fun o h => fr _ _ h (ne ad (by rw [q3]; simp))) (fun o h => fr _ _ h (ne an (by rw [q3]; simp)))
  · refine dr i ad an ?_
    rw [keep is _ ds i (fun z => hi (hv i z)), wipeE_get ρ vs i hi]
    exact e
end
def SndWE (t : TE) (w : WE) : Prop := ∀ Oc H0 O σ ρ H Q, RepS Oc H0 O σ ρ H → w ρ (fun d => ∀ v H2, Later O ρ H H2 → Dq (hide O H2) v d → Q v H2) → t σ H Q
def SndWA (t : TA) (w : WA) : Prop := ∀ Oc H0 O σ ρ H Q, RepS Oc H0 O σ ρ H → w ρ (fun ds => ∀ vs H2, Later O ρ H H2 → DqAll (hide O H2) vs ds → Q vs H2) → t σ H Q
def SndWT (t : TT) (w : WT) : Prop := ∀ Oc H0 O σ ρ H Q, RepS Oc H0 O σ ρ H → w ρ (fun b => ∀ H2, Later O ρ H H2 → Q b H2) → t σ H Q
def SndWI (t : TI) (w : WA) : Prop := ∀ Oc H0 O σ ρ H R, RepS Oc H0 O σ ρ H → w ρ (fun items => ∀ J H2, Later O ρ H H2 → ItD J (fun _ => none) (fun _ => none) items → R J H2) → t σ H R
section
variable {ι : Type} (Xs : ι → Cx)
def EWE (e : Expr) (w : WE) : Prop := ∃ t, (∀ j, PE (Xs j) e t) ∧ SndWE t w ∧ MonoE w
def EWA (es : List Expr) (w : WA) : Prop := ∃ t, (∀ j, PA (Xs j) es t) ∧ SndWA t w ∧ MonoE w
def EWT (e : Expr) (w : WT) : Prop := ∃ t, (∀ j, PT (Xs j) e t) ∧ SndWT t w ∧ MonoE w
def EWI (tg iter : Expr) (w : WA) : Prop := ∃ t, (∀ j, PI (Xs j) tg iter t) ∧ SndWI t w ∧ MonoE w
end
/-! meanings -/
def lf {α : Type} (f : En → Rs α) : En → (α → Prop) → Prop := fun ρ Q => ∃ d, f ρ = .ok d ∧ Q d
def wOp (g : D → D → Rs D) (a b : WE) : WE := fun ρ Q => a ρ fun x => b ρ fun y => ∃ z, g x y = .ok z ∧ Q z
def wNil : WA := fun _ Q => Q []
def wCons (a : WE) (r : WA) : WA := fun ρ Q => a ρ fun d => r ρ fun ds => Q (d :: ds)
def wApL (g : List D → Rs D) (a : WA) : WE := fun ρ Q => a ρ fun ds => ∃ z, g ds = .ok z ∧ Q z
def wVal (a : WE) : WT := fun ρ Q => a ρ fun d => ∃ b, d = .bool b ∧ Q b
def wIfE (c : WT) (a b : WE) : WE := fun ρ Q => c ρ fun k => if k = true then a ρ Q else b ρ Q
def wRng1 (a : WE) : WA := fun ρ Q => a ρ fun d => ∃ n : Int, d = .int n ∧ -(2 ^ 62) ≤ n ∧ n < 2 ^ 62 ∧ Q (rangeD 0 n.toNat)
def wCompL (T : Tg) (we : WE) (ρ : En) : List D → (List D → Prop) → Prop
  | [], Q => Q []
  | d :: r, Q => match T.asg d ρ with
    | none => False
    | some ρ1 => we ρ1 fun y => wCompL T we ρ r fun ys => Q (y :: ys)
def wComp (wi : WA) (T : Tg) (we : WE) (vs : List Nat) : WE := fun ρ Q => wi ρ fun items => items.length ≤ LIM ∧ wCompL T we (wipeE ρ vs) items fun ys => Q (.list ys)
section
variable {ι : Type} {cv : Nat → Value} {W : WX} {Xs : ι → Cx} {P : Program} {w : World} {K : PySem.W.Frag} {mg : Str → Option Value} {base : Heap} {N ps : List Str} {sc : Scope} {fnn : Str → Bool} {k kc : Nat}
variable {e a b c tg iter elt : Expr} {es : List Expr} {f : En → Rs D} {fs : En → Rs (List D)} {ft : En → Rs Bool} {we wa wb : WE} {ws wi : WA} {wt : WT} {pos p : Pos} {x : Str} {T : Tg} {scope : Scope} {g : List D → Rs D}
theorem mono_lf {α : Type} {f : En → Rs α} : MonoE (lf f) := fun ρ A B h ⟨d, e, q⟩ => ⟨d, e, h d q⟩
theorem we_lift (h : EE cv W Xs e f) : EWE Xs e (lf f) := by
  obtain ⟨t, h1, h2⟩ := h
  refine ⟨t, h1, fun Oc H0 O σ ρ H Q R p => h2 O σ ρ H Q R.e ?_, mono_lf⟩
  obtain ⟨d, e, q⟩ := p
  rw [e]
  exact fun v H2 x qv => q v H2 (R.later_ex x) qv
theorem wt_lift (h : ET cv W Xs e ft) : EWT Xs e (lf ft) := by
  obtain ⟨t, h1, h2⟩ := h
  refine ⟨t, h1, fun Oc H0 O σ ρ H Q R p => h2 O σ ρ H Q R.e ?_, mono_lf⟩
  obtain ⟨d, e, q⟩ := p
  rw [e]
  exact fun H2 x => q H2 (R.later_ex x)
theorem wa_lift (h : EA cv W Xs es fs) : EWA Xs es (lf fs) := by
  obtain ⟨t, h1, h2⟩ := h
  refine ⟨t, h1, fun Oc H0 O σ ρ H Q R p => h2 O σ ρ H Q R.e ?_, mono_lf⟩
  obtain ⟨d, e, q⟩ := p
  rw [e]
  exact fun v H2 x qv => q v H2 (R.later_ex x) qv
theorem snd_wop {ta tb : TE} {r : R2} {g : D → D → Rs D} (ha : SndWE ta wa) (ma : MonoE wa) (hb : SndWE tb wb) (mb : MonoE wb) (hg : OpE r g) : SndWE (tOp r ta tb) (wOp g wa wb) := by
  intro Oc H0 O σ ρ H Q R p
  refine ha Oc H0 O σ ρ H _ R (ma _ _ _ (fun d q v H1 l1 q1 => ?_) p)
  refine hb Oc H0 O σ ρ H1 _ (R.later l1) (mb _ _ _ (fun d' q' v' H2 l2 q2 => ?_) q)
  obtain ⟨z, ez, qz⟩ := q'
  refine hg O v v' H2 Q d d' (R.later (l1.trans l2)).od (.inl (q1.mono l2.ex)) (.inl q2) ?_
  rw [ez]
  exact fun u H3 x3 q3 => qz u H3 ((l1.trans l2).trans ((R.later (l1.trans l2)).later_ex x3)) q3
theorem mono_wOp {g : D → D → Rs D} (ma : MonoE wa) (mb : MonoE wb) : MonoE (wOp g wa wb) := fun ρ A B h p => ma _ _ _ (fun x q => mb _ _ _ (fun y ⟨z, e, qz⟩ => ⟨z, e, h z qz⟩) q) p
theorem we_op {op : Operator} {r : R2} {g : D → D → Rs D} (ho : ∀ j, OpR (Xs j) (binaryOp op) r) (hg : OpE r g) (ha : EWE Xs a wa) (hb : EWE Xs b wb) : EWE Xs (.BinOp a op b pos) (wOp g wa wb) := by
  obtain ⟨ta, h1, h2, h3⟩ := ha
  obtain ⟨tb, h4, h5, h6⟩ := hb
  exact ⟨_, fun j => pe_op (ho j) (h1 j) (h4 j), snd_wop h2 h3 h5 h6 hg, mono_wOp h3 h6⟩
theorem we_add (ha : EWE Xs a wa) (hb : EWE Xs b wb) : EWE Xs (.BinOp a .Add b pos) (wOp dAddI wa wb) := we_op (fun _ => op_add) ope_addI ha hb
theorem we_sub (ha : EWE Xs a wa) (hb : EWE Xs b wb) : EWE Xs (.BinOp a .Sub b pos) (wOp dSubI wa wb) := we_op (fun _ => op_sub) ope_subI ha hb
theorem wt_cmp {op : CmpOp} {r : R2} {g : D → D → Rs D} (ho : ∀ j, OpR (Xs j) (compareOp op) r) (hg : OpE r g) (hm : behindInMarks op b = false) (ha : EWE Xs a wa) (hb : EWE Xs b wb) : EWT Xs (.Compare a [op] [b] pos) (wVal (wOp g wa wb)) := by
  obtain ⟨ta, h1, h2, h3⟩ := ha
  obtain ⟨tb, h4, h5, h6⟩ := hb
  refine ⟨_, fun j => pt_cmpR (ho j) (h1 j) (h4 j) hm, fun Oc H0 O σ ρ H Q R p => snd_wop h2 h3 h5 h6 hg Oc H0 O σ ρ H _ R (mono_wOp h3 h6 _ _ _ (fun d q v H2 l q2 => ?_) p), fun ρ A B h p => mono_wOp h3 h6 _ _ _ (fun d ⟨k, e, q⟩ => ⟨k, e, h k q⟩) p⟩
  obtain ⟨k, rfl, q⟩ := q
  cases q2
  exact ⟨k, rfl, q H2 l⟩
theorem wt_eq (F : Fam Xs P w K mg base N sc fnn k) (ha : EWE Xs a wa) (hb : EWE Xs b wb) : EWT Xs (.Compare a [.Eq] [b] pos) (wVal (wOp dEq wa wb)) := wt_cmp F.opEq ope_eq (nomark _) ha hb
theorem wt_ne (F : Fam Xs P w K mg base N sc fnn k) (ha : EWE Xs a wa) (hb : EWE Xs b wb) : EWT Xs (.Compare a [.NotEq] [b] pos) (wVal (wOp dNe wa wb)) := wt_cmp F.opNe ope_ne (nomark _) ha hb
theorem wt_gt (ha : EWE Xs a wa) (hb : EWE Xs b wb) : EWT Xs (.Compare a [.Gt] [b] pos) (wVal (wOp dGt wa wb)) := wt_cmp (fun _ => op_gt) ope_gt (nomark _) ha hb
theorem wa_nil : EWA Xs [] wNil := ⟨tNil, fun _ => pa_nil, fun Oc H0 O σ ρ H Q R p => p [] H R.later_refl .nil, fun ρ A B h p => h _ p⟩
theorem wa_cons (ha : EWE Xs e we) (hr : EWA Xs es ws) (hs : ∀ env, starEach (e :: es) env = (false, eval e env) :: starEach es env := by intro _; rfl) : EWA Xs (e :: es) (wCons we ws) := by
  obtain ⟨ta, h1, h2, h3⟩ := ha
  obtain ⟨tb, h4, h5, h6⟩ := hr
  refine ⟨_, fun j => pa_cons (h1 j) (h4 j) (hs _), fun Oc H0 O σ ρ H Q R p => h2 Oc H0 O σ ρ H _ R (h3 _ _ _ (fun d q v H1 l1 q1 => ?_) p), fun ρ A B h p => h3 _ _ _ (fun d q => h6 _ _ _ (fun ds q => h _ q) q) p⟩
  exact h5 Oc H0 O σ ρ H1 _ (R.later l1) (h6 _ _ _ (fun ds q vs H2 l2 q2 => q (v :: vs) H2 (l1.trans l2) (.cons (q1.mono l2.ex) q2)) q)
theorem mono_wApL (m : MonoE ws) : MonoE (wApL g ws) := fun ρ A B h p => m _ _ _ (fun ds ⟨z, e, q⟩ => ⟨z, e, h z q⟩) p
theorem we_tup (h : EWA Xs es ws) {x1} : EWE Xs (.Tuple es x1 pos) (wApL dTup ws) := by
  obtain ⟨t, h1, h2, h3⟩ := h
  refine ⟨_, fun j => pe_tup (h1 j), fun Oc H0 O σ ρ H Q R p => h2 Oc H0 O σ ρ H _ R (h3 _ _ _ (fun ds q vs H1 l1 q1 => ?_) p), mono_wApL h3⟩
  obtain ⟨z, e, q⟩ := q
  unfold dTup at e
  split at e
  · cases e
    have R1 := R.later l1
    refine ⟨by rw [q1.length]; exact lim_size ‹_›, fun u hu => ?_⟩
    exact q _ _ (l1.trans (R1.later_ex (Ex.new hu))) (.tup (hide_some.mpr ⟨fun z => R1.od u z hu, upd_same⟩) (q1.mono (hide_ex (Ex.new hu))))
  · cases e
theorem we_lst (h : EWA Xs es ws) : EWE Xs (.List es pos) (wApL dLst ws) := by
  obtain ⟨t, h1, h2, h3⟩ := h
  refine ⟨_, fun j => pe_lst (h1 j), fun Oc H0 O σ ρ H Q R p => h2 Oc H0 O σ ρ H _ R (h3 _ _ _ (fun ds q vs H1 l1 q1 => ?_) p), mono_wApL h3⟩
  obtain ⟨z, e, q⟩ := q
  unfold dLst at e
  split at e
  · cases e
    have R1 := R.later l1
    refine ⟨by rw [q1.length]; exact lim_size ‹_›, fun u hu => ?_⟩
    exact q _ _ (l1.trans (R1.later_ex (Ex.new hu))) (.lst (hide_some.mpr ⟨fun z => R1.od u z hu, upd_same⟩) (q1.mono (hide_ex (Ex.new hu))))
  · cases e
theorem we_call (Fm : Fam Xs P w K mg base N sc fnn k) (G : Known P w K mg base kc x ps (sp0 ps.length g)) (ha : EWA Xs (e :: es) ws) (hk : kc ≤ k := by decide) (hg : glB sc x = true := by decide +kernel)
    (hd : (x == ("__debug__" : Str)) = false := by decide) (hs : ∀ env, starEach (e :: es) env = (false, eval e env) :: starEach es env := by intro _; rfl) (hpl : ∀ env, (backTo pos (starEach es env)).any (·.1) = false := by intro _; rfl) :
    EWE Xs (.Call (.Name x p) (e :: es) [] pos) (wApL (callG ps.length g) ws) := by
  obtain ⟨f, fd, G, hm, kp, b⟩ := G
  obtain ⟨t, h1, h2, h3⟩ := ha
  refine ⟨tCall (sp0 ps.length g) [] E0 t, fun j => ?_, fun Oc H0 O σ ρ H Q R p => h2 Oc H0 O σ ρ H _ R (h3 _ _ _ (fun ds q vs H1 l1 q1 => ?_) p), mono_wApL h3⟩
  · refine pe_call (fd := fd) (CX := CX0) (k := kc) (ps := ps) ?_ ((Fm.room j).mono hk) (Fm.gl_ok hg j) (Fm.some hm j) (by rw [Fm.kk j]; exact kp) (by rw [Fm.kk j]; exact b) .nil pass0 (h1 j) hd (hs _) (hpl _)
    rw [Fm.prog j, Fm.wd j, Fm.kk j, Fm.gl j, Fm.bs j]
    exact G
  · obtain ⟨z, e, q⟩ := q
    unfold callG at e
    split at e
    · rename_i hl
      have R1 := R.later l1
      rw [List.append_nil]
      refine ⟨by rw [q1.length]; exact hl, O, ds, R1.od, R1.nt, q1, ?_⟩
      rw [noEr_ok e]
      exact fun v H2 x2 q2 => q v H2 (l1.trans (R1.later_ex x2)) q2
    · cases e
theorem we_ifx (hc : EWT Xs c wt) (ha : EWE Xs a wa) (hb : EWE Xs b wb) : EWE Xs (.IfExp c a b pos) (wIfE wt wa wb) := by
  obtain ⟨tc, h7, h8, h9⟩ := hc
  obtain ⟨ta, h1, h2, h3⟩ := ha
  obtain ⟨tb, h4, h5, h6⟩ := hb
  refine ⟨_, fun j => pe_ifExp (h7 j) (h1 j) (h4 j), fun Oc H0 O σ ρ H Q R p => h8 Oc H0 O σ ρ H _ R (h9 _ _ _ (fun b q H1 l1 => ?_) p), fun ρ A B h p => h9 _ _ _ (fun b q => ?_) p⟩
  · cases b with
    | true => rw [if_pos rfl] at q ⊢; exact h2 Oc H0 O σ ρ H1 _ (R.later l1) (h3 _ _ _ (fun d q v H2 l2 q2 => q v H2 (l1.trans l2) q2) q)
    | false => rw [if_neg (by decide)] at q ⊢; exact h5 Oc H0 O σ ρ H1 _ (R.later l1) (h6 _ _ _ (fun d q v H2 l2 q2 => q v H2 (l1.trans l2) q2) q)
  · cases b with
    | true => rw [if_pos rfl] at q ⊢; exact h3 _ _ _ h q
    | false => rw [if_neg (by decide)] at q ⊢; exact h6 _ _ _ h q
theorem wi_range1 (F : Fam Xs P w K mg base N sc fnn k) {p : Pos} (hm : mg "range" = none) (ha : EWE Xs a wa) (hg : glB sc "range" = true := by decide +kernel) (hs : ∀ env, starEach [a] env = [(false, eval a env)] := by intro _; rfl) : EWI Xs tg (.Call (.Name "range" p) [a] [] pos) (wRng1 wa) := by
  obtain ⟨t, h1, h2, h3⟩ := ha
  refine ⟨_, fun j => pi_range1 (F.gl_ok hg j) (F.none hm j) (pa_cons (h1 j) pa_nil (hs _)) (hs _), fun Oc H0 O σ ρ H Rr R p => h2 Oc H0 O σ ρ H _ R (h3 _ _ _ (fun d q v H1 l1 q1 => ?_) p), fun ρ A B h p => h3 _ _ _ (fun d ⟨n, e, b1, b2, q⟩ => ⟨n, e, b1, b2, h _ q⟩) p⟩
  obtain ⟨n, rfl, b1, b2, q⟩ := q
  cases q1
  exact ⟨n, rfl, b1, b2, q _ H1 l1 itd_range⟩
theorem mono_wCompL (m : MonoE we) : ∀ (items : List D) (ρ : En) (A B : List D → Prop), (∀ ds, A ds → B ds) → wCompL T we ρ items A → wCompL T we ρ items B
  | [], ρ, A, B, h, p => h _ p
  | d :: r, ρ, A, B, h, p => by
    unfold wCompL at p ⊢
    split at p
    · exact p
    · exact m _ _ _ (fun y q => mono_wCompL m r ρ _ _ (fun ys q => h _ q) q) p
theorem snd_wcomp {ti : TI} {g : TG} {te : TE} {vs : List Nat} (hi : SndWI ti wi) (mi : MonoE wi) (hg : SndG g T) (he : SndWE te we) (me : MonoE we) (hv : ∀ i ∈ T.ix, i ∈ vs) : SndWE (tLc ti g tYes te vs) (wComp wi T we vs) := by
  intro Oc H0 O σ ρ H Q R p
  refine hi Oc H0 O σ ρ H _ R (mi _ _ _ (fun items q J H1 l1 dd A hA => ?_) p)
  obtain ⟨hl, hcomp⟩ := q
  have R1 := R.later l1
  have hAO : A ∉ O := fun z => R1.od A z hA
  refine ⟨fun i m H' => m + i = items.length ∧ Ex (hide O H1) (hide (A :: O) H') ∧ Fr ρ H1 H' ∧ (∀ (i : Nat) ad an, ρ[i]? = some (some (.dr ad an)) → DrSt H' ad an) ∧ ∃ ws ds, H' A = some (.lst ws) ∧ DqAll (hide (A :: O) H') ws ds ∧ ds.length ≤ i ∧
      wCompL T we (wipeE ρ vs) (items.drop i) (fun ys => ∀ v H2, Later O ρ H H2 → Dq (hide O H2) v (.list (ds ++ ys)) → Q v H2),
    ⟨items.length, by omega, hide_new hA, fun a o h _ => (Ex.new hA) a o h, fun i ad an e => (R1.drs i ad an e).mono (Ex.new hA _) (Ex.new hA _), [], [], upd_same, .nil, Nat.le_refl _, by simpa using hcomp⟩, ?_⟩
  rintro i m H' ⟨hm, ex, fr, dr, ws, ds, hD, qs, hlen, hc⟩
  have od' : ∀ H3, Ex H' H3 → ∀ a ∈ A :: O, a ∉ O → H3 a ≠ none := fun H3 x a ha hn z => by
    rcases List.mem_cons.mp ha with rfl | ha
    · rw [x _ _ hD] at z; cases z
    · exact hn ha
  have nt' : ∀ H3, Ex H' H3 → ∀ a ∈ A :: O, a ∉ O → ∀ xs, H3 a ≠ some (.tup xs) := by
    intro H3 x a ha hn xs z
    rcases List.mem_cons.mp ha with rfl | ha
    · rw [x _ _ hD] at z; cases z
    · exact hn ha
  by_cases hlt : i < items.length
  · refine .inr ?_
    obtain ⟨hgo, hy⟩ := dd.go i _ H' (fun a o h => by cases h) (List.getElem?_eq_getElem hlt)
    refine ⟨hgo, fun H3 => ∃ m', m' < m ∧ m' + (i + 1) = items.length ∧ Ex (hide O H1) (hide (A :: O) H3) ∧ Fr ρ H1 H3 ∧ (∀ (i : Nat) ad an, ρ[i]? = some (some (.dr ad an)) → DrSt H3 ad an) ∧ ∃ ws ds, H3 A = some (.lst ws) ∧ DqAll (hide (A :: O) H3) ws ds ∧ ds.length ≤ i + 1 ∧
        wCompL T we (wipeE ρ vs) (items.drop (i + 1)) (fun ys => ∀ v H2, Later O ρ H H2 → Dq (hide O H2) v (.list (ds ++ ys)) → Q v H2),
      fun H3 ⟨m', h1, h2, h3⟩ => ⟨m', h1, h2, h3⟩, fun y H3 hyl => ?_⟩
    obtain ⟨x3, hq⟩ := hy y H3 hyl
    have RA : RepS Oc H0 (A :: O) σ ρ H3 := R1.back (fun a ha => List.mem_cons_of_mem _ ha) (od' H3 x3) (nt' H3 x3) (ex.trans (hide_ex x3)) (fr.trans fun a o h _ => x3 a o h) (fun i ad an e => (dr i ad an e).mono (x3 _) (x3 _))
    have qx : Dq (hide (A :: O) H3) y items[i] := hq _ (fun a o h => by cases h) fun a o n1 n2 => hide_some.mpr ⟨fun z => by
      rcases List.mem_cons.mp z with rfl | z
      · rw [hD] at n1; cases n1
      · exact (R1.back (O' := A :: O) (fun a ha => List.mem_cons_of_mem _ ha) (od' H' (Ex.refl _)) (nt' H' (Ex.refl _)) ex fr dr).od a (List.mem_cons_of_mem _ z) n1, n2⟩
    rw [List.drop_eq_getElem_cons hlt] at hc
    unfold wCompL at hc
    cases ea : T.asg items[i] (wipeE ρ vs) with
    | none => rw [ea] at hc; exact hc.elim
    | some ρ1 =>
      rw [ea] at hc
      dsimp only at hc
      unfold Tg.asg at ea
      cases ep : T.parts items[i] with
      | none => rw [ep] at ea; cases ea
      | some es =>
        rw [ep] at ea
        cases ea
        refine hg y items[i] es (wipe σ vs) H3 _ (hide (A :: O) H3) qx hide_le ep fun us hus => ⟨wipe_setV σ vs T.ix us hv, ?_⟩
        unfold tYes
        dsimp only
        rw [if_pos rfl]
        have RW : RepS Oc H0 (A :: O) (wipe σ vs) (wipeE ρ vs) H3 := by
          obtain ⟨fp, h1, h2, h3⟩ := RA.fp
          refine ⟨by rw [L2.wipe_length, wipeE_length]; exact RA.len, RA.base, RA.oc, RA.oh, RA.od, RA.nt, fp, fun j s e => ?_, h2, h3⟩
          by_cases hj : j ∈ vs
          · exact absurd e (wipeE_not ρ vs j hj s)
          · rw [wipeE_get ρ vs j hj] at e
            rw [wipe_get σ vs j hj]
            exact h1 j s e
        have R2 := RW.setD (is := T.ix) hus
        refine he Oc H0 (A :: O) _ _ H3 _ R2 (me _ _ _ (fun d q v H4 l4 q4 => ?_) hc)
        obtain ⟨fr4, dr4⟩ := later_wipe RA hv l4.fr l4.dr
        have nA : ∀ (i : Nat) ad an, (setD (wipeE ρ vs) T.ix es)[i]? = some (some (.dr ad an)) → A ≠ ad ∧ A ≠ an := by
          intro j ad an ej
          obtain ⟨d1, c, nums, d2, d3, d4⟩ := R2.drs j ad an ej
          obtain ⟨fp, h1, h2, h3⟩ := R2.fp
          obtain ⟨v', p1, p2, p3, p4⟩ := h1 j _ ej
          -- the draws' cells stood before A was made
          have key : ∀ b ∈ fp j, A ≠ b := by
            intro b hb z
            have sub : ρ[j]? = some (some (.dr ad an)) := by
              have kk : ∀ (is : List Nat) (ρ' : En) (ds : List D) (i : Nat) ad an, (setD ρ' is ds)[i]? = some (some (.dr ad an)) → ρ'[i]? = some (some (.dr ad an)) := by
                intro is
                induction is with
                | nil => intro ρ' ds i ad an h; cases ds <;> exact h
                | cons j is ih =>
                  intro ρ' ds i ad an h
                  cases ds with
                  | nil => exact h
                  | cons d ds =>
                    unfold setD at h
                    have := ih _ ds i ad an h
                    by_cases e : j = i
                    · subst e
                      rw [List.getElem?_set] at this
                      rw [if_pos rfl] at this
                      split at this <;> simp at this
                    · rw [List.getElem?_set_ne e] at this
                      exact this
              have h := kk T.ix _ es j ad an ej
              by_cases hi : j ∈ vs
              · exact absurd h (wipeE_not ρ vs j hi _)
              · rw [wipeE_get ρ vs j hi] at h
                exact h
            obtain ⟨_, _, _, g2, g3, _⟩ := R1.drs j ad an sub
            rw [p3] at hb
            rcases List.mem_cons.mp hb with y | hb
            · rw [← y, ← z, hA] at g2; cases g2
            · rw [List.mem_singleton] at hb
              rw [← hb, ← z, hA] at g3; cases g3
          exact ⟨key ad (by rw [p3]; simp), key an (by rw [p3]; simp)⟩
        have hD4 : H4 A = some (.lst ws) := l4.fr A _ (x3 _ _ hD) nA
        refine ⟨ws, hD4, ?_, m - 1, by omega, by omega, ?_, ?_, ?_, ws ++ [v], ds ++ [d], upd_same, ?_, by simp; omega, ?_⟩
        · rw [qs.length]
          exact lim_lt (by omega)
        · exact ((ex.trans (hide_ex x3)).trans l4.ex).trans (hide_own (by simp))
        · intro a o h n
          rw [upd_ne (ne_of_none h hA)]
          exact fr4 a o (x3 _ _ (fr a o h n)) n
        · intro j ad an ej
          obtain ⟨_, _, _, g2, g3, _⟩ := R1.drs j ad an ej
          refine (dr4 j ad an ej).mono (fun o h => ?_) (fun o h => ?_)
          · rw [upd_ne (ne_of_none g2 hA)]; exact h
          · rw [upd_ne (ne_of_none g3 hA)]; exact h
        · refine DqAll.mono (hide_own (by simp)) (DqAll.append ((qs.mono (hide_ex x3)).mono l4.ex) (.cons q4 .nil))
        · have e2 : ∀ ys : List D, ds ++ [d] ++ ys = ds ++ d :: ys := fun ys => by simp
          simp only [e2]
          exact q
  · have ei : i = items.length := by omega
    subst ei
    rw [List.drop_length] at hc
    refine .inl ⟨dd.stop H' (fun a o h => by cases h), ?_⟩
    have hc : ∀ v H2, Later O ρ H H2 → Dq (hide O H2) v (.list (ds ++ [])) → Q v H2 := hc
    rw [List.append_nil] at hc
    exact hc _ H' (l1.trans ⟨ex.trans (hide_sub fun a ha => List.mem_cons_of_mem _ ha), fr, dr⟩) (.lst (hide_some.mpr ⟨hAO, hD⟩) (qs.mono (hide_sub fun a ha => List.mem_cons_of_mem _ ha)))
theorem mono_wComp {vs : List Nat} (mi : MonoE wi) (me : MonoE we) : MonoE (wComp wi T we vs) := fun ρ A B h p => mi _ _ _ (fun items ⟨hl, q⟩ => ⟨hl, mono_wCompL me _ _ _ _ (fun ys q => h _ q) q⟩) p
theorem we_comp (F : Fam Xs P w K mg base N sc fnn k) (own : List (Str × Nat)) (hi : EWI Xs tg iter wi)
    (hg : Fam (blkF Xs scope) P w K mg base N (relS scope sc) (fun x => scope.names.lookup x == Option.some NameKind.cell) k → EG (blkF Xs scope) tg T)
    (he : Fam (blkF Xs scope) P w K mg base N (relS scope sc) (fun x => scope.names.lookup x == Option.some NameKind.cell) k → EWE (blkF Xs scope) elt we)
    (ok : blkC N sc scope own = true := by decide +kernel) (hv : ∀ i ∈ T.ix, i ∈ own.map (·.2) := by decide) (hs : ∀ env x, foldedSetIterable iter env x = pure x := by intro _ _; rfl) :
    EWE Xs (.ListComp elt [⟨tg, iter, [], 0⟩] scope pos) (wComp wi T we (own.map (·.2))) := by
  obtain ⟨ti, h1, h2, m1⟩ := hi
  obtain ⟨g, h3, h4⟩ := hg (F.blk scope)
  obtain ⟨te, h7, h8, m2⟩ := he (F.blk scope)
  refine ⟨tLc ti g tYes te (own.map (·.2)), fun j => ?_, snd_wcomp h2 m1 h4 h8 m2 hv, mono_wComp m1 m2⟩
  refine pe_lc (F.calm j) (F.ndj j) (h1 j) ?_ (fun s H C cl fp => h3 (j, s, H, C, cl, fp)) (fun s H C cl fp => pts_nil) (fun s H C cl fp => h7 (j, s, H, C, cl, fp)) (hs _)
  rw [F.nm j, F.scp j]
  exact blkOk_by ok
end
end DL

namespace DL
open PySem L2

/-! ### statements with draws -/
structure WO where
  nx : En → Prop
  rt : D → Prop
  bk : En → Prop := fun _ => False
  ct : En → Prop := fun _ => False
structure WO.Le (A B : WO) : Prop where
  nx : ∀ ρ, A.nx ρ → B.nx ρ
  rt : ∀ d, A.rt d → B.rt d
  bk : ∀ ρ, A.bk ρ → B.bk ρ
  ct : ∀ ρ, A.ct ρ → B.ct ρ
abbrev WS := En → WO → Prop
def MonoS (w : WS) : Prop := ∀ ρ A B, WO.Le A B → w ρ A → w ρ B
def wEnds (Oc : List Addr) (H0 : Hp) (O : List Addr) (H : Hp) (Z : Ends) : WO where
  nx := fun ρ' => ∀ O' σ' H', RepS Oc H0 O' σ' ρ' H' → Ex (hide O H) (hide O' H') → Z.nx σ' H'
  rt := fun d => ∀ v H', Ex H0 H' → Dq (hide Oc H') v d → Z.rt v H'
  bk := fun ρ' => ∀ O' σ' H', RepS Oc H0 O' σ' ρ' H' → Ex (hide O H) (hide O' H') → Z.bk σ' H'
  ct := fun ρ' => ∀ O' σ' H', RepS Oc H0 O' σ' ρ' H' → Ex (hide O H) (hide O' H') → Z.ct σ' H'
theorem wEnds.later {Oc O O2 : List Addr} {H0 H H2 : Hp} {Z : Ends} (e : Ex (hide O H) (hide O2 H2)) : WO.Le (wEnds Oc H0 O H Z) (wEnds Oc H0 O2 H2 Z) :=
  ⟨fun ρ p O' σ' H' r x => p O' σ' H' r (e.trans x), fun d p => p, fun ρ p O' σ' H' r x => p O' σ' H' r (e.trans x), fun ρ p O' σ' H' r x => p O' σ' H' r (e.trans x)⟩
def SndWS (t : TS) (w : WS) : Prop := ∀ Oc H0 O σ ρ H Z, RepS Oc H0 O σ ρ H → w ρ (wEnds Oc H0 O H Z) → t Z σ H
section
variable {ι : Type} (Xs : ι → Cx)
def WSt (s : Stmt) (w : WS) : Prop := ∃ t, (∀ j, PS (Xs j) s t) ∧ SndWS t w ∧ MonoS w
def WSs (ss : List Stmt) (w : WS) : Prop := ∃ t, (∀ j, PSs (Xs j) ss t) ∧ SndWS t w ∧ MonoS w
end
def ls (F : En → Out) : WS := fun ρ K => match F ρ with
  | .nx ρ' => K.nx ρ'
  | .rt d => K.rt d
  | .bk ρ' => K.bk ρ'
  | .ct ρ' => K.ct ρ'
  | _ => False
def wSeq (a b : WS) : WS := fun ρ K => a ρ { K with nx := fun ρ' => b ρ' K }
def wSkip : WS := fun ρ K => K.nx ρ
def wSet (i : Nat) (w : WE) : WS := fun ρ K => w ρ fun d => K.nx (ρ.set i (some (.sh d)))
def wAsg (T : Tg) (w : WE) : WS := fun ρ K => w ρ fun d => ∃ ρ', T.asg d ρ = some ρ' ∧ K.nx ρ'
def wPar (is : List Nat) (w : WA) : WS := fun ρ K => w ρ fun ds => ds.length = is.length ∧ K.nx (setD ρ is ds)
def wIfS (c : WT) (a b : WS) : WS := fun ρ K => c ρ fun k => if k = true then a ρ K else b ρ K
def wRet (w : WE) : WS := fun ρ K => w ρ K.rt
def wExp (w : WE) : WS := fun ρ K => w ρ fun _ => K.nx ρ
def wForL (T : Tg) (vs : List Nat) (body : WS) : List D → En → WO → Prop
  | [], ρ, K => K.nx ρ
  | d :: r, ρ, K => ∃ ρ1, T.asg d ρ = some ρ1 ∧ body ρ1 ⟨fun ρ' => wForL T vs body r (wipeE ρ' vs) K, K.rt, fun ρ' => K.nx (wipeE ρ' vs), fun ρ' => wForL T vs body r (wipeE ρ' vs) K⟩
def wFor (it : En → Rs (List D)) (T : Tg) (vs : List Nat) (body : WS) : WS := fun ρ K => ∃ items, it ρ = .ok items ∧ wForL T vs body items (wipeE ρ vs) K
section
variable {ι : Type} {cv : Nat → Value} {W : WX} {Xs : ι → Cx} {P : Program} {w : World} {K : PySem.W.Frag} {mg : Str → Option Value} {base : Heap} {N ps : List Str} {sc : Scope} {fnn : Str → Bool} {k kc : Nat}
variable {e a b c tg iter elt : Expr} {es : List Expr} {f : En → Rs D} {fs it : En → Rs (List D)} {ft : En → Rs Bool} {we wa wb : WE} {ws wi : WA} {wt : WT} {pos p npos ppos : Pos} {x : Str} {T : Tg} {scope : Scope} {st : Stmt} {rest ss ss' : List Stmt} {F : En → Out} {u v : WS} {te : TE} {i : Nat}
theorem mono_ls : MonoS (ls F) := fun ρ A B h p => by
  unfold ls at p ⊢
  split at p
  · exact h.nx _ p
  · exact h.rt _ p
  · exact h.bk _ p
  · exact h.ct _ p
  · exact p
theorem snd_ls {t : TS} (h : SndS cv W .dat t F) : SndWS t (ls F) := fun Oc H0 O σ ρ H Z R p => h Oc H0 O σ ρ H Z R (by
  unfold ls at p
  cases e : F ρ with
  | nx ρ' => rw [e] at p; exact p
  | rt d => rw [e] at p; exact p
  | bk ρ' => rw [e] at p; exact p
  | ct ρ' => rw [e] at p; exact p
  | ex c ρ' => rw [e] at p; exact p.elim
  | no => rw [e] at p; exact p.elim)
theorem ws_lift (h : SS cv W .dat Xs st F) : WSt Xs st (ls F) := by
  obtain ⟨t, h1, h2⟩ := h
  exact ⟨t, h1, snd_ls h2, mono_ls⟩
theorem ws_lifts (h : SSs cv W .dat Xs ss F) : WSs Xs ss (ls F) := by
  obtain ⟨t, h1, h2⟩ := h
  exact ⟨t, h1, snd_ls h2, mono_ls⟩
theorem ws_nil : WSs Xs [] wSkip := ⟨tNext, fun _ => pss_nil, fun Oc H0 O σ ρ H Z R p => p O σ H R (Ex.refl _), fun ρ A B h p => h.nx _ p⟩
theorem ws_one (h : WSt Xs st u) : WSs Xs [st] u := by
  obtain ⟨t, h1, h2, h3⟩ := h
  exact ⟨t, fun j => pss_one (h1 j), h2, h3⟩
theorem ws_cons (h : WSt Xs st u) (hr : WSs Xs rest v) : WSs Xs (st :: rest) (wSeq u v) := by
  obtain ⟨t, h1, h2, h3⟩ := h
  obtain ⟨t', h4, h5, h6⟩ := hr
  refine ⟨_, fun j => pss_cons (h1 j) (h4 j), fun Oc H0 O σ ρ H Z R p => h2 Oc H0 O σ ρ H _ R (h3 ρ _ _ ?_ p), fun ρ A B h p => h3 ρ _ _ ?_ p⟩
  · exact ⟨fun ρ' q O' σ' H' R' x => h5 Oc H0 O' σ' ρ' H' Z R' (h6 _ _ _ (wEnds.later x) q), fun _ q => q, fun _ q => q, fun _ q => q⟩
  · exact ⟨fun ρ' q => h6 _ _ _ h q, h.rt, h.bk, h.ct⟩
theorem snd_wset (h : SndWE te we) (m : MonoE we) : SndWS (tAsg te (gName i)) (wSet i we) := fun Oc H0 O σ ρ H Z R p => h Oc H0 O σ ρ H _ R (m _ _ _ (fun d q v H2 l q2 => q O _ H2 ((R.later l).set q2) l.ex) p)
theorem mono_wSet (m : MonoE we) : MonoS (wSet i we) := fun ρ A B h p => m _ _ _ (fun d q => h.nx _ q) p
theorem ws_set (Fm : Fam Xs P w K mg base N sc fnn k) (i : Nat) (h : EWE Xs e we) (hN : N[i]? = some x := by rfl) (hx : stB fnn sc x = true := by decide +kernel) (hs : ∀ env, swapsWith e (some (.Name x npos)) pos.line env = pure false := by intro _; rfl) :
    WSt Xs (.Assign [.Name x npos] e pos) (wSet i we) := by
  obtain ⟨t, h1, h2, h3⟩ := h
  exact ⟨_, fun j => ps_set (Fm.ndj j) (Fm.at hN j) (Fm.loc hx j) (h1 j) (hs _) (Fm.hf hx j), snd_wset h2 h3, mono_wSet h3⟩
/-- x = e, where x is a cell and e a comprehension -/
theorem ws_setC (Fm : Fam Xs P w K mg base N sc fnn k) (i : Nat) (h : EWE Xs e we) (hN : N[i]? = some x := by rfl) (hx : stB fnn sc x = true := by decide +kernel) (hs : ∀ j, swapsWith e (some (.Name x npos)) pos.line (Xs j).env = pure false) :
    WSt Xs (.Assign [.Name x npos] e pos) (wSet i we) := by
  obtain ⟨t, h1, h2, h3⟩ := h
  exact ⟨_, fun j => ps_set (Fm.ndj j) (Fm.at hN j) (Fm.loc hx j) (h1 j) (hs j) (Fm.hf hx j), snd_wset h2 h3, mono_wSet h3⟩
/-- x = [elt for tg in iter], x a plain local -/
theorem ws_setLc (Fm : Fam Xs P w K mg base N sc fnn k) (i : Nat) (own : List (Str × Nat)) (hi : EWI Xs tg iter wi)
    (hg : Fam (blkF Xs scope) P w K mg base N (relS scope sc) (fun x => scope.names.lookup x == Option.some NameKind.cell) k → EG (blkF Xs scope) tg T)
    (he : Fam (blkF Xs scope) P w K mg base N (relS scope sc) (fun x => scope.names.lookup x == Option.some NameKind.cell) k → EWE (blkF Xs scope) elt we)
    (hN : N[i]? = some x := by rfl) (hx : isLoc sc x = true := by decide +kernel) (hk : sc.kind = .function := by decide +kernel) (hl : (npos.line == ppos.line) = true := by decide +kernel) (ha : (scope.names.any fun (n, k) => n == x && (k == .local || k == .cell)) = false := by decide +kernel)
    (ok : blkC N sc scope own = true := by decide +kernel) (hv : ∀ i ∈ T.ix, i ∈ own.map (·.2) := by decide) (hs : ∀ env x, foldedSetIterable iter env x = pure x := by intro _ _; rfl) :
    WSt Xs (.Assign [.Name x npos] (.ListComp elt [⟨tg, iter, [], 0⟩] scope ppos) pos) (wSet i (wComp wi T we (own.map (·.2)))) := by
  obtain ⟨ti, h1, h2, m1⟩ := hi
  obtain ⟨g, h3, h4⟩ := hg (Fm.blk scope)
  obtain ⟨te, h7, h8, m2⟩ := he (Fm.blk scope)
  refine ⟨tAsg (tLc ti g tYes te (own.map (·.2))) (gName i), fun j => ?_, snd_wset (snd_wcomp h2 m1 h4 h8 m2 hv) (mono_wComp m1 m2), mono_wSet (mono_wComp m1 m2)⟩
  have hy : (Xs j).env.scope.names.lookup x = some .local := by rw [Fm.scp j]; exact isLoc_of hx
  refine ps_setLc (Fm.calm j) (Fm.ndj j) (Fm.at hN j) hy (sw_true (by rw [Fm.scp j]; exact hk) hy hl ha) (h1 j) ?_ (fun s H C cl fp => h3 (j, s, H, C, cl, fp)) (fun s H C cl fp => pts_nil) (fun s H C cl fp => h7 (j, s, H, C, cl, fp)) (hs _)
  rw [Fm.nm j, Fm.scp j]
  exact blkOk_by ok
theorem ws_asg (h : EWE Xs e we) (hg : EG Xs tg T) (hs : ∀ env, swapsWithSole [tg] e pos.line env = pure false := by intro _; rfl) (hw : ∀ j, swappedStores [tg] e (Xs j).env = pure none := by intro _; rfl)
    (h1 : ∀ env, (assignEach [tg] env).map (·.2) = [assign tg env] := by intro _; rfl) : WSt Xs (.Assign [tg] e pos) (wAsg T we) := by
  obtain ⟨t, h2, h3, m⟩ := h
  obtain ⟨g, h4, h5⟩ := hg
  refine ⟨_, fun j => ps_asg (h2 j) (h4 j) (hs _) (hw j) (h1 _), fun Oc H0 O σ ρ H Z R p => h3 Oc H0 O σ ρ H _ R (m _ _ _ (fun d q v H2 l q2 => ?_) p), fun ρ A B h p => m _ _ _ (fun d ⟨ρ', e, q⟩ => ⟨ρ', e, h.nx _ q⟩) p⟩
  obtain ⟨ρ', e, q⟩ := q
  unfold Tg.asg at e
  cases ep : T.parts d with
  | none => rw [ep] at e; cases e
  | some ds =>
    rw [ep] at e
    cases e
    exact h5 v d ds σ H2 _ _ q2 hide_le ep fun ws hws => q O _ H2 ((R.later l).setD hws) l.ex
theorem ws_asgT (Fm : Fam Xs P w K mg base N sc fnn k) {ts vs : List Expr} {kt k2 : Nat} {pt p2 : Pos} (h : EWE Xs (.Tuple vs k2 p2) we) (hg : EG Xs (.Tuple ts kt pt) T) (hw : ((swNames sc ts).length != ts.length) = true := by decide +kernel)
    (h1 : ∀ env, (assignEach [.Tuple ts kt pt] env).map (·.2) = [assign (.Tuple ts kt pt) env] := by intro _; rfl) : WSt Xs (.Assign [.Tuple ts kt pt] (.Tuple vs k2 p2) pos) (wAsg T we) :=
  ws_asg h hg (fun _ => rfl) (fun j => swapped_none (Fm.scp j) hw) h1
theorem mono_wPar {is : List Nat} (m : MonoE ws) : MonoS (wPar is ws) := fun ρ A B h p => m _ _ _ (fun ds ⟨e, q⟩ => ⟨e, h.nx _ q⟩) p
theorem ws_par2 (Fm : Fam Xs P w K mg base N sc fnn k) (i i' : Nat) {y : Str} {px py pt p2 : Pos} {kt k2 : Nat} (ha : EWA Xs [a, b] ws) (hi : N[i]? = some x := by rfl) (hj : N[i']? = some y := by rfl) (hij : i ≠ i' := by decide) (hx : isLoc sc x = true := by decide +kernel) (hy : isLoc sc y = true := by decide +kernel) (hk : sc.kind = .function := by decide +kernel)
    (hn : swNames sc [.Name x px, .Name y py] = [x, y] := by decide +kernel) (hd : (([x, y] : List Str).eraseDups.length != ([x, y] : List Str).length) = false := by decide +kernel) (hst : ([a, b].any fun | .Starred .. => true | _ => false) = false := by rfl) (hf : [a, b].all (foldedForSure 8) = false := by rfl) (hc : [a, b].all (constantsAlone 8) = false := by rfl) :
    WSt Xs (.Assign [.Tuple [.Name x px, .Name y py] kt pt] (.Tuple [a, b] k2 p2) pos) (wPar [i, i'] ws) := by
  obtain ⟨t, h1, h2, m⟩ := ha
  refine ⟨tPar i i' t, fun j => ps_par (Fm.calm j) (Fm.ndj j) (Fm.at hi j) (Fm.at hj j) hij (by rw [Fm.scp j]; exact isLoc_of hx) (by rw [Fm.scp j]; exact isLoc_of hy) (h1 j) (swapped_some (Fm.scp j) hk hn rfl hd rfl rfl hst hf hc) rfl, fun Oc H0 O σ ρ H Z R p => h2 Oc H0 O σ ρ H _ R (m _ _ _ (fun ds q vs H2 l q2 => ?_) p), mono_wPar m⟩
  obtain ⟨hl, q⟩ := q
  match vs, ds, q2, hl with
  | [v, v'], [d, d'], q2, _ => exact ⟨v, v', rfl, q O _ H2 ((R.later l).setD (is := [i, i']) q2) l.ex⟩
  | [], [d, d'], q2, _ => cases q2
  | [_], [d, d'], q2, _ => have := q2.length; simp at this
  | _ :: _ :: _ :: _, [d, d'], q2, _ => have := q2.length; simp at this
theorem ws_par3 (Fm : Fam Xs P w K mg base N sc fnn k) (i i' i'' : Nat) {y z : Str} {px py pz pt p2 : Pos} {kt k2 : Nat} (ha : EWA Xs [a, b, c] ws) (hi : N[i]? = some x := by rfl) (hj : N[i']? = some y := by rfl) (hl : N[i'']? = some z := by rfl) (hij : i ≠ i' := by decide) (hil : i ≠ i'' := by decide) (hjl : i' ≠ i'' := by decide) (hx : isLoc sc x = true := by decide +kernel) (hy : isLoc sc y = true := by decide +kernel) (hz : isLoc sc z = true := by decide +kernel) (hk : sc.kind = .function := by decide +kernel)
    (hn : swNames sc [.Name x px, .Name y py, .Name z pz] = [x, y, z] := by decide +kernel) (hd : (([x, y, z] : List Str).eraseDups.length != ([x, y, z] : List Str).length) = false := by decide +kernel) (hst : ([a, b, c].any fun | .Starred .. => true | _ => false) = false := by rfl) (hf : [a, b, c].all (foldedForSure 8) = false := by rfl) (hc : [a, b, c].all (constantsAlone 8) = false := by rfl) :
    WSt Xs (.Assign [.Tuple [.Name x px, .Name y py, .Name z pz] kt pt] (.Tuple [a, b, c] k2 p2) pos) (wPar [i, i', i''] ws) := by
  obtain ⟨t, h1, h2, m⟩ := ha
  refine ⟨_, fun j => ps_par3 (Fm.calm j) (Fm.ndj j) (Fm.at hi j) (Fm.at hj j) (Fm.at hl j) hij hil hjl (by rw [Fm.scp j]; exact isLoc_of hx) (by rw [Fm.scp j]; exact isLoc_of hy) (by rw [Fm.scp j]; exact isLoc_of hz) (h1 j) (swapped_some (Fm.scp j) hk hn rfl hd rfl rfl hst hf hc) rfl, fun Oc H0 O σ ρ H Z R p => h2 Oc H0 O σ ρ H _ R (m _ _ _ (fun ds q vs H2 l q2 => ?_) p), mono_wPar m⟩
  obtain ⟨hl, q⟩ := q
  match vs, ds, q2, hl with
  | [v, v', v''], [d, d', d''], q2, _ => exact ⟨v, v', v'', rfl, q O _ H2 ((R.later l).setD (is := [i, i', i'']) q2) l.ex⟩
  | [], [d, d', d''], q2, _ => cases q2
  | [_], [d, d', d''], q2, _ => have := q2.length; simp at this
  | [_, _], [d, d', d''], q2, _ => have := q2.length; simp at this
  | _ :: _ :: _ :: _ :: _, [d, d', d''], q2, _ => have := q2.length; simp at this
theorem ws_if (h : EWT Xs c wt) (ha : WSs Xs ss u) (hb : WSs Xs ss' v) : WSt Xs (.If c ss ss' pos) (wIfS wt u v) := by
  obtain ⟨t, h1, h2, m⟩ := h
  obtain ⟨ta, h3, h4, m1⟩ := ha
  obtain ⟨tb, h5, h6, m2⟩ := hb
  refine ⟨_, fun j => ps_if (h1 j) (h3 j) (h5 j), fun Oc H0 O σ ρ H Z R p => h2 Oc H0 O σ ρ H _ R (m _ _ _ (fun b q H2 l => ?_) p), fun ρ A B h p => m _ _ _ (fun b q => ?_) p⟩
  · cases b with
    | true => rw [if_pos rfl] at q ⊢; exact h4 Oc H0 O σ ρ H2 Z (R.later l) (m1 _ _ _ (wEnds.later l.ex) q)
    | false => rw [if_neg (by decide)] at q ⊢; exact h6 Oc H0 O σ ρ H2 Z (R.later l) (m2 _ _ _ (wEnds.later l.ex) q)
  · cases b with
    | true => rw [if_pos rfl] at q ⊢; exact m1 _ _ _ h q
    | false => rw [if_neg (by decide)] at q ⊢; exact m2 _ _ _ h q
theorem ws_ret (h : EWE Xs e we) : WSt Xs (.Return (some e) pos) (wRet we) := by
  obtain ⟨t, h1, h2, m⟩ := h
  exact ⟨_, fun j => ps_ret (h1 j), fun Oc H0 O σ ρ H Z R p => h2 Oc H0 O σ ρ H _ R (m _ _ _ (fun d q v H2 l q2 => q v H2 (R.later l).base (q2.mono (hide_sub R.oc))) p), fun ρ A B h p => m _ _ _ h.rt p⟩
theorem ws_expr (h : EWE Xs e we) (hs : ∀ env, swapsWith e none pos.line env = pure false := by intro _; rfl) : WSt Xs (.Expr e pos) (wExp we) := by
  obtain ⟨t, h1, h2, m⟩ := h
  exact ⟨_, fun j => ps_expr (h1 j) (hs _), fun Oc H0 O σ ρ H Z R p => h2 Oc H0 O σ ρ H _ R (m _ _ _ (fun d q v H2 l q2 => q O σ H2 (R.later l) l.ex) p), fun ρ A B h p => m _ _ _ (fun d q => h.nx _ q) p⟩
theorem mono_wForL {vs : List Nat} (m : MonoS u) : ∀ (items : List D) (ρ : En) (A B : WO), WO.Le A B → wForL T vs u items ρ A → wForL T vs u items ρ B
  | [], ρ, A, B, h, p => h.nx _ p
  | d :: r, ρ, A, B, h, p => by
    unfold wForL at p ⊢
    obtain ⟨ρ1, e, p⟩ := p
    refine ⟨ρ1, e, m ρ1 _ _ ?_ p⟩
    exact ⟨fun ρ' q => mono_wForL m r _ A B h q, h.rt, fun ρ' q => h.nx _ q, fun ρ' q => mono_wForL m r _ A B h q⟩
theorem ws_for (Fm : Fam Xs P w K mg base N sc fnn k) (hp : ∀ j, PassesOwn (model (Xs j).prog (Xs j).w) (Xs j).A (Xs j).env (Xs j).xe) (vs : List Nat) (hi : EIS cv W Xs tg iter it) (hg : EG Xs tg T) (hb : WSs Xs ss u)
    (hf : ∀ env x, foldedSetIterable iter env x = pure x := by intro _ _; rfl) : WSt Xs (.For tg iter ss [] pos) (wFor it T vs u) := by
  obtain ⟨ti, h1, h2⟩ := hi
  obtain ⟨g, h3, h4⟩ := hg
  obtain ⟨tb, h5, h6, m⟩ := hb
  refine ⟨tFor ti g tb, fun j => ps_for (hp j) (Fm.calm j) (h1 j) (h3 j) (h5 j) (hf _), fun Oc H0 O σ ρ H Z R p => h2 O σ ρ H _ R.e ?_, fun ρ A B h ⟨items, e, p⟩ => ⟨items, e, mono_wForL m _ _ _ _ h p⟩⟩
  obtain ⟨items, ei, p⟩ := p
  rw [ei]
  intro J H1 x1 dd
  refine ⟨fun i m σ' H' => m + i = items.length ∧ ∃ O' ρ', RepS Oc H0 O' σ' ρ' H' ∧ Ex (hide O H1) (hide O' H') ∧ wForL T vs u (items.drop i) ρ' (wEnds Oc H0 O' H' Z),
    ⟨items.length, by omega, O, wipeE ρ vs, (R.mono x1).forget vs, Ex.refl _, mono_wForL m _ _ _ _ (wEnds.later (hide_ex x1)) (by simpa using p)⟩, ?_⟩
  rintro i mm σ' H' ⟨hm, O', ρ', R', x2, hw⟩
  have x2' : Ex (hide O H1) H' := x2.trans hide_le
  by_cases hlt : i < items.length
  · obtain ⟨hgo, hy⟩ := dd.go i _ H' x2' (List.getElem?_eq_getElem hlt)
    refine .inr ⟨hgo, fun σ3 H3 => ∃ m', m' < mm ∧ m' + (i + 1) = items.length ∧ ∃ O' ρ', RepS Oc H0 O' σ3 ρ' H3 ∧ Ex (hide O H1) (hide O' H3) ∧ wForL T vs u (items.drop (i + 1)) ρ' (wEnds Oc H0 O' H3 Z),
      fun σ3 H3 ⟨m', g1, g2, g3⟩ => ⟨m', g1, g2, g3⟩, fun y H3 hyl => ?_⟩
    obtain ⟨x3, hq⟩ := hy y H3 hyl
    have qx : Dq (hide O' H3) y items[i] := hq _ (x2.trans (hide_ex x3)) fun a o n1 n2 => hide_some.mpr ⟨fun z => R'.od a z n1, n2⟩
    rw [List.drop_eq_getElem_cons hlt] at hw
    unfold wForL at hw
    obtain ⟨ρ1, ea, hw⟩ := hw
    unfold Tg.asg at ea
    cases ep : T.parts items[i] with
    | none => rw [ep] at ea; cases ea
    | some es =>
      rw [ep] at ea
      cases ea
      refine h4 y items[i] es σ' H3 _ (hide O' H3) qx hide_le ep fun us hus => ?_
      refine h6 Oc H0 O' _ _ H3 _ ((R'.mono x3).setD (is := T.ix) hus) (m _ _ _ ?_ hw)
      refine ⟨fun ρ2 q O4 σ4 H4 R4 x4 => ?_, fun d q => q, fun ρ2 q O4 σ4 H4 R4 x4 => ?_, fun ρ2 q O4 σ4 H4 R4 x4 => ?_⟩
      · exact ⟨mm - 1, by omega, by omega, O4, _, R4.forget vs, (x2.trans (hide_ex x3)).trans x4, mono_wForL m _ _ _ _ (wEnds.later ((hide_ex x3).trans x4)) q⟩
      · exact q O4 σ4 H4 (R4.forget vs) ((hide_ex x3).trans x4)
      · exact ⟨mm - 1, by omega, by omega, O4, _, R4.forget vs, (x2.trans (hide_ex x3)).trans x4, mono_wForL m _ _ _ _ (wEnds.later ((hide_ex x3).trans x4)) q⟩
  · have ei : i = items.length := by omega
    subst ei
    rw [List.drop_length] at hw
    exact .inl ⟨dd.stop H' x2', hw O' σ' H' R' (Ex.refl _)⟩

/-! ### draws -/
def DrEx (ad an : Addr) (H H' : Hp) : Prop := ∀ a o, H a = some o → a ≠ ad → a ≠ an → H' a = some o
def intR (n : Int) : List Int := (List.range n.toNat).map fun (i : Nat) => 1 + (i : Int)
def spStart (K : PySem.W.Frag) : Sp := fun vs H Q _ => ∃ (a : Addr) (ns : List Int), vs = [.ref a] ∧ SqL K H a (ns.map V.int) ∧ ns.length ≤ 63 ∧ ∀ ad an H', Ex H H' → H ad = none → H an = none → DrSt H' ad an → Q (.ref ad) H'
def spDraw : Sp := fun vs H Q _ => ∃ ad an n, vs = [.ref ad, .int n] ∧ DrSt H ad an ∧ 0 < n ∧ n < 1073741824 ∧ ∀ r H', 0 ≤ r → r < n → DrEx ad an H H' → DrSt H' ad an → Q (.int r) H'
def spPick : Sp := fun vs H Q _ => ∃ (ad an b : Addr) (xs : List V), vs = [.ref ad, .ref b] ∧ DrSt H ad an ∧ H b = some (.lst xs) ∧ b ≠ ad ∧ b ≠ an ∧ xs ≠ [] ∧ xs.length < 1073741824 ∧ ∀ x H', x ∈ xs → DrEx ad an H H' → DrSt H' ad an → Q x H'
def spRank : Sp := fun vs H Q _ => ∃ ad an n, vs = [.ref ad, .int n] ∧ DrSt H ad an ∧ 0 ≤ n ∧ n ≤ 1000 ∧ ∀ (l : List Int) p H', l.Perm (intR n) → DrEx ad an H H' → DrSt H' ad an → H p = none → H' p = some (.lst (l.map V.int)) → Q (.ref p) H'
theorem DrEx.trans {ad an : Addr} {H H1 H2 : Hp} (a : DrEx ad an H H1) (b : DrEx ad an H1 H2) : DrEx ad an H H2 := fun x o h n m => b x o (a x o h n m) n m
theorem DrEx.of {ad an : Addr} {H H1 : Hp} (a : Ex H H1) : DrEx ad an H H1 := fun x o h _ _ => a x o h
def wDraw (i : Nat) (b : WE) : WE := fun ρ Q => (∃ ad an, ρ[i]? = some (some (.dr ad an))) ∧ b ρ fun d => ∃ n, d = .int n ∧ 0 < n ∧ n < 1073741824 ∧ ∀ r, 0 ≤ r → r < n → Q (.int r)
def wRank (i : Nat) (b : WE) : WE := fun ρ Q => (∃ ad an, ρ[i]? = some (some (.dr ad an))) ∧ b ρ fun d => ∃ n, d = .int n ∧ 0 ≤ n ∧ n ≤ 1000 ∧ ∀ l : List Int, l.Perm (intR n) → Q (.list (l.map PyData.int))
def wPick (i : Nat) (b : WE) : WE := fun ρ Q => (∃ ad an, ρ[i]? = some (some (.dr ad an))) ∧ b ρ fun d => ∃ ds, d = .list ds ∧ ds ≠ [] ∧ ds.length < 1073741824 ∧ ∀ x ∈ ds, Q x
theorem later_dr {Oc O : List Addr} {H0 H H2 : Hp} {σ : St} {ρ : En} {ad an : Addr} (R : RepS Oc H0 O σ ρ H) (e : ρ[i]? = some (some (.dr ad an))) (x : DrEx ad an H H2) (d : DrSt H2 ad an) : Later O ρ H H2 := by
  obtain ⟨fp, h1, h2, h3⟩ := R.fp
  obtain ⟨v, q1, q2, q3, q4⟩ := h1 i _ e
  have o1 : ad ∈ O := (h3 i ad (by rw [q3]; simp)).1
  have o2 : an ∈ O := (h3 i an (by rw [q3]; simp)).1
  refine ⟨fun a o h => ?_, fun a o h n => x a o h (n i ad an e).1 (n i ad an e).2, fun j ad' an' e' => ?_⟩
  · obtain ⟨g1, g2⟩ := hide_some.mp h
    exact hide_some.mpr ⟨g1, x a o g2 (fun z => g1 (z ▸ o1)) (fun z => g1 (z ▸ o2))⟩
  · by_cases hj : i = j
    · subst hj
      rw [e] at e'
      cases e'
      exact d
    · obtain ⟨v', p1, p2, p3, p4⟩ := h1 j _ e'
      have ne : ∀ b ∈ fp j, b ≠ ad ∧ b ≠ an := fun b hb => ⟨fun z => hj (h2 i j b (by rw [q3, z]; simp) hb), fun z => hj (h2 i j b (by rw [q3, z]; simp) hb)⟩
      exact p4.mono (fun o h => x _ _ h (ne ad' (by rw [p3]; simp)).1 (ne ad' (by rw [p3]; simp)).2) (fun o h => x _ _ h (ne an' (by rw [p3]; simp)).1 (ne an' (by rw [p3]; simp)).2)
theorem RepS.at_dr {Oc O : List Addr} {H0 H : Hp} {σ : St} {ρ : En} {ad an : Addr} (R : RepS Oc H0 O σ ρ H) (e : ρ[i]? = some (some (.dr ad an))) : σ[i]? = some (some (.ref ad)) ∧ ad ∈ O ∧ an ∈ O := by
  obtain ⟨fp, h1, h2, h3⟩ := R.fp
  obtain ⟨v, q1, q2, q3, q4⟩ := h1 i _ e
  subst q2
  exact ⟨q1, (h3 i ad (by rw [q3]; simp)).1, (h3 i an (by rw [q3]; simp)).1⟩
variable {y : Str} {qpos : Pos} {ps : List Str}
theorem pe_dcall (Fm : Fam Xs P w K mg base N sc fnn k) {sp : Sp} {tb : TE} (i : Nat) (G : Known P w K mg base kc x ps sp) (h1 : ∀ j, PE (Xs j) b tb) (hN : N[i]? = some y) (hv : visB sc y = true) (hk : kc ≤ k) (hg : glB sc x = true)
    (hd : (x == ("__debug__" : Str)) = false) (hdy : (y == ("__debug__" : Str)) = false) (hcd : (y == ("__classdict__" : Str)) = false) (hs : ∀ env, starEach [b] env = (false, eval b env) :: starEach [] env) :
    ∀ j, PE (Xs j) (.Call (.Name x p) [.Name y qpos, b] [] pos) (tCall sp [] E0 (tCons (tVar i) (tCons tb tNil))) := by
  intro j
  obtain ⟨f, fd, G, hm, kp, bb⟩ := G
  refine pe_call (fd := fd) (CX := CX0) (k := kc) (ps := ps) ?_ ((Fm.room j).mono hk) (Fm.gl_ok hg j) (Fm.some hm j) (by rw [Fm.kk j]; exact kp) (by rw [Fm.kk j]; exact bb) .nil pass0 (pa_cons (pe_var (Fm.at hN j) (Fm.vis hv j) hdy hcd) (pa_cons (h1 j) pa_nil (hs _)) rfl) hd rfl (by rw [hs]; rfl)
  rw [Fm.prog j, Fm.wd j, Fm.kk j, Fm.gl j, Fm.bs j]
  exact G
theorem we_draw (Fm : Fam Xs P w K mg base N sc fnn k) (i : Nat) (G : Known P w K mg base kc x ps spDraw) (hb : EWE Xs b wb) (hN : N[i]? = some y := by rfl) (hv : visB sc y = true := by decide +kernel) (hk : kc ≤ k := by decide) (hg : glB sc x = true := by decide +kernel)
    (hd : (x == ("__debug__" : Str)) = false := by decide) (hdy : (y == ("__debug__" : Str)) = false := by decide) (hcd : (y == ("__classdict__" : Str)) = false := by decide) (hs : ∀ env, starEach [b] env = (false, eval b env) :: starEach [] env := by intro _; rfl) :
    EWE Xs (.Call (.Name x p) [.Name y qpos, b] [] pos) (wDraw i wb) := by
  obtain ⟨tb, h1, h2, m⟩ := hb
  refine ⟨_, pe_dcall Fm i G h1 hN hv hk hg hd hdy hcd hs, fun Oc H0 O σ ρ H Q R p => ?_, fun ρ A B h ⟨e, p⟩ => ⟨e, m _ _ _ (fun d ⟨n, e, g1, g2, q⟩ => ⟨n, e, g1, g2, fun r r1 r2 => h _ (q r r1 r2)⟩) p⟩⟩
  obtain ⟨⟨ad, an, e⟩, p⟩ := p
  obtain ⟨es, o1, o2⟩ := R.at_dr e
  refine ⟨_, es, h2 Oc H0 O σ ρ H _ R (m _ _ _ (fun d q v H1 l1 q1 => ?_) p)⟩
  obtain ⟨n, rfl, g1, g2, q⟩ := q
  cases q1
  have R1 := R.later l1
  exact ⟨ad, an, n, rfl, R1.drs i ad an e, g1, g2, fun r H2 r1 r2 x d => q r r1 r2 _ H2 (l1.trans (later_dr R1 e x d)) (.int r)⟩
theorem we_rank (Fm : Fam Xs P w K mg base N sc fnn k) (i : Nat) (G : Known P w K mg base kc x ps spRank) (hb : EWE Xs b wb) (hN : N[i]? = some y := by rfl) (hv : visB sc y = true := by decide +kernel) (hk : kc ≤ k := by decide) (hg : glB sc x = true := by decide +kernel)
    (hd : (x == ("__debug__" : Str)) = false := by decide) (hdy : (y == ("__debug__" : Str)) = false := by decide) (hcd : (y == ("__classdict__" : Str)) = false := by decide) (hs : ∀ env, starEach [b] env = (false, eval b env) :: starEach [] env := by intro _; rfl) :
    EWE Xs (.Call (.Name x p) [.Name y qpos, b] [] pos) (wRank i wb) := by
  obtain ⟨tb, h1, h2, m⟩ := hb
  refine ⟨_, pe_dcall Fm i G h1 hN hv hk hg hd hdy hcd hs, fun Oc H0 O σ ρ H Q R p => ?_, fun ρ A B h ⟨e, p⟩ => ⟨e, m _ _ _ (fun d ⟨n, e, g1, g2, q⟩ => ⟨n, e, g1, g2, fun l r1 => h _ (q l r1)⟩) p⟩⟩
  obtain ⟨⟨ad, an, e⟩, p⟩ := p
  obtain ⟨es, o1, o2⟩ := R.at_dr e
  refine ⟨_, es, h2 Oc H0 O σ ρ H _ R (m _ _ _ (fun d q v H1 l1 q1 => ?_) p)⟩
  obtain ⟨n, rfl, g1, g2, q⟩ := q
  cases q1
  have R1 := R.later l1
  refine ⟨ad, an, n, rfl, R1.drs i ad an e, g1, g2, fun l u H2 r1 x d n1 n2 => q l r1 _ H2 (l1.trans (later_dr R1 e x d)) (.lst (hide_some.mpr ⟨fun z => R1.od u z n1, n2⟩) (DqAll.ofInts l))⟩
theorem we_pick (Fm : Fam Xs P w K mg base N sc fnn k) (i : Nat) (G : Known P w K mg base kc x ps spPick) (hb : EWE Xs b wb) (hN : N[i]? = some y := by rfl) (hv : visB sc y = true := by decide +kernel) (hk : kc ≤ k := by decide) (hg : glB sc x = true := by decide +kernel)
    (hd : (x == ("__debug__" : Str)) = false := by decide) (hdy : (y == ("__debug__" : Str)) = false := by decide) (hcd : (y == ("__classdict__" : Str)) = false := by decide) (hs : ∀ env, starEach [b] env = (false, eval b env) :: starEach [] env := by intro _; rfl) :
    EWE Xs (.Call (.Name x p) [.Name y qpos, b] [] pos) (wPick i wb) := by
  obtain ⟨tb, h1, h2, m⟩ := hb
  refine ⟨_, pe_dcall Fm i G h1 hN hv hk hg hd hdy hcd hs, fun Oc H0 O σ ρ H Q R p => ?_, fun ρ A B h ⟨e, p⟩ => ⟨e, m _ _ _ (fun d ⟨n, e, g1, g2, q⟩ => ⟨n, e, g1, g2, fun l r1 => h _ (q l r1)⟩) p⟩⟩
  obtain ⟨⟨ad, an, e⟩, p⟩ := p
  obtain ⟨es, o1, o2⟩ := R.at_dr e
  refine ⟨_, es, h2 Oc H0 O σ ρ H _ R (m _ _ _ (fun d q v H1 l1 q1 => ?_) p)⟩
  obtain ⟨ds, rfl, g1, g2, q⟩ := q
  have R1 := R.later l1
  cases q1 with
  | lst a1 a2 =>
    obtain ⟨b1, b2⟩ := hide_some.mp a1
    refine ⟨ad, an, _, _, rfl, R1.drs i ad an e, b2, fun z => b1 (z ▸ o1), fun z => b1 (z ▸ o2), fun z => ?_, by rw [a2.length]; exact g2, fun u H2 hu x d => ?_⟩
    · rw [z] at a2
      cases a2
      exact g1 rfl
    · have l2 := later_dr R1 e x d
      obtain ⟨j, hj, ej⟩ := List.getElem_of_mem hu
      obtain ⟨dd, c1, c2⟩ := a2.get' j (v := u) (by rw [List.getElem?_eq_getElem hj, ej])
      exact q dd (List.mem_of_getElem? c1) _ H2 (l1.trans l2) (c2.mono l2.ex)
end

/-! ### the law -/
def spLaw (K : PySem.W.Frag) : Sp := fun vs H Q _ => ∃ (a : Addr) (ns : List Int), vs = [.ref a] ∧ SqL K H a (ns.map V.int) ∧ ns.length ≤ 63 ∧ ∀ H', Q (.bl true) H'
def lawOk (n i : Nat) (w : WS) : Prop := ∀ ad an, w ((List.replicate n none).set i (some (.dr ad an))) ⟨fun _ => False, fun d => d = .bool true, fun _ => False, fun _ => False⟩
section
variable {P : Program} {w : World} {K : PySem.W.Frag} {mg : Str → Option Value} {base : Heap} {N ps : List Str} {k kc i : Nat} {x y z : Str} {st s1 : Stmt} {rest : List Stmt} {u : WS} {p qpos pos npos apos : Pos} {sps : List Str}
theorem ps_start {ι : Type} {Xs : ι → Cx} {sc : Scope} {fnn : Str → Bool} (Fm : Fam Xs P w K mg base N sc fnn k) (i : Nat) (G : Known P w K mg base kc x sps (spStart K)) (hN : N[i]? = some y := by rfl) (h0 : N[0]? = some z := by rfl) (hx : stB fnn sc y = true := by decide +kernel) (hv : visB sc z = true := by decide +kernel) (hk : kc ≤ k := by decide) (hg : glB sc x = true := by decide +kernel)
    (hd : (x == ("__debug__" : Str)) = false := by decide) (hdy : (z == ("__debug__" : Str)) = false := by decide) (hcd : (z == ("__classdict__" : Str)) = false := by decide) : ∀ j, PS (Xs j) (.Assign [.Name y npos] (.Call (.Name x p) [.Name z qpos] [] apos) pos) (tAsg (tCall (spStart K) [] E0 (tCons (tVar 0) tNil)) (gName i)) := by
  intro j
  obtain ⟨f, fd, G, hm, kp, bb⟩ := G
  refine ps_set (Fm.ndj j) (Fm.at hN j) (Fm.loc hx j) (pe_call (fd := fd) (CX := CX0) (k := kc) (ps := sps) ?_ ((Fm.room j).mono hk) (Fm.gl_ok hg j) (Fm.some hm j) (by rw [Fm.kk j]; exact kp) (by rw [Fm.kk j]; exact bb) .nil pass0 (pa_cons (pe_var (Fm.at h0 j) (Fm.vis hv j) hdy hcd) pa_nil rfl) hd rfl rfl) rfl (Fm.hf hx j)
  rw [Fm.prog j, Fm.wd j, Fm.kk j, Fm.gl j, Fm.bs j]
  exact G
theorem law_fn (h : ∃ f fd, Fun K x x st f fd ∧ mg x = some (.ref f)) (S : FnScope N ps (defScope st)) (hps : ps.length = 1) (kk i : Nat) (hi : 0 < i) (hk : k + 1 = kk) (hN1 : N.length = n)
    (hb : ∀ (Xs : Unit → Cx), Fam Xs P w K mg base N (defScope st) (fun _ => true) k → (∀ j, PassesOwn (model (Xs j).prog (Xs j).w) (Xs j).A (Xs j).env (Xs j).xe) → ∃ s1 rest, defBody st = s1 :: rest ∧ (∀ j, PS (Xs j) s1 (tAsg (tCall (spStart K) [] E0 (tCons (tVar 0) tNil)) (gName i))) ∧ WSs Xs rest u)
    (hw : lawOk n i u) : ∃ f fd, Fun K x x st f fd ∧ mg x = some (.ref f) ∧ FnOk P w K mg base CX0 kk f fd ps (spLaw K) := by
  subst hk hN1
  obtain ⟨f, fd, Fn, hm⟩ := h
  refine ⟨f, fd, Fn, hm, Fn.ok S (fun vs H Q E h => ?_) (fun cdv A outer s H vs Q E hr h => ?_)⟩
  · obtain ⟨a, ns, rfl, _⟩ := h
    rw [hps]; rfl
  · obtain ⟨a, ns, rfl, hS, hl, q⟩ := h
    obtain ⟨s1, rest, eb, h1, t, h2, h3, m⟩ := hb _ (fam_of S hr) (fun _ => PassesOwn.never)
    rw [eb]
    refine ⟨_, pss_cons (h1 ()) (h2 ()), ?_⟩
    have hpos : 0 < N.length := by
      have := congrArg List.length S.pre
      rw [List.length_take, hps] at this
      omega
    have hσ : (L2.start N [V.ref a])[0]? = some (some (V.ref a)) := rfl
    refine ⟨_, hσ, a, ns, rfl, hS, hl, fun ad an H' x n1 n2 d => ?_⟩
    have hlen : (L2.start N [V.ref a]).length = N.length := by
      unfold L2.start
      simp
      omega
    have R0 : RepS [] H [] (L2.start N [V.ref a]) (List.replicate N.length none) H := by
      refine ⟨by rw [hlen, List.length_replicate], Ex.refl H, by simp, by simp, by simp, (fun _ z => by simp at z), fun _ => [], fun j s e => ?_, by simp, by simp⟩
      rw [List.getElem?_replicate] at e
      split at e <;> simp at e
    have R1 : RepS [] H [ad, an] ((L2.start N [V.ref a]).set i (some (.ref ad))) ((List.replicate N.length none).set i (some (.dr ad an))) H' := by
      refine R0.put (l := [ad, an]) x (by simp) (fun b hb => ⟨hb, by simp, ?_⟩) (fun b hb z => ?_) (fun b hb xs z => ?_) (fun b o e => ?_) ⟨rfl, rfl, d⟩
      · rcases List.mem_cons.mp hb with rfl | hb
        · exact n1
        · rw [List.mem_singleton] at hb
          subst hb
          exact n2
      · obtain ⟨_, c, nums, g1, g2, _⟩ := d
        rcases List.mem_cons.mp hb with rfl | hb
        · rw [g1] at z; cases z
        · rw [List.mem_singleton] at hb
          subst hb
          rw [g2] at z; cases z
      · obtain ⟨_, c, nums, g1, g2, _⟩ := d
        rcases List.mem_cons.mp hb with rfl | hb
        · rw [g1] at z; cases z
        · rw [List.mem_singleton] at hb
          subst hb
          rw [g2] at z; cases z
      · obtain ⟨_, g⟩ := hide_some.mp e
        refine hide_some.mpr ⟨fun hb => ?_, x _ _ g⟩
        rcases List.mem_cons.mp hb with rfl | hb
        · rw [n1] at g; cases g
        · rw [List.mem_singleton] at hb
          subst hb
          rw [n2] at g; cases g
    refine h3 [] H [ad, an] _ _ H' _ R1 (m _ _ _ ?_ (hw ad an))
    refine ⟨fun _ z => z.elim, fun dd e v H2 x2 q2 => ?_, fun _ z => z.elim, fun _ z => z.elim⟩
    subst e
    cases q2
    exact q H2
end
end DL

namespace DL
open PySem L2
section
variable {P : Program} {w : World} {K : PySem.W.Frag} {mg : Str → Option Value} {base : Heap} {N ps : List Str} {k : Nat} {x : Str} {st : Stmt}
theorem known_sp (h : ∃ f fd, Fun K x x st f fd ∧ mg x = some (.ref f)) (S : FnScope N ps (defScope st)) (B : BindsB x st ps) {sp : Sp} (len : ∀ vs H Q E, sp vs H Q E → vs.length = ps.length) (kk : Nat) (hk : k + 1 = kk)
    (hb : ∀ (X : Cx), Fam (fun _ : Unit => X) P w K mg base N (defScope st) (fun _ => true) k → PassesOwn (model X.prog X.w) X.A X.env X.xe → ∀ vs H Q E, sp vs H Q E → ∃ t, PSs X (defBody st) t ∧ t { nx := fun _ H' => Q .non H', rt := Q } (L2.start N vs) H) :
    Known P w K mg base kk x ps sp := by
  subst hk
  obtain ⟨f, fd, Fn, hm⟩ := h
  refine known Fn hm (Fn.binds B) (Fn.ok S len fun cdv A outer s H vs Q E hr h => ?_)
  exact hb _ (fam_of S hr) PassesOwn.never vs H Q E h
end
section
variable {X : Cx} {P : Program} {w : World} {K : PySem.W.Frag} {mg : Str → Option Value} {base : Heap} {N : List Str} {sc : Scope} {fnn : Str → Bool} {k kc : Nat} {x : Str} {pos npos : Pos} {e b : Expr} {te : TE}
theorem vv (F : Fam (fun _ : Unit => X) P w K mg base N sc fnn k) (i : Nat) (hN : N[i]? = some x := by rfl) (hv : visB sc x = true := by decide +kernel) (hd : (x == ("__debug__" : Str)) = false := by decide) (hcd : (x == ("__classdict__" : Str)) = false := by decide) : PE X (.Name x pos) (tVar i) := pe_var (F.at hN ()) (F.vis hv ()) hd hcd
theorem sset (F : Fam (fun _ : Unit => X) P w K mg base N sc fnn k) (i : Nat) (h : PE X e te) (hN : N[i]? = some x := by rfl) (hx : stB fnn sc x = true := by decide +kernel) (hs : swapsWith e (some (.Name x npos)) pos.line X.env = pure false := by rfl) : PS X (.Assign [.Name x npos] e pos) (tAsg te (gName i)) := ps_set (F.ndj ()) (F.at hN ()) (F.loc hx ()) h hs (F.hf hx ())
theorem elen (F : Fam (fun _ : Unit => X) P w K mg base N sc fnn k) {p : Pos} (hm : mg "len" = none) (h : PE X e te) (hg : glB sc "len" = true := by decide +kernel) (hs : starEach [e] X.env = (false, eval e X.env) :: starEach [] X.env := by rfl) : PE X (.Call (.Name "len" p) [e] [] pos) (tCB (fun xs H Q => ∃ p ys, xs = [.ref p] ∧ (SqL X.K H p ys ∨ SqT X.K H p ys) ∧ Q (.int ys.length) H) (tCons te tNil)) :=
  pe_callB call_len_seq (F.gl_ok hg ()) (F.none hm ()) PySem.boot_len (pa_cons h pa_nil hs) (by decide) (by decide) hs rfl
theorem ecall2 (F : Fam (fun _ : Unit => X) P w K mg base N sc fnn k) {sp : Sp} {ps : List Str} {t : TA} {es : List Expr} {p : Pos} (G : Known P w K mg base kc x ps sp) (h : PA X (e :: es) t) (hk : kc ≤ k := by decide) (hg : glB sc x = true := by decide +kernel) (hd : (x == ("__debug__" : Str)) = false := by decide) (hs : starEach (e :: es) X.env = (false, eval e X.env) :: starEach es X.env := by rfl) (hpl : (backTo pos (starEach es X.env)).any (·.1) = false := by rfl) : PE X (.Call (.Name x p) (e :: es) [] pos) (tCall sp [] E0 t) := by
  obtain ⟨f, fd, G, hm, kp, bb⟩ := G
  refine pe_call (fd := fd) (CX := CX0) (k := kc) (ps := ps) ?_ ((F.room ()).mono hk) (F.gl_ok hg ()) (F.some hm ()) (by rw [F.kk ()]; exact kp) (by rw [F.kk ()]; exact bb) .nil pass0 h hd hs hpl
  rw [F.prog (), F.wd (), F.kk (), F.gl (), F.bs ()]
  exact G
end
/-! ### what the draws compute -/
theorem fmod_idx {c : Int} {n : Nat} (h : 0 < n) : 0 ≤ c.fmod n ∧ c.fmod n < n := by
  have : (0 : Int) < n := by omega
  exact ⟨Int.fmod_nonneg_of_pos c this, Int.fmod_lt_of_pos c this⟩
/-- the reading of _law_draw -/
def tDraw (K : PySem.W.Frag) : TS :=
  tSeq (tAsg (tOp (rIxL K) (tVar 0) (tC (.int 0))) (gName 2))
  (tSeq (tAsg (tOp (rI0 fun i j => .int (i + j)) (tOp (rIxL K) (tVar 0) (tC (.int 1))) (tC (.int 1))) (gSub (tVar 0) (tC (.int 1)) rSetL))
  (tSeq (tAsg (tOp (rI (fun _ j => j ≠ 0) fun i j => .int (i.fmod j)) (tOp (rIxL K) (tVar 0) (tC (.int 1))) (tCB (fun xs H Q => ∃ p ys, xs = [.ref p] ∧ (SqL K H p ys ∨ SqT K H p ys) ∧ Q (.int ys.length) H) (tCons (tVar 2) tNil))) (gName 3))
  (tSeq (tAsg (tOp (rIxL K) (tVar 2) (tVar 3)) (gName 4))
  (tSeq (tIfS (tTest (tOp (rI0 fun i j => .bl (decide (j ≤ i))) (tVar 4) (tC (.int 1000000000000000000))))
    (tSeq (tAsg (tOp (rI CDiv fun i j => .int (i / j)) (tVar 4) (tVar 1)) (gSub (tVar 2) (tVar 3) rSetL)) (tRet (tOp (rI (fun _ j => 0 < j) fun i j => .int (i % j)) (tVar 4) (tVar 1)))) tNext)
  (tSeq (tAsg (tOp (rI (fun _ j => 0 < j) fun i j => .int (i % j)) (tOp (rI0 fun i j => .int (i + j)) (tVar 4) (tOp (rI CMul fun i j => .int (i * j)) (tC (.int 104729)) (tOp (rIxL K) (tVar 0) (tC (.int 1))))) (tC (.int 4294967291))) (gName 5))
  (tSeq (tAsg (tOp (rI (fun _ j => 0 < j) fun i j => .int (i % j)) (tOp (rI CPow fun i j => .int (i ^ j.toNat)) (tVar 5) (tC (.int 5))) (tC (.int 4294967279))) (gName 5))
  (tRet (tOp (rI (fun _ j => 0 < j) fun i j => .int (i % j)) (tOp (rI CDiv fun i j => .int (i / j)) (tOp (rI (fun _ j => 0 < j) fun i j => .int (i % j)) (tOp (rI0 fun i j => .int (i + j)) (tOp (rI CMul fun i j => .int (i * j)) (tOp (rI CDiv fun i j => .int (i / j)) (tVar 5) (tC (.int 64))) (tC (.int 69621))) (tVar 5)) (tC (.int 4294967231))) (tC (.int 8))) (tVar 1)))))))))
theorem draw_reads {K : PySem.W.Frag} (vs : List V) (H : Hp) (Q : VK) (E : XK) (h : spDraw vs H Q E) : tDraw K { nx := fun _ H' => Q .non H', rt := Q } (L2.start ["draws", "limit", "numbers", "at", "cell", "mixed"] vs) H := by
  obtain ⟨ad, an, n, rfl, ⟨hne, c, nums, h1, h2, h3, h4⟩, n1, n2, q⟩ := h
  have hlen : 0 < (nums.map V.int).length := by rw [List.length_map]; exact List.length_pos_iff.mpr h3
  obtain ⟨i0, i1⟩ := fmod_idx (c := c + 1) hlen
  have hnn : (nums.map V.int).length = nums.length := List.length_map _
  have hat' : atI (nums.map V.int) ((c + 1).fmod ((nums.map V.int).length : Nat)) = some (.int (nums.getD ((c + 1).fmod ((nums.map V.int).length : Nat)).toNat 0)) := by
    unfold atI ixN
    rw [if_pos i0, if_pos i1]
    have : ((c + 1).fmod ((nums.map V.int).length : Nat)).toNat < nums.length := by omega
    show (nums.map V.int)[_]? = _
    rw [List.getElem?_map, List.getElem?_eq_getElem this, List.getD_eq_getElem?_getD, List.getElem?_eq_getElem this]
    rfl
  have hix : ixN (nums.map V.int).length ((c + 1).fmod ((nums.map V.int).length : Nat)) = some ((c + 1).fmod ((nums.map V.int).length : Nat)).toNat := by
    unfold ixN
    rw [if_pos i0, if_pos i1]
  generalize hcell : nums.getD ((c + 1).fmod ((nums.map V.int).length : Nat)).toNat 0 = cell at hat'
  let H1 : Hp := upd H ad (.lst [.ref an, .int (c + 1)])
  have g1 : H1 ad = some (.lst [.ref an, .int (c + 1)]) := upd_same
  have g2 : H1 an = some (.lst (nums.map V.int)) := by
    show upd H ad _ an = _
    rw [upd_ne (Ne.symm hne)]
    exact h2
  have x1 : DrEx ad an H H1 := fun a o e m1 m2 => by
    show upd H ad _ a = _
    rw [upd_ne m1]
    exact e
  have d1 : DrSt H1 ad an := ⟨hne, c + 1, nums, g1, g2, h3, h4⟩
  refine ⟨_, rfl, ad, _, 0, .ref an, rfl, rfl, SqL.of h1, rfl, ?_⟩
  refine ⟨_, rfl, ad, _, 1, .int c, rfl, rfl, SqL.of h1, rfl, c, 1, rfl, rfl, _, rfl, ad, _, 1, 1, rfl, rfl, h1, rfl, ?_⟩
  refine ⟨_, rfl, ad, _, 1, .int (c + 1), rfl, rfl, SqL.of g1, rfl, _, rfl, an, _, rfl, .inl (SqL.of g2), c + 1, _, rfl, rfl, by omega, ?_⟩
  refine ⟨.ref an, rfl, _, rfl, an, _, _, .int cell, rfl, rfl, SqL.of g2, hat', ?_⟩
  refine ⟨.int cell, rfl, cell, 1000000000000000000, rfl, rfl, decide (1000000000000000000 ≤ cell), rfl, ite2 (fun hc => ?_) (fun hc => ?_)⟩
  · refine ⟨.int cell, rfl, .int n, rfl, cell, n, rfl, rfl, ⟨n1, n2⟩, .ref an, rfl, _, rfl, an, _, _, _, rfl, rfl, g2, hix, ?_⟩
    refine ⟨.int cell, rfl, .int n, rfl, cell, n, rfl, rfl, n1, ?_⟩
    refine q _ _ (Int.emod_nonneg _ (by omega)) (Int.emod_lt_of_pos _ n1) (x1.trans fun a o e m1 m2 => ?_) ⟨hne, c + 1, nums.set ((c + 1).fmod ((nums.map V.int).length : Nat)).toNat (cell / n), ?_, ?_, ?_, ?_⟩
    · rw [upd_ne m2]
      exact e
    · rw [upd_ne hne]
      exact g1
    · rw [upd_same, List.map_set]
    · intro z
      have := congrArg List.length z
      rw [List.length_set] at this
      simp at this
      exact h3 this
    · rw [List.length_set]; exact h4
  · refine ⟨.int cell, rfl, .ref ad, rfl, ad, _, 1, .int (c + 1), rfl, rfl, SqL.of g1, rfl, 104729, c + 1, rfl, rfl, .inl ⟨by decide, by decide⟩, cell, _, rfl, rfl, _, 4294967291, rfl, rfl, (show (0 : Int) < 4294967291 by decide), ?_⟩
    have m1 : 0 ≤ (cell + 104729 * (c + 1)) % 4294967291 := Int.emod_nonneg _ (by decide)
    have m2 : (cell + 104729 * (c + 1)) % 4294967291 < 4294967291 := Int.emod_lt_of_pos _ (by decide)
    refine ⟨_, rfl, _, 5, rfl, rfl, ⟨by decide, by decide, show ((cell + 104729 * (c + 1)) % 4294967291).natAbs < 2 ^ 64 by omega⟩, _, 4294967279, rfl, rfl, (show (0 : Int) < 4294967279 by decide), ?_⟩
    refine ⟨_, rfl, _, 64, rfl, rfl, ⟨by decide, by decide⟩, _, 69621, rfl, rfl, .inr ⟨by decide, by decide⟩, _, rfl, _, _, rfl, rfl, _, 4294967231, rfl, rfl, (show (0 : Int) < 4294967231 by decide), _, 8, rfl, rfl, ⟨by decide, by decide⟩, .int n, rfl, _, n, rfl, rfl, n1, ?_⟩
    exact q _ _ (Int.emod_nonneg _ (by omega)) (Int.emod_lt_of_pos _ n1) x1 d1

/-! the other three -/
theorem shaped_ints (ns : List Int) : SeqAt.shaped (.list (ns.map PyData.int)) = true := by
  have h1 : ∀ l : List Int, PyData.canLayAll0 (l.map PyData.int) = true := by
    intro l
    induction l with
    | nil => rfl
    | cons x l ih => rw [List.map_cons, PyData.canLayAll0, ih]; rfl
  have h2 : ∀ l : List Int, PyData.depthAll (l.map PyData.int) = 0 := by
    intro l
    induction l with
    | nil => rfl
    | cons x l ih => rw [List.map_cons, PyData.depthAll, ih]; rfl
  unfold SeqAt.shaped
  rw [PyData.canLay0, h1, PyData.depth, h2]
  decide
theorem ne_nil_ints (ns : List Int) : (!PyData.eqv (.list (ns.map PyData.int)) (.list [])) = decide (ns ≠ []) := by
  cases ns with
  | nil => rfl
  | cons x r =>
    rw [List.map_cons, PyData.eqv, PyData.eqvAll]
    rfl
def tStart (K : PySem.W.Frag) : TS := tRet (tLst (tCons (tIf (tTest (tOp (rNeD K) (tVar 0) (tLst tNil))) (tCB (fun xs H Q => ∃ p ys, xs = [.ref p] ∧ (SqL K H p ys ∨ SqT K H p ys) ∧ ∀ l, H l = none → Q (.ref l) (upd H l (.lst ys))) (tCons (tVar 0) tNil)) (tLst (tCons (tC (.int 0)) tNil))) (tCons (tC (.int 0)) tNil)))
theorem SqL.ex {K : PySem.W.Frag} {H H' : Hp} {a : Addr} {xs : List V} (e : Ex H H') (h : SqL K H a xs) : SqL K H' a xs := by
  rcases h with (h | ⟨o, h⟩) | h
  · exact .inl (.inl (e _ _ h))
  · exact .inl (.inr ⟨o, e _ _ h⟩)
  · exact .inr h
theorem DpAll.ofInts {K : PySem.W.Frag} {H : Hp} : ∀ ns : List Int, DpAll K H (ns.map V.int) (ns.map PyData.int)
  | [] => .nil
  | n :: ns => .cons (.int n) (DpAll.ofInts ns)
theorem start_reads {K : PySem.W.Frag} (vs : List V) (H : Hp) (Q : VK) (E : XK) (h : spStart K vs H Q E) : tStart K { nx := fun _ H' => Q .non H', rt := Q } (L2.start ["script"] vs) H := by
  obtain ⟨a, ns, rfl, hS, hl, q⟩ := h
  have two : 2 ≤ sizeLine := by decide
  refine ⟨.ref a, rfl, (show 0 ≤ sizeLine from Nat.zero_le _), fun p np => ?_⟩
  have x0 : Ex H (upd H p (.lst [])) := Ex.new np
  refine ⟨.list (ns.map PyData.int), .list [], .lst (SqL.ex x0 hS) (DpAll.ofInts ns), .lst (SqL.of upd_same) .nil, shaped_ints ns, shaped_ints [], _, rfl, ?_⟩
  rw [ne_nil_ints]
  refine ite2 (fun hc => ?_) (fun hc => ?_)
  · have hne : ns ≠ [] := of_decide_eq_true hc
    refine ⟨.ref a, rfl, a, _, rfl, .inl (SqL.ex x0 hS), fun l nl => ?_⟩
    have x1 := x0.trans (Ex.new (o := .lst (ns.map V.int)) nl)
    refine ⟨two, fun d nd => ?_⟩
    have x2 := x1.trans (Ex.new (o := .lst [.ref l, .int 0]) nd)
    have ne : d ≠ l := fun z => by
      subst z
      rw [upd_same] at nd
      cases nd
    refine q d l _ x2 (x1.free nd) (x0.free nl) ⟨ne, 0, ns, upd_same, ?_, hne, by omega⟩
    rw [upd_ne (Ne.symm ne), upd_same]
  · refine ⟨(show 1 ≤ sizeLine by decide), fun l nl => ?_⟩
    have x1 := x0.trans (Ex.new (o := .lst [.int 0]) nl)
    refine ⟨two, fun d nd => ?_⟩
    have x2 := x1.trans (Ex.new (o := .lst [.ref l, .int 0]) nd)
    have ne : d ≠ l := fun z => by
      subst z
      rw [upd_same] at nd
      cases nd
    refine q d l _ x2 (x1.free nd) (x0.free nl) ⟨ne, 0, [0], upd_same, ?_, by simp, by simp⟩
    rw [upd_ne (Ne.symm ne), upd_same]
    rfl
def tPick (K : PySem.W.Frag) : TS := tRet (tOp (rIxL K) (tVar 1) (tCall spDraw [] E0 (tCons (tVar 0) (tCons (tCB (fun xs H Q => ∃ p ys, xs = [.ref p] ∧ (SqL K H p ys ∨ SqT K H p ys) ∧ Q (.int ys.length) H) (tCons (tVar 1) tNil)) tNil))))
theorem pick_reads {K : PySem.W.Frag} (vs : List V) (H : Hp) (Q : VK) (E : XK) (h : spPick vs H Q E) : tPick K { nx := fun _ H' => Q .non H', rt := Q } (L2.start ["draws", "choices"] vs) H := by
  obtain ⟨ad, an, b, xs, rfl, d, hb, n1, n2, hx, hl, q⟩ := h
  have hpos : 0 < xs.length := List.length_pos_iff.mpr hx
  refine ⟨.ref b, rfl, .ref ad, rfl, .ref b, rfl, b, xs, rfl, .inl (SqL.of hb), ad, an, _, rfl, d, (show (0 : Int) < xs.length by omega), (show (xs.length : Int) < 1073741824 by omega), fun r H' r1 r2 x d' => ?_⟩
  have hlt : r.toNat < xs.length := by omega
  refine ⟨b, xs, r, xs[r.toNat], rfl, rfl, SqL.of (x _ _ hb n1 n2), ?_, q _ H' (List.getElem_mem hlt) x d'⟩
  unfold atI ixN
  rw [if_pos r1, if_pos r2]
  exact List.getElem?_eq_getElem hlt
def tRank (K : PySem.W.Frag) : TS :=
  tSeq (tAsg (tLstRg (tRg2 (tC (.int 1)) (tOp (rI0 fun i j => .int (i + j)) (tVar 1) (tC (.int 1))))) (gName 2))
  (tSeq (tAsg (tLst tNil) (gName 3))
  (tSeq (tWhile (tTest (tOp (rNeD K) (tVar 2) (tLst tNil)))
    (tSeq (tAsg (tIf (tTest (tOp rEq (tCall spDraw [] E0 (tCons (tVar 0) (tCons (tC (.int 3)) tNil))) (tC (.int 0)))) (tOp (rIxL K) (tVar 2) (tC (.int 0))) (tCall spPick [] E0 (tCons (tVar 0) (tCons (tVar 2) tNil)))) (gName 4))
    (tSeq (tDrop (tBM K "list" rRemI (tVar 2) (tCons (tVar 4) tNil)))
    (tDrop (tBM K "list" rAppend (tVar 3) (tCons (tVar 4) tNil))))))
  (tRet (tVar 3))))
theorem rgV_ints (n : Int) (h : 0 ≤ n) : rgV 1 (n + 1) = (intR n).map V.int := by
  unfold rgV intR
  rw [List.map_map, show n + 1 - 1 = n by omega]
  rfl
theorem remove_at {l : List Int} {k : Int} (h : k ∈ l) : ∃ j, l[j]? = some k ∧ (∀ m, m < j → l[m]? ≠ some k) ∧ (l.eraseIdx j ++ [k]).Perm l ∧ (l.eraseIdx j).length + 1 = l.length := by
  induction l with
  | nil => simp at h
  | cons x l ih =>
    by_cases e : x = k
    · subst e
      exact ⟨0, rfl, fun m hm => by omega, by simpa using (List.perm_append_singleton x l), by simp⟩
    · have hk : k ∈ l := by
        rcases List.mem_cons.mp h with z | z
        · exact absurd z.symm e
        · exact z
      obtain ⟨j, h1, h2, h3, h4⟩ := ih hk
      refine ⟨j + 1, by simpa using h1, fun m hm => ?_, by simpa using h3.cons x, by simp; omega⟩
      cases m with
      | zero => simpa using e
      | succ m => simpa using h2 m (by omega)
theorem rank_reads {K : PySem.W.Frag} (vs : List V) (H : Hp) (Q : VK) (E : XK) (h : spRank vs H Q E) : tRank K { nx := fun _ H' => Q .non H', rt := Q } (L2.start ["draws", "size", "left", "found", "rank"] vs) H := by
  obtain ⟨ad, an, n, rfl, d, n0, n1, q⟩ := h
  have hsz : ∀ l : List Int, l.length ≤ 1000 → l.length < sizeLine := fun l hl => small1000 hl
  have hil : (intR n).length = n.toNat := by unfold intR; simp
  refine ⟨_, rfl, n, 1, rfl, rfl, 1, n + 1, rfl, rfl, ⟨by omega, by omega, by omega, by omega, by omega⟩, fun pl npl => ?_⟩
  refine ⟨(show 0 ≤ sizeLine from Nat.zero_le _), fun pf npf => ?_⟩
  have x1 : Ex H (upd H pl (.lst (rgV 1 (n + 1)))) := Ex.new npl
  have x2 := x1.trans (Ex.new (o := .lst []) npf)
  have nlf : pf ≠ pl := fun z => by
    subst z
    rw [upd_same] at npf
    cases npf
  have nf0 : H pf = none := x1.free npf
  have dn : ∀ H', DrSt H' ad an → H' ad ≠ none ∧ H' an ≠ none := fun H' d => by
    obtain ⟨_, c, nums, g1, g2, _⟩ := d
    exact ⟨by rw [g1]; simp, by rw [g2]; simp⟩
  have nla : pl ≠ ad := fun z => (dn H d).1 (z ▸ npl)
  have nln : pl ≠ an := fun z => (dn H d).2 (z ▸ npl)
  have nfa : pf ≠ ad := fun z => (dn H d).1 (z ▸ nf0)
  have nfn : pf ≠ an := fun z => (dn H d).2 (z ▸ nf0)
  refine ⟨fun m σ H' => ∃ (lft fnd : List Int) (y4 : Option V), m = lft.length ∧ σ = [some (.ref ad), some (.int n), some (.ref pl), some (.ref pf), y4] ∧ H' pl = some (.lst (lft.map V.int)) ∧ H' pf = some (.lst (fnd.map V.int)) ∧ (fnd ++ lft).Perm (intR n) ∧ DrSt H' ad an ∧ DrEx ad an H H',
    ⟨(intR n).length, intR n, [], none, rfl, rfl, ?_, ?_, List.Perm.refl _, d.mono (x2 _) (x2 _), DrEx.of x2⟩, ?_⟩
  · rw [upd_ne (Ne.symm nlf), upd_same, rgV_ints n n0]
  · rw [upd_same]; rfl
  · rintro m σ H' ⟨lft, fnd, y4, rfl, rfl, hl, hf, hp, dd, xx⟩
    refine ⟨.ref pl, rfl, (show 0 ≤ sizeLine from Nat.zero_le _), fun p np => ?_⟩
    have xp : Ex H' (upd H' p (.lst [])) := Ex.new np
    refine ⟨.list (lft.map PyData.int), .list [], .lst (SqL.of (xp _ _ hl)) (DpAll.ofInts lft), .lst (SqL.of upd_same) .nil, shaped_ints lft, shaped_ints [], _, rfl, ?_⟩
    rw [ne_nil_ints]
    refine ite2 (fun hc => ?_) (fun hc => ?_)
    · have hne : lft ≠ [] := of_decide_eq_true hc
      refine ⟨fun σ' H3 => ∃ m', m' < lft.length ∧ ∃ (lft fnd : List Int) (y4 : Option V), m' = lft.length ∧ σ' = [some (.ref ad), some (.int n), some (.ref pl), some (.ref pf), y4] ∧ H3 pl = some (.lst (lft.map V.int)) ∧ H3 pf = some (.lst (fnd.map V.int)) ∧ (fnd ++ lft).Perm (intR n) ∧ DrSt H3 ad an ∧ DrEx ad an H H3, fun σ' H3 h => h, ?_⟩
      have key : ∀ (r : Int) (H3 : Hp), r ∈ lft → DrEx ad an H' H3 → DrSt H3 ad an → tSeq (tDrop (tBM K "list" rRemI (tVar 2) (tCons (tVar 4) tNil))) (tDrop (tBM K "list" rAppend (tVar 3) (tCons (tVar 4) tNil)))
          { nx := fun σ' H3 => ∃ m', m' < lft.length ∧ ∃ (lft fnd : List Int) (y4 : Option V), m' = lft.length ∧ σ' = [some (.ref ad), some (.int n), some (.ref pl), some (.ref pf), y4] ∧ H3 pl = some (.lst (lft.map V.int)) ∧ H3 pf = some (.lst (fnd.map V.int)) ∧ (fnd ++ lft).Perm (intR n) ∧ DrSt H3 ad an ∧ DrEx ad an H H3, rt := Q, bk := tRet (tVar 3) { nx := fun _ H' => Q .non H', rt := Q }, ct := fun σ' H3 => ∃ m', m' < lft.length ∧ ∃ (lft fnd : List Int) (y4 : Option V), m' = lft.length ∧ σ' = [some (.ref ad), some (.int n), some (.ref pl), some (.ref pf), y4] ∧ H3 pl = some (.lst (lft.map V.int)) ∧ H3 pf = some (.lst (fnd.map V.int)) ∧ (fnd ++ lft).Perm (intR n) ∧ DrSt H3 ad an ∧ DrEx ad an H H3 }
          [some (.ref ad), some (.int n), some (.ref pl), some (.ref pf), some (.int r)] H3 := by
        intro r H3 hr x3 d3
        obtain ⟨j, j1, j2, j3, j4⟩ := remove_at hr
        have hl3 := x3 _ _ hl nla nln
        have hf3 := x3 _ _ hf nfa nfn
        have hfl : fnd.length + lft.length = (intR n).length := by rw [← List.length_append]; exact hp.length_eq
        refine ⟨.ref pl, rfl, Or.inl ⟨rfl, _, SqL.of hl3⟩, .int r, rfl, pl, lft, r, j, rfl, rfl, hl3, j1, j2, ?_⟩
        have hf4 : (upd H3 pl (.lst ((lft.eraseIdx j).map V.int))) pf = some (.lst (fnd.map V.int)) := by rw [upd_ne nlf]; exact hf3
        refine ⟨.ref pf, rfl, Or.inl ⟨rfl, _, SqL.of hf4⟩, .int r, rfl, pf, fnd.map V.int, .int r, rfl, rfl, hf4, by rw [List.length_map]; exact hsz fnd (by omega), ?_⟩
        refine ⟨(lft.eraseIdx j).length, by omega, lft.eraseIdx j, fnd ++ [r], _, rfl, rfl, ?_, ?_, ?_, ?_, ?_⟩
        · rw [upd_ne (Ne.symm nlf), upd_same]
        · rw [upd_same, List.map_append]; rfl
        · refine List.Perm.trans ?_ hp
          rw [List.append_assoc]
          refine List.Perm.append_left fnd ?_
          refine List.Perm.trans ?_ j3
          exact List.perm_append_comm
        · exact d3.mono (fun o e => by rw [upd_ne (Ne.symm nfa), upd_ne (Ne.symm nla)]; exact e) (fun o e => by rw [upd_ne (Ne.symm nfn), upd_ne (Ne.symm nln)]; exact e)
        · intro a o e m1 m2
          rw [upd_ne (ne_of_none e nf0), upd_ne (ne_of_none e npl)]
          exact (xx.trans x3) a o e m1 m2
      have dp : DrSt (upd H' p (.lst [])) ad an := dd.mono (xp _) (xp _)
      refine ⟨.ref ad, rfl, ad, an, 3, rfl, dp, by decide, by decide, fun r H3 r1 r2 x3 d3 => ⟨rfl, _, rfl, ite2 (fun hc => ?_) (fun hc => ?_)⟩⟩
      · have x4 : DrEx ad an H' H3 := (DrEx.of xp).trans x3
        obtain ⟨l0, lr, rfl⟩ : ∃ l0 lr, lft = l0 :: lr := by
          cases lft with
          | nil => exact absurd rfl hne
          | cons z r => exact ⟨z, r, rfl⟩
        exact ⟨.ref pl, rfl, pl, _, 0, .int l0, rfl, rfl, SqL.of (x4 _ _ hl nla nln), by unfold atI ixN; simp, key l0 H3 (by simp) x4 d3⟩
      · have x4 : DrEx ad an H' H3 := (DrEx.of xp).trans x3
        have hlen : lft.length ≤ 1000 := by
          have := hp.length_eq
          rw [List.length_append] at this
          omega
        refine ⟨.ref ad, rfl, .ref pl, rfl, ad, an, pl, lft.map V.int, rfl, d3, x4 _ _ hl nla nln, nla, nln, by simpa using hne, by rw [List.length_map]; omega, fun v H4 hv x5 d5 => ?_⟩
        obtain ⟨r', hr', rfl⟩ := List.mem_map.mp hv
        exact key r' H4 hr' (x4.trans x5) d5
    · have he : lft = [] := by
        cases lft with
        | nil => rfl
        | cons z r => exact absurd (decide_eq_true (by simp)) hc
      subst he
      rw [List.append_nil] at hp
      exact ⟨.ref pf, rfl, q fnd pf _ hp (xx.trans (DrEx.of xp)) (dd.mono (xp _) (xp _)) nf0 (xp _ _ hf)⟩
end DL
namespace DL
open PySem L2
def isCell (sc : Scope) (x : Str) : Bool := match sc.names.lookup x with
  | some .cell => true
  | _ => false
theorem swaps_cell {sc : Scope} {env : Env} {x : Str} {npos ppos : Pos} {l : Nat} {elt : Expr} {gs : List Comprehension} {scope : Scope} (he : env.scope = sc) (h : isCell sc x = true) : swapsWith (.ListComp elt gs scope ppos) (some (.Name x npos)) l env = pure false := by
  have hk : env.kindOf x = some .cell := by
    unfold Env.kindOf
    rw [he]
    unfold isCell at h
    split at h <;> simp_all
  unfold swapsWith
  simp only [hk]
  have : ((some NameKind.cell : Option NameKind) == some NameKind.local) = false := by decide
  rw [this, Bool.and_false, Bool.false_and, Bool.false_and]
section
variable {ι : Type} {cv : Nat → Value} {W : WX} {fr : RM} {Xs : ι → Cx} {P : Program} {w : World} {K : PySem.W.Frag} {mg : Str → Option Value} {base : Heap} {N : List Str} {sc : Scope} {fnn : Str → Bool} {k : Nat} {elt : Expr} {gs : List Comprehension} {scope : Scope} {f : En → Rs D} {we : WE} {pos ppos npos : Pos} {x : Str}
theorem s_setC (Fm : Fam Xs P w K mg base N sc fnn k) (i : Nat) (h : EE cv W Xs (.ListComp elt gs scope ppos) f) (hN : N[i]? = some x := by rfl) (hx : stB fnn sc x = true := by decide +kernel) (hc : isCell sc x = true := by decide +kernel) :
    SS cv W fr Xs (.Assign [.Name x npos] (.ListComp elt gs scope ppos) pos) (sSet i f) := by
  obtain ⟨t, h1, h2⟩ := h
  exact ⟨_, fun j => ps_set (Fm.ndj j) (Fm.at hN j) (Fm.loc hx j) (h1 j) (swaps_cell (Fm.scp j) hc) (Fm.hf hx j), snd_set h2⟩
theorem s_ownC (Fm : Fam Xs P w K mg base N sc fnn k) (i : Nat) (h : EF cv W Xs (.ListComp elt gs scope ppos) f) (hN : N[i]? = some x := by rfl) (hx : stB fnn sc x = true := by decide +kernel) (hc : isCell sc x = true := by decide +kernel) :
    SS cv W fr Xs (.Assign [.Name x npos] (.ListComp elt gs scope ppos) pos) (sOwn i f) := by
  obtain ⟨t, h1, h2⟩ := h
  exact ⟨_, fun j => ps_set (Fm.ndj j) (Fm.at hN j) (Fm.loc hx j) (h1 j) (swaps_cell (Fm.scp j) hc) (Fm.hf hx j), snd_own h2⟩
theorem ws_setCell (Fm : Fam Xs P w K mg base N sc fnn k) (i : Nat) (h : EWE Xs (.ListComp elt gs scope ppos) we) (hN : N[i]? = some x := by rfl) (hx : stB fnn sc x = true := by decide +kernel) (hc : isCell sc x = true := by decide +kernel) :
    WSt Xs (.Assign [.Name x npos] (.ListComp elt gs scope ppos) pos) (wSet i we) := ws_setC Fm i h hN hx fun j => swaps_cell (Fm.scp j) hc
end
end DL

namespace DL
open PySem L2
/-! ### xs[::-1], the order of lists of ints -/
section
variable {ι : Type} {cv : Nat → Value} {W : WX} {Xs : ι → Cx} {P : Program} {w : World} {K : PySem.W.Frag} {mg : Str → Option Value} {base : Heap} {N : List Str} {sc : Scope} {fnn : Str → Bool} {k : Nat} {e a b : Expr} {f fa fb : En → Rs D} {pos : Pos}
theorem DqAll.reverse {H : Hp} : ∀ {vs : List V} {ds : List D}, DqAll H vs ds → DqAll H vs.reverse ds.reverse
  | _, _, .nil => .nil
  | _, _, .cons h t => by
    rw [List.reverse_cons, List.reverse_cons]
    exact (DqAll.reverse t).append (.cons h .nil)
def dRev : D → Rs D
  | .list ds => .ok (.list ds.reverse)
  | _ => .no
theorem f_rev (F : Fam Xs P w K mg base N sc fnn k) {kk : Nat} {p1 p2 p3 : Pos} (h : EB cv W Xs e f) : EF cv W Xs (.Subscript e (.Slice none none (some (.UnaryOp .USub (.Constant (.int 1) kk p1) p2)) p3) pos) (ap1 dRev f) := by
  obtain ⟨t, h1, h2⟩ := h
  refine ⟨tRevL K t, fun j => by have := pe_revL (k := kk) (p1 := p1) (p2 := p2) (p3 := p3) (pos := pos) (h1 j); rw [F.kk j] at this; exact this, fun O σ ρ H Q R p => h2 O σ ρ H _ R ?_⟩
  unfold ap1 at p
  cases ea : f ρ with
  | no => rw [ea] at p; exact p
  | er c => rw [ea] at p; exact p
  | ok d =>
    rw [ea, Rs.bind_ok] at p
    intro v H1 x1 q1
    unfold dRev at p
    split at p
    · obtain ⟨l, ws, rfl, h3, h4⟩ := q1.list
      exact ⟨l, ws, rfl, SqL.of h3, fun q hq => p q _ _ _ rfl (x1.trans (Ex.new hq)) (x1.free hq) upd_same (h4.reverse.mono (hide_new hq))⟩
    · exact p.elim
theorem e_rev (F : Fam Xs P w K mg base N sc fnn k) {kk : Nat} {p1 p2 p3 : Pos} (h : EB cv W Xs e f) : EE cv W Xs (.Subscript e (.Slice none none (some (.UnaryOp .USub (.Constant (.int 1) kk p1) p2)) p3) pos) (ap1 dRev f) := (f_rev F h).e
def lexI : List Int → List Int → Bool
  | [], [] => false
  | [], _ :: _ => true
  | _ :: _, [] => false
  | x :: r, y :: s => if x = y then lexI r s else decide (x < y)
open PySem.SeqAt in
theorem firstLt_lex : ∀ (ns ms : List Int) (k : Nat) (e r : Nat → Bool), (∀ j, j < ns.length → j < ms.length → e (k + j) = decide (ns.getD j 0 = ms.getD j 0)) → (∀ j, j < ns.length → j < ms.length → r (k + j) = decide (ns.getD j 0 < ms.getD j 0)) →
    firstLt e r (decide (ns.length < ms.length)) ((List.range (min ns.length ms.length)).map (k + ·)) = lexI ns ms
  | [], [], k, e, r, _, _ => rfl
  | [], y :: s, k, e, r, _, _ => by simp [firstLt, lexI]
  | x :: t, [], k, e, r, _, _ => by simp [firstLt, lexI]
  | x :: t, y :: s, k, e, r, he, hr => by
    have e0 := he 0 (by simp) (by simp)
    have r0 := hr 0 (by simp) (by simp)
    simp only [Nat.add_zero, List.getD_cons_zero] at e0 r0
    have ih := firstLt_lex t s (k + 1) e r (fun j h1 h2 => by
      have := he (j + 1) (by simpa using h1) (by simpa using h2)
      rw [show k + (j + 1) = k + 1 + j by omega] at this
      simpa using this) (fun j h1 h2 => by
      have := hr (j + 1) (by simpa using h1) (by simpa using h2)
      rw [show k + (j + 1) = k + 1 + j by omega] at this
      simpa using this)
    have hm : min (x :: t).length (y :: s).length = min t.length s.length + 1 := by simp
    rw [hm, List.range_succ_eq_map, List.map_cons, List.map_map]
    unfold firstLt lexI
    rw [Nat.add_zero, e0, r0]
    by_cases h : x = y
    · rw [if_pos h, if_pos (decide_eq_true h)]
      rw [← ih]
      have : (fun x => k + x) ∘ Nat.succ = fun x => k + 1 + x := by
        funext z
        show k + (z + 1) = k + 1 + z
        omega
      rw [this]
      simp
    · rw [if_neg h, if_neg (by simpa using h)]
open PySem.SeqAt in
def rLtLI (K : PySem.W.Frag) : R2 := fun x y H Q => ∃ a b ns ms, x = .ref a ∧ y = .ref b ∧ SqL K H a (ns.map V.int) ∧ SqL K H b (ms.map V.int) ∧ Q (.bl (lexI ns ms)) H
theorem vals_int {ns : List Int} {its : List Value} (h : Vals (ns.map V.int) its) : ∀ j (h1 : j < its.toArray.size), ∃ t, its.toArray[j] = .int (ns.getD j 0) t := by
  intro j h1
  have hl := h.length
  rw [List.length_map] at hl
  have h1' : j < its.length := by simpa using h1
  have hj : j < ns.length := by omega
  obtain ⟨u, e1, e2⟩ := h.get (i := j) (x := .int (ns.getD j 0)) (by rw [List.getElem?_map, List.getElem?_eq_getElem hj, List.getD_eq_getElem?_getD, List.getElem?_eq_getElem hj]; rfl)
  obtain ⟨t, rfl⟩ := e2
  refine ⟨t, ?_⟩
  rw [List.getElem?_eq_getElem h1'] at e1
  simpa using Option.some.inj e1
open PySem.SeqAt in
theorem op_ltLI {X : Cx} (hu : X.A.units < cLine) : OpR X (compareOp .Lt) (rLtLI X.K) := by
  intro pins s σ H x y v u Q I rx ry h
  obtain ⟨a, b, ns, ms, rfl, rfl, ha, hb, q⟩ := h
  cases rx
  cases ry
  obtain ⟨its, r1, pl1, _⟩ := I.list ha
  obtain ⟨its2, r2, pl2, _⟩ := I.list hb
  have l1 := r1.length
  have l2 := r2.length
  rw [List.length_map] at l1 l2
  have key := RcLt.lists (A := X.A) (e := fun j => decide (ns.getD j 0 = ms.getD j 0)) (r := fun j => decide (ns.getD j 0 < ms.getD j 0)) pl1.isList pl2.isList hu
    (fun j h1 h2 => by
      obtain ⟨t, e1⟩ := vals_int r1 j h1
      obtain ⟨t', e2⟩ := vals_int r2 j h2
      rw [e1, e2]
      intro prog w E Q h
      exact wpAny_eqBool_int (by
        have : (ns.getD j 0 == ms.getD j 0) = decide (ns.getD j 0 = ms.getD j 0) := rfl
        rw [this]; exact h))
    (fun j h1 h2 _ => by
      obtain ⟨t, e1⟩ := vals_int r1 j h1
      obtain ⟨t', e2⟩ := vals_int r2 j h2
      rw [e1, e2]
      intro prog w E Q h
      exact PyProof.Rows.lt_int h)
  have fin := firstLt_lex ns ms 0 (fun j => decide (ns.getD j 0 = ms.getD j 0)) (fun j => decide (ns.getD j 0 < ms.getD j 0)) (fun j _ _ => by simp) (fun j _ _ => by simp)
  simp only [Nat.zero_add, List.map_id'] at fin
  have e3 : (decide (its.toArray.size < its2.toArray.size)) = decide (ns.length < ms.length) := by simp [l1, l2]
  have e4 : min its.toArray.size its2.toArray.size = min ns.length ms.length := by simp [l1, l2]
  rw [e3, e4, fin] at key
  exact key X.prog X.w X.xe _ ⟨.bl _, H, I, rfl, q⟩
def dLtL : D → D → Rs D
  | .list xs, .list ys => match intsOf xs, intsOf ys with
    | some ns, some ms => .ok (.bool (lexI ns ms))
    | _, _ => .no
  | _, _ => .no
theorem noer_ltL : Noer dLtL := fun x y c => by unfold dLtL; split <;> (try split) <;> simp
theorem ope_ltL : OpE (rLtLI K) dLtL := by
  intro O x y H Q d e od hx hy p
  unfold dLtL at p
  split at p
  · split at p
    · rename_i ns ms h1 h2
      have e1 := intsOf_eq h1
      have e2 := intsOf_eq h2
      subst e1 e2
      obtain ⟨l, ws, rfl, h3, h4⟩ := hx.list
      obtain ⟨l', ws', rfl, h3', h4'⟩ := hy.list
      have e := h4.ints
      have e' := h4'.ints
      subst e e'
      exact ⟨l, l', ns, ms, rfl, rfl, SqL.of h3, SqL.of h3', p _ H (Ex.refl H) (.bl _)⟩
    · exact p.elim
  · exact p.elim
theorem e_ltL (F : Fam Xs P w K mg base N sc fnn k) (ha : EB cv W Xs a fa) (hb : EB cv W Xs b fb) : EE cv W Xs (.Compare a [.Lt] [b] pos) (ap2 dLtL fa fb) :=
  e_cmpR (fun j => by have h := op_ltLI (X := Xs j) (F.units0 j); rw [F.kk j] at h; exact h) ope_ltL noer_ltL (nomark _) ha hb
theorem t_ltL (F : Fam Xs P w K mg base N sc fnn k) (ha : EB cv W Xs a fa) (hb : EB cv W Xs b fb) : ET cv W Xs (.Compare a [.Lt] [b] pos) (tVal (ap2 dLtL fa fb)) :=
  t_cmpR (fun j => by have h := op_ltLI (X := Xs j) (F.units0 j); rw [F.kk j] at h; exact h) ope_ltL noer_ltL (nomark _) ha hb
end
end DL

namespace DL
open PySem L2 PySem.W
/-! ### min of a list of lists of ints -/
def rowD (r : List Int) : D := .list (r.map .int)
def minRow (r : List Int) (rs : List (List Int)) : List Int := rs.foldl (fun a y => if lexI y a = true then y else a) r
theorem lexI_lt : ∀ a b : List Int, lexI a b = decide (a < b)
  | [], [] => by simp [lexI]
  | [], _ :: _ => by simp [lexI]
  | _ :: _, [] => by simp [lexI]
  | x :: a, y :: b => by
    unfold lexI
    rw [lexI_lt a b]
    by_cases e : x = y
    · subst e
      rw [if_pos rfl, decide_eq_decide, List.cons_lt_cons_iff]
      simp
    · rw [if_neg e, decide_eq_decide, List.cons_lt_cons_iff]
      simp [e]
theorem rowD_lt (a b : List Int) : dataLt (rowD a) (rowD b) = lexI a b := by
  rw [lexI_lt]
  exact dataLt_ints a b
theorem minRow_data : ∀ (rs : List (List Int)) (r : List Int), minD (rowD r) (rs.map rowD) = rowD (minRow r rs)
  | [], r => rfl
  | y :: rs, r => by
    show minD (if dataLt (rowD y) (rowD r) = true then rowD y else rowD r) (rs.map rowD) = rowD (minRow (if lexI y r = true then y else r) rs)
    rw [rowD_lt]
    by_cases h : lexI y r = true
    · rw [if_pos h, if_pos h]; exact minRow_data rs y
    · rw [if_neg h, if_neg h]; exact minRow_data rs r
theorem rows_depth : ∀ rs : List (List Int), PyData.depthAll (rs.map rowD) ≤ 1
  | [] => by simp [PyData.depthAll]
  | r :: rs => by
    have := rows_depth rs
    have h0 := depth_ints r
    simp only [List.map_cons, PyData.depthAll, rowD, PyData.depth, h0]
    exact Nat.max_le.mpr ⟨by omega, this⟩
theorem rows_alike (rs : List (List Int)) : AlikeAll (rs.map rowD) := by
  constructor
  · intro x hx y hy
    obtain ⟨a, _, rfl⟩ := List.mem_map.mp hx
    obtain ⟨b, _, rfl⟩ := List.mem_map.mp hy
    show alikeAll _ _ = true
    exact alike_ints a b
  · intro x hx
    obtain ⟨a, _, rfl⟩ := List.mem_map.mp hx
    simp [rowD]
def rMinRows (K : PySem.W.Frag) : List V → Hp → VK → Prop := fun vs H Q => ∃ (a : Addr) (ws : List V) (r : List Int) (rs : List (List Int)), vs = [V.ref a] ∧ SqL K H a ws ∧ DpAll K H ws ((r :: rs).map rowD) ∧ ∀ (i : Nat) (w : V), ws[i]? = some w → ((r :: rs).map rowD)[i]? = some (rowD (minRow r rs)) → Q w H
theorem cr_minRows {X : Cx} (hc : X.calm = true) (hu : X.A.units + 64 < cLine) : CallR X (.builtin "min") (rMinRows X.K) := by
  intro pins s σ H vs us Q I r h
  obtain ⟨a, ws, r0, rs, rfl, hs, hd, q⟩ := h
  rw [Vals.ref1 r]
  obtain ⟨its, rv, hl, _⟩ := I.list hs
  obtain ⟨as, h4⟩ := Dp.readsAll I _ _ its hd rv
  have dp := rows_depth (r0 :: rs)
  refine min_list_data (vs := its.toArray) (x := rowD r0) (xs := rs.map rowD) (I.ok.hd hc) hl.isList (by simpa using h4) (rows_alike (r0 :: rs)) (by
    have : PyData.depthAll (rowD r0 :: rs.map rowD) ≤ 1 := dp
    omega) fun i v h' tk bs hv hr hk => ?_
  have hv' : its[i]? = some v := by simpa using hv
  obtain ⟨bs', r1, h5, _, _⟩ := readsAll_at (i := i) h4 v hv'
  have e := (PyProof.Rows.reads_det (fun b o hb _ => hk b o hb) r1 hr).1
  rw [minRow_data] at e
  have hi : i < ws.length := by
    rw [rv.length]
    rcases Nat.lt_or_ge i its.length with z | z
    · exact z
    · rw [List.getElem?_eq_none z] at hv'; exact absurd hv' (by simp)
  have hw : ws[i]? = some ws[i] := List.getElem?_eq_getElem hi
  obtain ⟨u, e1, e2⟩ := rv.get hw
  rw [hv'] at e1
  cases e1
  refine ⟨ws[i], H, I.kept hk, e2, q i _ hw ?_⟩
  rw [e, List.getD_eq_getElem?_getD, List.getElem?_eq_getElem h5]
  rfl
def rowOf : D → Option (List Int)
  | .list ds => intsOf ds
  | _ => none
def rowsOf : List D → Option (List (List Int))
  | [] => some []
  | d :: ds => (rowOf d).bind fun r => (rowsOf ds).bind fun rs => some (r :: rs)
theorem rowsOf_eq : ∀ {ds : List D} {rs : List (List Int)}, rowsOf ds = some rs → ds = rs.map rowD
  | [], _, h => by cases h; rfl
  | d :: ds, rs, h => by
    unfold rowsOf at h
    cases hd : rowOf d with
    | none => rw [hd] at h; cases h
    | some r =>
      rw [hd] at h
      cases ht : rowsOf ds with
      | none => rw [ht] at h; cases h
      | some rs' =>
        rw [ht] at h
        cases h
        rw [List.map_cons, rowsOf_eq ht]
        congr 1
        unfold rowOf at hd
        split at hd
        · rw [intsOf_eq hd]; rfl
        · cases hd
theorem rowsOf_map : ∀ rs : List (List Int), rowsOf (rs.map rowD) = some rs
  | [] => rfl
  | r :: rs => by
    show (intsOf (r.map PyData.int)).bind _ = _
    rw [intsOf_map]
    show (rowsOf (rs.map rowD)).bind _ = _
    rw [rowsOf_map rs]
    rfl
def dMinR : List D → Rs D
  | [.list ds] => match rowsOf ds with
    | some (r :: rs) => .ok (rowD (minRow r rs))
    | _ => .no
  | _ => .no
theorem noer_minR : Noer1 dMinR := fun x c => by unfold dMinR; split <;> (try split) <;> simp
theorem cle_minR {K : PySem.W.Frag} : ClE (rMinRows K) dMinR := by
  intro O vs H Q ds od q p
  unfold dMinR at p
  split at p
  · split at p
    · rename_i _ r rs h
      have e := rowsOf_eq h
      obtain ⟨v, rfl, qq⟩ := q.one
      obtain ⟨l, ws, rfl, h3, h4⟩ := qq.list
      rw [e] at h4
      refine ⟨l, ws, r, rs, rfl, SqL.of h3, (h4.mono hide_le).dp, fun i w hw hd => ?_⟩
      obtain ⟨d, e1, e2⟩ := h4.get' i hw
      rw [hd] at e1
      cases e1
      exact p w H (Ex.refl H) e2
    · exact p.elim
  · exact p.elim
section
variable {ι : Type} {cv : Nat → Value} {W : WX} {Xs : ι → Cx} {P : Program} {w : World} {K : PySem.W.Frag} {mg : Str → Option Value} {base : Heap} {N : List Str} {sc : Scope} {fnn : Str → Bool} {k : Nat} {e a b : Expr} {f fa fb : En → Rs D} {pos : Pos}
theorem e_minR (F : Fam Xs P w K mg base N sc fnn k) {p : Pos} (hm : mg "min" = none) (ha : EB cv W Xs a fa) (hg : glB sc "min" = true := by decide +kernel) (hs : ∀ env, starEach [a] env = (false, eval a env) :: starEach [] env := by intro _; rfl) :
    EE cv W Xs (.Call (.Name "min" p) [a] [] pos) (apL dMinR (fCons fa fNil)) :=
  e_callB F (fun j => by have h := cr_minRows (X := Xs j) (F.calm j) (F.units64 j); rw [F.kk j] at h; exact h) cle_minR noer_minR hm PyProof.Rows.boot_min (ab_one ha hs) hg (by decide) (by decide) hs (by intro _; rfl)
end
end DL

namespace DL
open PySem L2 PySem.W PySem.Spec PyProof.Rows
/-! ### set(l), l a list of ints -/
abbrev emptyS (w : World) : Obj := { cls := .type "set", dict := none, data := .set #[] 0 (.fresh 0 0 (!w.params.followText "set-order")) }
section
variable {P : Program} {w : World} {A : Around} {E : Value → Shared → Prop} {s : Shared}
set_option maxHeartbeats 4000000 in
theorem set_of_list {a : Addr} {vs : Array Value} (is : List Int) {Q : Value → Shared → Prop} (hA : A.handled = none) (ha : s.heap.IsList a vs) (hv : IntsAre vs.toList is) (hsz : is.length + 1 < scanBound)
    (k : ∀ (g : Heap) (tk c : Nat), SetR w g s.heap.objs.size (fun j => decide (j ∈ is)) c → c ≤ is.length → (∀ b o, s.heap.get? b = some o → g.get? b = some o) → Q (.ref s.heap.objs.size) { s with heap := g, toks := tk }) : wpAny (model P w) A (call (.type "set") [.ref a]) Q E s := by
  have len : vs.size = is.length := by have z := hv.length; simpa using z
  obtain ⟨cc, tl, mro⟩ := F.called_set.mro
  have m1 := F.called_set.made
  have m2 := F.called_set.sub
  have m3 := F.called_set.notType
  have m4 := F.called_set.canCreate
  have m5 := F.typeCall_set_1 (.ref a)
  refine wpAny_call (codeAny_of_tree ?_)
  show wpAny _ _ (callAny (.type "set") _) _ _ _
  refine wpAny_pure ⟨Code.quiet_builtin _ (by decide +kernel), ?_⟩
  refine codeAny_builtin F.entry_type_call ?_
  rw [Around.under_plain (weight_type_call_type "set" [.ref a] [])
    rfl]
  repeat (any_goals (first | assumption | wp_step))
  refine codeAny_mono (code_set_led1 (.ref a) (E := E) (Q₁ := fun ob z => ob = .ref s.heap.objs.size ∧ z = { s with heap := s.heap.push (emptyS w) }) ⟨rfl, rfl⟩) fun r z hr => ?_
  cases r with
  | error e => exact hr
  | ok fl =>
    cases fl with
    | next => exact hr.elim
    | brk => exact hr.elim
    | cont => exact hr.elim
    | ret ob =>
      obtain ⟨rfl, rfl⟩ := hr
      have g0 : (s.heap.push (emptyS w)).get? s.heap.objs.size = some (emptyS w) := Heap.get?_push_size _ rfl
      have ty : Shared.TypeIs { s with heap := s.heap.push (emptyS w) } (.ref s.heap.objs.size) "set" := ⟨_, g0, rfl⟩
      have i1 := F.called_set.init.lookup
      have i2 := F.called_set.init.bind (.ref s.heap.objs.size)
      repeat (any_goals (first | assumption | wp_step))
      refine codeAny_mono (codeAny_call_builtin (R := wants (fun r z => r = .none ∧ ∃ g tk c, z = { s with heap := g, toks := tk } ∧ SetR w g s.heap.objs.size (fun j => decide (j ∈ is)) c ∧ c ≤ is.length ∧ ∀ b o, s.heap.get? b = some o → g.get? b = some o) E)
        F.called_set.init.plain F.entry_set_init (check_set_init_1 ty ?body)) fun r2 z2 hr2 => ?after
      case after =>
        cases r2 with
        | error e => exact hr2
        | ok f2 =>
          cases f2 with
          | next => exact hr2.elim
          | brk => exact hr2.elim
          | cont => exact hr2.elim
          | ret u =>
            obtain ⟨rfl, g, tk, c, rfl, R1, R2, R3⟩ := hr2
            repeat (any_goals (first | assumption | wp_step))
            exact k g tk c R1 R2 R3
      case body =>
        obtain ⟨ob, q0, q1, nn, q2⟩ := ha
        obtain ⟨b1, b2, b3, b4⟩ := ob
        dsimp only at q1 q2
        subst q1 q2
        have la : a < s.heap.objs.size := Heap.lt_size q0
        have q3 : (s.heap.push (emptyS w)).get? a = some ⟨.type "list", b2, .seq vs nn, b4⟩ := Heap.get?_push_of_some _ q0
        have l1 : (s.heap.push (emptyS w)).IsList a vs := ⟨_, q3, rfl, nn, rfl⟩
        have u1 := F.sub_list_set
        have u2 := F.sub_list_frozenset
        have u3 : (Value.type "list" == Value.type "dict") = false := rfl
        unfold Builtin.«set.__init__» noKeywords
        unfold Builtin.Frozenset.updateFrom
        generalize hp : pyIter = itF
        wp_walk
        subst hp
        refine wpAny_pyIter_list l1 (wpAny_bind (wpAny_runValue ?_))
        have h3 : A.in1.in1.in1.handled = none := by simp [hA]
        have sz : (s.heap.push (emptyS w)).objs.size = s.heap.objs.size + 1 := Heap.size_push ..
        have n1 : a ≠ (s.heap.push (emptyS w)).objs.size := by
          rw [sz]
          exact Nat.ne_of_lt (Nat.lt_succ_of_lt la)
        have n2 : s.heap.objs.size ∉ [(s.heap.push (emptyS w)).objs.size, a] := by
          rw [sz, List.mem_cons, List.mem_singleton]
          rintro (e | e)
          · exact Nat.ne_of_lt (Nat.lt_succ_self _) e
          · exact Nat.ne_of_gt la e
        refine set_update_ints ((Walks.list h3 _ a n1 vs).toS) s.heap.objs.size n2 is len hsz (fun i v e => ?_) (vs.size - 0) 0 _ (by omega) (Nat.zero_le _) ⟨⟨_, Heap.get?_push_size _ rfl, rfl, rfl⟩, l1.push _⟩ ⟨0, Nat.le_refl 0, setR_new_at (Heap.get?_push_of_some _ g0)⟩ fun z c mv hc R1 => ?_
        · have hi : i < is.length := by rw [← len]; exact (Array.getElem?_eq_some_iff.mp e).1
          obtain ⟨t, et⟩ := IntsAre.int_at hv i v (by rw [Array.getElem?_toList]; exact e)
          refine ⟨is[i], t, List.getElem?_eq_getElem hi, et.trans ?_⟩
          rw [List.getD_eq_getElem?_getD, List.getElem?_eq_getElem hi]
          rfl
        · obtain ⟨g, g2, d2, t2, o2⟩ := z
          have x1 : g2 = s.gens := mv.gens
          have x2 : d2 = s.drawn := mv.drawn
          have x3 : o2 = s.os := mv.os
          subst x1 x2 x3
          refine wpAny_pure ?_
          show wpAny _ _ (ret Value.none) _ _ _
          refine wpAny_pure ⟨rfl, g, t2, c, rfl, R1, by omega, fun b o e => ?_⟩
          have lb : b < s.heap.objs.size := Heap.lt_size e
          refine mv.heap b o ?_ (Heap.get?_push_of_some _ (Heap.get?_push_of_some _ e))
          rw [sz, List.mem_cons, List.mem_singleton]
          rintro (e' | e')
          · exact Nat.ne_of_lt lb e'
          · exact Nat.ne_of_lt (Nat.lt_succ_of_lt lb) e'
end
end DL

namespace DL
open PySem L2 PySem.W
/-! ### sorted(set(l)), len(set(l)) -/
def insU (x : Int) : List Int → List Int
  | [] => [x]
  | y :: l => if x < y then x :: y :: l else if x = y then y :: l else y :: insU x l
def uniI : List Int → List Int
  | [] => []
  | x :: l => insU x (uniI l)
theorem mem_insU {z x : Int} : ∀ {l : List Int}, z ∈ insU x l ↔ z = x ∨ z ∈ l
  | [] => by simp [insU]
  | y :: l => by
    unfold insU
    split
    · simp
    · split
      · rename_i _ e
        subst e
        simp
      · rw [List.mem_cons, mem_insU, List.mem_cons]
        constructor
        · rintro (h | h | h)
          · exact .inr (.inl h)
          · exact .inl h
          · exact .inr (.inr h)
        · rintro (h | h | h)
          · exact .inr (.inl h)
          · exact .inl h
          · exact .inr (.inr h)
theorem insU_up {x : Int} : ∀ {l : List Int}, l.Pairwise (· < ·) → (insU x l).Pairwise (· < ·)
  | [], _ => by simp [insU]
  | y :: l, h => by
    rw [List.pairwise_cons] at h
    unfold insU
    split
    · rename_i c
      rw [List.pairwise_cons]
      refine ⟨fun z hz => ?_, List.pairwise_cons.mpr h⟩
      rcases List.mem_cons.mp hz with e | hz
      · rw [e]; exact c
      · have := h.1 z hz; omega
    · split
      · exact List.pairwise_cons.mpr h
      · rename_i c1 c2
        rw [List.pairwise_cons]
        refine ⟨fun z hz => ?_, insU_up h.2⟩
        rcases mem_insU.mp hz with e | hz
        · omega
        · exact h.1 z hz
theorem mem_uniI {z : Int} : ∀ {l : List Int}, z ∈ uniI l ↔ z ∈ l
  | [] => by simp [uniI]
  | x :: l => by
    unfold uniI
    rw [mem_insU, mem_uniI, List.mem_cons]
theorem uniI_up : ∀ l : List Int, (uniI l).Pairwise (· < ·)
  | [] => List.Pairwise.nil
  | x :: l => insU_up (uniI_up l)
theorem up_unique {a b : List Int} (ha : a.Pairwise (· < ·)) (hb : b.Pairwise (· < ·)) (h : ∀ z, z ∈ a ↔ z ∈ b) : a = b := by
  have na : a.Nodup := ha.imp fun h => by omega
  have nb : b.Nodup := hb.imp fun h => by omega
  have p : a.Perm b := (List.perm_ext_iff_of_nodup na nb).mpr h
  exact sorted_unique p (ha.imp fun h => by omega) (hb.imp fun h => by omega)
theorem setR_len {w : World} {h : Heap} {a : Addr} {is : List Int} {c : Nat} (R : SetR w h a (fun j => decide (j ∈ is)) c) : c = (uniI is).length := by
  obtain ⟨o, es, ep, t, _, _, _, _, nd, hm, _, _, hn, _⟩ := R
  have p : (es.toList.map keyOf).Perm (uniI is) := (List.perm_ext_iff_of_nodup nd ((uniI_up is).imp fun h => by omega)).mpr fun z => by
    rw [← hm z, decide_eq_true_iff, mem_uniI]
  have := p.length_eq
  rw [List.length_map, Array.length_toList] at this
  omega
def rSetL (K : PySem.W.Frag) (w : World) : List V → Hp → VK → Prop := fun vs H Q => ∃ (l : Addr) (ns : List Int), vs = [V.ref l] ∧ SqL K H l (ns.map V.int) ∧ ns.length ≤ 60 ∧ ∀ p, H p = none → Q (.ref p) (upd H p (SetO w p (fun j => decide (j ∈ ns)) (uniI ns).length))
theorem cr_setL {X : Cx} (hc : X.calm = true) : CallR X (.type "set") (rSetL X.K X.w) := by
  intro pins s σ H vs us Q I r h
  obtain ⟨l, ns, rfl, hs, hl, q⟩ := h
  rw [Vals.ref1 r]
  obtain ⟨its, rv, pl, _⟩ := I.list hs
  refine set_of_list (A := X.A) (vs := its.toArray) ns (I.ok.hd hc) pl.isList (by simpa using rv.ints) (by unfold scanBound; omega) fun g tk c R _ hk => ?_
  have e := setR_len R
  subst e
  exact ⟨.ref _, _, I.laid (t' := tk) hk (Nat.le_refl _) (setO_new R), rfl, q _ (I.hok.fresh (Nat.le_refl _))⟩
theorem uniI_le : ∀ l : List Int, (uniI l).length ≤ l.length
  | [] => Nat.le_refl _
  | x :: l => by
    have ih := uniI_le l
    have : ∀ (m : List Int), (insU x m).length ≤ m.length + 1 := by
      intro m
      induction m with
      | nil => simp [insU]
      | cons y m ih =>
        unfold insU
        split
        · simp
        · split
          · simp
          · simp; exact ih
    have := this (uniI l)
    unfold uniI
    rw [List.length_cons]
    omega
def rSLen (w : World) : List V → Hp → VK → Prop := fun vs H Q => ∃ (a : Addr) (S : Int → Bool) (n : Nat), vs = [V.ref a] ∧ H a = some (SetO w a S n) ∧ Q (.int n) H
theorem cr_sLen {X : Cx} : CallR X (.builtin "len") (rSLen X.w) := by
  intro pins s σ H vs us Q I r h
  obtain ⟨a, S, n, rfl, ha, q⟩ := h
  rw [Vals.ref1 r]
  obtain ⟨o, es, ep, t, ho, hex, hd, _, _, _, hb, hf, hn, _⟩ := setO_get I ha
  exact call_len_set ho hex hd hf (by unfold scanBound at hb; omega) ⟨.int n, H, I.tok _, ⟨_, by rw [hn]⟩, q⟩
def dSortSet : List D → Rs D
  | [.list ds] => match intsOf ds with
    | some ns => if ns.length ≤ 60 then .ok (.list ((uniI ns).map PyData.int)) else .no
    | none => .no
  | _ => .no
def dLenSet : List D → Rs D
  | [.list ds] => match intsOf ds with
    | some ns => if ns.length ≤ 60 then .ok (.int ((uniI ns).length : Nat)) else .no
    | none => .no
  | _ => .no
section
variable {ι : Type} {cv : Nat → Value} {W : WX} {Xs : ι → Cx} {P : Program} {w : World} {K : PySem.W.Frag} {mg : Str → Option Value} {base : Heap} {N : List Str} {sc : Scope} {fnn : Str → Bool} {k : Nat} {e a b : Expr} {f fa fb : En → Rs D} {pos p p2 q : Pos}
theorem f_sortSet (F : Fam Xs P w K mg base N sc fnn k) (hm : mg "sorted" = none) (hm2 : mg "set" = none) (ha : EB cv W Xs a fa) (hg : glB sc "sorted" = true := by decide +kernel) (hg2 : glB sc "set" = true := by decide +kernel) (hs : ∀ env, starEach [a] env = (false, eval a env) :: starEach [] env := by intro _; rfl) :
    EF cv W Xs (.Call (.Name "sorted" p) [.Call (.Name "set" p2) [a] [] q] [] pos) (apL dSortSet (fCons fa fNil)) := by
  obtain ⟨t, h1, h2⟩ := ab_one ha hs
  refine ⟨tCB (rSortedSet w) (tCons (tCB (rSetL K w) t) tNil), fun j => ?_, fun O σ ρ H Q R pp => ?_⟩
  · have c1 := cr_setL (X := Xs j) (F.calm j)
    rw [F.kk j, F.wd j] at c1
    have c2 := cr_sortedSet (X := Xs j) (F.calm j)
    rw [F.wd j] at c2
    exact pe_callB c2 (F.gl_ok hg j) (F.none hm j) PyProof.Rows.boot_sorted (pa_cons (pe_callTy c1 (F.gl_ok hg2 j) (F.none hm2 j) PyProof.Rows.boot_set (h1 j) (by decide) (by decide) (hs _) rfl) pa_nil) (by decide) (by decide) rfl rfl
  · refine h2 O σ ρ H _ R ?_
    unfold apL at pp
    cases ea : (fCons fa fNil) ρ with
    | no => rw [ea] at pp; exact pp
    | er c => rw [ea] at pp; exact pp
    | ok ds =>
      rw [ea, Rs.bind_ok] at pp
      intro vs H1 x1 q1
      unfold dSortSet at pp
      split at pp
      · split at pp
        · split at pp
          · rename_i _ ns hi hl
            have e := intsOf_eq hi
            subst e
            obtain ⟨v, rfl, qq⟩ := q1.one
            obtain ⟨l, ws, rfl, h3, h4⟩ := qq.list
            have e := h4.ints
            subst e
            have le := uniI_le ns
            refine ⟨l, ns, rfl, SqL.of h3, hl, fun p hp => ⟨p, _, _, rfl, upd_same, by omega, fun ms p' u1 u2 u3 hp' => ?_⟩⟩
            have e : ms = uniI ns := up_unique u1 (uniI_up ns) fun z => by rw [u2 z, decide_eq_true_iff, mem_uniI]
            subst e
            have np : H1 p' = none := (Ex.new hp).free hp'
            refine pp p' _ _ _ rfl (x1.trans ((Ex.new hp).trans (Ex.new hp'))) (x1.free np) upd_same ?_
            exact dq_ints _ _
          · exact pp.elim
        · exact pp.elim
      · exact pp.elim
where dq_ints (H : Hp) : ∀ ns : List Int, DqAll H (ns.map V.int) (ns.map PyData.int)
  | [] => .nil
  | n :: ns => .cons (.int n) (dq_ints H ns)
theorem e_lenSet (F : Fam Xs P w K mg base N sc fnn k) (hm : mg "len" = none) (hm2 : mg "set" = none) (ha : EB cv W Xs a fa) (hg : glB sc "len" = true := by decide +kernel) (hg2 : glB sc "set" = true := by decide +kernel) (hs : ∀ env, starEach [a] env = (false, eval a env) :: starEach [] env := by intro _; rfl) :
    EE cv W Xs (.Call (.Name "len" p) [.Call (.Name "set" p2) [a] [] q] [] pos) (apL dLenSet (fCons fa fNil)) := by
  obtain ⟨t, h1, h2⟩ := ab_one ha hs
  refine ⟨tCB (rSLen w) (tCons (tCB (rSetL K w) t) tNil), fun j => ?_, fun O σ ρ H Q R pp => ?_⟩
  · have c1 := cr_setL (X := Xs j) (F.calm j)
    rw [F.kk j, F.wd j] at c1
    have c2 := cr_sLen (X := Xs j)
    rw [F.wd j] at c2
    exact pe_callB c2 (F.gl_ok hg j) (F.none hm j) PySem.boot_len (pa_cons (pe_callTy c1 (F.gl_ok hg2 j) (F.none hm2 j) PyProof.Rows.boot_set (h1 j) (by decide) (by decide) (hs _) rfl) pa_nil) (by decide) (by decide) rfl rfl
  · refine h2 O σ ρ H _ R ?_
    unfold apL at pp
    cases ea : (fCons fa fNil) ρ with
    | no => rw [ea] at pp; exact pp
    | er c => rw [ea] at pp; exact pp
    | ok ds =>
      rw [ea, Rs.bind_ok] at pp
      intro vs H1 x1 q1
      unfold dLenSet at pp
      split at pp
      · split at pp
        · split at pp
          · rename_i _ ns hi hl
            have e := intsOf_eq hi
            subst e
            obtain ⟨v, rfl, qq⟩ := q1.one
            obtain ⟨l, ws, rfl, h3, h4⟩ := qq.list
            have e := h4.ints
            subst e
            exact ⟨l, ns, rfl, SqL.of h3, hl, fun p hp => ⟨p, _, _, rfl, upd_same, pp _ _ (x1.trans (Ex.new hp)) (.int _)⟩⟩
          · exact pp.elim
        · exact pp.elim
      · exact pp.elim
end
end DL

namespace DL
open PySem L2 PySem.W
/-! ### sorted(l), l a list of pairs of ints -/
def pairD (p : Int × Int) : D := .tuple [.int p.1, .int p.2]
def pairOf : D → Option (Int × Int)
  | .tuple [.int a, .int b] => some (a, b)
  | _ => none
theorem pairOf_eq {d : D} {p : Int × Int} (h : pairOf d = some p) : d = pairD p := by
  unfold pairOf at h
  split at h
  · cases h; rfl
  · cases h
def pairsOf : List D → Option (List (Int × Int))
  | [] => some []
  | d :: ds => (pairOf d).bind fun p => (pairsOf ds).bind fun ps => some (p :: ps)
theorem pairsOf_eq : ∀ {ds : List D} {ps : List (Int × Int)}, pairsOf ds = some ps → ds = ps.map pairD
  | [], _, h => by cases h; rfl
  | d :: ds, ps, h => by
    unfold pairsOf at h
    cases hd : pairOf d with
    | none => rw [hd] at h; cases h
    | some p =>
      rw [hd] at h
      cases ht : pairsOf ds with
      | none => rw [ht] at h; cases h
      | some qs =>
        rw [ht] at h
        cases h
        rw [List.map_cons, pairsOf_eq ht, pairOf_eq hd]
theorem pairsOf_map : ∀ ps : List (Int × Int), pairsOf (ps.map pairD) = some ps
  | [] => rfl
  | p :: ps => by
    show (pairsOf (ps.map pairD)).bind _ = _
    rw [pairsOf_map ps]
    rfl
def leP (p q : Int × Int) : Prop := p.1 < q.1 ∨ (p.1 = q.1 ∧ p.2 ≤ q.2)
instance (p q : Int × Int) : Decidable (leP p q) := inferInstanceAs (Decidable (_ ∨ _))
def insP (p : Int × Int) : List (Int × Int) → List (Int × Int)
  | [] => [p]
  | q :: l => if leP p q then p :: q :: l else q :: insP p l
def sortP : List (Int × Int) → List (Int × Int)
  | [] => []
  | p :: l => insP p (sortP l)
theorem insP_perm (p : Int × Int) : ∀ l, (insP p l).Perm (p :: l)
  | [] => List.Perm.refl _
  | q :: l => by
    unfold insP
    split
    · exact List.Perm.refl _
    · exact ((insP_perm p l).cons q).trans (List.Perm.swap p q l)
theorem sortP_perm : ∀ l, (sortP l).Perm l
  | [] => List.Perm.refl _
  | p :: l => (insP_perm p (sortP l)).trans ((sortP_perm l).cons p)
theorem leP_total (p q : Int × Int) : leP p q ∨ leP q p := by unfold leP; omega
theorem leP_trans {p q r : Int × Int} (a : leP p q) (b : leP q r) : leP p r := by unfold leP at *; omega
theorem insP_sorted {p : Int × Int} : ∀ {l}, l.Pairwise leP → (insP p l).Pairwise leP
  | [], _ => by simp [insP]
  | q :: l, h => by
    rw [List.pairwise_cons] at h
    unfold insP
    split
    · rename_i c
      rw [List.pairwise_cons]
      refine ⟨fun z hz => ?_, List.pairwise_cons.mpr h⟩
      rcases List.mem_cons.mp hz with e | hz
      · rw [e]; exact c
      · exact leP_trans c (h.1 z hz)
    · rename_i c
      rw [List.pairwise_cons]
      refine ⟨fun z hz => ?_, insP_sorted h.2⟩
      rcases List.mem_cons.mp ((insP_perm p l).mem_iff.mp hz) with e | hz
      · rw [e]
        rcases leP_total p q with d | d
        · exact absurd d c
        · exact d
      · exact h.1 z hz
theorem sortP_sorted : ∀ l, (sortP l).Pairwise leP
  | [] => List.Pairwise.nil
  | p :: l => insP_sorted (sortP_sorted l)
theorem leP_anti {p q : Int × Int} (a : leP p q) (b : leP q p) : p = q := by
  unfold leP at *
  exact Prod.ext (by omega) (by omega)
theorem sortP_uniq : ∀ {a b : List (Int × Int)}, a.Perm b → a.Pairwise leP → b.Pairwise leP → a = b
  | [], b, p, _, _ => (List.Perm.eq_nil p.symm).symm
  | x :: a, [], p, _, _ => absurd p.length_eq (by simp)
  | x :: a, y :: b, p, ha, hb => by
    rw [List.pairwise_cons] at ha hb
    have e : x = y := by
      have h1 : x ∈ y :: b := p.mem_iff.mp (by simp)
      have h2 : y ∈ x :: a := p.mem_iff.mpr (by simp)
      rcases List.mem_cons.mp h1 with e | h1
      · exact e
      · rcases List.mem_cons.mp h2 with e | h2
        · exact e.symm
        · exact leP_anti (ha.1 y h2) (hb.1 x h1)
    subst e
    rw [sortP_uniq p.cons_inv ha.2 hb.2]
def dSortP : List D → Rs D
  | [.list ds] => match pairsOf ds with
    | some ps => .ok (.list ((sortP ps).map pairD))
    | none => .no
  | _ => .no
theorem noer_sortP : Noer1 dSortP := fun x c => by unfold dSortP; split <;> (try split) <;> simp
def keyH (H : Hp) : V → Int × Int
  | .ref t => match H t with
    | some (.tup [.int a, .int b]) => (a, b)
    | _ => (0, 0)
  | _ => (0, 0)
theorem dq_pair {H : Hp} {v : V} {p : Int × Int} (h : Dq H v (pairD p)) : ∃ t, v = .ref t ∧ H t = some (.tup [.int p.1, .int p.2]) := by
  cases h with
  | tup h1 h2 =>
    cases h2 with
    | cons a r =>
      cases r with
      | cons b r2 =>
        cases r2
        cases a
        cases b
        exact ⟨_, rfl, h1⟩
theorem dq_keys {H : Hp} : ∀ {ws : List V} {ps : List (Int × Int)}, DqAll H ws (ps.map pairD) → ws.map (keyH H) = ps ∧ ∀ w ∈ ws, Dq H w (pairD (keyH H w)) ∧ ∃ t, w = .ref t ∧ H t = some (.tup [.int (keyH H w).1, .int (keyH H w).2])
  | [], [], _ => ⟨rfl, by simp⟩
  | w :: ws, p :: ps, h => by
    cases h with
    | cons a r =>
      obtain ⟨i1, i2⟩ := dq_keys r
      obtain ⟨t, rfl, ht⟩ := dq_pair a
      have e : keyH H (.ref t) = p := by unfold keyH; dsimp only; rw [ht]
      refine ⟨by rw [List.map_cons, i1, e], fun w hw => ?_⟩
      rcases List.mem_cons.mp hw with z | z
      · rw [z, e]; exact ⟨a, t, rfl, ht⟩
      · exact i2 w z
theorem dq_of_keys {H : Hp} : ∀ {ys : List V}, (∀ y ∈ ys, Dq H y (pairD (keyH H y))) → DqAll H ys ((ys.map (keyH H)).map pairD)
  | [], _ => .nil
  | y :: ys, h => .cons (h y (by simp)) (dq_of_keys fun z hz => h z (List.mem_cons_of_mem _ hz))
theorem clf_sortP {K : PySem.W.Frag} : ClF (rSortedPO K) dSortP := by
  intro O vs H Q ds od q p
  unfold dSortP at p
  split at p
  · split at p
    · rename_i _ ps h
      have e := pairsOf_eq h
      subst e
      obtain ⟨v, rfl, qq⟩ := q.one
      obtain ⟨l, ws, rfl, h3, h4⟩ := qq.list
      obtain ⟨k1, k2⟩ := dq_keys h4
      refine ⟨l, ws, keyH (hide O H), rfl, SqL.of h3, fun x hx => ?_, fun ys q s1 s2 hq => ?_⟩
      · obtain ⟨_, t, e1, e2⟩ := k2 x hx
        exact ⟨t, e1, hide_le _ _ e2⟩
      · have e : ys.map (keyH (hide O H)) = sortP ps := by
          refine sortP_uniq ?_ ?_ (sortP_sorted ps)
          · rw [← k1]
            exact ((s2.perm.map _).trans (by rw [k1])).trans ((sortP_perm ps).symm.trans (by rw [k1]))
          · rw [List.pairwise_map]
            refine s1.imp fun {a b} z => ?_
            have := SrtO.lexB_no.mp z
            unfold leP
            omega
        have dq := dq_of_keys (H := hide O H) (ys := ys) fun y hy => (k2 y (s2.perm.mem_iff.mp hy)).1
        rw [e] at dq
        exact p q ys _ _ rfl (Ex.new hq) hq upd_same (dq.mono (hide_new hq))
    · exact p.elim
  · exact p.elim
section
variable {ι : Type} {cv : Nat → Value} {W : WX} {Xs : ι → Cx} {P : Program} {w : World} {K : PySem.W.Frag} {mg : Str → Option Value} {base : Heap} {N : List Str} {sc : Scope} {fnn : Str → Bool} {k : Nat} {e a b : Expr} {f fa fb : En → Rs D} {pos p : Pos}
theorem f_sortP (F : Fam Xs P w K mg base N sc fnn k) (hm : mg "sorted" = none) (ha : EB cv W Xs a fa) (hg : glB sc "sorted" = true := by decide +kernel) (hs : ∀ env, starEach [a] env = (false, eval a env) :: starEach [] env := by intro _; rfl) :
    EF cv W Xs (.Call (.Name "sorted" p) [a] [] pos) (apL dSortP (fCons fa fNil)) :=
  e_callBF F (fun j => by have h := cr_sortedPO (X := Xs j); rw [F.kk j] at h; exact h) clf_sortP noer_sortP hm PyProof.Rows.boot_sorted (ab_one ha hs) hg (by decide) (by decide) hs (by intro _; rfl)
end
end DL

/-! defs that raise -/
namespace DL
open PySem L2

def xNm : Nat → Str
  | 0 => "BadRanking"
  | 1 => "BadScores"
  | 2 => "BadNumber"
  | 3 => "BadText"
  | _ => "NotFound"
abbrev cvM (mg : Str → Option Value) : Nat → Value := fun c => (mg (xNm c)).getD .none
def OkX (mg : Str → Option Value) (O : List Addr) (H : Hp) (Q : VK) (E : XK) : Rs D → Prop
  | .ok d => ∀ v H2, Ex H H2 → Dq (hide O H2) v d → Q v H2
  | .er c => ∀ H2, Ex H H2 → E (cvM mg c) none H2
  | .no => False
def OkXF (mg : Str → Option Value) (O : List Addr) (H : Hp) (Q : VK) (E : XK) : Rs D → Prop
  | .ok d => ∀ p vs ds H2, d = .list ds → Ex H H2 → H p = none → H2 p = some (.lst vs) → DqAll (hide (p :: O) H2) vs ds → Q (.ref p) H2
  | .er c => ∀ H2, Ex H H2 → E (cvM mg c) none H2
  | .no => False
def spX (mg : Str → Option Value) (np : Nat) (g : List D → Rs D) : Sp := fun vs H Q E => vs.length = np ∧ ∃ O ds, (∀ a ∈ O, H a ≠ none) ∧ NT O H ∧ DqAll (hide O H) vs ds ∧ OkX mg O H Q E (g ds)
def spXF (mg : Str → Option Value) (np : Nat) (g : List D → Rs D) : Sp := fun vs H Q E => vs.length = np ∧ ∃ O ds, (∀ a ∈ O, H a ≠ none) ∧ NT O H ∧ DqAll (hide O H) vs ds ∧ OkXF mg O H Q E (g ds)
def KnownX (P : Program) (w : World) (K : PySem.W.Frag) (mg : Str → Option Value) (base : Heap) (kc : Nat) (x : Str) (ps : List Str) (sp : Sp) : Prop :=
  ∃ f fd, FnOk P w K mg base (L2.CX P w) kc f fd ps sp ∧ mg x = some (.ref f) ∧ PySem.W.keepIn K (.ref f) = true ∧ Binds K fd ps []
def sEx (c : Nat) : En → Out := fun ρ => .ex c ρ
def callX (np : Nat) (g : List D → Rs D) (ds : List D) : Rs D := if ds.length = np then g ds else .no
/-- an exception class of the program -/
def XOk (K : PySem.W.Frag) (mg : Str → Option Value) (x : Str) : Prop :=
  ∃ C, mg x = some (.ref C) ∧ PySem.W.excIn K C [.type "ValueError", .type "Exception", .type "BaseException", .type "object"] "ValueError.__new__" = true ∧ PySem.W.keepIn K (.ref C) = true ∧
    PySem.W.subIn K (.ref C) (.type "BaseException") = some true ∧ PySem.W.typeIn K (.ref C) = some (.type "type")
section
variable {P : Program} {w : World} {K : PySem.W.Frag} {mg : Str → Option Value} {base : Heap} {N ps : List Str} {k : Nat} {x qual : Str} {st : Stmt} {f : Addr} {fd : FuncData} {F : En → Out}
theorem famX_of {cdv : Value} {A : Around} {outer : List Env} {s : Shared} {H : Hp} {E : XK} (S : FnScope N ps (defScope st)) (hr : Room k (A.deeper (PyProof.Rows.envOfC qual (defScope st) s.heap.objs.size f cdv))) :
    Fam (fun _ : Unit => cxOf (L2.CX P w) P w K mg base N qual (defScope st) f cdv A outer s H E) P w K mg base N (defScope st) (fun _ => true) k where
  prog := fun _ => rfl
  wd := fun _ => rfl
  kk := fun _ => rfl
  gl := fun _ => rfl
  bs := fun _ => rfl
  nm := fun _ => rfl
  scp := fun _ => rfl
  calm := fun _ => rfl
  nd := S.nd
  room := fun _ => hr
  fn := fun _ _ => rfl
theorem ok_fnX (Fn : Fun K x qual st f fd) (S : FnScope N ps (defScope st))
    (hb : ∀ (W : WX) (Xs : Unit → Cx), Fam Xs P w K mg base N (defScope st) (fun _ => true) k → (∀ j, Takes (Xs j) W) → (∀ j, PassesOwn (model (Xs j).prog (Xs j).w) (Xs j).A (Xs j).env (Xs j).xe) → (∀ j, (Xs j).stack = (Xs j).env :: (Xs j).outer ∧ (Xs j).env.frame = some (Xs j).env.locals ∧ (Xs j).ex = []) → SSs (cvM mg) W .dat Xs (defBody st) F) :
    FnOk P w K mg base (L2.CX P w) (k + 1) f fd ps (spX mg ps.length (callF N.length F)) := by
  refine Fn.okX S (fun vs H Q E h => h.1) (fun cdv A outer s H vs Q E hr h => ?_)
  obtain ⟨hl, O, ds, od, nt, q, p⟩ := h
  obtain ⟨t, h1, h2⟩ := hb (fun cls d _ H => E cls d H) _ (famX_of (E := E) S hr) (fun _ => takes_of rfl rfl rfl rfl) (fun _ => passes_of rfl) (fun _ => ⟨rfl, rfl, rfl⟩)
  refine ⟨t, h1 (), h2 O H O _ _ H _ (start_rep od nt q) ?_⟩
  unfold callF at p
  cases e : F (startE N.length ds) with
  | rt d => rw [e] at p; exact fun v H' x q => p v H' x q
  | nx ρ' => rw [e] at p; exact fun O' σ' H' R x => p .non H' R.base .non
  | bk ρ' => rw [e] at p; exact p.elim
  | ct ρ' => rw [e] at p; exact p.elim
  | ex c ρ' => rw [e] at p; exact fun O' σ' H' R x => p H' R.base
  | no => rw [e] at p; exact p.elim
theorem ok_fnXF (Fn : Fun K x qual st f fd) (S : FnScope N ps (defScope st))
    (hb : ∀ (W : WX) (Xs : Unit → Cx), Fam Xs P w K mg base N (defScope st) (fun _ => true) k → (∀ j, Takes (Xs j) W) → (∀ j, PassesOwn (model (Xs j).prog (Xs j).w) (Xs j).A (Xs j).env (Xs j).xe) → (∀ j, (Xs j).stack = (Xs j).env :: (Xs j).outer ∧ (Xs j).env.frame = some (Xs j).env.locals ∧ (Xs j).ex = []) → SSs (cvM mg) W .lst Xs (defBody st) F) :
    FnOk P w K mg base (L2.CX P w) (k + 1) f fd ps (spXF mg ps.length (callR N.length F)) := by
  refine Fn.okX S (fun vs H Q E h => h.1) (fun cdv A outer s H vs Q E hr h => ?_)
  obtain ⟨hl, O, ds, od, nt, q, p⟩ := h
  obtain ⟨t, h1, h2⟩ := hb (fun cls d _ H => E cls d H) _ (famX_of (E := E) S hr) (fun _ => takes_of rfl rfl rfl rfl) (fun _ => passes_of rfl) (fun _ => ⟨rfl, rfl, rfl⟩)
  refine ⟨t, h1 (), h2 O H O _ _ H _ (start_rep od nt q) ?_⟩
  unfold callR at p
  cases e : F (startE N.length ds) with
  | rt d =>
    rw [e] at p
    rintro v H' x ⟨q, ws, es, rfl, e1, n1, g1, g2⟩
    exact p q ws es H' e1 x n1 g1 g2
  | nx ρ' => rw [e] at p; exact p.elim
  | bk ρ' => rw [e] at p; exact p.elim
  | ct ρ' => rw [e] at p; exact p.elim
  | ex c ρ' => rw [e] at p; exact fun O' σ' H' R x => p H' R.base
  | no => rw [e] at p; exact p.elim
theorem knownX_fn (h : ∃ f fd, Fun K x x st f fd ∧ mg x = some (.ref f)) (S : FnScope N ps (defScope st)) (B : BindsB x st ps) (np nN kk : Nat) (hnp : ps.length = np) (hnN : N.length = nN) (hk : k + 1 = kk)
    (hb : ∀ (W : WX) (Xs : Unit → Cx), Fam Xs P w K mg base N (defScope st) (fun _ => true) k → (∀ j, Takes (Xs j) W) → (∀ j, PassesOwn (model (Xs j).prog (Xs j).w) (Xs j).A (Xs j).env (Xs j).xe) → (∀ j, (Xs j).stack = (Xs j).env :: (Xs j).outer ∧ (Xs j).env.frame = some (Xs j).env.locals ∧ (Xs j).ex = []) → SSs (cvM mg) W .dat Xs (defBody st) F) :
    KnownX P w K mg base kk x ps (spX mg np (callF nN F)) := by
  subst hnp hnN hk
  obtain ⟨f, fd, Fn, hm⟩ := h
  exact ⟨f, fd, ok_fnX Fn S hb, hm, Fn.kp, Fn.binds B⟩
theorem knownX_fnF (h : ∃ f fd, Fun K x x st f fd ∧ mg x = some (.ref f)) (S : FnScope N ps (defScope st)) (B : BindsB x st ps) (np nN kk : Nat) (hnp : ps.length = np) (hnN : N.length = nN) (hk : k + 1 = kk)
    (hb : ∀ (W : WX) (Xs : Unit → Cx), Fam Xs P w K mg base N (defScope st) (fun _ => true) k → (∀ j, Takes (Xs j) W) → (∀ j, PassesOwn (model (Xs j).prog (Xs j).w) (Xs j).A (Xs j).env (Xs j).xe) → (∀ j, (Xs j).stack = (Xs j).env :: (Xs j).outer ∧ (Xs j).env.frame = some (Xs j).env.locals ∧ (Xs j).ex = []) → SSs (cvM mg) W .lst Xs (defBody st) F) :
    KnownX P w K mg base kk x ps (spXF mg np (callR nN F)) := by
  subst hnp hnN hk
  obtain ⟨f, fd, Fn, hm⟩ := h
  exact ⟨f, fd, ok_fnXF Fn S hb, hm, Fn.kp, Fn.binds B⟩
theorem knownX_none (h : ∃ f fd, Fun K x x st f fd ∧ mg x = some (.ref f)) (S : FnScope N ps (defScope st)) (B : BindsB x st ps) (np kk : Nat) (hnp : ps.length = np) (hk : k + 1 = kk) : KnownX P w K mg base kk x ps (spX mg np fun _ => .no) := by
  have := knownX_fn (P := P) (w := w) (base := base) (F := sNo) (k := k) h S B np N.length kk hnp rfl hk fun W Xs F tk hp hq => ⟨tNever, fun _ => pss_never, fun _ _ _ _ _ _ _ _ p => p.elim⟩
  exact this
end
section
variable {ι : Type} {W : WX} {fr : RM} {Xs : ι → Cx} {P : Program} {w : World} {K : PySem.W.Frag} {mg : Str → Option Value} {base : Heap} {N ps : List Str} {sc : Scope} {fnn : Str → Bool} {k kc : Nat}
variable {e a b c : Expr} {es : List Expr} {f fa fb : En → Rs D} {fs : En → Rs (List D)} {pos p : Pos} {x : Str} {g : List D → Rs D}
theorem snd_callX {t : TA} (h : SndA (cvM mg) W t fs) : SndE (cvM mg) W (tCallS (spX mg ps.length g) (L2.WE W) t) (apL (callX ps.length g) fs) := by
  intro O σ ρ H Q R p
  refine h O σ ρ H _ R ?_
  unfold apL at p
  cases ea : fs ρ with
  | no => rw [ea] at p; exact p
  | er c => rw [ea] at p; exact p
  | ok ds =>
    rw [ea, Rs.bind_ok] at p
    intro vs H1 x1 q1
    unfold callX at p
    by_cases hl : ds.length = ps.length
    · rw [if_pos hl] at p
      refine ⟨by rw [q1.length]; exact hl, O, ds, (R.mono x1).od, (R.mono x1).nt, q1, ?_⟩
      cases eg : g ds with
      | no => rw [eg] at p; exact p
      | er c => rw [eg] at p; exact fun H2 x2 => p H2 (x1.trans x2)
      | ok z => rw [eg] at p; exact fun v H2 x2 q2 => p v H2 (x1.trans x2) q2
    · rw [if_neg hl] at p
      exact p.elim
theorem snd_callXF {t : TA} (h : SndA (cvM mg) W t fs) : SndF (cvM mg) W (tCallS (spXF mg ps.length g) (L2.WE W) t) (apL (callX ps.length g) fs) := by
  intro O σ ρ H Q R p
  refine h O σ ρ H _ R ?_
  unfold apL at p
  cases ea : fs ρ with
  | no => rw [ea] at p; exact p
  | er c => rw [ea] at p; exact p
  | ok ds =>
    rw [ea, Rs.bind_ok] at p
    intro vs H1 x1 q1
    unfold callX at p
    by_cases hl : ds.length = ps.length
    · rw [if_pos hl] at p
      refine ⟨by rw [q1.length]; exact hl, O, ds, (R.mono x1).od, (R.mono x1).nt, q1, ?_⟩
      cases eg : g ds with
      | no => rw [eg] at p; exact p
      | er c => rw [eg] at p; exact fun H2 x2 => p H2 (x1.trans x2)
      | ok z => rw [eg] at p; exact fun q ws es' H2 e1 x2 n1 => p q ws es' H2 e1 (x1.trans x2) (x1.free n1)
    · rw [if_neg hl] at p
      exact p.elim
theorem e_callX (Fm : Fam Xs P w K mg base N sc fnn k) (tk : ∀ j, Takes (Xs j) W) (G : KnownX P w K mg base kc x ps (spX mg ps.length g)) (ha : EA (cvM mg) W Xs (e :: es) fs) (hk : kc ≤ k := by decide) (hg : glB sc x = true := by decide +kernel)
    (hd : (x == ("__debug__" : Str)) = false := by decide) (hs : ∀ env, starEach (e :: es) env = (false, eval e env) :: starEach es env := by intro _; rfl) (hpl : ∀ env, (backTo pos (starEach es env)).any (·.1) = false := by intro _; rfl) :
    EE (cvM mg) W Xs (.Call (.Name x p) (e :: es) [] pos) (apL (callX ps.length g) fs) := by
  obtain ⟨f, fd, G, hm, kp, b⟩ := G
  obtain ⟨t, h1, h2⟩ := ha
  refine ⟨tCallS (spX mg ps.length g) (L2.WE W) t, fun j => ?_, snd_callX h2⟩
  refine pe_callS (fd := fd) (CX := L2.CX (Xs j).prog (Xs j).w) (k := kc) (ps := ps) ?_ ((Fm.room j).mono hk) (Fm.gl_ok hg j) (Fm.some hm j) (by rw [Fm.kk j]; exact kp) (by rw [Fm.kk j]; exact b) (passAt (tk j)) (h1 j) hd (hs _) (hpl _)
  rw [Fm.prog j, Fm.wd j, Fm.kk j, Fm.gl j, Fm.bs j]
  exact G
theorem f_callX (Fm : Fam Xs P w K mg base N sc fnn k) (tk : ∀ j, Takes (Xs j) W) (G : KnownX P w K mg base kc x ps (spXF mg ps.length g)) (ha : EA (cvM mg) W Xs (e :: es) fs) (hk : kc ≤ k := by decide) (hg : glB sc x = true := by decide +kernel)
    (hd : (x == ("__debug__" : Str)) = false := by decide) (hs : ∀ env, starEach (e :: es) env = (false, eval e env) :: starEach es env := by intro _; rfl) (hpl : ∀ env, (backTo pos (starEach es env)).any (·.1) = false := by intro _; rfl) :
    EF (cvM mg) W Xs (.Call (.Name x p) (e :: es) [] pos) (apL (callX ps.length g) fs) := by
  obtain ⟨f, fd, G, hm, kp, b⟩ := G
  obtain ⟨t, h1, h2⟩ := ha
  refine ⟨tCallS (spXF mg ps.length g) (L2.WE W) t, fun j => ?_, snd_callXF h2⟩
  refine pe_callS (fd := fd) (CX := L2.CX (Xs j).prog (Xs j).w) (k := kc) (ps := ps) ?_ ((Fm.room j).mono hk) (Fm.gl_ok hg j) (Fm.some hm j) (by rw [Fm.kk j]; exact kp) (by rw [Fm.kk j]; exact b) (passAt (tk j)) (h1 j) hd (hs _) (hpl _)
  rw [Fm.prog j, Fm.wd j, Fm.kk j, Fm.gl j, Fm.bs j]
  exact G
/-- raise X("..") -/
theorem s_raise (Fm : Fam Xs P w K mg base N sc fnn k) (tk : ∀ j, Takes (Xs j) W) (c : Nat) {m : Str} {i : Nat} {p2 pos' : Pos} (T : XOk K mg (xNm c)) (hx : xNm c = x := by rfl) (hg : glB sc x = true := by decide +kernel) (hd : (x == ("__debug__" : Str)) = false := by decide) :
    SS (cvM mg) W fr Xs (.Raise (some (.Call (.Name x p) [.Constant (.str m) i p2] [] pos)) none pos') (sEx c) := by
  subst hx
  obtain ⟨C, gC, q, kC, b, t⟩ := T
  refine ⟨_, fun j => ps_raise (Fm.calm j) (tk j) (pmk_own (C := C) PySem.F.excBase_ValueError (by rw [Fm.kk j]; exact q) (Fm.some gC j) (by rw [Fm.kk j]; exact kC) (raises_own (by rw [Fm.kk j]; exact b) (by rw [Fm.kk j]; exact t)) (Fm.gl_ok hg j) hd), fun Oc H0 O σ ρ H Z R p => ?_⟩
  have e : cvM mg c = .ref C := by show (mg (xNm c)).getD .none = _; rw [gC]; rfl
  have := p O σ H R (Ex.refl _)
  rw [e] at this
  exact this
end
end DL

/-! an exception that is caught and kept -/
namespace DL
open PySem L2 PySem.Spec PyProof.Rows

theorem xh_ok {P : Program} {w : World} {T : Hp} {g : Heap} {z : Addr} {cl : Value} {ox : Obj} {fl : Array Value} (e : g.get? z = some ox) (c : Zc cl none ox) (d : ox.data = .fields fl) : ObjOk P w T g z (XH cl z) :=
  ⟨⟨ox, fl, e, c, d⟩, ⟨ox, e⟩, fun _ _ y k => by
    obtain ⟨o, f, q, r⟩ := y
    exact ⟨o, f, k o q, r⟩⟩
/-- an object of the heap, not of the entry's, gets tracked -/
theorem inv_track {X : Cx} {pins : List (Addr × Obj)} {sl : L2.St} {T : Hp} {s : Shared} {z : Addr} {cl : Value} {ox : Obj} {fl : Array Value} (I : Inv X pins sl T s) (e : s.heap.get? z = some ox) (c : Zc cl none ox) (d : ox.data = .fields fl) (nz : T z = none)
    (n0 : X.s_0.heap.get? z = none) (nL : z ≠ X.env.locals) (np : ∀ p ∈ X.pn ++ pins, p.1 ≠ z) : Inv X pins sl (upd T z (XH cl z)) s := by
  have ne0 : ∀ b o, X.s_0.heap.get? b = some o → b ≠ z := fun b o q y => by
    subst y
    rw [n0] at q
    cases q
  have neS : ∀ b o, T b = some o → b ≠ z := fun b o q => ne_of_none q nz
  have neC : ∀ x c, X.env.cells.lookup x = some c → c ≠ z := fun x c q y => by
    subst y
    obtain ⟨v, o, h1, h2⟩ := I.cell x _ q
    rw [e] at h1
    cases h1
    rw [d] at h2
    cases h2
  exact {
    ok := I.ok, os := I.os, bare := I.bare, loc := I.loc, cell := I.cell, len := I.len
    base := {
      keep := I.base.keep, slot := I.base.slot, there := I.base.there
      free := fun b o q n x => (upd_ne (ne0 b o q)).trans (I.base.free b o q n x)
      tups := fun b xs q => (upd_ne (neS b _ (I.base.tups b xs q))).trans (I.base.tups b xs q)
      frzs := fun b o u q => (upd_ne (neS b _ (I.base.frzs b o u q))).trans (I.base.frzs b o u q)
      tbls := fun b ps q => by
        obtain ⟨m, r⟩ := I.base.tbls b ps q
        exact ⟨m, (upd_ne (neS b _ r)).trans r⟩ }
    free := (upd_ne (Ne.symm nL)).trans I.free
    freeC := fun x c q => (upd_ne (neC x c q)).trans (I.freeC x c q)
    pin := fun p hp => by
      obtain ⟨a1, a2, a3⟩ := I.pin p hp
      exact ⟨a1, (upd_ne (np p hp)).trans a2, a3⟩
    hok := fun b o q => by
      by_cases hb : b = z
      · subst hb
        rw [upd_same] at q
        cases q
        exact xh_ok e c d
      · rw [upd_ne hb] at q
        exact (I.hok b o q).stay (fun _ _ _ y => y) (fun y r => by rw [upd_ne (ne_of_none r nz)]; exact r) fun y xs r => by rw [upd_ne (ne_of_none r nz)]; exact r }

/-- what 'except x as n: suite' wishes, where the exception is kept: slot i is n's -/
def wKeep (K : PySem.W.Frag) (c : Value) (i : Nat) (ts : Addr → TS) (Z : Ends) : WX := fun cl d sl T =>
  PySem.W.exmOne K cl c = some true ∧ d = none ∧ ∀ z, T z = none → ts z { nx := fun sl' T' => Z.nx (sl'.set i none) (upd T' z (XH cl z)), rt := fun _ _ => False, bk := fun _ _ => False, ct := fun _ _ => False } (sl.set i (some (.ref z))) T

section
variable {X : Cx} {x n : Str} {c : Value} {i : Nat} {body suite : List Stmt} {b₀ : Stmt} {np pos pos' : Pos} {tb : WX → TS} {ts : Addr → TS}
theorem ps_try_keep (hs : X.stack = X.env :: X.outer) (hf : X.env.frame = some X.env.locals) (hex : X.ex = []) (hN : X.N.Nodup) (hi : X.N[i]? = some n) (hln : X.env.kindOf n = some .local) (hc : Names X x c)
    (hb : ∀ (W : WX) (pn : List (Addr × Obj)) (xe : Value → Shared → Prop), Takes (X.tr pn xe) W → PassesOwn (model X.prog X.w) X.A X.env xe → PSs (X.tr pn xe) body (tb W))
    (hsu : ∀ (z : Addr) (ox : Obj) (pn : List (Addr × Obj)), PSs (X.suite z ((z, ox) :: pn)) (b₀ :: suite) (ts z)) :
    PS X (.Try body [.ExceptHandler (some (.Name x np)) (some n) (b₀ :: suite) pos'] [] [] pos) (fun Z sl T => tb (wKeep X.K c i ts Z) Z sl T) := by
  refine ⟨fun pins s sl T Z I h => ?_⟩
  have ok := I.ok
  have fr : X.A.frames = some (X.env :: X.outer) := ok.frames.trans (congrArg some hs)
  refine wpAny_Try_except (wpAny_mono ((hb (wKeep X.K c i ts Z) (X.pn ++ pins) (fun e s₁ => wpAny (model X.prog X.w) X.A (noteFrame e X.env) (fun _ s₂ => wpAny (model X.prog X.w) X.A (setFlight e none) (fun _ s₃ =>
    wpAny (model X.prog X.w) X.A (handleBy e X.env [.ExceptHandler (some (.Name x np)) (some n) (b₀ :: suite) pos']) (SP X pins Z) X.xe s₃) X.xe s₂) X.xe s₁) ?caught PassesOwn.looking).run [] s sl T Z (I.toTry _) h) ?fine fun _ _ y => y)
  case fine =>
    intro f s1 hsp
    cases f with
    | next =>
      obtain ⟨sl1, T1, J1, q1⟩ := hsp
      exact wpAny_execs_nil ⟨sl1, T1, J1.ofTry ok, q1⟩
    | brk =>
      obtain ⟨sl1, T1, J1, q1⟩ := hsp
      exact ⟨sl1, T1, J1.ofTry ok, q1⟩
    | cont =>
      obtain ⟨sl1, T1, J1, q1⟩ := hsp
      exact ⟨sl1, T1, J1.ofTry ok, q1⟩
    | ret u =>
      obtain ⟨v1, sl1, T1, J1, r1, q1⟩ := hsp
      exact ⟨v1, sl1, T1, J1.ofTry ok, r1, q1⟩
  case caught =>
    intro u s1 xx
    obtain ⟨z, B, sI, pins1, sl1, T1, cl, d, rfl, J0, nb, up, sky, nz, os, ag, hm, rfl, hyes⟩ := xx
    have J : Inv X pins sl1 T1 sI := J0.ofTry ok
    have sky2 : Sky B (X.env :: X.outer) z (Zc cl none) X.env.locals s1.heap := hs ▸ sky
    show wpAny (model X.prog X.w) X.A (noteFrame (.ref z) X.env) _ _ _
    refine Sky.land Zc.steady fr hf sky2 fun g2 fl2 up2 => ?_
    have J2 : Inv X pins sl1 T1 { s1 with heap := g2 } := J.landed nb fl2.1 (up.trans up2) os ag
    obtain ⟨o2, f2, e2, c2, d2⟩ := fl2.there
    have nfr : z ∉ frs (X.env :: X.outer) := fun hm => by
      obtain ⟨_, o', e', hn'⟩ := fl2.2.2.1.mem hm
      rw [e2] at e'
      cases e'
      exact hn' _ d2
    have nL : z ≠ X.env.locals := fun y => nfr (List.mem_filterMap.mpr ⟨X.env, by simp, by rw [hf, y]⟩)
    have nF : z ∉ X.fs := fun hm => by
      obtain ⟨e, he, q⟩ := List.mem_filterMap.mp hm
      exact nfr (List.mem_filterMap.mpr ⟨e, by simp [he], q⟩)
    have nI : sI.heap.get? z = none := by
      cases q : sI.heap.get? z with
      | none => rfl
      | some o =>
        have y := nb z o q (hs ▸ nfr)
        rw [fl2.2.1] at y
        cases y
    have n0 : X.s_0.heap.get? z = none := by
      cases q : X.s_0.heap.get? z with
      | none => rfl
      | some o =>
        obtain ⟨o', y⟩ := J.base.there z o q (by rw [hex]; exact fun y => nomatch y)
        rw [nI] at y
        cases y
    have npz : ∀ p ∈ X.pn ++ pins, p.1 ≠ z := fun p hp y => by
      have q := (J.pin p hp).1
      rw [y, nI] at q
      cases q
    have S2 := J2.suite e2 d2 nz nL nF
    refine wpAny_handleBy_cons (codeAny_handlers_test ?_) (by intro q; cases q)
    have LT : PySem.W.Looks (model X.prog X.w) g2 (typeOf (.ref z)) cl := fun _ _ _ _ kk qq => wpAny_typeOf_ref (kk _ _ e2) (by rw [c2.1]; exact qq)
    have LM := PySem.W.exm_one (M := model X.prog X.w) (J2.kIn) LT hm
    have test : ∀ {Q : Value → Shared → Prop} {E : Value → Shared → Prop}, Q c { s1 with heap := g2 } → wpAny (model X.prog X.w) (X.A.mark (some (.ref z))) (eval (.Name x np) X.env) Q E { s1 with heap := g2 } := fun {Q E} q => by
      obtain ⟨h1, h2, h3 | ⟨h3, h4, h5⟩⟩ := hc
      · exact ld_glob (X := X.suite z ((z, o2) :: (X.pn ++ pins))) S2 h1 h3 q h2
      · exact ld_blt (X := X.suite z ((z, o2) :: (X.pn ++ pins))) S2 h1 h3 h4 q h5 h2
    refine test (LM.here (codeAny_handlers_suite_as (HandSPX.lands_againZ fl2 fun g3 fl3 up3 => ?_)))
    have J3 : Inv X pins sl1 T1 { s1 with heap := g3 } := J.landed nb fl3.1 ((up.trans up2).trans up3) os ag
    obtain ⟨o3, f3, e3, c3, d3⟩ := fl3.there
    refine store_ok (X := X.suite z ((z, o3) :: (X.pn ++ pins))) (v := .ref z) (J3.suite e3 d3 nz nL nF) hN hi (.inl hln) rfl (fun s4 S4 => ?_) (.inr hln)
    refine wpAny_mono ((hsu z o3 (X.pn ++ pins)).run [] s4 _ T1 _ S4 (hyes z nz)) (fun f s5 hsp => ?_) fun _ _ y => y.elim
    cases f with
    | brk =>
      obtain ⟨_, _, _, q⟩ := hsp
      exact q.elim
    | cont =>
      obtain ⟨_, _, _, q⟩ := hsp
      exact q.elim
    | ret u =>
      obtain ⟨_, _, _, _, _, q⟩ := hsp
      exact q.elim
    | next =>
      obtain ⟨sl5, T5, S5, q5⟩ := hsp
      refine gone_ok (X := X.suite z ((z, o3) :: (X.pn ++ pins))) S5 hN hi hln fun s6 S6 => ?_
      obtain ⟨p1, p2, _⟩ := S6.pin (z, o3) (by simp)
      have J6 : Inv X pins _ T5 s6 := S6.unsuite ok
      exact ⟨_, _, inv_track J6 p1 c3 d3 p2 n0 nL npz, q5⟩
end
end DL

/-! count of equal data; isinstance of an exception -/
namespace DL
open PySem L2 PySem.Spec PyProof.Rows

def rCntD (K : PySem.W.Frag) : V → List V → Hp → VK → Prop := fun x xs H Q => ∃ (a : Addr) (y : V) (d : PyData) (ds : List PyData), x = V.ref a ∧ xs = [y] ∧ Dp K H (V.ref a) (.list ds) ∧ Dp K H y d ∧
  SeqAt.shaped (.list ds) = true ∧ SeqAt.shaped d = true ∧ Q (.int (ds.countP (fun z => PyData.eqv z d) : Nat)) H
theorem mt_cntD {X : Cx} (hu : X.A.units + 65 < cLine) : MtR X "list.count" (rCntD X.K) := by
  intro pins s sl H x xs v us Q I rx rxs h
  obtain ⟨a, y, d, ds, rfl, rfl, hl, hy, s1, s2, q⟩ := h
  cases rx
  cases rxs with
  | cons ry rt =>
    rename_i uy ut
    cases rt
    obtain ⟨bs, r1⟩ := Dp.reads I d y uy hy ry
    have c1 : PyData.canLayAll0 ds = true := SeqAt.canLay_of_shaped s1
    have c2 : X.A.units + 1 + min (PyData.depthAll ds) d.depth < cLine := room_in_shaped s2 hu
    cases hl with
    | lst hs ha =>
      obtain ⟨its, rv, ⟨⟨cls, dd, data, sls⟩, n, ho, hc, hdn, hdt⟩, hlen⟩ := I.list hs
      simp only at hc hdt
      subst hc hdt
      obtain ⟨as, h4⟩ := Dp.readsAll I ds _ its ha rv
      have hmap : its.map (SeqAt.readOf s.heap) = ds := SeqAt.readsAll_map ds its as c1 h4
      refine call_meets PySem.F.slot_list_count ⟨_, ho, rfl⟩ PySem.F.entry_list_count (PySem.F.args_list_count_2 _ _)
        (SeqAt.list_countAt a its.toArray n dd sls uy (fun u => PyData.eqv (SeqAt.readOf s.heap u) d)) ⟨ho, SeqAt.items_eqAt (vs := its.toArray) (show ReadsAll s.heap its.toArray.toList ds as from h4) r1 c1 (SeqAt.canLay_of_shaped s2) c2, ?_⟩
      have ec : its.toArray.toList.countP (fun u => PyData.eqv (SeqAt.readOf s.heap u) d) = ds.countP (fun z => PyData.eqv z d) := by
        rw [← hmap, List.countP_map]
        rfl
      refine ⟨.int (ds.countP (fun z => PyData.eqv z d) : Nat), H, I.tok _, ⟨s.toks, ?_⟩, q⟩
      show Value.int ((its.toArray.toList.countP (fun u => PyData.eqv (SeqAt.readOf s.heap u) d) : Nat) : Int) s.toks = _
      rw [ec]
def dCountD (xs ds : List D) : Rs D := match ds with
  | [d] => if SeqAt.shaped (.list xs) = true ∧ SeqAt.shaped d = true then .ok (.int (xs.countP (fun z => PyData.eqv z d) : Nat)) else .no
  | _ => .no
theorem noer_countD : Noer dCountD := fun x y c => by unfold dCountD; split <;> (try split) <;> simp
theorem mle_countD {K : PySem.W.Frag} : MlE (rCntD K) dCountD := by
  intro O x vs H Q xs ds od hx q p
  unfold dCountD at p
  split at p
  · split at p
    · rename_i hc
      obtain ⟨v, rfl, qq⟩ := q.one
      obtain ⟨l, ws, e1, h4, h5⟩ := hx.list
      subst e1
      exact ⟨l, v, _, xs, rfl, rfl, hx.all.dp, qq.all.dp, hc.1, hc.2, p _ H (Ex.refl H) (.int _)⟩
    · exact p.elim
  · exact p.elim
section
variable {ι : Type} {cv : Nat → Value} {W : WX} {Xs : ι → Cx} {P : Program} {w : World} {K : PySem.W.Frag} {mg : Str → Option Value} {base : Heap} {N : List Str} {sc : Scope} {fnn : Str → Bool} {k : Nat} {o a : Expr} {fo fa : En → Rs D} {apos cpos pos : Pos}
theorem e_countD (F : Fam Xs P w K mg base N sc fnn k) (ho : EB cv W Xs o fo) (ha : EB cv W Xs a fa)
    (hbase : ∀ env, attributeBase o "count" env (eval o env) = eval o env := by intro _; rfl)
    (hline : (apos.endLine == cpos.line) = true := by rfl) (hs : ∀ env, starEach [a] env = (false, eval a env) :: starEach [] env := by intro _; rfl) :
    EE cv W Xs (.Call (.Attribute o "count" apos) [a] [] cpos) (apML dCountD fo (fCons fa fNil)) :=
  e_bmL F PySem.F.slot_list_count PySem.F.type_list_count (fun j => by have h := mt_cntD (X := Xs j) (F.units j); rw [F.kk j] at h; exact h) mle_countD noer_countD ho (ab_one ha hs) hbase (by intro env; rw [hs]; rfl) hline hs (by intro _; rfl)

/-! ### isinstance(caught, X) -/
def rIsX (K : PySem.W.Frag) : List V → Hp → VK → Prop := fun xs H Q => ∃ (z E : Addr) (t : V) (u : Value) (b : Bool), xs = [.ref z, t] ∧ H z = some (XH (.ref E) z) ∧ ExcC K E ∧ (∀ y, RelV t y → y = u) ∧ PySem.W.kitOne K (.ref E) u = some b ∧ Q (.bl b) H
theorem call_isX {X : Cx} : CallR X (.builtin "isinstance") (rIsX X.K) := by
  intro pins s sl H xs us Q I r h
  obtain ⟨z, E, t, u, b, rfl, hz, C, hu, e, q⟩ := h
  cases r with
  | cons rx rr =>
    cases rr with
    | cons rt rr =>
      cases rr
      cases rx
      have eu := hu _ rt
      subst eu
      obtain ⟨⟨ox, fl, g1, g2, g3⟩, _⟩ := I.hok z _ hz
      have J : PySem.W.InstAt s.heap z ox E none := by
        obtain ⟨oc, od, oda, osl⟩ := ox
        obtain ⟨y1, y2⟩ := g2
        dsimp only at y1 y2 g3
        subst y1 y2 g3
        exact ⟨g1, rfl, rfl, trivial⟩
      exact PySem.W.kia_one (PySem.W.handS_kitx_exc C.hg C.hk C.hs C.hd C.ha C.hn C.ht C.hm) I.kIn J e (fun y => nomatch y) fun tk => ⟨.bl b, H, I.kept (t' := tk) fun _ _ y => y, rfl, q⟩
open Classical in
/-- the slot holds an exception of the class cl: the answer is b -/
noncomputable def fIsX (cl : Value) (b : Bool) (i : Nat) : En → Rs D := fun ρ => match ρ[i]? with
  | some (some (.xo c)) => if c = cl then .ok (.bool b) else .no
  | _ => .no
theorem fIsX_at {cl : Value} {b : Bool} {i : Nat} {ρ : En} (h : ρ[i]? = some (some (.xo cl))) : fIsX cl b i ρ = .ok (.bool b) := by
  unfold fIsX
  rw [h]
  exact if_pos rfl
theorem snd_isX {i : Nat} {E : Addr} {b : Bool} {t : V} {u : Value} (C : ExcC K E) (hu : ∀ y, RelV t y → y = u) (hk : PySem.W.kitOne K (.ref E) u = some b) :
    SndE cv W (tCB (rIsX K) (tCons (tVar i) (tCons (tC t) tNil))) (fIsX (.ref E) b i) := by
  intro O σ ρ H Q R p
  unfold fIsX at p
  split at p
  · rename_i c e
    split at p
    · rename_i hc
      subst hc
      obtain ⟨v, l, h1, h2, z, h3, h4⟩ := R.sl i _ e
      subst h3
      exact ⟨_, h1, z, E, t, u, b, rfl, hide_le _ _ h4, C, hu, hk, p _ H (Ex.refl H) (.bl b)⟩
    · exact p.elim
  · exact p.elim
theorem e_isX (F : Fam Xs P w K mg base N sc fnn k) (i : Nat) {p pv pp : Pos} {x y : Str} {E T : Addr} {b : Bool} (C : ExcC K E) (hk : PySem.W.kitOne K (.ref E) (.ref T) = some b) (hm : mg "isinstance" = none) (hmx : mg x = some (.ref T)) (hN : N[i]? = some y := by rfl)
    (hv : visB sc y = true := by decide +kernel) (hd : (y == ("__debug__" : Str)) = false := by decide) (hcd : (y == ("__classdict__" : Str)) = false := by decide)
    (hg : glB sc "isinstance" = true := by decide +kernel) (hgx : glB sc x = true := by decide +kernel) (hdx : (x == ("__debug__" : Str)) = false := by decide) :
    EE cv W Xs (.Call (.Name "isinstance" p) [.Name y pv, .Name x pp] [] pos) (fIsX (.ref E) b i) := by
  refine ⟨_, fun j => ?_, snd_isX (t := .ref T) C (fun y r => by cases r; rfl) hk⟩
  have hc := call_isX (X := Xs j)
  rw [F.kk j] at hc
  exact pe_callB hc (F.gl_ok hg j) (F.none hm j) PyProof.Rows.boot_isinstance (pa_cons (pe_var (F.at hN j) (F.vis hv j) hd hcd) (pa_cons (pe_glob (v := .ref T) (F.gl_ok hgx j) (F.some hmx j) rfl hdx) pa_nil rfl) rfl) (by decide) (by decide) rfl rfl
theorem e_isXB (F : Fam Xs P w K mg base N sc fnn k) (i : Nat) {p pv pp : Pos} {x y : Str} {E : Addr} {TN : String} {b : Bool} (C : ExcC K E) (hk : PySem.W.kitOne K (.ref E) (.type TN) = some b) (hm : mg "isinstance" = none) (hmx : mg x = none) (hvx : bootBuiltins x = some (.type TN)) (hN : N[i]? = some y := by rfl)
    (hv : visB sc y = true := by decide +kernel) (hd : (y == ("__debug__" : Str)) = false := by decide) (hcd : (y == ("__classdict__" : Str)) = false := by decide)
    (hg : glB sc "isinstance" = true := by decide +kernel) (hgx : glB sc x = true := by decide +kernel) (hnx : x ≠ "__name__" := by decide) (hdx : (x == ("__debug__" : Str)) = false := by decide) :
    EE cv W Xs (.Call (.Name "isinstance" p) [.Name y pv, .Name x pp] [] pos) (fIsX (.ref E) b i) := by
  refine ⟨_, fun j => ?_, snd_isX (t := .ty TN) C (fun y r => by cases r; rfl) hk⟩
  have hc := call_isX (X := Xs j)
  rw [F.kk j] at hc
  exact pe_callB hc (F.gl_ok hg j) (F.none hm j) PyProof.Rows.boot_isinstance (pa_cons (pe_var (F.at hN j) (F.vis hv j) hd hcd) (pa_cons (pe_bltn (v := .ty TN) (F.gl_ok hgx j) (F.none hmx j) hvx rfl hnx hdx) pa_nil rfl) rfl) (by decide) (by decide) rfl rfl
end
end DL

/-! try .. except X as e: caught = e; the name of what was caught -/
namespace DL
open PySem L2

def eNm : Nat → Str
  | 0 => "ranking"
  | 1 => "scores"
  | 2 => "number"
  | 3 => "text"
  | _ => "none"
def spErr (mg : Str → Option Value) : Sp := fun vs H Q _ => ∃ z c, c < 5 ∧ vs = [.ref z] ∧ H z = some (XH (cvM mg c) z) ∧ ∀ H2, Ex H H2 → Q (.str (eNm c)) H2
def startX (n : Nat) (cl : Value) : En := some (.xo cl) :: List.replicate (n - 1) none
section
variable {P : Program} {w : World} {K : PySem.W.Frag} {mg : Str → Option Value} {base : Heap} {N : List Str} {y : Str} {k : Nat} {x qual : Str} {st : Stmt} {f : Addr} {fd : FuncData} {F : En → Out}
theorem startX_rep {H : Hp} {z : Addr} {cl : Value} (hz : H z = some (XH cl z)) : RepS [] H [] (L2.start (y :: N) [.ref z]) (startX (y :: N).length cl) H := by
  refine ⟨by simp [L2.start, startX], Ex.refl H, fun _ z => z, (fun _ z => by simp at z), (fun _ z => by simp at z), (fun _ z => by simp at z), fun _ => [], fun i s e => ?_, (fun i j a z => by simp at z), (fun i a z => by simp at z)⟩
  unfold startX at e
  cases i with
  | zero =>
    cases e
    exact ⟨_, rfl, rfl, z, rfl, hide_some.mpr ⟨by simp, hz⟩⟩
  | succ i =>
    simp only [List.getElem?_cons_succ, List.getElem?_replicate] at e
    split at e <;> simp at e
theorem ok_err (Fn : Fun K x qual st f fd) (S : FnScope (y :: N) [y] (defScope st))
    (hb : ∀ c, c < 5 → ∀ (Xs : Unit → Cx), Fam Xs P w K mg base (y :: N) (defScope st) (fun _ => true) k → ∃ F, SSs cv0 W0 .dat Xs (defBody st) F ∧ F (startX (y :: N).length (cvM mg c)) = .rt (.str (eNm c))) :
    FnOk P w K mg base (L2.CX P w) (k + 1) f fd [y] (spErr mg) := by
  refine Fn.okX S (fun vs H Q E h => by obtain ⟨z, c, _, rfl, _⟩ := h; rfl) (fun cdv A outer s H vs Q E hr h => ?_)
  obtain ⟨z, c, hc, rfl, hz, q⟩ := h
  obtain ⟨F, ⟨t, h1, h2⟩, e⟩ := hb c hc _ (famX_of (E := E) S hr)
  refine ⟨t, h1 (), h2 [] H [] _ _ H _ (startX_rep hz) ?_⟩
  rw [e]
  intro v H' x g
  cases g
  exact q H' x
end
def KnownE (P : Program) (w : World) (K : PySem.W.Frag) (mg : Str → Option Value) (base : Heap) (kc : Nat) : Prop := ∃ ps, KnownX P w K mg base kc "_law_error" ps (spErr mg)
open Classical in
noncomputable def fErr (mg : Str → Option Value) (i : Nat) : En → Rs D := fun ρ => match ρ[i]? with
  | some (some (.xo cl)) => if h : ∃ c, c < 5 ∧ cl = cvM mg c then .ok (.str (eNm h.choose)) else .no
  | _ => .no
def tIsNo (i : Nat) : En → Rs Bool := fun ρ => match ρ[i]? with
  | some (some (.sh d)) => .ok (isNone d)
  | some (some (.xo _)) => .ok false
  | _ => .no
/-- the exception goes to the slot ic; i is the clause's own name -/
def sTry (mg : Str → Option Value) (i ic : Nat) (F : En → Out) : En → Out := fun ρ => match F ρ with
  | .ex c ρ' => if i < ρ'.length ∧ i ≠ ic then .nx (((ρ'.set i none).set ic (some (.xo (cvM mg c)))).set i none) else .no
  | o => o
section
variable {Oc O : List Addr} {H0 H H' : Hp} {σ : St} {ρ : En} {i : Nat}
theorem RepS.drop {v : Option V} (h : RepS Oc H0 O σ ρ H) : RepS Oc H0 O (σ.set i v) (ρ.set i none) H := by
  obtain ⟨fp, h1, h2, h3⟩ := h.fp
  refine ⟨by rw [List.length_set, List.length_set]; exact h.len, h.base, h.oc, h.oh, h.od, h.nt, fp, fun j s e => ?_, h2, h3⟩
  by_cases hj : j = i
  · subst hj
    rw [List.getElem?_set] at e
    simp at e
  · rw [List.getElem?_set_ne (Ne.symm hj)] at e ⊢
    exact h1 j s e
end
section
variable {ι : Type} {W : WX} {fr : RM} {Xs : ι → Cx} {P : Program} {w : World} {K : PySem.W.Frag} {mg : Str → Option Value} {base : Heap} {N ps : List Str} {sc : Scope} {fnn : Str → Bool} {k kc : Nat} {pos p : Pos}
theorem t_isNo {cv : Nat → Value} (Fm : Fam Xs P w K mg base N sc fnn k) (i : Nat) {n : Nat} {x : Str} {p2 : Pos} (hN : N[i]? = some x := by rfl) (hv : visB sc x = true := by decide +kernel) (hd : (x == ("__debug__" : Str)) = false := by decide) (hcd : (x == ("__classdict__" : Str)) = false := by decide) :
    ET cv W Xs (.Compare (.Name x p) [.Is] [.Constant .none n p2] pos) (tIsNo i) := by
  refine ⟨_, fun j => pt_cmpR (op_isA j) (pe_var (Fm.at hN j) (Fm.vis hv j) hd hcd) pe_non (nomark _), fun O σ ρ H Q R p => ?_⟩
  unfold tIsNo at p
  split at p
  · rename_i d e
    obtain ⟨v, l, h1, h2⟩ := R.sl i _ e
    refine ⟨v, h1, .inl ⟨rfl, ?_⟩⟩
    rw [if_neg (by decide), non_iff (.inl h2.2)]
    exact ⟨_, rfl, p H (Ex.refl H)⟩
  · rename_i cl e
    obtain ⟨v, l, h1, h2, z, h3, h4⟩ := R.sl i _ e
    subst h3
    exact ⟨_, h1, .inl ⟨rfl, ⟨false, rfl, p H (Ex.refl H)⟩⟩⟩
  · exact p.elim
theorem e_err (Fm : Fam Xs P w K mg base N sc fnn k) (tk : ∀ j, Takes (Xs j) W) (G : KnownE P w K mg base kc) (i : Nat) {x : Str} {p2 : Pos} (hk : kc ≤ k := by decide) (hg : glB sc "_law_error" = true := by decide +kernel) (hN : N[i]? = some x := by rfl) (hv : visB sc x = true := by decide +kernel) (hd : (x == ("__debug__" : Str)) = false := by decide)
    (hcd : (x == ("__classdict__" : Str)) = false := by decide) : EE (cvM mg) W Xs (.Call (.Name "_law_error" p) [.Name x p2] [] pos) (fErr mg i) := by
  obtain ⟨ps, f, fd, G, hm, kp, b⟩ := G
  refine ⟨tCallS (spErr mg) (L2.WE W) (tCons (tVar i) tNil), fun j => ?_, fun O σ ρ H Q R p => ?_⟩
  · refine pe_callS (fd := fd) (CX := L2.CX (Xs j).prog (Xs j).w) (k := kc) (ps := ps) ?_ ((Fm.room j).mono hk) (Fm.gl_ok hg j) (Fm.some hm j) (by rw [Fm.kk j]; exact kp) (by rw [Fm.kk j]; exact b) (passAt (tk j)) (pa_cons (pe_var (Fm.at hN j) (Fm.vis hv j) hd hcd) pa_nil rfl) (by decide) rfl rfl
    rw [Fm.prog j, Fm.wd j, Fm.kk j, Fm.gl j, Fm.bs j]
    exact G
  · unfold fErr at p
    split at p
    · rename_i cl e
      split at p
      · rename_i h
        obtain ⟨v, l, h1, h2, z, h3, h4⟩ := R.sl i _ e
        subst h3
        refine ⟨_, h1, z, h.choose, h.choose_spec.1, rfl, ?_, fun H2 x => p _ H2 x (.str _)⟩
        rw [← h.choose_spec.2]
        exact hide_le _ _ h4
      · exact p.elim
    · exact p.elim
theorem s_try (Fm : Fam Xs P w K mg base N sc fnn k) (hp : ∀ j, (Xs j).stack = (Xs j).env :: (Xs j).outer ∧ (Xs j).env.frame = some (Xs j).env.locals ∧ (Xs j).ex = []) (i ic : Nat) {x n nc : Str} {c : Value} {body : List Stmt} {F : En → Out} {q1 q2 q3 q4 q5 : Pos}
    (hm : mg x = some c) (hx : ∀ e, PySem.W.exmOne K (cvM mg e) c = some true)
    (hb : ∀ (W' : WX) {κ : Type} (Ys : κ → Cx), Fam Ys P w K mg base N sc fnn k → (∀ j, Takes (Ys j) W') → (∀ j, PassesOwn (model (Ys j).prog (Ys j).w) (Ys j).A (Ys j).env (Ys j).xe) → SSs (cvM mg) W' fr Ys body F)
    (hN : N[i]? = some n := by rfl) (hNc : N[ic]? = some nc := by rfl) (hl : isLoc sc n = true := by decide +kernel) (hlc : stB fnn sc nc = true := by decide +kernel) (hv : visB sc n = true := by decide +kernel) (hg : glB sc x = true := by decide +kernel) (hd : (x == ("__debug__" : Str)) = false := by decide)
    (hdn : (n == ("__debug__" : Str)) = false := by decide) (hcn : (n == ("__classdict__" : Str)) = false := by decide) :
    SS (cvM mg) W fr Xs (.Try body [.ExceptHandler (some (.Name x q1)) (some n) [.Assign [.Name nc q2] (.Name n q3) q4] q5] [] [] pos) (sTry mg i ic F) := by
  have key : ∀ W' : WX, ∃ t, (∀ j (pn : List (Addr × Obj)) (xe : Value → Shared → Prop), Takes ((Xs j).tr pn xe) W' → PassesOwn (model (Xs j).prog (Xs j).w) (Xs j).A (Xs j).env xe → PSs ((Xs j).tr pn xe) body t) ∧ SndS (cvM mg) W' fr t F := by
    intro W'
    obtain ⟨t, h1, h2⟩ := hb W' (κ := { q : ι × List (Addr × Obj) × (Value → Shared → Prop) // Takes ((Xs q.1).tr q.2.1 q.2.2) W' ∧ PassesOwn (model (Xs q.1).prog (Xs q.1).w) (Xs q.1).A (Xs q.1).env q.2.2 })
      (fun q => (Xs q.1.1).tr q.1.2.1 q.1.2.2) ⟨fun q => Fm.prog _, fun q => Fm.wd _, fun q => Fm.kk _, fun q => Fm.gl _, fun q => Fm.bs _, fun q => Fm.nm _, fun q => Fm.scp _, fun q => Fm.calm _, Fm.nd, fun q => Fm.room _, fun q => Fm.fn _⟩ (fun q => q.2.1) (fun q => q.2.2)
    exact ⟨t, fun j pn xe a b => h1 ⟨(j, pn, xe), a, b⟩, h2⟩
  refine ⟨fun Z σ H => Classical.choose (key (wKeep K c i (fun _ => tAsg (tVar i) (gName ic)) Z)) Z σ H, fun j => ?_, fun Oc H0 O σ ρ H Z R p => ?_⟩
  · have := ps_try_keep (X := Xs j) (x := x) (n := n) (c := c) (i := i) (np := q1) (pos := pos) (pos' := q5) (tb := fun W' => Classical.choose (key W')) (ts := fun _ => tAsg (tVar i) (gName ic)) (hp j).1 (hp j).2.1 (hp j).2.2 (Fm.ndj j) (Fm.at hN j)
      (by show (Xs j).env.scope.names.lookup n = _; rw [Fm.scp j]; exact isLoc_of hl) ⟨Fm.gl_ok hg j, hd, .inl (Fm.some hm j)⟩ (fun W' pn xe a b => (Classical.choose_spec (key W')).1 j pn xe a b)
      (b₀ := .Assign [.Name nc q2] (.Name n q3) q4) (suite := []) (fun z ox pn => pss_one (ps_set (X := (Xs j).suite z ((z, ox) :: pn)) (pos := q4) (Fm.ndj j) (Fm.at hNc j) (Fm.loc hlc j) (pe_var (Fm.at hN j) (Fm.vis hv j) hdn hcn) rfl (Fm.hf hlc j)))
    rw [Fm.kk j] at this
    exact this
  · refine (Classical.choose_spec (key (wKeep K c i (fun _ => tAsg (tVar i) (gName ic)) Z))).2 Oc H0 O σ ρ H Z R ?_
    unfold sTry at p
    cases e : F ρ with
    | nx ρ' => rw [e] at p; exact p
    | rt d => rw [e] at p; exact p
    | bk ρ' => rw [e] at p; exact p
    | ct ρ' => rw [e] at p; exact p
    | no => rw [e] at p; exact p
    | ex cc ρ' =>
      rw [e] at p
      dsimp only at p
      split at p
      · rename_i hh
        intro O' σ' H' R' x'
        refine ⟨hx cc, rfl, fun z nz => ⟨.ref z, ?_, ?_⟩⟩
        · rw [List.getElem?_set_self (by rw [R'.len]; exact hh.1)]
        · have zO : z ∉ O' := fun y => R'.od z y nz
          refine p O' _ _ (RepS.drop (RepS.put (O' := O') (l := []) (RepS.drop R') (Ex.new nz) (fun _ y => y) (fun _ y => by simp at y) (fun a ha y => R'.od a ha ((Ex.new nz).free y)) (R'.nt.mono (Ex.new nz) R'.od) (hide_ex (Ex.new nz)) ⟨rfl, z, rfl, hide_some.mpr ⟨zO, upd_same⟩⟩)) (x'.trans (hide_ex (Ex.new nz)))
      · exact p.elim
end
end DL

/-! the law's calls; what the top says of the exception classes; try and return -/
namespace DL
open PySem L2
section
variable {ι : Type} {Xs : ι → Cx} {P : Program} {w : World} {K : PySem.W.Frag} {mg : Str → Option Value} {base : Heap} {N ps : List Str} {sc : Scope} {fnn : Str → Bool} {k kc : Nat} {pos p : Pos} {x : Str} {e : Expr} {es : List Expr} {g : List D → Rs D} {ws : WA}
theorem we_callX (Fm : Fam Xs P w K mg base N sc fnn k) (G : KnownX P w K mg base kc x ps (spX mg ps.length g)) (ha : EWA Xs (e :: es) ws) (hk : kc ≤ k := by decide) (hg : glB sc x = true := by decide +kernel)
    (hd : (x == ("__debug__" : Str)) = false := by decide) (hs : ∀ env, starEach (e :: es) env = (false, eval e env) :: starEach es env := by intro _; rfl) (hpl : ∀ env, (backTo pos (starEach es env)).any (·.1) = false := by intro _; rfl) :
    EWE Xs (.Call (.Name x p) (e :: es) [] pos) (wApL (callX ps.length g) ws) := by
  obtain ⟨f, fd, G, hm, kp, b⟩ := G
  obtain ⟨t, h1, h2, h3⟩ := ha
  refine ⟨tCallS (spX mg ps.length g) (L2.WE W0) t, fun j => ?_, fun Oc H0 O σ ρ H Q R p => h2 Oc H0 O σ ρ H _ R (h3 _ _ _ (fun ds q vs H1 l1 q1 => ?_) p), mono_wApL h3⟩
  · refine pe_callS (fd := fd) (CX := L2.CX (Xs j).prog (Xs j).w) (k := kc) (ps := ps) ?_ ((Fm.room j).mono hk) (Fm.gl_ok hg j) (Fm.some hm j) (by rw [Fm.kk j]; exact kp) (by rw [Fm.kk j]; exact b) (passAt takes0) (h1 j) hd (hs _) (hpl _)
    rw [Fm.prog j, Fm.wd j, Fm.kk j, Fm.gl j, Fm.bs j]
    exact G
  · obtain ⟨z, e, q⟩ := q
    unfold callX at e
    split at e
    · rename_i hl
      have R1 := R.later l1
      refine ⟨by rw [q1.length]; exact hl, O, ds, R1.od, R1.nt, q1, ?_⟩
      rw [e]
      exact fun v H2 x2 q2 => q v H2 (l1.trans (R1.later_ex x2)) q2
    · cases e
end
/-- what the top says of the exception classes -/
structure XTop (K : PySem.W.Frag) (mg : Str → Option Value) (C : Nat → Addr) (R : Addr) : Prop where
  base : mg "RankError" = some (.ref R)
  cls : ∀ c, mg (xNm c) = some (.ref (C c))
  exc : ∀ c, c < 5 → ExcC K (C c)
  kit : ∀ c t, c < 5 → t < 5 → PySem.W.kitOne K (.ref (C c)) (.ref (C t)) = some (decide (c = t))
  kitR : ∀ c, c < 5 → PySem.W.kitOne K (.ref (C c)) (.ref R) = some true
  kitV : ∀ c, c < 5 → PySem.W.kitOne K (.ref (C c)) (.type "ValueError") = some true
  exm : ∀ c, PySem.W.exmOne K (.ref (C c)) (.ref R) = some true
section
variable {K : PySem.W.Frag} {mg : Str → Option Value} {C : Nat → Addr} {R : Addr}
theorem XTop.cv (T : XTop K mg C R) (c : Nat) : cvM mg c = .ref (C c) := by
  show (mg (xNm c)).getD .none = _
  rw [T.cls c]
  rfl
theorem XTop.inj (T : XTop K mg C R) {c t : Nat} (hc : c < 5) (ht : t < 5) (e : cvM mg c = cvM mg t) : c = t := by
  rw [T.cv, T.cv] at e
  have e := Value.ref.inj e
  have h := T.kit c t hc ht
  rw [← e] at h
  have h2 := T.kit c c hc hc
  rw [h2] at h
  simpa using h
theorem XTop.exmC (T : XTop K mg C R) (c : Nat) : PySem.W.exmOne K (cvM mg c) (.ref R) = some true := by
  rw [T.cv]
  exact T.exm c
theorem fErr_at (T : XTop K mg C R) {i c : Nat} {ρ : En} (hc : c < 5) (h : ρ[i]? = some (some (.xo (cvM mg c)))) : fErr mg i ρ = .ok (.str (eNm c)) := by
  unfold fErr
  rw [h]
  have ex : ∃ t, t < 5 ∧ cvM mg c = cvM mg t := ⟨c, hc, rfl⟩
  dsimp only
  rw [dif_pos ex]
  have e : ex.choose = c := (T.inj hc ex.choose_spec.1 ex.choose_spec.2).symm
  rw [e]
end
/-- try: F / except ..: caught = e / return fa if caught is None else er(the name of e) -/
def sTryR (i ic : Nat) (F : En → Out) (fa : En → Rs D) (er : D → Rs D) : En → Out := fun ρ => match F ρ with
  | .nx ρ' => match ρ'[ic]? with
    | some (some (.sh .none)) => sRet fa ρ'
    | _ => .no
  | .ex c ρ' => if i < ρ'.length ∧ ic < ρ'.length ∧ i ≠ ic ∧ c < 5 then (match er (.str (eNm c)) with | .ok d => .rt d | _ => .no) else .no
  | _ => .no
section
variable {ι : Type} {W : WX} {fr : RM} {Xs : ι → Cx} {K : PySem.W.Frag} {mg : Str → Option Value} {C : Nat → Addr} {R : Addr} {s1 s2 : Stmt} {i ic : Nat} {F : En → Out} {fa : En → Rs D}
theorem s_tryR (T : XTop K mg C R) {er : D → Rs D} (h : SSs (cvM mg) W fr Xs [s1, s2] (sSeq (sTry mg i ic F) (sRet (fIf (tIsNo ic) fa (ap1 er (fErr mg ic)))))) : SSs (cvM mg) W fr Xs [s1, s2] (sTryR i ic F fa er) := by
  obtain ⟨t, h1, h2⟩ := h
  refine ⟨t, h1, fun Oc H0 O σ ρ H Z R p => h2 Oc H0 O σ ρ H Z R ?_⟩
  unfold sTryR at p
  unfold sSeq sTry
  cases e : F ρ with
  | nx ρ' =>
    rw [e] at p
    dsimp only at p ⊢
    split at p
    · rename_i g
      have : sRet (fIf (tIsNo ic) fa (ap1 er (fErr mg ic))) ρ' = sRet fa ρ' := by
        unfold sRet fIf tIsNo
        rw [g]
        rfl
      rw [this]
      exact p
    · exact p.elim
  | ex c ρ' =>
    rw [e] at p
    dsimp only at p ⊢
    split at p
    · rename_i hh
      rw [if_pos ⟨hh.1, hh.2.2.1⟩]
      have g : (((ρ'.set i none).set ic (some (Sl.xo (cvM mg c)))).set i none)[ic]? = some (some (.xo (cvM mg c))) := by
        rw [List.getElem?_set_ne hh.2.2.1, List.getElem?_set_self (by simpa using hh.2.1)]
      have : sRet (fIf (tIsNo ic) fa (ap1 er (fErr mg ic))) (((ρ'.set i none).set ic (some (Sl.xo (cvM mg c)))).set i none) = ofR (er (.str (eNm c))) (((ρ'.set i none).set ic (some (Sl.xo (cvM mg c)))).set i none) .rt := by
        unfold sRet fIf ap1
        rw [fErr_at T hh.2.2.2 g]
        unfold tIsNo
        rw [g]
        rfl
      show PosS (cvM mg) W fr Oc H0 O H Z (sRet (fIf (tIsNo ic) fa (ap1 er (fErr mg ic))) (((ρ'.set i none).set ic (some (Sl.xo (cvM mg c)))).set i none))
      rw [this]
      cases ee : er (.str (eNm c)) with
      | ok d => rw [ee] at p; exact p
      | er c => rw [ee] at p; exact p.elim
      | no => rw [ee] at p; exact p.elim
    · exact p.elim
  | rt d => rw [e] at p; exact p.elim
  | bk ρ' => rw [e] at p; exact p.elim
  | ct ρ' => rw [e] at p; exact p.elim
  | no => rw [e] at p; exact p.elim
theorem ee_eq {cv : Nat → Value} {e : Expr} {f g : En → Rs D} (h : EE cv W Xs e f) (q : f = g) : EE cv W Xs e g := q ▸ h
theorem e_id {cv : Nat → Value} {e : Expr} {f : En → Rs D} (h : EE cv W Xs e f) : EE cv W Xs e (ap1 .ok f) := ee_eq h (by
  funext ρ
  unfold ap1
  cases f ρ <;> rfl)
theorem e_lst1 {cv : Nat → Value} {e : Expr} {f : En → Rs D} {pos : Pos} (h : EE cv W Xs (.List [e] pos) (apL dLst (fCons f fNil))) : EE cv W Xs (.List [e] pos) (ap1 (fun d => dLst [d]) f) := ee_eq h (by
  funext ρ
  unfold ap1 apL fCons fNil
  cases f ρ <;> rfl)
end
end DL

namespace DL
open PySem L2
theorem top_exc {K : PySem.W.Frag} {h : Heap} {mg : Str → Option Value} (X : K.In h) (G : h.Ns mainGlobals mg) {x : Str} {C : Addr} (a : PySem.W.nsIn K mainGlobals x = some (some (.ref C)))
    (e : PySem.W.excIn K C [.type "ValueError", .type "Exception", .type "BaseException", .type "object"] "ValueError.__new__" = true) (k : PySem.W.keepIn K (.ref C) = true)
    (b : PySem.W.subIn K (.ref C) (.type "BaseException") = some true) (t : PySem.W.typeIn K (.ref C) = some (.type "type")) : XOk K mg x := ⟨C, PySem.W.mg_of X G a, e, k, b, t⟩
section
variable {P : Program} {w : World} {K : PySem.W.Frag} {mg : Str → Option Value} {base : Heap} {N : List Str} {y : Str} {k : Nat} {st : Stmt}
theorem known_err (h : ∃ f fd, Fun K "_law_error" "_law_error" st f fd ∧ mg "_law_error" = some (.ref f)) (S : FnScope (y :: N) [y] (defScope st)) (B : BindsB "_law_error" st [y])
    (hb : ∀ c, c < 5 → ∀ (Xs : Unit → Cx), Fam Xs P w K mg base (y :: N) (defScope st) (fun _ => true) k → ∃ F, SSs cv0 W0 .dat Xs (defBody st) F ∧ F (startX (y :: N).length (cvM mg c)) = .rt (.str (eNm c))) : KnownE P w K mg base (k + 1) := by
  obtain ⟨f, fd, Fn, hm⟩ := h
  exact ⟨[y], f, fd, ok_err Fn S hb, hm, Fn.kp, Fn.binds B⟩
end
theorem fIsX_0 {cl : Value} {b : Bool} {ρ : En} : fIsX cl b 0 (some (.xo cl) :: ρ) = .ok (.bool b) := fIsX_at rfl
structure XC1 (K : PySem.W.Frag) (mg : Str → Option Value) (x : Str) (C : Addr) : Prop where
  nm : mg x = some (.ref C)
  ex : ExcC K C
  ty : PySem.W.typeIn K (.ref C) = some (.type "type")
theorem xc1 {K : PySem.W.Frag} {h : Heap} {mg : Str → Option Value} (X : K.In h) (G : h.Ns mainGlobals mg) {x : Str} {C : Addr} (a : PySem.W.nsIn K mainGlobals x = some (some (.ref C)))
    (hg : PySem.W.findIn K (.ref C) "__getattribute__" = some (some (.builtin "BaseException.__getattribute__"))) (hk : PySem.W.findIn K (.ref C) "__getattr__" = some none) (hs : PySem.W.subIn K (.ref C) (.type "BaseException") = some true)
    (hd : PySem.W.hasDictIn K C = true) (ha : PySem.W.findIn K (.ref C) "__class__" = some (some (.builtin "object.__class__"))) (hm : PySem.W.mroIn K C (.type "object") = some true)
    (hn : PySem.W.specialIn K (.builtin "object.__class__") "__get__" = some (some (.builtin "getset_descriptor.__get__"))) (ht : PySem.W.takesIn K (.builtin "object.__class__") = some true) (t : PySem.W.typeIn K (.ref C) = some (.type "type")) : XC1 K mg x C :=
  ⟨PySem.W.mg_of X G a, ⟨hg, hk, hs, hd, ha, hn, ht, hm⟩, t⟩
section
variable {K : PySem.W.Frag} {mg : Str → Option Value}
theorem kitc_ref {x : Str} {C E : Addr} {v : Bool} (X : XC1 K mg x C) (s : PySem.W.subIn K (.ref E) (.ref C) = some v) : PySem.W.kitCls K (.ref E) (.ref C) = some v := by
  obtain ⟨cd, hc, _⟩ := PySem.W.any_some X.ex.hd
  show (if ((PySem.W.clsIn K C).isSome && PySem.W.typeIn K (.ref C) == some (.type "type")) = true then _ else _) = _
  rw [if_pos (by rw [hc, X.ty]; rfl)]
  exact s
theorem kit_ref {x : Str} {C E : Addr} {v : Bool} (X : XC1 K mg x C) (s : PySem.W.subIn K (.ref E) (.ref C) = some v) (hv : E = C → v = true) : PySem.W.kitOne K (.ref E) (.ref C) = some v := by
  unfold PySem.W.kitOne
  split
  · rename_i h
    rw [hv (Value.ref.inj (beq_iff_eq.mp h))]
  · exact kitc_ref X s
theorem kit_typ {E : Addr} {v : Bool} {T : String} (m : PySem.W.kitMeta T = true) (s : PySem.W.subIn K (.ref E) (.type T) = some v) : PySem.W.kitOne K (.ref E) (.type T) = some v := by
  unfold PySem.W.kitOne
  split
  · rename_i h
    have := beq_iff_eq.mp h
    cases this
  · show (if PySem.W.kitMeta T = true then _ else _) = _
    rw [if_pos m]
    exact s
def pick5 (C0 C1 C2 C3 C4 : Addr) : Nat → Addr
  | 0 => C0
  | 1 => C1
  | 2 => C2
  | 3 => C3
  | _ => C4
theorem exm_c {x : Str} {R E : Addr} (X : XC1 K mg x R) (s : PySem.W.subIn K (.ref E) (.ref R) = some true) : PySem.W.exmOne K (.ref E) (.ref R) = some true := by
  show (if (PySem.W.subIn K (.ref R) (.type "BaseException") == some true) = true then _ else _) = _
  rw [if_pos (by rw [X.ex.hs]; rfl)]
  exact kitc_ref X s
theorem top_xt {C0 C1 C2 C3 C4 R : Addr} (X0 : XC1 K mg "BadRanking" C0) (X1 : XC1 K mg "BadScores" C1) (X2 : XC1 K mg "BadNumber" C2) (X3 : XC1 K mg "BadText" C3) (X4 : XC1 K mg "NotFound" C4) (XR : XC1 K mg "RankError" R) (s00 : PySem.W.subIn K (.ref C0) (.ref C0) = some true) (s01 : PySem.W.subIn K (.ref C0) (.ref C1) = some false) (s02 : PySem.W.subIn K (.ref C0) (.ref C2) = some false) (s03 : PySem.W.subIn K (.ref C0) (.ref C3) = some false) (s04 : PySem.W.subIn K (.ref C0) (.ref C4) = some false) (s10 : PySem.W.subIn K (.ref C1) (.ref C0) = some false) (s11 : PySem.W.subIn K (.ref C1) (.ref C1) = some true) (s12 : PySem.W.subIn K (.ref C1) (.ref C2) = some false) (s13 : PySem.W.subIn K (.ref C1) (.ref C3) = some false) (s14 : PySem.W.subIn K (.ref C1) (.ref C4) = some false) (s20 : PySem.W.subIn K (.ref C2) (.ref C0) = some false) (s21 : PySem.W.subIn K (.ref C2) (.ref C1) = some false) (s22 : PySem.W.subIn K (.ref C2) (.ref C2) = some true) (s23 : PySem.W.subIn K (.ref C2) (.ref C3) = some false) (s24 : PySem.W.subIn K (.ref C2) (.ref C4) = some false) (s30 : PySem.W.subIn K (.ref C3) (.ref C0) = some false) (s31 : PySem.W.subIn K (.ref C3) (.ref C1) = some false) (s32 : PySem.W.subIn K (.ref C3) (.ref C2) = some false) (s33 : PySem.W.subIn K (.ref C3) (.ref C3) = some true) (s34 : PySem.W.subIn K (.ref C3) (.ref C4) = some false) (s40 : PySem.W.subIn K (.ref C4) (.ref C0) = some false) (s41 : PySem.W.subIn K (.ref C4) (.ref C1) = some false) (s42 : PySem.W.subIn K (.ref C4) (.ref C2) = some false) (s43 : PySem.W.subIn K (.ref C4) (.ref C3) = some false) (s44 : PySem.W.subIn K (.ref C4) (.ref C4) = some true) (r0 : PySem.W.subIn K (.ref C0) (.ref R) = some true) (r1 : PySem.W.subIn K (.ref C1) (.ref R) = some true) (r2 : PySem.W.subIn K (.ref C2) (.ref R) = some true) (r3 : PySem.W.subIn K (.ref C3) (.ref R) = some true) (r4 : PySem.W.subIn K (.ref C4) (.ref R) = some true) (v0 : PySem.W.subIn K (.ref C0) (.type "ValueError") = some true) (v1 : PySem.W.subIn K (.ref C1) (.type "ValueError") = some true) (v2 : PySem.W.subIn K (.ref C2) (.type "ValueError") = some true) (v3 : PySem.W.subIn K (.ref C3) (.type "ValueError") = some true) (v4 : PySem.W.subIn K (.ref C4) (.type "ValueError") = some true) (mv : PySem.W.kitMeta "ValueError" = true) : ∃ C R, XTop K mg C R :=
  ⟨pick5 C0 C1 C2 C3 C4, R, XR.nm, fun c => (match c with
    | 0 => X0.nm
    | 1 => X1.nm
    | 2 => X2.nm
    | 3 => X3.nm
    | n + 4 => X4.nm), fun c hc => (match c, hc with
    | 0, _ => X0.ex
    | 1, _ => X1.ex
    | 2, _ => X2.ex
    | 3, _ => X3.ex
    | 4, _ => X4.ex), fun c t hc ht => (match c, t, hc, ht with
    | 0, 0, _, _ => kit_ref X0 s00 (fun e => by rfl)
    | 0, 1, _, _ => kit_ref X1 s01 (fun e => by have e : C0 = C1 := e; rw [← e, s00] at s01; cases s01)
    | 0, 2, _, _ => kit_ref X2 s02 (fun e => by have e : C0 = C2 := e; rw [← e, s00] at s02; cases s02)
    | 0, 3, _, _ => kit_ref X3 s03 (fun e => by have e : C0 = C3 := e; rw [← e, s00] at s03; cases s03)
    | 0, 4, _, _ => kit_ref X4 s04 (fun e => by have e : C0 = C4 := e; rw [← e, s00] at s04; cases s04)
    | 1, 0, _, _ => kit_ref X0 s10 (fun e => by have e : C1 = C0 := e; rw [← e, s11] at s10; cases s10)
    | 1, 1, _, _ => kit_ref X1 s11 (fun e => by rfl)
    | 1, 2, _, _ => kit_ref X2 s12 (fun e => by have e : C1 = C2 := e; rw [← e, s11] at s12; cases s12)
    | 1, 3, _, _ => kit_ref X3 s13 (fun e => by have e : C1 = C3 := e; rw [← e, s11] at s13; cases s13)
    | 1, 4, _, _ => kit_ref X4 s14 (fun e => by have e : C1 = C4 := e; rw [← e, s11] at s14; cases s14)
    | 2, 0, _, _ => kit_ref X0 s20 (fun e => by have e : C2 = C0 := e; rw [← e, s22] at s20; cases s20)
    | 2, 1, _, _ => kit_ref X1 s21 (fun e => by have e : C2 = C1 := e; rw [← e, s22] at s21; cases s21)
    | 2, 2, _, _ => kit_ref X2 s22 (fun e => by rfl)
    | 2, 3, _, _ => kit_ref X3 s23 (fun e => by have e : C2 = C3 := e; rw [← e, s22] at s23; cases s23)
    | 2, 4, _, _ => kit_ref X4 s24 (fun e => by have e : C2 = C4 := e; rw [← e, s22] at s24; cases s24)
    | 3, 0, _, _ => kit_ref X0 s30 (fun e => by have e : C3 = C0 := e; rw [← e, s33] at s30; cases s30)
    | 3, 1, _, _ => kit_ref X1 s31 (fun e => by have e : C3 = C1 := e; rw [← e, s33] at s31; cases s31)
    | 3, 2, _, _ => kit_ref X2 s32 (fun e => by have e : C3 = C2 := e; rw [← e, s33] at s32; cases s32)
    | 3, 3, _, _ => kit_ref X3 s33 (fun e => by rfl)
    | 3, 4, _, _ => kit_ref X4 s34 (fun e => by have e : C3 = C4 := e; rw [← e, s33] at s34; cases s34)
    | 4, 0, _, _ => kit_ref X0 s40 (fun e => by have e : C4 = C0 := e; rw [← e, s44] at s40; cases s40)
    | 4, 1, _, _ => kit_ref X1 s41 (fun e => by have e : C4 = C1 := e; rw [← e, s44] at s41; cases s41)
    | 4, 2, _, _ => kit_ref X2 s42 (fun e => by have e : C4 = C2 := e; rw [← e, s44] at s42; cases s42)
    | 4, 3, _, _ => kit_ref X3 s43 (fun e => by have e : C4 = C3 := e; rw [← e, s44] at s43; cases s43)
    | 4, 4, _, _ => kit_ref X4 s44 (fun e => by rfl)), fun c hc => (match c, hc with
    | 0, _ => kit_ref XR r0 (fun _ => rfl)
    | 1, _ => kit_ref XR r1 (fun _ => rfl)
    | 2, _ => kit_ref XR r2 (fun _ => rfl)
    | 3, _ => kit_ref XR r3 (fun _ => rfl)
    | 4, _ => kit_ref XR r4 (fun _ => rfl)), fun c hc => (match c, hc with
    | 0, _ => kit_typ mv v0
    | 1, _ => kit_typ mv v1
    | 2, _ => kit_typ mv v2
    | 3, _ => kit_typ mv v3
    | 4, _ => kit_typ mv v4), fun c => (match c with
    | 0 => exm_c XR r0
    | 1 => exm_c XR r1
    | 2 => exm_c XR r2
    | 3 => exm_c XR r3
    | n + 4 => exm_c XR r4)⟩
end
end DL

/-! sorted(d), d a dict by pairs of ints -/
namespace SrtO
open PySem PyProof.Rows PySem.W L2
variable {prog : Program} {w : World} {A : Around} {E : Value → Shared → Prop} {s : Shared}
theorem sorted_src {T : String} {r d : Addr} {n : Nat} {P : Nat → Value → Prop} {OK : Heap → Prop} {ltv : Value → Value → Bool} {Q : Value → Shared → Prop} (K : KdlSrc prog w T r d n P OK) (hh : A.handled = none) (hok : OK s.heap) (hn : n ≤ sizeLine) (O : Swo ltv)
    (h : ∀ (h' : Heap) (tk : Nat) (vs : List Value), (∀ b o, s.heap.get? b = some o → h'.get? b = some o) → vs.length = n → (∀ (j : Nat) (v : Value), vs[j]? = some v → P j v) →
      (2 ≤ vs.length → ∀ (h₁ : Heap) (a : Addr), h₁.get? a = some (seqObj "list" vs.toArray 0) → (∀ b o, h'.get? b = some o → b ≠ a ∧ h₁.get? b = some o) → SortableO prog w A.in1.in1 { s with heap := h₁, toks := tk } a vs ltv) ∧
      ∀ (h₂ : Heap) (q : Addr) (out : List Value), Srtd ltv out → Stb ltv out vs → (∀ b o, h'.get? b = some o → h₂.get? b = some o) → h'.objs.size ≤ q → (∃ c, h₂.get? q = some (seqObj "list" out.toArray c)) → Q (.ref q) { s with heap := h₂, toks := tk }) :
    wpAny (model prog w) A (call (.builtin "sorted") [.ref r]) Q E s := by
  refine Calls.call_function_entry kind_sorted plain_sorted entry_sorted (args_sorted1 _) ?_
  unfold Builtin.«sorted»
  refine wpAny_bind (m := checkCount "sorted" 1 1 _) (wpAny_pure ?_)
  refine wpAny_bind (kdu_collect K hh hok hn fun h' tk acc kp it => ?_)
  have hz : acc.toList.length ≤ sizeLine := by rw [Array.length_toList, it.1]; exact hn
  obtain ⟨g1, g2⟩ := h h' tk acc.toList kp (by rw [Array.length_toList, it.1]) (fun j v e => it.2 j v (by rw [← Array.getElem?_toList]; exact e))
  refine wpAny_bind (wpAny_newList ?_ hz)
  have hoL : (h'.push (seqObj "list" acc.toList.toArray 0)).get? h'.objs.size = some (seqObj "list" acc.toList.toArray 0) := Heap.get?_push_size _ rfl
  have keep : ∀ b o, h'.get? b = some o → b ≠ h'.objs.size ∧ (h'.push (seqObj "list" acc.toList.toArray 0)).get? b = some o := fun b o q =>
    ⟨Nat.ne_of_lt (Heap.lt_size q), Heap.get?_push_of_some _ q⟩
  show wpAny _ _ _ _ _ { s with heap := h'.push (seqObj "list" acc.toList.toArray 0), toks := tk }
  refine wpAny_bind (wpAny_holding (wpAny_call_entry slot_list_sort ⟨_, hoL, rfl⟩ entry_list_sort (list_sort_ord (s := { s with heap := h'.push (seqObj "list" acc.toList.toArray 0), toks := tk }) O hoL hz (fun h2 => g1 h2 _ _ hoL keep) fun out hs hb => ⟨_, rfl, ?_⟩) (args_list_sort _)))
  refine wpAny_pure ⟨_, rfl, g2 _ _ out hs hb (fun b o e => ?_) (Nat.le_refl _) (sortedHeap_at hoL)⟩
  have hlt := Heap.lt_size e
  rw [sortedHeap_old (Nat.ne_of_lt hlt) (Nat.lt_trans hlt (by rw [size_push']; exact Nat.lt_succ_self _))]
  exact Heap.get?_push_of_some _ e
end SrtO
namespace DL
open PySem L2 PySem.W
def key2 (p : Int × Int) : List Key := [.inl p.1, .inl p.2]
theorem key2_inj {p q : Int × Int} (h : key2 p = key2 q) : p = q := by
  unfold key2 at h
  simp at h
  exact Prod.ext h.1 h.2
theorem key2_kV (p : Int × Int) : (key2 p).map kV = [.int p.1, .int p.2] := rfl
def rSortedDT : List V → Hp → VK → Prop := fun vs H Q => ∃ (a : Addr) (kvs : List (List Key × V)) (ps : List (Int × Int)), vs = [V.ref a] ∧ H a = some (.dT kvs) ∧ kvs.map (·.1) = ps.map key2 ∧
  ∀ (ys : List V) (k : V → Int × Int) (p : Addr), (∀ y ∈ ys, ∃ t, y = V.ref t ∧ H t = some (.tup [.int (k y).1, .int (k y).2])) → ys.map k = sortP ps → H p = none → Q (.ref p) (upd H p (.lst ys))
theorem kt_keys {H : Hp} : ∀ {kvs : List (List Key × V)} {ks : List (List Key × Addr × Value)} {ps : List (Int × Int)}, KT H kvs ks → kvs.map (·.1) = ps.map key2 →
    (∀ x ∈ ks, H x.2.1 = some (.tup [.int (keyH H (.ref x.2.1)).1, .int (keyH H (.ref x.2.1)).2])) ∧ ks.map (fun x => keyH H (.ref x.2.1)) = ps
  | [], [], ps, _, e => by
    cases ps with
    | nil => exact ⟨by simp, rfl⟩
    | cons p ps => simp at e
  | kv :: kvs, x :: ks, ps, r, e => by
    cases ps with
    | nil => simp at e
    | cons p ps =>
      cases r with
      | cons h t =>
        simp only [List.map_cons, List.cons.injEq] at e
        obtain ⟨i1, i2⟩ := kt_keys t e.2
        have hx : H x.2.1 = some (.tup [.int p.1, .int p.2]) := by rw [h.2.1, e.1]; rfl
        have hk : keyH H (.ref x.2.1) = p := by unfold keyH; dsimp only; rw [hx]
        refine ⟨fun y hy => ?_, by rw [List.map_cons, i2, hk]⟩
        rcases List.mem_cons.mp hy with e | hy
        · rw [e, hk]; exact hx
        · exact i1 y hy
theorem cr_sortedDT {X : Cx} (hc : X.calm = true) : CallR X (.builtin "sorted") rSortedDT := by
  intro pins s σ H vs us Q I r h
  obtain ⟨d, kvs, ps, rfl, hd, hps, q⟩ := h
  obtain ⟨u, rfl, ru⟩ := vals1 r
  obtain rfl : u = Value.ref d := ru
  obtain ⟨z, hs, ks, pr, o, es, ep, ho, hx, hdt, he, hn⟩ := (show ObjOk X.prog X.w H s.heap d (.dT kvs) from I.hok d _ hd)
  have l1 : es.size = ks.length := size_of_entries he
  have l2 : kvs.length = ks.length := Paired.length pr
  obtain ⟨k1, k2⟩ := kt_keys pr hps
  refine SrtO.sorted_src (ltv := fun v u => SrtO.lexB (keyH H (backV v)) (keyH H (backV u))) (kdl_raw hs hx hdt) (I.ok.hd hc) ho (by omega) (SrtO.swo_lex fun v => keyH H (backV v)) fun h' tk vs kp hl hv => ?_
  have I1 : Inv X pins σ H { s with heap := h', toks := tk } := I.kept kp
  have ea : vs = ks.map fun x => Value.ref x.2.1 := by
    have hl : vs.length = ks.length := by omega
    apply List.ext_getElem?
    intro j
    rw [List.getElem?_map]
    cases hj : vs[j]? with
    | none =>
      have h1 := List.getElem?_eq_none_iff.mp hj
      rw [List.getElem?_eq_none (by omega)]
      rfl
    | some v =>
      obtain ⟨en, hen, hv⟩ := hv j v hj
      have qe := entry_at he j
      rw [hen] at qe
      cases hb : ks[j]? with
      | none =>
        rw [hb] at qe
        exact nomatch (show some en = none from qe)
      | some b =>
        rw [hb] at qe
        have e2 : en = entryOfKey (tupleKind (mixKind X.prog X.w)) b := Option.some.inj qe
        rw [hv, e2]
        rfl
  have mem : ∀ v ∈ vs, ∃ t, v = Value.ref t ∧ H t = some (.tup [.int (keyH H (.ref t)).1, .int (keyH H (.ref t)).2]) := fun v hv => by
    rw [ea] at hv
    obtain ⟨x, hx, rfl⟩ := List.mem_map.mp hv
    exact ⟨_, rfl, k1 x hx⟩
  refine ⟨fun h2 h₁ a ha kk => ?_, fun h₂ p out s1 s2 kp2 hp hout => ?_⟩
  · refine SrtO.pairs_sortableO (s := { s with heap := h₁, toks := tk }) (k := fun v => keyH H (backV v)) (by omega) (fun v hm => ?_) fun o e => ?_
    · obtain ⟨t, rfl, ht⟩ := mem v hm
      obtain ⟨_, its2, r2, o, ho, hc, n, hd⟩ := I1.hok _ _ ht
      obtain ⟨u1, u2, rfl, ri, rj⟩ := vals2 r2
      obtain ⟨t1, rfl⟩ := ri
      obtain ⟨t2, rfl⟩ := rj
      exact ⟨t, o, t1, t2, n, rfl, (kk _ _ ho).2, hc, hd⟩
    · have e' : some o = some (PyProof.Rows.seqObj "list" vs.toArray 0) := e.symm.trans ha
      cases e'
      intro c
      exact absurd (Value.type.inj c) (by decide)
  · have h3 : ∀ u ∈ out, ∃ a, u = Value.ref a := fun u hu => by
      obtain ⟨t, e, _⟩ := mem u (s2.perm.mem_iff.mp hu)
      exact ⟨t, e⟩
    obtain ⟨n, hn⟩ := hout
    refine ⟨.ref p, upd H p (.lst (out.map backV)), I1.laid (t' := tk) kp2 hp ⟨?_, out, n, vals_back h3, hn⟩, rfl, q _ (keyH H) p (fun y hy => ?_) ?_ (I1.hok.fresh hp)⟩
    · rw [List.length_map, s2.len, hl]
      omega
    · obtain ⟨u, hu, rfl⟩ := List.mem_map.mp hy
      obtain ⟨t, rfl, ht⟩ := mem u (s2.perm.mem_iff.mp hu)
      exact ⟨t, rfl, ht⟩
    · refine sortP_uniq ?_ ?_ (sortP_sorted ps)
      · rw [List.map_map]
        refine (s2.perm.map _).trans ?_
        rw [ea, List.map_map]
        have : ks.map ((keyH H ∘ backV) ∘ fun x => Value.ref x.2.1) = ps := k2
        rw [this]
        exact (sortP_perm ps).symm
      · rw [List.pairwise_map, List.pairwise_map]
        refine s1.imp fun {a b} z => ?_
        have := SrtO.lexB_no.mp z
        unfold leP
        omega
end DL

/-! dicts by tuples of ints -/
namespace DL
open PySem L2
def keyD : D → Option (List Key)
  | .tuple ds => (intsOf ds).map fun ns => ns.map Sum.inl
  | _ => none
def valD (kvs : List (List Key × D)) (k : List Key) : Option D := (kvs.find? fun kv => decide (kv.1 = k)).map (·.2)
def putD (kvs : List (List Key × D)) (k : List Key) (d : D) : List (List Key × D) :=
  if (kvs.any fun kv => decide (kv.1 = k)) = true then kvs.map (fun kv => if kv.1 = k then (kv.1, d) else kv) else kvs ++ [(k, d)]
def fDGet (i : Nat) (fk fd : En → Rs D) : En → Rs D := fun ρ => match ρ[i]? with
  | some (some (.mo (.dk kvs))) => (fk ρ).bind fun kd => (fd ρ).bind fun d0 => match keyD kd with
    | some k => .ok ((valD kvs k).getD d0)
    | none => .no
  | _ => .no
def fDIx (i : Nat) (fk : En → Rs D) : En → Rs D := fun ρ => match ρ[i]? with
  | some (some (.mo (.dk kvs))) => (fk ρ).bind fun kd => match (keyD kd).bind (valD kvs) with
    | some d => .ok d
    | none => .no
  | _ => .no
def prK : List Key → Option (Int × Int)
  | [.inl a, .inl b] => some (a, b)
  | _ => none
def prKs : List (List Key × D) → Option (List (Int × Int))
  | [] => some []
  | kv :: r => (prK kv.1).bind fun p => (prKs r).bind fun ps => some (p :: ps)
def fDSort (i : Nat) : En → Rs D := fun ρ => match ρ[i]? with
  | some (some (.mo (.dk kvs))) => match prKs kvs with
    | some ps => .ok (.list ((sortP ps).map pairD))
    | none => .no
  | _ => .no
def sDNew (i : Nat) : En → Out := fun ρ => .nx (ρ.set i (some (.mo (.dk []))))
def sDPut (i : Nat) (fk fv : En → Rs D) : En → Out := fun ρ => ofR (fv ρ) ρ fun d => match ρ[i]? with
  | some (some (.mo (.dk kvs))) => ofR (fk ρ) ρ fun kd => match keyD kd with
    | some k => if kvs.length < LIM then .nx (ρ.set i (some (.mo (.dk (putD kvs k d))))) else .no
    | none => .no
  | _ => .no
theorem key_dq {H : Hp} {y : V} {kd : D} {k : List Key} (q : Dq H y kd) (e : keyD kd = some k) : ∃ b, y = .ref b ∧ H b = some (.tup (k.map kV)) := by
  unfold keyD at e
  split at e
  · rename_i ds
    cases hi : intsOf ds with
    | none => rw [hi] at e; cases e
    | some ns =>
      rw [hi] at e
      cases e
      have e := intsOf_eq hi
      subst e
      cases q with
      | tup h a =>
        have e := a.ints
        subst e
        refine ⟨_, rfl, ?_⟩
        rw [h, List.map_map]
        rfl
  · cases e
theorem DkAll.length {H : Hp} : ∀ {vs : List (List Key × V)} {kvs : List (List Key × D)}, DkAll H vs kvs → vs.length = kvs.length
  | _, _, .nil => rfl
  | _, _, .cons _ t => by simp [DkAll.length t]
theorem DkAll.keys {H : Hp} : ∀ {vs : List (List Key × V)} {kvs : List (List Key × D)}, DkAll H vs kvs → vs.map (·.1) = kvs.map (·.1)
  | _, _, .nil => rfl
  | _, _, .cons _ t => by simp [DkAll.keys t]
theorem DkAll.val {H : Hp} (k : List Key) : ∀ {vs : List (List Key × V)} {kvs : List (List Key × D)}, DkAll H vs kvs → (valV vs k = none ∧ valD kvs k = none) ∨ ∃ v d, valV vs k = some v ∧ valD kvs k = some d ∧ Dq H v d
  | _, _, .nil => .inl ⟨rfl, rfl⟩
  | _, _, .cons (k := k0) (v := v) (d := d) h t => by
    by_cases e : k0 = k
    · refine .inr ⟨v, d, valV_pos e, ?_, h⟩
      unfold valD
      rw [List.find?_cons_of_pos (by simpa using e)]
      rfl
    · rw [valV_neg e]
      have : ∀ ds, valD ((k0, d) :: ds) k = valD ds k := fun ds => by
        unfold valD
        rw [List.find?_cons_of_neg (by simpa using e)]
      rw [this]
      exact DkAll.val k t
theorem DkAll.any {H : Hp} {vs : List (List Key × V)} {kvs : List (List Key × D)} (h : DkAll H vs kvs) (k : List Key) : (vs.any fun kv => decide (kv.1 = k)) = (kvs.any fun kv => decide (kv.1 = k)) := by
  have e := h.keys
  have f1 : (vs.any fun kv => decide (kv.1 = k)) = (vs.map (·.1)).any (fun z => decide (z = k)) := by rw [List.any_map]; rfl
  have f2 : (kvs.any fun kv => decide (kv.1 = k)) = (kvs.map (·.1)).any (fun z => decide (z = k)) := by rw [List.any_map]; rfl
  rw [f1, f2, e]
theorem DkAll.repl {H : Hp} {k : List Key} {v : V} {d : D} (q : Dq H v d) : ∀ {vs : List (List Key × V)} {kvs : List (List Key × D)}, DkAll H vs kvs → DkAll H (vs.map fun kv => if kv.1 = k then (kv.1, v) else kv) (kvs.map fun kv => if kv.1 = k then (kv.1, d) else kv)
  | _, _, .nil => .nil
  | _, _, .cons (k := k0) h t => by
    rw [List.map_cons, List.map_cons]
    by_cases e : k0 = k
    · simp only [e, if_true]
      exact .cons q (DkAll.repl q t)
    · simp only [e, if_false]
      exact .cons h (DkAll.repl q t)
theorem DkAll.snoc {H : Hp} {k : List Key} {v : V} {d : D} (q : Dq H v d) : ∀ {vs : List (List Key × V)} {kvs : List (List Key × D)}, DkAll H vs kvs → DkAll H (vs ++ [(k, v)]) (kvs ++ [(k, d)])
  | _, _, .nil => .cons q .nil
  | _, _, .cons h t => .cons h (DkAll.snoc q t)
theorem DkAll.put {H : Hp} {k : List Key} {v : V} {d : D} {vs : List (List Key × V)} {kvs : List (List Key × D)} (h : DkAll H vs kvs) (q : Dq H v d) : DkAll H (putK vs k v) (putD kvs k d) := by
  unfold putK putD
  rw [h.any k]
  split
  · exact h.repl q
  · exact h.snoc q
theorem prKs_eq : ∀ {kvs : List (List Key × D)} {ps : List (Int × Int)}, prKs kvs = some ps → kvs.map (·.1) = ps.map key2
  | [], _, h => by cases h; rfl
  | kv :: kvs, ps, h => by
    unfold prKs at h
    cases hp : prK kv.1 with
    | none => rw [hp] at h; cases h
    | some p =>
      rw [hp] at h
      cases ht : prKs kvs with
      | none => rw [ht] at h; cases h
      | some qs =>
        rw [ht] at h
        cases h
        rw [List.map_cons, List.map_cons, prKs_eq ht]
        congr 1
        unfold prK at hp
        split at hp
        · rename_i a b e
          cases hp
          rw [e]
          rfl
        · cases hp
section
variable {Oc O : List Addr} {H0 H H' : Hp} {σ : St} {ρ : En} {i : Nat}
theorem RepE.at_dk {kvs : List (List Key × D)} (R : RepE O σ ρ H) (e : ρ[i]? = some (some (.mo (.dk kvs)))) : ∃ a vs, σ[i]? = some (some (.ref a)) ∧ H a = some (.dT vs) ∧ DkAll (hide O H) vs kvs := by
  obtain ⟨v, l, h1, a, vs, rfl, _, h3, h4⟩ := R.sl i _ e
  exact ⟨a, vs, h1, h3, h4⟩
/-- an owned object is changed: its cells hold other things -/
theorem RepS.mutO {o o' : Ob} {v : V} (h : RepS Oc H0 O σ ρ H) (e : ρ[i]? = some (some (.mo o))) (ev : σ[i]? = some (some v))
    (k : ∀ l, ObR O H o v l → (∀ a ∈ l, a ∈ O ∧ H0 a = none) → ∃ l', ObR O H' o' v l' ∧ (∀ a ∈ l', a ∈ l)  ∧ (∀ a, a ∉ l → H' a = H a) ∧ (∀ a ∈ l, H' a ≠ none ∧ ∀ xs, H' a ≠ some (.tup xs))) :
    RepS Oc H0 O σ (ρ.set i (some (.mo o'))) H' ∧ Ex (hide O H) (hide O H') := by
  obtain ⟨fp, h1, h2, h3⟩ := h.fp
  obtain ⟨u, q1, q2⟩ := h1 i _ e
  rw [ev] at q1
  cases q1
  obtain ⟨l', k1, k2, k3, k4⟩ := k _ q2 (h3 i)
  have ex : Ex (hide O H) (hide O H') := fun a o ha => by
    obtain ⟨g1, g2⟩ := hide_some.mp ha
    refine hide_some.mpr ⟨g1, ?_⟩
    rw [k3 a (fun z => g1 (h3 i a z).1)]
    exact g2
  refine ⟨⟨by rw [List.length_set]; exact h.len, fun b o hb => ?_, h.oc, h.oh, fun b hb => ?_, fun b hb xs => ?_, fun j => if j = i then l' else fp j, fun j s ej => ?_, fun j j' b => ?_, fun j b => ?_⟩, ex⟩
  · rw [k3 b fun z => by rw [(h3 i b z).2] at hb; cases hb]
    exact h.base b o hb
  · by_cases hq : b ∈ fp i
    · exact (k4 b hq).1
    · rw [k3 b hq]; exact h.od b hb
  · by_cases hq : b ∈ fp i
    · exact (k4 b hq).2 xs
    · rw [k3 b hq]; exact h.nt b hb xs
  · by_cases hj : j = i
    · subst hj
      have hlt : j < ρ.length := by
        rw [List.getElem?_eq_some_iff] at e
        exact e.1
      rw [List.getElem?_set, if_pos rfl, if_pos hlt] at ej
      cases ej
      refine ⟨v, ev, ?_⟩
      show ObR O H' o' v (if j = j then l' else fp j)
      rw [if_pos rfl]
      exact k1
    · rw [List.getElem?_set_ne (Ne.symm hj)] at ej
      obtain ⟨u, p1, p2⟩ := h1 j s ej
      refine ⟨u, p1, ?_⟩
      show SlR O H' s u (if j = i then l' else fp j)
      rw [if_neg hj]
      exact p2.moved ex fun b hb => k3 b fun z => hj (h2 j i b hb z)
  · intro hb hb'
    by_cases hj : j = i
    · by_cases hj' : j' = i
      · rw [hj, hj']
      · simp only [hj, if_true] at hb
        simp only [hj', if_false] at hb'
        rw [hj]
        exact h2 i j' b (k2 b hb) hb'
    · by_cases hj' : j' = i
      · simp only [hj, if_false] at hb
        simp only [hj', if_true] at hb'
        rw [hj']
        exact h2 j i b hb (k2 b hb')
      · simp only [hj, hj', if_false] at hb hb'
        exact h2 j j' b hb hb'
  · intro hb
    by_cases hj : j = i
    · simp only [hj, if_true] at hb
      exact h3 i b (k2 b hb)
    · simp only [hj, if_false] at hb
      exact h3 j b hb
end
section
variable {ι : Type} {cv : Nat → Value} {W : WX} {fr : RM} {Xs : ι → Cx} {P : Program} {w : World} {K : PySem.W.Frag} {mg : Str → Option Value} {base : Heap} {N : List Str} {sc : Scope} {fnn : Str → Bool} {k : Nat} {e a b f : Expr} {fk fd fv : En → Rs D} {pos p apos cpos opos npos : Pos} {x : Str}
/-- x.get(k, d) -/
theorem e_dget2 (Fm : Fam Xs P w K mg base N sc fnn k) (i : Nat) (hk : EE cv W Xs e fk) (hf : EE cv W Xs f fd) (hN : N[i]? = some x := by rfl) (hv : visB sc x = true := by decide +kernel) (hd : (x == ("__debug__" : Str)) = false := by decide) (hcd : (x == ("__classdict__" : Str)) = false := by decide)
    (m : ∀ j, M2 (Xs j) (.Name x opos) "get" apos e f cpos := by intro j; exact ⟨rfl, rfl, rfl, rfl⟩) : EE cv W Xs (.Call (.Attribute (.Name x opos) "get" apos) [e, f] [] cpos) (fDGet i fk fd) := by
  obtain ⟨tk, h1, h2⟩ := hk
  obtain ⟨tf, h3, h4⟩ := hf
  refine ⟨tDGet2 (tVar i) tk tf, fun j => pe_dget2 (by have := Fm.units j; omega) (pe_var (Fm.at hN j) (Fm.vis hv j) hd hcd) (h1 j) (h3 j) (m j), fun O σ ρ H Q R p => ?_⟩
  unfold fDGet at p
  split at p
  · rename_i kvs e
    obtain ⟨a, vs, g1, g2, g3⟩ := R.at_dk e
    refine ⟨_, g1, a, rfl, .inr ⟨vs, .inl g2⟩, h2 O σ ρ H _ R ?_⟩
    cases ek : fk ρ with
    | no => rw [ek] at p; exact p
    | er c => rw [ek] at p; exact p
    | ok kd =>
      rw [ek, Rs.bind_ok] at p
      intro y H2 x2 q2
      refine h4 O σ ρ H2 _ (R.mono x2) ?_
      cases ed : fd ρ with
      | no => rw [ed] at p; exact p
      | er c => rw [ed] at p; exact fun H3 x3 => p H3 (x2.trans x3)
      | ok d0 =>
        rw [ed, Rs.bind_ok] at p
        intro z H3 x3 q3
        split at p
        · rename_i kk hkk
          obtain ⟨b, rfl, hb⟩ := key_dq q2 hkk
          refine ⟨_, DGet.t (x3 _ _ (x2 _ _ g2)) (x3 _ _ (hide_le _ _ hb)), ?_⟩
          rcases g3.val kk with ⟨v1, v2⟩ | ⟨v, d, v1, v2, v3⟩
          · rw [v1]
            rw [v2] at p
            exact p _ _ (x2.trans x3) q3
          · rw [v1]
            rw [v2] at p
            exact p _ _ (x2.trans x3) (v3.mono (hide_ex (x2.trans x3)))
        · exact p.elim
  · exact p.elim
/-- x[k] -/
theorem e_dix (Fm : Fam Xs P w K mg base N sc fnn k) (i : Nat) (hk : EE cv W Xs e fk) (hN : N[i]? = some x := by rfl) (hv : visB sc x = true := by decide +kernel) (hd : (x == ("__debug__" : Str)) = false := by decide) (hcd : (x == ("__classdict__" : Str)) = false := by decide)
    (m : NoSl e := by intro _ _; rfl) : EE cv W Xs (.Subscript (.Name x opos) e pos) (fDIx i fk) := by
  obtain ⟨tk, h1, h2⟩ := hk
  refine ⟨tDGet (tVar i) tk, fun j => pe_dget (by have := Fm.units j; omega) (pe_var (Fm.at hN j) (Fm.vis hv j) hd hcd) (h1 j) m, fun O σ ρ H Q R p => ?_⟩
  unfold fDIx at p
  split at p
  · rename_i kvs e
    obtain ⟨a, vs, g1, g2, g3⟩ := R.at_dk e
    refine ⟨_, g1, h2 O σ ρ H _ R ?_⟩
    cases ek : fk ρ with
    | no => rw [ek] at p; exact p
    | er c => rw [ek] at p; exact p
    | ok kd =>
      rw [ek, Rs.bind_ok] at p
      intro y H2 x2 q2
      cases ekk : keyD kd with
      | none => rw [ekk] at p; exact p.elim
      | some kk =>
        rw [ekk] at p
        obtain ⟨b, rfl, hb⟩ := key_dq q2 ekk
        rcases g3.val kk with ⟨v1, v2⟩ | ⟨v, d, v1, v2, v3⟩
        · rw [show (some kk).bind (valD kvs) = none from v2] at p
          exact p.elim
        · rw [show (some kk).bind (valD kvs) = some d from v2] at p
          exact ⟨a, v, rfl, v1 ▸ DGet.t (x2 _ _ g2) (hide_le _ _ hb), p _ _ x2 (v3.mono (hide_ex x2))⟩
  · exact p.elim
/-- sorted(x) -/
theorem f_dsort (Fm : Fam Xs P w K mg base N sc fnn k) (hm : mg "sorted" = none) (i : Nat) (hg : glB sc "sorted" = true := by decide +kernel) (hN : N[i]? = some x := by rfl) (hv : visB sc x = true := by decide +kernel) (hd : (x == ("__debug__" : Str)) = false := by decide) (hcd : (x == ("__classdict__" : Str)) = false := by decide) :
    EF cv W Xs (.Call (.Name "sorted" p) [.Name x opos] [] pos) (fDSort i) := by
  refine ⟨tCB rSortedDT (tCons (tVar i) tNil), fun j => pe_callB (cr_sortedDT (Fm.calm j)) (Fm.gl_ok hg j) (Fm.none hm j) PyProof.Rows.boot_sorted (pa_cons (pe_var (Fm.at hN j) (Fm.vis hv j) hd hcd) pa_nil rfl) (by decide) (by decide) rfl rfl, fun O σ ρ H Q R p => ?_⟩
  unfold fDSort at p
  split at p
  · rename_i kvs e
    split at p
    · rename_i ps hps
      obtain ⟨a, vs, g1, g2, g3⟩ := R.at_dk e
      refine ⟨_, g1, a, vs, ps, rfl, g2, by rw [g3.keys]; exact prKs_eq hps, fun ys k q hy hk hq => ?_⟩
      refine p q ys _ _ rfl (Ex.new hq) hq upd_same ?_
      have key : ∀ zs : List V, (∀ y ∈ zs, ∃ t, y = V.ref t ∧ H t = some (.tup [.int (k y).1, .int (k y).2])) → DqAll (hide (q :: O) (upd H q (.lst ys))) zs ((zs.map k).map pairD) := by
        intro zs
        induction zs with
        | nil => exact fun _ => .nil
        | cons z zs ih =>
          intro hz
          obtain ⟨t, rfl, ht⟩ := hz z (by simp)
          refine .cons (.tup (a := t) (xs := [.int (k (.ref t)).1, .int (k (.ref t)).2]) (hide_some.mpr ⟨fun m => ?_, ?_⟩) (.cons (.int _) (.cons (.int _) .nil))) (ih fun y hy => hz y (List.mem_cons_of_mem _ hy))
          · rcases List.mem_cons.mp m with rfl | m
            · rw [hq] at ht; cases ht
            · exact R.nt t m _ ht
          · exact (Ex.new hq) _ _ ht
      rw [← hk]
      exact key ys hy
    · exact p.elim
  · exact p.elim
theorem dT_nt {vs : List (List Key × V)} : ∀ xs, HO.dT vs ≠ .tup xs := fun xs z => by cases z
/-- x = {} -/
theorem s_dnew (Fm : Fam Xs P w K mg base N sc fnn k) (i : Nat) {dpos : Pos} (hN : N[i]? = some x := by rfl) (hx : stB fnn sc x = true := by decide +kernel) (hs : ∀ env, swapsWith (.Dict [] [] dpos) (some (.Name x npos)) pos.line env = pure false := by intro _; rfl) :
    SS cv W fr Xs (.Assign [.Name x npos] (.Dict [] [] dpos) pos) (sDNew i) := by
  refine ⟨_, fun j => ps_set (Fm.ndj j) (Fm.at hN j) (Fm.loc hx j) pe_dnewT (hs _) (Fm.hf hx j), fun Oc H0 O σ ρ H Z R p => fun q hq => ?_⟩
  have e : Ex (hide O H) (hide (q :: O) (upd H q (.dT []))) := hide_new hq
  refine p (q :: O) _ _ (R.put (i := i) (s := .mo (.dk [])) (Ex.new hq) (fun a z => List.mem_cons_of_mem _ z) (l := [q]) (fun a z => ?_) (fun a z => ?_) (NT.cons upd_same dT_nt (R.nt.mono (Ex.new hq) R.od)) e ⟨q, [], rfl, rfl, upd_same, .nil⟩) e
  · rcases List.mem_singleton.mp z with rfl
    exact ⟨by simp, fun z => R.od a z hq, R.base.free hq⟩
  · rcases List.mem_cons.mp z with rfl | z
    · rw [upd_same]; simp
    · exact fun y => R.od a z ((Ex.new hq).free y)
/-- x[k] = e -/
theorem s_dput (Fm : Fam Xs P w K mg base N sc fnn k) (i : Nat) (hk : EE cv W Xs b fk) (hf : EE cv W Xs e fv) (hN : N[i]? = some x := by rfl) (hv : visB sc x = true := by decide +kernel) (hd : (x == ("__debug__" : Str)) = false := by decide) (hcd : (x == ("__classdict__" : Str)) = false := by decide)
    (hs : ∀ env, swapsWith e (some (.Subscript (.Name x opos) b apos)) pos.line env = pure false := by intro _; rfl) :
    SS cv W fr Xs (.Assign [.Subscript (.Name x opos) b apos] e pos) (sDPut i fk fv) := by
  obtain ⟨tk, h1, h2⟩ := hk
  obtain ⟨tv, h3, h4⟩ := hf
  refine ⟨L2.sDPut (tVar i) tk tv, fun j => ps_dput (by have := Fm.units j; omega) (pe_var (Fm.at hN j) (Fm.vis hv j) hd hcd) (h1 j) (h3 j) (hs _), fun Oc H0 O σ ρ H Z R p => h4 O σ ρ H _ R.e (posE_of R p fun d _ v H2 x q p => ?_)⟩
  split at p
  · rename_i kvs e
    obtain ⟨a, vs, g1, g2, g3⟩ := (R.mono x).e.at_dk e
    refine ⟨_, g1, h2 O σ ρ H2 _ (R.mono x).e (posE_of (R.mono x) (p.later (hide_ex x)) fun kd _ y H3 x3 q3 p => ?_)⟩
    split at p
    · rename_i kk hkk
      split at p
      · rename_i hl
        obtain ⟨bb, rfl, hb⟩ := key_dq q3 hkk
        have R3 := (R.mono x).mono x3
        refine ⟨a, _, rfl, DPut.t (x3 _ _ g2) (hide_le _ _ hb) (by rw [g3.length]; exact lim_lt hl), ?_⟩
        obtain ⟨R', ex⟩ := R3.mutO (o' := .dk (putD kvs kk d)) (H' := upd H3 a (.dT (putK vs kk v))) e g1 (fun l hl hO => by
          obtain ⟨a', vs', e1, e2, e3, e4⟩ := hl
          cases e1
          subst e2
          refine ⟨[a], ⟨a, _, rfl, rfl, upd_same, ?_⟩, fun _ z => z, fun b hb => upd_ne (by simpa using hb), fun b hb => ?_⟩
          · have aO : a ∈ O := (hO a (by simp)).1
            rw [x3 _ _ g2] at e3
            cases e3
            exact (e4.mono (hide_own aO)).put ((q.mono (hide_ex x3)).mono (hide_own aO))
          · rcases List.mem_singleton.mp hb with rfl
            rw [upd_same]
            exact ⟨by simp, fun xs z => by cases z⟩)
        exact p O σ _ R' ((hide_ex x3).trans ex)
      · exact p.elim
    · exact p.elim
  · exact p.elim
end
end DL


namespace AG
open PySem L2 DL
/-! meanings -/
def F_is_int : En → Out := (sRet (fAnd (ap1 (dIsi "int") (fVar 0)) (fAnd (fNot (ap1 (dIsi "bool") (fVar 0))) (fChain dLe dLe (fVar 1) (fVar 0) (fVar 2)))))
def C_is_int : List D → Rs D := callF 3 F_is_int
def F_is_ranking : En → Out := (sSeq (sIf (tOrr (tNt (tVal (ap1 (dIsi "list") (fVar 0)))) (tNt (tVal (fChain dLe dLe (fC (.int 1)) (apL dLen (fCons (fVar 0) fNil)) (fC (.int 7)))))) (sRet (fC (.bool false))) sNil)
  (sSeq (sIf (tNt (tVal (apL dAll (fCons (fComp (iLs (fVar 0)) (.nm 1) tTrue (apL (callX 3 C_is_int) (fCons (fSh 1) (fCons (fC (.int 1)) (fCons (apL dLen (fCons (fVar 0) fNil)) fNil)))) [1]) fNil)))) (sRet (fC (.bool false))) sNil)
  (sRet (ap2 dEq (apL dSorted (fCons (fVar 0) fNil)) (ap2 dRange (fC (.int 1)) (ap2 dAdd (apL dLen (fCons (fVar 0) fNil)) (fC (.int 1))))))))
def C_is_ranking : List D → Rs D := callF 2 F_is_ranking
def F_check_ranking : En → Out := (sIf (tNt (tVal (apL (callX 1 C_is_ranking) (fCons (fSh 0) fNil)))) (sEx 0) sNil)
def C_check_ranking : List D → Rs D := callF 1 F_check_ranking
def F_check_both : En → Out := (sSeq (sExp (apL (callX 1 C_check_ranking) (fCons (fSh 0) fNil)))
  (sSeq (sExp (apL (callX 1 C_check_ranking) (fCons (fSh 1) fNil)))
  (sIf (tVal (ap2 dNe (apL dLen (fCons (fVar 0) fNil)) (apL dLen (fCons (fVar 1) fNil)))) (sEx 0) sNil)))
def C_check_both : List D → Rs D := callF 2 F_check_both
def F_check_size : En → Out := (sIf (tNt (tVal (apL (callX 3 C_is_int) (fCons (fSh 0) (fCons (fC (.int 1)) (fCons (fC (.int 6)) fNil)))))) (sEx 2) sNil)
def C_check_size : List D → Rs D := callF 1 F_check_size
def F_seen : En → Out := (sSeq (sOwn 2 (ap2 dRep (apL dLst (fCons (fC (.int 0)) fNil)) (apL dLen (fCons (fVar 0) fNil))))
  (sSeq (sFor (apI dZip (fCons (fSh 0) (fCons (fSh 1) fNil))) (.tp [3, 4]) [3, 4]
  (sSetI 2 (ap2 dSub (fVar 3) (fC (.int 1))) (fSh 4)))
  (sRetO 2)))
def C_seen : List D → Rs D := callR 5 F_seen
def F_seen_from : En → Out := (sSeq (sExp (apL (callX 2 C_check_both) (fCons (fSh 0) (fCons (fSh 1) fNil))))
  (sRet (apL (callX 2 C_seen) (fCons (fSh 0) (fCons (fSh 1) fNil)))))
def C_seen_from : List D → Rs D := callF 2 F_seen_from
def F_things_in_order : En → Out := (sSeq (sExp (apL (callX 1 C_check_ranking) (fCons (fSh 0) fNil)))
  (sRet (fComp (apI dRng (fCons (fC (.int 1)) (fCons (ap2 dAdd (apL dLen (fCons (fVar 0) fNil)) (fC (.int 1))) fNil))) (.nm 1) tTrue (apML dIndex (fVar 0) (fCons (fVar 1) fNil)) [1])))
def C_things_in_order : List D → Rs D := callF 2 F_things_in_order
def F_ranking_of : En → Out := (sSeq (sIf (tOrr (tNt (tVal (ap1 (dIsi "list") (fVar 0)))) (tNt (tVal (apL dAll (fCons (fComp (iLs (fVar 0)) (.nm 1) tTrue (apL (callX 3 C_is_int) (fCons (fSh 1) (fCons (fC (.int 0)) (fCons (fC (.int 6)) fNil)))) [1]) fNil))))) (sEx 0) sNil)
  (sSeq (sIf (tOrr (tNt (tVal (fChain dLe dLe (fC (.int 1)) (apL dLen (fCons (fVar 0) fNil)) (fC (.int 7))))) (tVal (ap2 dNe (apL dSorted (fCons (fVar 0) fNil)) (ap2 dRange (fC (.int 0)) (apL dLen (fCons (fVar 0) fNil)))))) (sEx 0) sNil)
  (sRet (fComp (apI dRng (fCons (apL dLen (fCons (fVar 0) fNil)) fNil)) (.nm 1) tTrue (ap2 dAdd (apML dIndex (fVar 0) (fCons (fVar 1) fNil)) (fC (.int 1))) [1]))))
def C_ranking_of : List D → Rs D := callF 2 F_ranking_of
def F_orders (C_orders : Nat → List D → Rs D) (fuel : Nat) : En → Out := (sSeq (sIf (tVal (ap2 dEq (fVar 0) (apL dLst fNil))) (sRet (apL dLst (fCons (apL dLst fNil) fNil))) sNil)
  (sSeq (sOwn 1 (apL dLst fNil))
  (sSeq (sFor (apI dEnum (fCons (fSh 0) fNil)) (.tp [2, 3]) [2, 3]
  (sExt 1 (fComp (iLs (apL (callX 1 (C_orders fuel)) (fCons (ap2 dAdd (fSl (fVar 0) fNoPart (fPart (fVar 2))) (fSl (fVar 0) (fPart (ap2 dAdd (fVar 2) (fC (.int 1)))) fNoPart)) fNil))) (.nm 4) tTrue (ap2 dAdd (apL dLst (fCons (fSh 3) fNil)) (fVar 4)) [4])))
  (sFrz 1 (sRet (fSh 1))))))
def C_orders : Nat → List D → Rs D
  | 0, _ => .no
  | fuel + 1, ds => callF 5 (F_orders (fun _ => C_orders fuel) fuel) ds
def F_all_rankings : En → Out := (sSeq (sExp (apL (callX 1 C_check_size) (fCons (fSh 0) fNil)))
  (sRet (apL (callX 1 (C_orders 8)) (fCons (ap2 dRange (fC (.int 1)) (ap2 dAdd (fVar 0) (fC (.int 1)))) fNil))))
def C_all_rankings : List D → Rs D := callF 1 F_all_rankings
def F_rank_of_ranking : En → Out := (sSeq (sExp (apL (callX 1 C_check_ranking) (fCons (fSh 0) fNil)))
  (sSeq (sSet 1 (fC (.int 0)))
  (sSeq (sFor (apI dEnum (fCons (fSh 0) fNil)) (.tp [2, 3]) [2, 3, 4]
  (sSeq (sSet 4 (apL dLen (fCons (fComp (iLs (fSl (fVar 0) (fPart (ap2 dAdd (fVar 2) (fC (.int 1)))) fNoPart)) (.nm 5) (tVal (ap2 dLt (fVar 5) (fVar 3))) (fSh 5) [5]) fNil)))
  (sSet 1 (ap2 dAdd (ap2 dMul (fVar 1) (ap2 dSub (apL dLen (fCons (fVar 0) fNil)) (fVar 2))) (fVar 4)))))
  (sRet (fSh 1)))))
def C_rank_of_ranking : List D → Rs D := callF 6 F_rank_of_ranking
def F_ranking_at : En → Out := (sSeq (sIf (tNt (tVal (apL (callX 3 C_is_int) (fCons (fSh 0) (fCons (fC (.int 1)) (fCons (fC (.int 7)) fNil)))))) (sEx 2) sNil)
  (sSeq (sSet 2 (fC (.int 1)))
  (sSeq (sFor (apI dRng (fCons (fC (.int 2)) (fCons (ap2 dAdd (fVar 0) (fC (.int 1))) fNil))) (.nm 3) [3]
  (sAug 2 dMulI (fVar 3)))
  (sSeq (sIf (tNt (tVal (apL (callX 3 C_is_int) (fCons (fSh 1) (fCons (fC (.int 0)) (fCons (ap2 dSub (fVar 2) (fC (.int 1))) fNil)))))) (sEx 2) sNil)
  (sSeq (sSet 4 (ap2 dRange (fC (.int 1)) (ap2 dAdd (fVar 0) (fC (.int 1)))))
  (sSeq (sOwn 5 (apL dLst fNil))
  (sSeq (sFor (apI dRng (fCons (fVar 0) (fCons (fC (.int 0)) (fCons (ap1 dNeg (fC (.int 1))) fNil)))) (.nm 3) [3]
  (sSeq (sAug 2 dFdivI (fVar 3))
  (sSeq (sApp 5 (ap2 dIx (fVar 4) (ap2 dFdiv (fVar 1) (fVar 2))))
  (sSeq (sSet 4 (fComp (iLs (fVar 4)) (.nm 6) (tVal (ap2 dNe (fVar 6) (ap2 dIx (fVar 5) (ap1 dNeg (fC (.int 1)))))) (fSh 6) [6]))
  (sAug 1 dModI (fVar 2))))))
  (sFrz 5 (sRet (fSh 5))))))))))
def C_ranking_at : List D → Rs D := callF 7 F_ranking_at
def F__law_seen : En → Out := (sRet (fComp (apI dRng (fCons (fC (.int 1)) (fCons (ap2 dAdd (apL dLen (fCons (fVar 0) fNil)) (fC (.int 1))) fNil))) (.nm 2) tTrue (ap2 dIx (fVar 1) (apML dIndex (fVar 0) (fCons (fVar 2) fNil))) [2]))
def C__law_seen : List D → Rs D := callF 3 F__law_seen
def F__law_all : En → Out := (sSeq (sSet 1 (apL dLst (fCons (apL dLst fNil) fNil)))
  (sSeq (sFor (apI dRng (fCons (fVar 0) fNil)) (.nm 2) [2, 3, 4]
  (sSeq (sSet 3 (apL dLst fNil))
  (sSeq (sFor (iLs (fSh 1)) (.nm 4) [4]
  (sSet 3 (ap2 dAdd (fVar 3) (fComp (apI dRng (fCons (fC (.int 1)) (fCons (ap2 dAdd (fVar 0) (fC (.int 1))) fNil))) (.nm 5) (tVal (ap2 dNotIn (fVar 5) (fVar 4))) (ap2 dAdd (fVar 4) (apL dLst (fCons (fSh 5) fNil))) [5]))))
  (sSet 1 (fSh 3)))))
  (sRet (fSh 1))))
def C__law_all : List D → Rs D := callF 6 F__law_all
def F_against : En → Out := (sSeq (sOwn 2 (apL dLst fNil))
  (sSeq (sFor (apI dRng (fCons (apL dLen (fCons (fVar 0) fNil)) fNil)) (.nm 3) [3, 4]
  (sFor (apI dRng (fCons (ap2 dAdd (fVar 3) (fC (.int 1))) (fCons (apL dLen (fCons (fVar 0) fNil)) fNil))) (.nm 4) [4]
  (sIf (tVal (ap2 dNe (ap2 dLt (ap2 dIx (fVar 0) (fVar 3)) (ap2 dIx (fVar 0) (fVar 4))) (ap2 dLt (ap2 dIx (fVar 1) (fVar 3)) (ap2 dIx (fVar 1) (fVar 4))))) (sApp 2 (apL dTup (fCons (fSh 3) (fCons (fSh 4) fNil)))) sNil)))
  (sFrz 2 (sRet (fSh 2)))))
def C_against : List D → Rs D := callF 5 F_against
def F_pairs_against : En → Out := (sSeq (sExp (apL (callX 2 C_check_both) (fCons (fSh 0) (fCons (fSh 1) fNil))))
  (sRet (apL (callX 2 C_against) (fCons (fSh 0) (fCons (fSh 1) fNil)))))
def C_pairs_against : List D → Rs D := callF 2 F_pairs_against
def F_count_against : En → Out := (sSeq (sExp (apL (callX 2 C_check_both) (fCons (fSh 0) (fCons (fSh 1) fNil))))
  (sRet (apL dLen (fCons (apL (callX 2 C_against) (fCons (fSh 0) (fCons (fSh 1) fNil))) fNil))))
def C_count_against : List D → Rs D := callF 2 F_count_against
def F_common : En → Out := (sSeq (sWhile 1000 (tVal (ap2 dNe (fVar 1) (fC (.int 0)))) []
  (sPar [0, 1] (fCons (fSh 1) (fCons (ap2 dMod (fVar 0) (fVar 1)) fNil))))
  (sRet (fSh 0)))
def C_common : List D → Rs D := callF 2 F_common
def F_lowest : En → Out := (sSeq (sSet 2 (apL (callX 2 C_common) (fCons (apL dAbs (fCons (fVar 0) fNil)) (fCons (fSh 1) fNil))))
  (sRet (apL dTup (fCons (ap2 dFdiv (fVar 0) (fVar 2)) (fCons (ap2 dFdiv (fVar 1) (fVar 2)) fNil)))))
def C_lowest : List D → Rs D := callF 3 F_lowest
def F_pair_agreement : En → Out := (sSeq (sExp (apL (callX 2 C_check_both) (fCons (fSh 0) (fCons (fSh 1) fNil))))
  (sSeq (sSet 2 (apL dLen (fCons (fVar 0) fNil)))
  (sSeq (sIf (tVal (ap2 dEq (fVar 2) (fC (.int 1)))) (sEx 4) sNil)
  (sRet (apL (callX 2 C_lowest) (fCons (ap2 dSub (ap2 dMul (fVar 2) (ap2 dSub (fVar 2) (fC (.int 1)))) (ap2 dMul (fC (.int 4)) (apL dLen (fCons (apL (callX 2 C_against) (fCons (fSh 0) (fCons (fSh 1) fNil))) fNil)))) (fCons (ap2 dMul (fVar 2) (ap2 dSub (fVar 2) (fC (.int 1)))) fNil)))))))
def C_pair_agreement : List D → Rs D := callF 3 F_pair_agreement
def F_is_even : En → Out := (sSeq (sExp (apL (callX 2 C_check_both) (fCons (fSh 0) (fCons (fSh 1) fNil))))
  (sRet (ap2 dEq (ap2 dMod (apL dLen (fCons (apL (callX 2 C_against) (fCons (fSh 0) (fCons (fSh 1) fNil))) fNil)) (fC (.int 2))) (fC (.int 0)))))
def C_is_even : List D → Rs D := callF 2 F_is_even
def F_inversion_table : En → Out := (sSeq (sExp (apL (callX 2 C_check_both) (fCons (fSh 0) (fCons (fSh 1) fNil))))
  (sSeq (sSet 2 (apL (callX 2 C_seen) (fCons (fSh 0) (fCons (fSh 1) fNil))))
  (sRet (fComp (apI dEnum (fCons (fVar 2) fNil)) (.tp [3, 4]) tTrue (apL dLen (fCons (fComp (iLs (fSl (fVar 2) (fPart (ap2 dAdd (fVar 3) (fC (.int 1)))) fNoPart)) (.nm 5) (tVal (ap2 dLt (fVar 5) (fVar 4))) (fSh 5) [5]) fNil)) [3, 4]))))
def C_inversion_table : List D → Rs D := callF 6 F_inversion_table
def F_order_with_table : En → Out := (sSeq (sIf (tOrr (tNt (tVal (ap1 (dIsi "list") (fVar 0)))) (tNt (tVal (fChain dLe dLe (fC (.int 1)) (apL dLen (fCons (fVar 0) fNil)) (fC (.int 7)))))) (sEx 2) sNil)
  (sSeq (sIf (tNt (tVal (apL dAll (fCons (fComp (apI dEnum (fCons (fVar 0) fNil)) (.tp [4, 3]) tTrue (apL (callX 3 C_is_int) (fCons (fSh 3) (fCons (fC (.int 0)) (fCons (ap2 dSub (ap2 dSub (apL dLen (fCons (fVar 0) fNil)) (fC (.int 1))) (fVar 4)) fNil)))) [4, 3]) fNil)))) (sEx 2) sNil)
  (sSeq (sSet 1 (ap2 dRange (fC (.int 1)) (ap2 dAdd (apL dLen (fCons (fVar 0) fNil)) (fC (.int 1)))))
  (sSeq (sOwn 2 (apL dLst fNil))
  (sSeq (sFor (iLs (fSh 0)) (.nm 3) [3]
  (sSeq (sApp 2 (ap2 dIx (fVar 1) (fVar 3)))
  (sSet 1 (ap2 dAdd (fSl (fVar 1) fNoPart (fPart (fVar 3))) (fSl (fVar 1) (fPart (ap2 dAdd (fVar 3) (fC (.int 1)))) fNoPart)))))
  (sFrz 2 (sRet (fSh 2))))))))
def C_order_with_table : List D → Rs D := callF 5 F_order_with_table
def F__law_true : En → Out := (sRet (fAnd (ap1 (dIsi "bool") (fVar 0)) (ap2 dEq (fVar 0) (fVar 1))))
def C__law_true : List D → Rs D := callF 2 F__law_true
def F__law_against : En → Out := (sSeq (sOwn 2 (apL dLst fNil))
  (sSeq (sFor (apI dRng (fCons (apL dLen (fCons (fVar 0) fNil)) fNil)) (.nm 3) [3, 4]
  (sFor (apI dRng (fCons (ap2 dAdd (fVar 3) (fC (.int 1))) (fCons (apL dLen (fCons (fVar 0) fNil)) fNil))) (.nm 4) [4]
  (sIf (tVal (ap2 dLt (ap2 dMul (ap2 dSub (ap2 dIx (fVar 0) (fVar 3)) (ap2 dIx (fVar 0) (fVar 4))) (ap2 dSub (ap2 dIx (fVar 1) (fVar 3)) (ap2 dIx (fVar 1) (fVar 4)))) (fC (.int 0)))) (sApp 2 (apL dTup (fCons (fSh 3) (fCons (fSh 4) fNil)))) sNil)))
  (sFrz 2 (sRet (fSh 2)))))
def C__law_against : List D → Rs D := callF 5 F__law_against
def F__law_low : En → Out := (sSeq (sPar [2, 3] (fCons (apL dAbs (fCons (fVar 0) fNil)) (fCons (fSh 1) fNil)))
  (sSeq (sWhile 1000 (tVal (ap2 dNe (fVar 3) (fC (.int 0)))) []
  (sPar [2, 3] (fCons (fSh 3) (fCons (ap2 dMod (fVar 2) (fVar 3)) fNil))))
  (sRet (apL dTup (fCons (ap2 dFdiv (fVar 0) (fVar 2)) (fCons (ap2 dFdiv (fVar 1) (fVar 2)) fNil))))))
def C__law_low : List D → Rs D := callF 4 F__law_low
def F_square_sum : En → Out := (sSeq (sExp (apL (callX 2 C_check_both) (fCons (fSh 0) (fCons (fSh 1) fNil))))
  (sRet (apL dSum (fCons (fComp (apI dZip (fCons (fVar 0) (fCons (fVar 1) fNil))) (.tp [2, 3]) tTrue (ap2 dMul (ap2 dSub (fVar 2) (fVar 3)) (ap2 dSub (fVar 2) (fVar 3))) [2, 3]) fNil))))
def C_square_sum : List D → Rs D := callF 4 F_square_sum
def F_plain_sum : En → Out := (sSeq (sExp (apL (callX 2 C_check_both) (fCons (fSh 0) (fCons (fSh 1) fNil))))
  (sRet (apL dSum (fCons (fComp (apI dZip (fCons (fVar 0) (fCons (fVar 1) fNil))) (.tp [2, 3]) tTrue (apL dAbs (fCons (ap2 dSub (fVar 2) (fVar 3)) fNil)) [2, 3]) fNil))))
def C_plain_sum : List D → Rs D := callF 4 F_plain_sum
def F_greatest_difference : En → Out := (sSeq (sExp (apL (callX 2 C_check_both) (fCons (fSh 0) (fCons (fSh 1) fNil))))
  (sRet (apL dMax (fCons (fComp (apI dZip (fCons (fVar 0) (fCons (fVar 1) fNil))) (.tp [2, 3]) tTrue (apL dAbs (fCons (ap2 dSub (fVar 2) (fVar 3)) fNil)) [2, 3]) fNil))))
def C_greatest_difference : List D → Rs D := callF 4 F_greatest_difference
def F_count_unlike : En → Out := (sSeq (sExp (apL (callX 2 C_check_both) (fCons (fSh 0) (fCons (fSh 1) fNil))))
  (sRet (apL dLen (fCons (fComp (apI dZip (fCons (fVar 0) (fCons (fVar 1) fNil))) (.tp [2, 3]) (tVal (ap2 dNe (fVar 2) (fVar 3))) (fC (.int 1)) [2, 3]) fNil))))
def C_count_unlike : List D → Rs D := callF 4 F_count_unlike
def F_cycles_of : En → Out := (sSeq (sOwn 1 (apL dLst fNil))
  (sSeq (sSet 2 (apL dLst fNil))
  (sSeq (sFor (apI dRng (fCons (fC (.int 1)) (fCons (ap2 dAdd (apL dLen (fCons (fVar 0) fNil)) (fC (.int 1))) fNil))) (.nm 3) [3, 4]
  (sIf (tVal (ap2 dNotIn (fVar 3) (fVar 2))) (sSeq (sOwn 4 (apL dLst (fCons (fSh 3) fNil)))
  (sSeq (sWhile 1000 (tVal (ap2 dNe (ap2 dIx (fVar 0) (ap2 dSub (ap2 dIx (fVar 4) (ap1 dNeg (fC (.int 1)))) (fC (.int 1)))) (fVar 3))) []
  (sApp 4 (ap2 dIx (fVar 0) (ap2 dSub (ap2 dIx (fVar 4) (ap1 dNeg (fC (.int 1)))) (fC (.int 1))))))
  (sSeq (sFrz 4 (sApp 1 (fSh 4)))
  (sSet 2 (ap2 dAdd (fVar 2) (fVar 4)))))) sNil))
  (sFrz 1 (sRet (fSh 1))))))
def C_cycles_of : List D → Rs D := callF 5 F_cycles_of
def F_exchanges : En → Out := (sRet (ap2 dSub (apL dLen (fCons (fVar 0) fNil)) (apL dLen (fCons (apL (callX 1 C_cycles_of) (fCons (apL (callX 2 C_seen) (fCons (fSh 0) (fCons (fSh 1) fNil))) fNil)) fNil))))
def C_exchanges : List D → Rs D := callF 2 F_exchanges
def F_count_exchanges : En → Out := (sSeq (sExp (apL (callX 2 C_check_both) (fCons (fSh 0) (fCons (fSh 1) fNil))))
  (sRet (apL (callX 2 C_exchanges) (fCons (fSh 0) (fCons (fSh 1) fNil)))))
def C_count_exchanges : List D → Rs D := callF 2 F_count_exchanges
def F_longest_rising : En → Out := (sSeq (sOwn 1 (apL dLst fNil))
  (sSeq (sFor (apI dEnum (fCons (fSh 0) fNil)) (.tp [2, 3]) [2, 3]
  (sApp 1 (ap2 dAdd (fC (.int 1)) (apL dMax (fCons (ap2 dAdd (apL dLst (fCons (fC (.int 0)) fNil)) (fComp (apI dRng (fCons (fVar 2) fNil)) (.nm 4) (tVal (ap2 dLt (ap2 dIx (fVar 0) (fVar 4)) (fVar 3))) (ap2 dIx (fVar 1) (fVar 4)) [4])) fNil)))))
  (sRet (apL dMax (fCons (fVar 1) fNil)))))
def C_longest_rising : List D → Rs D := callF 5 F_longest_rising
def F_count_moves : En → Out := (sSeq (sExp (apL (callX 2 C_check_both) (fCons (fSh 0) (fCons (fSh 1) fNil))))
  (sRet (ap2 dSub (apL dLen (fCons (fVar 0) fNil)) (apL (callX 1 C_longest_rising) (fCons (apL (callX 2 C_seen) (fCons (fSh 0) (fCons (fSh 1) fNil))) fNil)))))
def C_count_moves : List D → Rs D := callF 2 F_count_moves
def F_square_agreement : En → Out := (sSeq (sExp (apL (callX 2 C_check_both) (fCons (fSh 0) (fCons (fSh 1) fNil))))
  (sSeq (sSet 2 (apL dLen (fCons (fVar 0) fNil)))
  (sSeq (sIf (tVal (ap2 dEq (fVar 2) (fC (.int 1)))) (sEx 4) sNil)
  (sSeq (sSet 3 (ap2 dMul (fVar 2) (ap2 dSub (ap2 dMul (fVar 2) (fVar 2)) (fC (.int 1)))))
  (sRet (apL (callX 2 C_lowest) (fCons (ap2 dSub (fVar 3) (ap2 dMul (fC (.int 6)) (apL dSum (fCons (fComp (apI dZip (fCons (fVar 0) (fCons (fVar 1) fNil))) (.tp [4, 5]) tTrue (ap2 dMul (ap2 dSub (fVar 4) (fVar 5)) (ap2 dSub (fVar 4) (fVar 5))) [4, 5]) fNil)))) (fCons (fSh 3) fNil))))))))
def C_square_agreement : List D → Rs D := callF 6 F_square_agreement
def F_all_measures : En → Out := (sSeq (sExp (apL (callX 2 C_check_both) (fCons (fSh 0) (fCons (fSh 1) fNil))))
  (sSeq (sSet 2 (apL dTup (fCons (apL dLen (fCons (apL (callX 2 C_against) (fCons (fSh 0) (fCons (fSh 1) fNil))) fNil)) (fCons (apL (callX 2 C_square_sum) (fCons (fSh 0) (fCons (fSh 1) fNil))) (fCons (apL (callX 2 C_plain_sum) (fCons (fSh 0) (fCons (fSh 1) fNil))) (fCons (apL (callX 2 C_greatest_difference) (fCons (fSh 0) (fCons (fSh 1) fNil))) fNil))))))
  (sRet (ap2 dAdd (fVar 2) (apL dTup (fCons (apL (callX 2 C_count_unlike) (fCons (fSh 0) (fCons (fSh 1) fNil))) (fCons (apL (callX 2 C_exchanges) (fCons (fSh 0) (fCons (fSh 1) fNil))) (fCons (apL (callX 2 C_count_moves) (fCons (fSh 0) (fCons (fSh 1) fNil))) fNil))))))))
def C_all_measures : List D → Rs D := callF 3 F_all_measures
def F_cycles : En → Out := (sSeq (sExp (apL (callX 2 C_check_both) (fCons (fSh 0) (fCons (fSh 1) fNil))))
  (sRet (apL (callX 1 C_cycles_of) (fCons (apL (callX 2 C_seen) (fCons (fSh 0) (fCons (fSh 1) fNil))) fNil))))
def C_cycles : List D → Rs D := callF 2 F_cycles
def F__law_cycles : En → Out := (sSeq (sOwn 1 (ap2 dRange (fC (.int 1)) (ap2 dAdd (apL dLen (fCons (fVar 0) fNil)) (fC (.int 1)))))
  (sSeq (sOwn 2 (apL dLst fNil))
  (sSeq (sWhile 1000 (tVal (ap2 dNe (fVar 1) (apL dLst fNil))) [3]
  (sSeq (sOwn 3 (apL dLst (fCons (ap2 dIx (fVar 1) (fC (.int 0))) fNil)))
  (sSeq (sRem 1 (ap2 dIx (fVar 3) (fC (.int 0))))
  (sSeq (sWhile 1000 (tVal (ap2 dIn (ap2 dIx (fVar 0) (ap2 dSub (ap2 dIx (fVar 3) (ap1 dNeg (fC (.int 1)))) (fC (.int 1)))) (fVar 1))) []
  (sSeq (sApp 3 (ap2 dIx (fVar 0) (ap2 dSub (ap2 dIx (fVar 3) (ap1 dNeg (fC (.int 1)))) (fC (.int 1)))))
  (sRem 1 (ap2 dIx (fVar 3) (ap1 dNeg (fC (.int 1)))))))
  (sFrz 3 (sApp 2 (fSh 3)))))))
  (sFrz 2 (sRet (fSh 2))))))
def C__law_cycles : List D → Rs D := callF 4 F__law_cycles
def F__law_rising : En → Out := (sSeq (sSet 1 (apL dLst (fCons (apL dLst fNil) fNil)))
  (sSeq (sFor (iLs (fSh 0)) (.nm 2) [2]
  (sSet 1 (ap2 dAdd (fVar 1) (fComp (iLs (fVar 1)) (.nm 3) (tOrr (tVal (ap2 dEq (fVar 3) (apL dLst fNil))) (tVal (ap2 dLt (ap2 dIx (fVar 3) (ap1 dNeg (fC (.int 1)))) (fVar 2)))) (ap2 dAdd (fVar 3) (apL dLst (fCons (fSh 2) fNil))) [3]))))
  (sRet (apL dMax (fCons (fComp (iLs (fVar 1)) (.nm 3) tTrue (apL dLen (fCons (fVar 3) fNil)) [3]) fNil)))))
def C__law_rising : List D → Rs D := callF 4 F__law_rising
def F_distance_sum : En → Out := (sSeq (sExp (apL (callX 2 C_check_both) (fCons (fSh 0) (fCons (fSh 1) fNil))))
  (sRet (apL dSum (fCons (fComp (iLs (apL (callX 2 C_against) (fCons (fSh 0) (fCons (fSh 1) fNil)))) (.tp [2, 3]) tTrue (apL dAbs (fCons (ap2 dSub (ap2 dIx (fVar 0) (fVar 2)) (ap2 dIx (fVar 0) (fVar 3))) fNil)) [2, 3]) fNil))))
def C_distance_sum : List D → Rs D := callF 4 F_distance_sum
def F_plain_bounds : En → Out := (sSeq (sExp (apL (callX 2 C_check_both) (fCons (fSh 0) (fCons (fSh 1) fNil))))
  (sSeq (sSet 2 (apL dLen (fCons (apL (callX 2 C_against) (fCons (fSh 0) (fCons (fSh 1) fNil))) fNil)))
  (sRet (apL dTup (fCons (ap2 dAdd (fVar 2) (apL (callX 2 C_exchanges) (fCons (fSh 0) (fCons (fSh 1) fNil)))) (fCons (ap2 dMul (fC (.int 2)) (fVar 2)) fNil))))))
def C_plain_bounds : List D → Rs D := callF 3 F_plain_bounds
def F_check_many : En → Out := (sIf (tNt (tVal (apL (callX 3 C_is_int) (fCons (fSh 0) (fCons (fC (.int 0)) (fCons (fC (.int 50)) fNil)))))) (sEx 2) sNil)
def C_check_many : List D → Rs D := callF 1 F_check_many
def F_squares_of : En → Out := (sRet (apL dSum (fCons (fComp (apI dEnum (fCons (fVar 0) fNil)) (.tp [1, 2]) tTrue (ap2 dMul (ap2 dSub (ap2 dSub (fVar 2) (fVar 1)) (fC (.int 1))) (ap2 dSub (ap2 dSub (fVar 2) (fVar 1)) (fC (.int 1)))) [1, 2]) fNil)))
def C_squares_of : List D → Rs D := callF 3 F_squares_of
def F_inversions : En → Out := (sSeq (sSet 1 (fC (.int 0)))
  (sSeq (sFor (apI dEnum (fCons (fSh 0) fNil)) (.tp [2, 3]) [2, 3]
  (sAug 1 dAddI (apL dLen (fCons (fComp (iLs (fSl (fVar 0) (fPart (ap2 dAdd (fVar 2) (fC (.int 1)))) fNoPart)) (.nm 4) (tVal (ap2 dLt (fVar 4) (fVar 3))) (fSh 4) [4]) fNil))))
  (sRet (fSh 1))))
def C_inversions : List D → Rs D := callF 5 F_inversions
def F_least_squares : En → Out := (sSeq (sExp (apL (callX 1 C_check_size) (fCons (fSh 0) fNil)))
  (sSeq (sExp (apL (callX 1 C_check_many) (fCons (fSh 1) fNil)))
  (sSeq (sSet 2 (fComp (iLs (apL (callX 1 C_all_rankings) (fCons (fSh 0) fNil))) (.nm 3) (tVal (ap2 dEq (apL (callX 1 C_inversions) (fCons (fSh 3) fNil)) (fVar 1))) (apL (callX 1 C_squares_of) (fCons (fSh 3) fNil)) [3]))
  (sRet (fIf (tVal (ap2 dNe (fVar 2) (apL dLst fNil))) (apL dMin (fCons (fVar 2) fNil)) (fC .none))))))
def C_least_squares : List D → Rs D := callF 4 F_least_squares
def F_greatest_squares : En → Out := (sSeq (sExp (apL (callX 1 C_check_size) (fCons (fSh 0) fNil)))
  (sSeq (sExp (apL (callX 1 C_check_many) (fCons (fSh 1) fNil)))
  (sSeq (sSet 2 (fComp (iLs (apL (callX 1 C_all_rankings) (fCons (fSh 0) fNil))) (.nm 3) (tVal (ap2 dEq (apL (callX 1 C_inversions) (fCons (fSh 3) fNil)) (fVar 1))) (apL (callX 1 C_squares_of) (fCons (fSh 3) fNil)) [3]))
  (sRet (fIf (tVal (ap2 dNe (fVar 2) (apL dLst fNil))) (apL dMax (fCons (fVar 2) fNil)) (fC .none))))))
def C_greatest_squares : List D → Rs D := callF 4 F_greatest_squares
def F__law_squares : En → Out := (sRet (apL dSum (fCons (fComp (apI dZip (fCons (fVar 0) (fCons (fVar 1) fNil))) (.tp [2, 3]) tTrue (ap2 dMul (ap2 dSub (fVar 2) (fVar 3)) (ap2 dSub (fVar 2) (fVar 3))) [2, 3]) fNil)))
def C__law_squares : List D → Rs D := callF 4 F__law_squares
def F_neighbour_way : En → Out := (sSeq (sExp (apL (callX 2 C_check_both) (fCons (fSh 0) (fCons (fSh 1) fNil))))
  (sSeq (sOwn 2 (apL (callX 2 C_seen) (fCons (fSh 0) (fCons (fSh 1) fNil))))
  (sSeq (sOwn 3 (apL dLst fNil))
  (sSeq (sFor (apI dRng (fCons (apL dLen (fCons (fVar 2) fNil)) fNil)) (.nm 4) [4, 5]
  (sFor (apI dRng (fCons (ap2 dSub (apL dLen (fCons (fVar 2) fNil)) (fC (.int 1))) fNil)) (.nm 5) [5]
  (sIf (tVal (ap2 dGt (ap2 dIx (fVar 2) (fVar 5)) (ap2 dIx (fVar 2) (ap2 dAdd (fVar 5) (fC (.int 1)))))) (sSeq (sSwap 2 (fVar 5) (ap2 dAdd (fVar 5) (fC (.int 1))) (fCons (ap2 dIx (fVar 2) (ap2 dAdd (fVar 5) (fC (.int 1)))) (fCons (ap2 dIx (fVar 2) (fVar 5)) fNil)))
  (sApp 3 (ap2 dAdd (fVar 5) (fC (.int 1))))) sNil)))
  (sFrz 3 (sRet (fSh 3)))))))
def C_neighbour_way : List D → Rs D := callF 6 F_neighbour_way
def F_after_neighbours : En → Out := (sSeq (sExp (apL (callX 1 C_check_ranking) (fCons (fSh 0) fNil)))
  (sSeq (sIf (tOrr (tNt (tVal (ap1 (dIsi "list") (fVar 1)))) (tNt (tVal (apL dAll (fCons (fComp (iLs (fVar 1)) (.nm 3) tTrue (apL (callX 3 C_is_int) (fCons (fSh 3) (fCons (fC (.int 1)) (fCons (ap2 dSub (apL dLen (fCons (fVar 0) fNil)) (fC (.int 1))) fNil)))) [3]) fNil))))) (sEx 2) sNil)
  (sSeq (sSet 2 (apL dList (fCons (fVar 0) fNil)))
  (sSeq (sFor (iLs (fSh 1)) (.nm 3) [3]
  (sSet 2 (fComp (iLs (fVar 2)) (.nm 4) tTrue (fIf (tVal (ap2 dEq (fVar 4) (fVar 3))) (ap2 dAdd (fVar 3) (fC (.int 1))) (fIf (tVal (ap2 dEq (fVar 4) (ap2 dAdd (fVar 3) (fC (.int 1))))) (fSh 3) (fSh 4))) [4])))
  (sRet (fSh 2))))))
def C_after_neighbours : List D → Rs D := callF 5 F_after_neighbours
def F_exchange_way : En → Out := (sSeq (sExp (apL (callX 2 C_check_both) (fCons (fSh 0) (fCons (fSh 1) fNil))))
  (sSeq (sOwn 2 (apL dList (fCons (fVar 0) fNil)))
  (sSeq (sOwn 3 (apL dLst fNil))
  (sSeq (sFor (apI dRng (fCons (apL dLen (fCons (fVar 2) fNil)) fNil)) (.nm 4) [4, 5]
  (sIf (tVal (ap2 dNe (ap2 dIx (fVar 2) (fVar 4)) (ap2 dIx (fVar 1) (fVar 4)))) (sSeq (sSet 5 (apML dIndex (fVar 2) (fCons (ap2 dIx (fVar 1) (fVar 4)) fNil)))
  (sSeq (sSwap 2 (fVar 4) (fVar 5) (fCons (ap2 dIx (fVar 2) (fVar 5)) (fCons (ap2 dIx (fVar 2) (fVar 4)) fNil)))
  (sApp 3 (apL dTup (fCons (fSh 4) (fCons (fSh 5) fNil)))))) sNil))
  (sFrz 3 (sRet (fSh 3)))))))
def C_exchange_way : List D → Rs D := callF 6 F_exchange_way
def F_after_exchanges : En → Out := (sSeq (sExp (apL (callX 1 C_check_ranking) (fCons (fSh 0) fNil)))
  (sSeq (sIf (tNt (tVal (ap1 (dIsi "list") (fVar 1)))) (sEx 2) sNil)
  (sSeq (sOwn 2 (apL dList (fCons (fVar 0) fNil)))
  (sSeq (sFor (iLs (fSh 1)) (.nm 3) [3, 4, 5]
  (sSeq (sIf (tOrr (tNt (tVal (ap1 (dIsi "tuple") (fVar 3)))) (tOrr (tVal (ap2 dNe (apL dLen (fCons (fVar 3) fNil)) (fC (.int 2)))) (tNt (tVal (apL dAll (fCons (fComp (iTp (fSh 3)) (.nm 6) tTrue (apL (callX 3 C_is_int) (fCons (fSh 6) (fCons (fC (.int 0)) (fCons (ap2 dSub (apL dLen (fCons (fVar 0) fNil)) (fC (.int 1))) fNil)))) [6]) fNil)))))) (sEx 2) sNil)
  (sSeq (sAsg (.tp [4, 5]) (fSh 3))
  (sSwap 2 (fVar 4) (fVar 5) (fCons (ap2 dIx (fVar 2) (fVar 5)) (fCons (ap2 dIx (fVar 2) (fVar 4)) fNil))))))
  (sFrz 2 (sRet (fSh 2)))))))
def C_after_exchanges : List D → Rs D := callF 7 F_after_exchanges
def F_staying : En → Out := (sSeq (sExp (apL (callX 2 C_check_both) (fCons (fSh 0) (fCons (fSh 1) fNil))))
  (sSeq (sSet 2 (apL (callX 2 C_seen) (fCons (fSh 0) (fCons (fSh 1) fNil))))
  (sSeq (sOwn 3 (apL dLst (fCons (apL dLst fNil) fNil)))
  (sSeq (sFor (apI dRng (fCons (apL dLen (fCons (fVar 2) fNil)) fNil)) (.nm 4) [4]
  (sExt 3 (fComp (iLs (fVar 3)) (.nm 6) (tOrr (tVal (ap2 dEq (fVar 6) (apL dLst fNil))) (tVal (ap2 dLt (ap2 dIx (fVar 2) (ap2 dSub (ap2 dIx (fVar 6) (ap1 dNeg (fC (.int 1)))) (fC (.int 1)))) (ap2 dIx (fVar 2) (fVar 4))))) (ap2 dAdd (fVar 6) (apL dLst (fCons (ap2 dAdd (fVar 4) (fC (.int 1))) fNil))) [6])))
  (sSeq (sSet 5 (apL dMax (fCons (fComp (iLs (fVar 3)) (.nm 6) tTrue (apL dLen (fCons (fVar 6) fNil)) [6]) fNil)))
  (sRet (apL dMinR (fCons (fComp (iLs (fVar 3)) (.nm 6) (tVal (ap2 dEq (apL dLen (fCons (fVar 6) fNil)) (fVar 5))) (fSh 6) [6]) fNil))))))))
def C_staying : List D → Rs D := callF 7 F_staying
def F_lies_between : En → Out := (sSeq (sFor (apI dRng (fCons (apL dLen (fCons (fVar 0) fNil)) fNil)) (.nm 3) [3, 4, 5, 6]
  (sFor (apI dRng (fCons (ap2 dAdd (fVar 3) (fC (.int 1))) (fCons (apL dLen (fCons (fVar 0) fNil)) fNil))) (.nm 4) [4, 5, 6]
  (sSeq (sPar [5, 6] (fCons (ap2 dLt (ap2 dIx (fVar 0) (fVar 3)) (ap2 dIx (fVar 0) (fVar 4))) (fCons (ap2 dLt (ap2 dIx (fVar 2) (fVar 3)) (ap2 dIx (fVar 2) (fVar 4))) fNil)))
  (sIf (tAn (tVal (ap2 dEq (fVar 5) (fVar 6))) (tVal (ap2 dNe (fVar 5) (ap2 dLt (ap2 dIx (fVar 1) (fVar 3)) (ap2 dIx (fVar 1) (fVar 4)))))) (sRet (fC (.bool false))) sNil))))
  (sRet (fC (.bool true))))
def C_lies_between : List D → Rs D := callF 7 F_lies_between
def F_is_between : En → Out := (sSeq (sExp (apL (callX 1 C_check_ranking) (fCons (fSh 0) fNil)))
  (sSeq (sExp (apL (callX 2 C_check_both) (fCons (fSh 0) (fCons (fSh 1) fNil))))
  (sSeq (sExp (apL (callX 2 C_check_both) (fCons (fSh 0) (fCons (fSh 2) fNil))))
  (sRet (apL (callX 3 C_lies_between) (fCons (fSh 0) (fCons (fSh 1) (fCons (fSh 2) fNil))))))))
def C_is_between : List D → Rs D := callF 3 F_is_between
def F_check_small : En → Out := (sSeq (sExp (apL (callX 2 C_check_both) (fCons (fSh 0) (fCons (fSh 1) fNil))))
  (sIf (tVal (ap2 dGt (apL dLen (fCons (fVar 0) fNil)) (fC (.int 6)))) (sEx 0) sNil))
def C_check_small : List D → Rs D := callF 2 F_check_small
def F_between : En → Out := (sSeq (sExp (apL (callX 2 C_check_small) (fCons (fSh 0) (fCons (fSh 1) fNil))))
  (sRet (fComp (iLs (apL (callX 1 C_all_rankings) (fCons (apL dLen (fCons (fVar 0) fNil)) fNil))) (.nm 2) (tVal (apL (callX 3 C_lies_between) (fCons (fSh 0) (fCons (fSh 2) (fCons (fSh 1) fNil))))) (fSh 2) [2])))
def C_between : List D → Rs D := callF 3 F_between
def F_count_between : En → Out := (sRet (apL dLen (fCons (apL (callX 2 C_between) (fCons (fSh 0) (fCons (fSh 1) fNil))) fNil)))
def C_count_between : List D → Rs D := callF 2 F_count_between
def F_halfway : En → Out := (sSeq (sExp (apL (callX 2 C_check_small) (fCons (fSh 0) (fCons (fSh 1) fNil))))
  (sSeq (sSet 2 (apL (callX 2 C_between) (fCons (fSh 0) (fCons (fSh 1) fNil))))
  (sSeq (sSet 3 (fComp (iLs (fVar 2)) (.nm 4) tTrue (apL dAbs (fCons (ap2 dSub (apL dLen (fCons (apL (callX 2 C_against) (fCons (fSh 0) (fCons (fSh 4) fNil))) fNil)) (apL dLen (fCons (apL (callX 2 C_against) (fCons (fSh 4) (fCons (fSh 1) fNil))) fNil))) fNil)) [4]))
  (sRet (fComp (apI dZip (fCons (fVar 2) (fCons (fVar 3) fNil))) (.tp [4, 5]) (tVal (ap2 dEq (fVar 5) (apL dMin (fCons (fVar 3) fNil)))) (fSh 4) [4, 5])))))
def C_halfway : List D → Rs D := callF 6 F_halfway
def F_near : En → Out := (sSeq (sExp (apL (callX 2 C_check_small) (fCons (fSh 0) (fCons (fSh 0) fNil))))
  (sSeq (sIf (tNt (tVal (apL (callX 3 C_is_int) (fCons (fSh 1) (fCons (fC (.int 0)) (fCons (fC (.int 50)) fNil)))))) (sEx 2) sNil)
  (sRet (fComp (iLs (apL (callX 1 C_all_rankings) (fCons (apL dLen (fCons (fVar 0) fNil)) fNil))) (.nm 2) (tVal (ap2 dLe (apL dLen (fCons (apL (callX 2 C_against) (fCons (fSh 0) (fCons (fSh 2) fNil))) fNil)) (fVar 1))) (fSh 2) [2]))))
def C_near : List D → Rs D := callF 3 F_near
def F_agreed_pairs : En → Out := (sSeq (sExp (apL (callX 2 C_check_both) (fCons (fSh 0) (fCons (fSh 1) fNil))))
  (sSeq (sOwn 2 (apL dLst fNil))
  (sSeq (sFor (apI dRng (fCons (apL dLen (fCons (fVar 0) fNil)) fNil)) (.nm 3) [3, 4]
  (sFor (apI dRng (fCons (apL dLen (fCons (fVar 0) fNil)) fNil)) (.nm 4) [4]
  (sIf (tAn (tVal (ap2 dLt (ap2 dIx (fVar 0) (fVar 3)) (ap2 dIx (fVar 0) (fVar 4)))) (tVal (ap2 dLt (ap2 dIx (fVar 1) (fVar 3)) (ap2 dIx (fVar 1) (fVar 4))))) (sApp 2 (apL dTup (fCons (fSh 3) (fCons (fSh 4) fNil)))) sNil)))
  (sFrz 2 (sRet (fSh 2))))))
def C_agreed_pairs : List D → Rs D := callF 5 F_agreed_pairs
def F_count_with : En → Out := (sSeq (sIf (tNt (tVal (apL (callX 3 C_is_int) (fCons (fSh 0) (fCons (fC (.int 1)) (fCons (fC (.int 20)) fNil)))))) (sEx 2) sNil)
  (sSeq (sIf (tNt (tVal (apL (callX 3 C_is_int) (fCons (fSh 1) (fCons (fC (.int 0)) (fCons (fC (.int 200)) fNil)))))) (sEx 2) sNil)
  (sSeq (sSet 2 (apL dLst (fCons (fC (.int 1)) fNil)))
  (sSeq (sFor (apI dRng (fCons (fC (.int 2)) (fCons (ap2 dAdd (fVar 0) (fC (.int 1))) fNil))) (.nm 3) [3, 4, 5]
  (sSeq (sOwn 4 (apL dLst fNil))
  (sSeq (sFor (apI dRng (fCons (ap2 dSub (ap2 dAdd (apL dLen (fCons (fVar 2) fNil)) (fVar 3)) (fC (.int 1))) fNil)) (.nm 5) [5]
  (sApp 4 (apL dSum (fCons (fSl (fVar 2) (fPart (apL dMax (fCons (fC (.int 0)) (fCons (ap2 dAdd (ap2 dSub (fVar 5) (fVar 3)) (fC (.int 1))) fNil)))) (fPart (ap2 dAdd (fVar 5) (fC (.int 1))))) fNil))))
  (sFrz 4 (sSet 2 (fSh 4))))))
  (sRet (fIf (tVal (ap2 dLt (fVar 1) (apL dLen (fCons (fVar 2) fNil)))) (ap2 dIx (fVar 2) (fVar 1)) (fC (.int 0))))))))
def C_count_with : List D → Rs D := callF 6 F_count_with
def F_value_table : En → Out := (sSeq (sExp (apL (callX 1 C_check_size) (fCons (fSh 0) fNil)))
  (sSeq (sDNew 1)
  (sSeq (sFor (iLs (apL (callX 1 C_all_rankings) (fCons (fSh 0) fNil))) (.nm 2) [2, 3]
  (sSeq (sSet 3 (apL dTup (fCons (apL (callX 1 C_inversions) (fCons (fSh 2) fNil)) (fCons (apL (callX 1 C_squares_of) (fCons (fSh 2) fNil)) fNil))))
  (sDPut 1 (fSh 3) (ap2 dAdd (fDGet 1 (fSh 3) (fC (.int 0))) (fC (.int 1))))))
  (sRet (fComp (iLs (fDSort 1)) (.nm 3) tTrue (ap2 dAdd (fVar 3) (apL dTup (fCons (fDIx 1 (fSh 3)) fNil))) [3])))))
def C_value_table : List D → Rs D := callF 4 F_value_table
def F_orders_with : En → Out := (sSeq (sExp (apL (callX 1 C_check_size) (fCons (fSh 0) fNil)))
  (sSeq (sIf (tOrr (tNt (tVal (apL (callX 3 C_is_int) (fCons (fSh 1) (fCons (fC (.int 0)) (fCons (fC (.int 50)) fNil)))))) (tNt (tVal (apL (callX 3 C_is_int) (fCons (fSh 2) (fCons (fC (.int 0)) (fCons (fC (.int 500)) fNil))))))) (sEx 2) sNil)
  (sRet (fComp (iLs (apL (callX 1 C_all_rankings) (fCons (fSh 0) fNil))) (.nm 3) (tVal (ap2 dEq (apL dTup (fCons (apL (callX 1 C_inversions) (fCons (fSh 3) fNil)) (fCons (apL (callX 1 C_squares_of) (fCons (fSh 3) fNil)) fNil))) (apL dTup (fCons (fSh 1) (fCons (fSh 2) fNil))))) (fSh 3) [3]))))
def C_orders_with : List D → Rs D := callF 4 F_orders_with
def F_can_be : En → Out := (sRet (ap2 dNe (apL (callX 3 C_orders_with) (fCons (fSh 0) (fCons (fSh 1) (fCons (fSh 2) fNil)))) (apL dLst fNil)))
def C_can_be : List D → Rs D := callF 3 F_can_be
def F_first_with : En → Out := (sSeq (sSet 3 (apL (callX 3 C_orders_with) (fCons (fSh 0) (fCons (fSh 1) (fCons (fSh 2) fNil)))))
  (sSeq (sIf (tVal (ap2 dEq (fVar 3) (apL dLst fNil))) (sEx 4) sNil)
  (sRet (ap2 dIx (fVar 3) (fC (.int 0))))))
def C_first_with : List D → Rs D := callF 4 F_first_with
def F_order_at : En → Out := (sSeq (sSet 4 (apL (callX 3 C_orders_with) (fCons (fSh 0) (fCons (fSh 1) (fCons (fSh 2) fNil)))))
  (sSeq (sIf (tNt (tVal (apL (callX 3 C_is_int) (fCons (fSh 3) (fCons (fC (.int 0)) (fCons (ap2 dSub (apL dLen (fCons (fVar 4) fNil)) (fC (.int 1))) fNil)))))) (sEx 2) sNil)
  (sRet (ap2 dIx (fVar 4) (fVar 3)))))
def C_order_at : List D → Rs D := callF 5 F_order_at
def F_is_scores : En → Out := (sSeq (sIf (tOrr (tNt (tVal (ap1 (dIsi "list") (fVar 0)))) (tNt (tVal (fChain dLe dLe (fC (.int 1)) (apL dLen (fCons (fVar 0) fNil)) (fC (.int 10)))))) (sRet (fC (.bool false))) sNil)
  (sRet (apL dAll (fCons (fComp (iLs (fVar 0)) (.nm 1) tTrue (apL (callX 3 C_is_int) (fCons (fSh 1) (fCons (fC (.int 0)) (fCons (fC (.int 99)) fNil)))) [1]) fNil))))
def C_is_scores : List D → Rs D := callF 2 F_is_scores
def F_check_scores : En → Out := (sIf (tNt (tVal (apL (callX 1 C_is_scores) (fCons (fSh 0) fNil)))) (sEx 1) sNil)
def C_check_scores : List D → Rs D := callF 1 F_check_scores
def F_check_same : En → Out := (sSeq (sExp (apL (callX 1 C_check_scores) (fCons (fSh 0) fNil)))
  (sSeq (sExp (apL (callX 1 C_check_scores) (fCons (fSh 1) fNil)))
  (sIf (tVal (ap2 dNe (apL dLen (fCons (fVar 0) fNil)) (apL dLen (fCons (fVar 1) fNil)))) (sEx 1) sNil)))
def C_check_same : List D → Rs D := callF 2 F_check_same
def F_outcomes : En → Out := (sSeq (sOwn 2 (apL dLst (fCons (fC (.int 0)) (fCons (fC (.int 0)) (fCons (fC (.int 0)) (fCons (fC (.int 0)) (fCons (fC (.int 0)) fNil)))))))
  (sSeq (sFor (apI dRng (fCons (apL dLen (fCons (fVar 0) fNil)) fNil)) (.nm 3) [3, 4, 5, 6]
  (sFor (apI dRng (fCons (ap2 dAdd (fVar 3) (fC (.int 1))) (fCons (apL dLen (fCons (fVar 0) fNil)) fNil))) (.nm 4) [4, 5, 6]
  (sSeq (sPar [5, 6] (fCons (ap2 dSub (ap2 dIx (fVar 0) (fVar 3)) (ap2 dIx (fVar 0) (fVar 4))) (fCons (ap2 dSub (ap2 dIx (fVar 1) (fVar 3)) (ap2 dIx (fVar 1) (fVar 4))) fNil)))
  (sIf (tAn (tVal (ap2 dEq (fVar 5) (fC (.int 0)))) (tVal (ap2 dEq (fVar 6) (fC (.int 0))))) (sAugI 2 (fC (.int 4)) (fC (.int 1))) (sIf (tVal (ap2 dEq (fVar 5) (fC (.int 0)))) (sAugI 2 (fC (.int 2)) (fC (.int 1))) (sIf (tVal (ap2 dEq (fVar 6) (fC (.int 0)))) (sAugI 2 (fC (.int 3)) (fC (.int 1))) (sAugI 2 (fIf (tVal (ap2 dEq (ap2 dGt (fVar 5) (fC (.int 0))) (ap2 dGt (fVar 6) (fC (.int 0))))) (fC (.int 0)) (fC (.int 1))) (fC (.int 1)))))))))
  (sFrz 2 (sRet (fSh 2)))))
def C_outcomes : List D → Rs D := callF 7 F_outcomes
def F_pair_outcomes : En → Out := (sSeq (sExp (apL (callX 2 C_check_same) (fCons (fSh 0) (fCons (fSh 1) fNil))))
  (sRet (apL dTuple (fCons (apL (callX 2 C_outcomes) (fCons (fSh 0) (fCons (fSh 1) fNil))) fNil))))
def C_pair_outcomes : List D → Rs D := callF 2 F_pair_outcomes
def F_shared_ranks : En → Out := (sSeq (sExp (apL (callX 1 C_check_scores) (fCons (fSh 0) fNil)))
  (sSeq (sOwn 1 (apL dLst fNil))
  (sSeq (sFor (iLs (fSh 0)) (.nm 2) [2, 3]
  (sSeq (sSet 3 (apL dLen (fCons (fComp (iLs (fVar 0)) (.nm 4) (tVal (ap2 dLt (fVar 4) (fVar 2))) (fSh 4) [4]) fNil)))
  (sApp 1 (ap2 dAdd (ap2 dAdd (ap2 dMul (fC (.int 2)) (fVar 3)) (apML dCount (fVar 0) (fCons (fVar 2) fNil))) (fC (.int 1))))))
  (sFrz 1 (sRet (fSh 1))))))
def C_shared_ranks : List D → Rs D := callF 5 F_shared_ranks
def F_tie_groups : En → Out := (sSeq (sExp (apL (callX 1 C_check_scores) (fCons (fSh 0) fNil)))
  (sRet (fComp (iLs (apL dSortSet (fCons (fVar 0) fNil))) (.nm 1) (tVal (ap2 dGt (apML dCount (fVar 0) (fCons (fVar 1) fNil)) (fC (.int 1)))) (apL dTup (fCons (fSh 1) (fCons (apML dCount (fVar 0) (fCons (fVar 1) fNil)) fNil))) [1])))
def C_tie_groups : List D → Rs D := callF 2 F_tie_groups
def F_plain_agreement : En → Out := (sSeq (sExp (apL (callX 2 C_check_same) (fCons (fSh 0) (fCons (fSh 1) fNil))))
  (sSeq (sIf (tVal (ap2 dEq (apL dLen (fCons (fVar 0) fNil)) (fC (.int 1)))) (sEx 4) sNil)
  (sSeq (sSet 2 (apL (callX 2 C_outcomes) (fCons (fSh 0) (fCons (fSh 1) fNil))))
  (sRet (apL (callX 2 C_lowest) (fCons (ap2 dSub (ap2 dIx (fVar 2) (fC (.int 0))) (ap2 dIx (fVar 2) (fC (.int 1)))) (fCons (ap2 dFdiv (ap2 dMul (apL dLen (fCons (fVar 0) fNil)) (ap2 dSub (apL dLen (fCons (fVar 0) fNil)) (fC (.int 1)))) (fC (.int 2))) fNil)))))))
def C_plain_agreement : List D → Rs D := callF 3 F_plain_agreement
def F_untied_agreement : En → Out := (sSeq (sExp (apL (callX 2 C_check_same) (fCons (fSh 0) (fCons (fSh 1) fNil))))
  (sSeq (sSet 2 (apL (callX 2 C_outcomes) (fCons (fSh 0) (fCons (fSh 1) fNil))))
  (sSeq (sIf (tVal (ap2 dEq (ap2 dAdd (ap2 dIx (fVar 2) (fC (.int 0))) (ap2 dIx (fVar 2) (fC (.int 1)))) (fC (.int 0)))) (sEx 4) sNil)
  (sRet (apL (callX 2 C_lowest) (fCons (ap2 dSub (ap2 dIx (fVar 2) (fC (.int 0))) (ap2 dIx (fVar 2) (fC (.int 1)))) (fCons (ap2 dAdd (ap2 dIx (fVar 2) (fC (.int 0))) (ap2 dIx (fVar 2) (fC (.int 1)))) fNil)))))))
def C_untied_agreement : List D → Rs D := callF 3 F_untied_agreement
def F_dense_ranks : En → Out := (sSeq (sExp (apL (callX 1 C_check_scores) (fCons (fSh 0) fNil)))
  (sRet (fComp (iLs (fVar 0)) (.nm 1) tTrue (ap2 dAdd (fC (.int 1)) (apL dLenSet (fCons (fComp (iLs (fVar 0)) (.nm 2) (tVal (ap2 dLt (fVar 2) (fVar 1))) (fSh 2) [2]) fNil))) [1])))
def C_dense_ranks : List D → Rs D := callF 3 F_dense_ranks
def F_first_ranks : En → Out := (sSeq (sExp (apL (callX 1 C_check_scores) (fCons (fSh 0) fNil)))
  (sSeq (sSet 1 (apL dSortP (fCons (fComp (apI dEnum (fCons (fVar 0) fNil)) (.tp [2, 3]) tTrue (apL dTup (fCons (fSh 3) (fCons (fSh 2) fNil))) [2, 3]) fNil)))
  (sRet (fComp (apI dEnum (fCons (fVar 0) fNil)) (.tp [2, 3]) tTrue (ap2 dAdd (apML dIndex (fVar 1) (fCons (apL dTup (fCons (fSh 3) (fCons (fSh 2) fNil))) fNil)) (fC (.int 1))) [2, 3]))))
def C_first_ranks : List D → Rs D := callF 4 F_first_ranks
def F_turned_over : En → Out := (sSeq (sExp (apL (callX 1 C_check_ranking) (fCons (fSh 0) fNil)))
  (sRet (fComp (iLs (fVar 0)) (.nm 1) tTrue (ap2 dSub (ap2 dAdd (apL dLen (fCons (fVar 0) fNil)) (fC (.int 1))) (fVar 1)) [1])))
def C_turned_over : List D → Rs D := callF 2 F_turned_over
def F_backward : En → Out := (sSeq (sExp (apL (callX 1 C_check_ranking) (fCons (fSh 0) fNil)))
  (sRet (ap1 dRev (fVar 0))))
def C_backward : List D → Rs D := callF 1 F_backward
def F_inverse : En → Out := (sSeq (sExp (apL (callX 1 C_check_ranking) (fCons (fSh 0) fNil)))
  (sRet (fComp (apI dRng (fCons (fC (.int 1)) (fCons (ap2 dAdd (apL dLen (fCons (fVar 0) fNil)) (fC (.int 1))) fNil))) (.nm 1) tTrue (ap2 dAdd (apML dIndex (fVar 0) (fCons (fVar 1) fNil)) (fC (.int 1))) [1])))
def C_inverse : List D → Rs D := callF 2 F_inverse
def F_led : En → Out := (sSeq (sExp (apL (callX 2 C_check_both) (fCons (fSh 0) (fCons (fSh 1) fNil))))
  (sRet (fComp (iLs (fVar 0)) (.nm 2) tTrue (ap2 dIx (fVar 1) (ap2 dSub (fVar 2) (fC (.int 1)))) [2])))
def C_led : List D → Rs D := callF 3 F_led
def F_renamed : En → Out := (sSeq (sExp (apL (callX 2 C_check_both) (fCons (fSh 0) (fCons (fSh 1) fNil))))
  (sSeq (sOwn 2 (ap2 dRep (apL dLst (fCons (fC (.int 0)) fNil)) (apL dLen (fCons (fVar 0) fNil))))
  (sSeq (sFor (apI dZip (fCons (fSh 0) (fCons (fSh 1) fNil))) (.tp [3, 4]) [3, 4]
  (sSetI 2 (ap2 dSub (fVar 4) (fC (.int 1))) (fSh 3)))
  (sFrz 2 (sRet (fSh 2))))))
def C_renamed : List D → Rs D := callF 5 F_renamed
def F_difference : En → Out := (sSeq (sExp (apL (callX 2 C_check_both) (fCons (fSh 0) (fCons (fSh 1) fNil))))
  (sRet (apL (callX 2 C_seen) (fCons (fSh 0) (fCons (fSh 1) fNil)))))
def C_difference : List D → Rs D := callF 2 F_difference
def F_without_thing : En → Out := (sSeq (sExp (apL (callX 1 C_check_ranking) (fCons (fSh 0) fNil)))
  (sSeq (sIf (tOrr (tNt (tVal (apL (callX 3 C_is_int) (fCons (fSh 1) (fCons (fC (.int 0)) (fCons (ap2 dSub (apL dLen (fCons (fVar 0) fNil)) (fC (.int 1))) fNil)))))) (tVal (ap2 dEq (apL dLen (fCons (fVar 0) fNil)) (fC (.int 1))))) (sEx 2) sNil)
  (sSeq (sSet 2 (ap2 dIx (fVar 0) (fVar 1)))
  (sRet (fComp (iLs (ap2 dAdd (fSl (fVar 0) fNoPart (fPart (fVar 1))) (fSl (fVar 0) (fPart (ap2 dAdd (fVar 1) (fC (.int 1)))) fNoPart))) (.nm 3) tTrue (fIf (tVal (ap2 dGt (fVar 3) (fVar 2))) (ap2 dSub (fVar 3) (fC (.int 1))) (fSh 3)) [3])))))
def C_without_thing : List D → Rs D := callF 4 F_without_thing
def F_joined : En → Out := (sSeq (sExp (apL (callX 1 C_check_ranking) (fCons (fSh 0) fNil)))
  (sSeq (sExp (apL (callX 1 C_check_ranking) (fCons (fSh 1) fNil)))
  (sSeq (sSet 2 (ap2 dAdd (fVar 0) (fComp (iLs (fVar 1)) (.nm 3) tTrue (ap2 dAdd (apL dLen (fCons (fVar 0) fNil)) (fVar 3)) [3])))
  (sSeq (sIf (tNt (tVal (apL (callX 1 C_is_ranking) (fCons (fSh 2) fNil)))) (sEx 0) sNil)
  (sRet (fSh 2))))))
def C_joined : List D → Rs D := callF 4 F_joined
def F_exchanged : En → Out := (sRet (fComp (iLs (fVar 0)) (.nm 2) tTrue (fIf (tVal (ap2 dEq (fVar 2) (fVar 1))) (ap2 dAdd (fVar 1) (fC (.int 1))) (fIf (tVal (ap2 dEq (fVar 2) (ap2 dAdd (fVar 1) (fC (.int 1))))) (fSh 1) (fSh 2))) [2]))
def C_exchanged : List D → Rs D := callF 3 F_exchanged
def F__law_exchanged : En → Out := (sRet (fComp (iLs (fVar 0)) (.nm 2) tTrue (fIf (tVal (ap2 dEq (fVar 2) (fVar 1))) (ap2 dAdd (fVar 1) (fC (.int 1))) (fIf (tVal (ap2 dEq (fVar 2) (ap2 dAdd (fVar 1) (fC (.int 1))))) (fSh 1) (fSh 2))) [2]))
def C__law_exchanged : List D → Rs D := callF 3 F__law_exchanged
def F_check_text : En → Out := (sIf (tNt (tVal (ap1 (dIsi "str") (fVar 0)))) (sEx 3) sNil)
def C_check_text : List D → Rs D := callF 1 F_check_text
def F__wall : En → Out := (sWhile 1000 (tVal (fC (.bool true))) []
  sNil)
def C__wall : List D → Rs D := callF 1 F__wall
def F__law_number : En → Out := (sSeq (sIf (tVal (ap2 dEq (fVar 0) (fC (.int 0)))) (sRet (apL (callX 1 C_all_rankings) (fCons (fSh 1) fNil))) sNil)
  (sSeq (sIf (tVal (ap2 dEq (fVar 0) (fC (.int 1)))) (sRet (apL (callX 1 C_value_table) (fCons (fSh 1) fNil))) sNil)
  (sSeq (sIf (tVal (ap2 dEq (fVar 0) (fC (.int 2)))) (sRet (apL (callX 2 C_least_squares) (fCons (fSh 1) (fCons (fSh 2) fNil)))) sNil)
  (sSeq (sIf (tVal (ap2 dEq (fVar 0) (fC (.int 3)))) (sRet (apL (callX 2 C_greatest_squares) (fCons (fSh 1) (fCons (fSh 2) fNil)))) sNil)
  (sSeq (sIf (tVal (ap2 dEq (fVar 0) (fC (.int 4)))) (sRet (apL (callX 3 C_orders_with) (fCons (fSh 1) (fCons (fSh 2) (fCons (fSh 3) fNil))))) sNil)
  (sSeq (sIf (tVal (ap2 dEq (fVar 0) (fC (.int 5)))) (sRet (apL (callX 3 C_can_be) (fCons (fSh 1) (fCons (fSh 2) (fCons (fSh 3) fNil))))) sNil)
  (sSeq (sIf (tVal (ap2 dEq (fVar 0) (fC (.int 6)))) (sRet (apL (callX 3 C_first_with) (fCons (fSh 1) (fCons (fSh 2) (fCons (fSh 3) fNil))))) sNil)
  (sSeq (sIf (tVal (ap2 dEq (fVar 0) (fC (.int 7)))) (sRet (apL (callX 4 C_order_at) (fCons (fSh 1) (fCons (fSh 2) (fCons (fSh 3) (fCons (fC (.int 0)) fNil)))))) sNil)
  (sSeq (sIf (tVal (ap2 dEq (fVar 0) (fC (.int 8)))) (sRet (apL (callX 2 C_ranking_at) (fCons (fSh 1) (fCons (fSh 2) fNil)))) sNil)
  (sRet (apL (callX 2 C_count_with) (fCons (fSh 1) (fCons (fSh 2) fNil)))))))))))))
def C__law_number : List D → Rs D := callF 4 F__law_number
def F__law_first : En → Out := (sSeq (sIf (tOrr (tVal (ap2 dNe (apL (callX 1 C_things_in_order) (fCons (fSh 1) fNil)) (apL dLst (fCons (fC (.int 2)) (fCons (fC (.int 0)) (fCons (fC (.int 3)) (fCons (fC (.int 1)) fNil))))))) (tOrr (tVal (ap2 dNe (apL (callX 1 C_rank_of_ranking) (fCons (fSh 1) fNil)) (fC (.int 10)))) (tVal (ap2 dNe (apL (callX 2 C_all_measures) (fCons (fSh 0) (fCons (fSh 1) fNil))) (apL dTup (fCons (fC (.int 3)) (fCons (fC (.int 10)) (fCons (fC (.int 6)) (fCons (fC (.int 2)) (fCons (fC (.int 4)) (fCons (fC (.int 3)) (fCons (fC (.int 2)) fNil)))))))))))) (sRet (fC (.bool false))) sNil)
  (sSeq (sIf (tOrr (tVal (ap2 dNe (apL (callX 2 C_pair_agreement) (fCons (fSh 0) (fCons (fSh 1) fNil))) (apL dTup (fCons (fC (.int 0)) (fCons (fC (.int 1)) fNil))))) (tOrr (tVal (ap2 dNe (apL (callX 2 C_least_squares) (fCons (fC (.int 4)) (fCons (fC (.int 3)) fNil))) (fC (.int 8)))) (tVal (ap2 dNe (apL (callX 2 C_inversion_table) (fCons (fSh 0) (fCons (fSh 1) fNil))) (apL dLst (fCons (fC (.int 1)) (fCons (fC (.int 2)) (fCons (fC (.int 0)) (fCons (fC (.int 0)) fNil))))))))) (sRet (fC (.bool false))) sNil)
  (sRet (fAnd (ap2 dEq (apL (callX 2 C_after_neighbours) (fCons (fSh 0) (fCons (apL dLst (fCons (fC (.int 1)) (fCons (fC (.int 2)) fNil))) fNil))) (apL dLst (fCons (fC (.int 3)) (fCons (fC (.int 1)) (fCons (fC (.int 2)) (fCons (fC (.int 4)) fNil)))))) (ap2 dEq (apL (callX 2 C_cycles) (fCons (fSh 0) (fCons (fSh 1) fNil))) (apL dLst (fCons (apL dLst (fCons (fC (.int 1)) (fCons (fC (.int 2)) (fCons (fC (.int 4)) (fCons (fC (.int 3)) fNil))))) fNil)))))))
def C__law_first : List D → Rs D := callF 2 F__law_first
end AG

namespace K07
open PySem L2 DL AG
/-! meanings -/
def F__law_call : En → Out := (sSeq (sSet 5 (fC .none))
  (sSeq (sSet 6 (fC .none))
  (sTryR 7 6 (sSet 5 (fIf (tVal (ap2 dEq (fVar 0) (fC (.int 0)))) (apL (callX 3 C_first_with) (fCons (fSh 1) (fCons (fSh 2) (fCons (fSh 3) fNil)))) (apL (callX 4 C_order_at) (fCons (fSh 1) (fCons (fSh 2) (fCons (fSh 3) (fCons (fSh 4) fNil))))))) (fSh 5) .ok)))
def C__law_call : List D → Rs D := callF 8 F__law_call
def W_law : WS := (wSeq (wSet 2 (wOp dAddI (lf (fC (.int 1))) (wDraw 1 (lf (fC (.int 5))))))
  (wSeq (ls (sSet 3 (ap2 dRange (fC (.int 1)) (ap2 dAdd (fVar 2) (fC (.int 1))))))
  (wSeq (ls (sDNew 4))
  (wSeq (ls (sSet 5 (apL (callX 1 C__law_all) (fCons (fSh 2) fNil))))
  (wSeq (ls (sFor (iLs (fSh 5)) (.nm 6) [6, 7]
  (sSeq (sSet 7 (apL dTup (fCons (apL dLen (fCons (apL (callX 2 C__law_against) (fCons (fSh 3) (fCons (fSh 6) fNil))) fNil)) (fCons (apL (callX 2 C__law_squares) (fCons (fSh 3) (fCons (fSh 6) fNil))) fNil))))
  (sDPut 4 (fSh 7) (ap2 dAdd (fDGet 4 (fSh 7) (apL dLst fNil)) (apL dLst (fCons (fSh 6) fNil)))))))
  (wSeq (ls (sIf (tVal (ap2 dNe (apL (callX 1 C_value_table) (fCons (fSh 2) fNil)) (fComp (iLs (fDSort 4)) (.nm 7) tTrue (apL dTup (fCons (ap2 dIx (fVar 7) (fC (.int 0))) (fCons (ap2 dIx (fVar 7) (fC (.int 1))) (fCons (apL dLen (fCons (fDIx 4 (fSh 7)) fNil)) fNil)))) [7]))) (sRet (fC (.bool false))) sNil))
  (wSeq (wAsg (.tp [8, 9]) (wPick 1 (lf (fDSort 4))))
  (wSeq (wIfS (wVal (wOp dEq (wDraw 1 (lf (fC (.int 4)))) (lf (fC (.int 0))))) (wPar [8, 9] (wCons (wDraw 1 (lf (fC (.int 12)))) (wCons (wDraw 1 (lf (fC (.int 40)))) wNil))) wSkip)
  (wSeq (ls (sSet 10 (fDGet 4 (apL dTup (fCons (fSh 8) (fCons (fSh 9) fNil))) (apL dLst fNil))))
  (wSeq (ls (sIf (tOrr (tVal (ap2 dNe (apL (callX 3 C_orders_with) (fCons (fSh 2) (fCons (fSh 8) (fCons (fSh 9) fNil)))) (fVar 10))) (tNt (tVal (apL (callX 2 C__law_true) (fCons (apL (callX 3 C_can_be) (fCons (fSh 2) (fCons (fSh 8) (fCons (fSh 9) fNil)))) (fCons (ap2 dNe (fVar 10) (apL dLst fNil)) fNil)))))) (sRet (fC (.bool false))) sNil))
  (wSeq (ls (sIf (tVal (ap2 dNe (apL (callX 5 C__law_call) (fCons (fC (.int 0)) (fCons (fSh 2) (fCons (fSh 8) (fCons (fSh 9) (fCons (fC (.int 0)) fNil)))))) (fIf (tVal (ap2 dNe (fVar 10) (apL dLst fNil))) (ap2 dIx (fVar 10) (fC (.int 0))) (fC (.str "none"))))) (sRet (fC (.bool false))) sNil))
  (wSeq (wSet 11 (wDraw 1 (lf (ap2 dAdd (apL dLen (fCons (fVar 10) fNil)) (fC (.int 1))))))
  (wSeq (ls (sIf (tVal (ap2 dNe (apL (callX 5 C__law_call) (fCons (fC (.int 1)) (fCons (fSh 2) (fCons (fSh 8) (fCons (fSh 9) (fCons (fSh 11) fNil)))))) (fIf (tVal (ap2 dLt (fVar 11) (apL dLen (fCons (fVar 10) fNil)))) (ap2 dIx (fVar 10) (fVar 11)) (fC (.str "number"))))) (sRet (fC (.bool false))) sNil))
  (wSeq (ls (sSet 12 (fComp (apI dRng (fCons (fC (.int 16)) fNil)) (.nm 16) tTrue (apL dLen (fCons (fComp (iLs (fVar 5)) (.nm 6) (tVal (ap2 dEq (apL dLen (fCons (apL (callX 2 C__law_against) (fCons (fSh 3) (fCons (fSh 6) fNil))) fNil)) (fVar 16))) (fSh 6) [6]) fNil)) [16])))
  (wSeq (ls (sIf (tVal (ap2 dNe (fComp (apI dRng (fCons (fC (.int 16)) fNil)) (.nm 16) tTrue (apL (callX 2 C_count_with) (fCons (fSh 2) (fCons (fSh 16) fNil))) [16]) (fVar 12))) (sRet (fC (.bool false))) sNil))
  (wSeq (wSet 13 (wOp dAddI (lf (fC (.int 1))) (wDraw 1 (lf (fC (.int 11))))))
  (wSeq (ls (sSet 14 (ap2 dFdiv (ap2 dMul (fVar 13) (ap2 dSub (fVar 13) (fC (.int 1)))) (fC (.int 2)))))
  (wSeq (ls (sSet 6 (fComp (apI dRng (fCons (ap2 dAdd (fVar 14) (fC (.int 1))) fNil)) (.nm 16) tTrue (apL (callX 2 C_count_with) (fCons (fSh 13) (fCons (fSh 16) fNil))) [16])))
  (wSeq (ls (sSet 15 (fC (.int 1))))
  (wSeq (ls (sFor (apI dRng (fCons (fC (.int 2)) (fCons (ap2 dAdd (fVar 13) (fC (.int 1))) fNil))) (.nm 16) [16]
  (sSet 15 (ap2 dMul (fVar 15) (fVar 16)))))
  (ls (sRet (fAnd (ap2 dEq (apL dSum (fCons (fVar 6) fNil)) (fVar 15)) (fAnd (ap2 dEq (fVar 6) (ap1 dRev (fVar 6))) (ap2 dEq (apL (callX 2 C_count_with) (fCons (fSh 13) (fCons (apL dMin (fCons (fC (.int 200)) (fCons (ap2 dAdd (fVar 14) (fC (.int 1))) fNil))) fNil))) (fC (.int 0)))))))))))))))))))))))))))
/- the law: slots [(0, 'script'), (1, 'draws'), (2, 'size'), (3, 'straight'), (4, 'known'), (5, 'rows'), (6, 'row'), (7, 'key'), (8, 'many'), (9, 'squares'), (10, 'good'), (11, 'rank'), (12, 'counted'), (13, 'great'), (14, 'whole'), (15, 'product'), (16, 'k')]; draws 1 -/
end K07

namespace K07
open PySem L2 DL AG
def topS (i : Nat) : Stmt := PySem.Challenge.pw_agreeranks_k07_whole_tables.main.body.getD i (.Pass ⟨0, 0, 0, 0⟩)
abbrev s__law_start : Stmt := topS 24
abbrev N__law_start : List Str := ["script"]
abbrev P__law_start : List Str := ["script"]
theorem sc__law_start : FnScope N__law_start P__law_start (defScope s__law_start) := ⟨by decide +kernel, by decide +kernel, by decide +kernel, by decide +kernel, rfl, by decide +kernel, by decide +kernel⟩
theorem bi__law_start : BindsB "_law_start" s__law_start P__law_start := fun _ _ _ _ _ _ us hl => match us, hl with | [_], _ => rfl
abbrev s__law_draw : Stmt := topS 25
abbrev N__law_draw : List Str := ["draws", "limit", "numbers", "at", "cell", "mixed"]
abbrev P__law_draw : List Str := ["draws", "limit"]
theorem sc__law_draw : FnScope N__law_draw P__law_draw (defScope s__law_draw) := ⟨by decide +kernel, by decide +kernel, by decide +kernel, by decide +kernel, rfl, by decide +kernel, by decide +kernel⟩
theorem bi__law_draw : BindsB "_law_draw" s__law_draw P__law_draw := fun _ _ _ _ _ _ us hl => match us, hl with | [_, _], _ => rfl
abbrev s__law_pick : Stmt := topS 26
abbrev N__law_pick : List Str := ["draws", "choices"]
abbrev P__law_pick : List Str := ["draws", "choices"]
theorem sc__law_pick : FnScope N__law_pick P__law_pick (defScope s__law_pick) := ⟨by decide +kernel, by decide +kernel, by decide +kernel, by decide +kernel, rfl, by decide +kernel, by decide +kernel⟩
theorem bi__law_pick : BindsB "_law_pick" s__law_pick P__law_pick := fun _ _ _ _ _ _ us hl => match us, hl with | [_, _], _ => rfl
abbrev s__law_error : Stmt := topS 27
abbrev N__law_error : List Str := ["caught", "kinds"]
abbrev P__law_error : List Str := ["caught"]
theorem sc__law_error : FnScope N__law_error P__law_error (defScope s__law_error) := ⟨by decide +kernel, by decide +kernel, by decide +kernel, by decide +kernel, rfl, by decide +kernel, by decide +kernel⟩
theorem bi__law_error : BindsB "_law_error" s__law_error P__law_error := fun _ _ _ _ _ _ us hl => match us, hl with | [_], _ => rfl
abbrev s_is_int : Stmt := topS 8
abbrev N_is_int : List Str := ["value", "low", "high"]
abbrev P_is_int : List Str := ["value", "low", "high"]
theorem sc_is_int : FnScope N_is_int P_is_int (defScope s_is_int) := ⟨by decide +kernel, by decide +kernel, by decide +kernel, by decide +kernel, rfl, by decide +kernel, by decide +kernel⟩
theorem bi_is_int : BindsB "is_int" s_is_int P_is_int := fun _ _ _ _ _ _ us hl => match us, hl with | [_, _, _], _ => rfl
abbrev s_check_size : Stmt := topS 9
abbrev N_check_size : List Str := ["value"]
abbrev P_check_size : List Str := ["value"]
theorem sc_check_size : FnScope N_check_size P_check_size (defScope s_check_size) := ⟨by decide +kernel, by decide +kernel, by decide +kernel, by decide +kernel, rfl, by decide +kernel, by decide +kernel⟩
theorem bi_check_size : BindsB "check_size" s_check_size P_check_size := fun _ _ _ _ _ _ us hl => match us, hl with | [_], _ => rfl
abbrev s_orders : Stmt := topS 11
abbrev N_orders : List Str := ["values", "found", "k", "value", "rest"]
abbrev P_orders : List Str := ["values"]
theorem sc_orders : FnScope N_orders P_orders (defScope s_orders) := ⟨by decide +kernel, by decide +kernel, by decide +kernel, by decide +kernel, rfl, by decide +kernel, by decide +kernel⟩
theorem bi_orders : BindsB "orders" s_orders P_orders := fun _ _ _ _ _ _ us hl => match us, hl with | [_], _ => rfl
abbrev s_all_rankings : Stmt := topS 12
abbrev N_all_rankings : List Str := ["size"]
abbrev P_all_rankings : List Str := ["size"]
theorem sc_all_rankings : FnScope N_all_rankings P_all_rankings (defScope s_all_rankings) := ⟨by decide +kernel, by decide +kernel, by decide +kernel, by decide +kernel, rfl, by decide +kernel, by decide +kernel⟩
theorem bi_all_rankings : BindsB "all_rankings" s_all_rankings P_all_rankings := fun _ _ _ _ _ _ us hl => match us, hl with | [_], _ => rfl
abbrev s_inversions : Stmt := topS 14
abbrev N_inversions : List Str := ["order", "found", "k", "rank", "other"]
abbrev P_inversions : List Str := ["order"]
theorem sc_inversions : FnScope N_inversions P_inversions (defScope s_inversions) := ⟨by decide +kernel, by decide +kernel, by decide +kernel, by decide +kernel, rfl, by decide +kernel, by decide +kernel⟩
theorem bi_inversions : BindsB "inversions" s_inversions P_inversions := fun _ _ _ _ _ _ us hl => match us, hl with | [_], _ => rfl
abbrev s_squares_of : Stmt := topS 15
abbrev N_squares_of : List Str := ["order", "k", "rank"]
abbrev P_squares_of : List Str := ["order"]
theorem sc_squares_of : FnScope N_squares_of P_squares_of (defScope s_squares_of) := ⟨by decide +kernel, by decide +kernel, by decide +kernel, by decide +kernel, rfl, by decide +kernel, by decide +kernel⟩
theorem bi_squares_of : BindsB "squares_of" s_squares_of P_squares_of := fun _ _ _ _ _ _ us hl => match us, hl with | [_], _ => rfl
abbrev s_count_with : Stmt := topS 17
abbrev N_count_with : List Str := ["size", "many", "ways", "things", "longer", "k"]
abbrev P_count_with : List Str := ["size", "many"]
theorem sc_count_with : FnScope N_count_with P_count_with (defScope s_count_with) := ⟨by decide +kernel, by decide +kernel, by decide +kernel, by decide +kernel, rfl, by decide +kernel, by decide +kernel⟩
theorem bi_count_with : BindsB "count_with" s_count_with P_count_with := fun _ _ _ _ _ _ us hl => match us, hl with | [_, _], _ => rfl
abbrev s_value_table : Stmt := topS 18
abbrev N_value_table : List Str := ["size", "known", "order", "key"]
abbrev P_value_table : List Str := ["size"]
theorem sc_value_table : FnScope N_value_table P_value_table (defScope s_value_table) := ⟨by decide +kernel, by decide +kernel, by decide +kernel, by decide +kernel, rfl, by decide +kernel, by decide +kernel⟩
theorem bi_value_table : BindsB "value_table" s_value_table P_value_table := fun _ _ _ _ _ _ us hl => match us, hl with | [_], _ => rfl
abbrev s_orders_with : Stmt := topS 19
abbrev N_orders_with : List Str := ["size", "many", "squares", "order"]
abbrev P_orders_with : List Str := ["size", "many", "squares"]
theorem sc_orders_with : FnScope N_orders_with P_orders_with (defScope s_orders_with) := ⟨by decide +kernel, by decide +kernel, by decide +kernel, by decide +kernel, rfl, by decide +kernel, by decide +kernel⟩
theorem bi_orders_with : BindsB "orders_with" s_orders_with P_orders_with := fun _ _ _ _ _ _ us hl => match us, hl with | [_, _, _], _ => rfl
abbrev s_can_be : Stmt := topS 20
abbrev N_can_be : List Str := ["size", "many", "squares"]
abbrev P_can_be : List Str := ["size", "many", "squares"]
theorem sc_can_be : FnScope N_can_be P_can_be (defScope s_can_be) := ⟨by decide +kernel, by decide +kernel, by decide +kernel, by decide +kernel, rfl, by decide +kernel, by decide +kernel⟩
theorem bi_can_be : BindsB "can_be" s_can_be P_can_be := fun _ _ _ _ _ _ us hl => match us, hl with | [_, _, _], _ => rfl
abbrev s_first_with : Stmt := topS 21
abbrev N_first_with : List Str := ["size", "many", "squares", "found"]
abbrev P_first_with : List Str := ["size", "many", "squares"]
theorem sc_first_with : FnScope N_first_with P_first_with (defScope s_first_with) := ⟨by decide +kernel, by decide +kernel, by decide +kernel, by decide +kernel, rfl, by decide +kernel, by decide +kernel⟩
theorem bi_first_with : BindsB "first_with" s_first_with P_first_with := fun _ _ _ _ _ _ us hl => match us, hl with | [_, _, _], _ => rfl
abbrev s_order_at : Stmt := topS 22
abbrev N_order_at : List Str := ["size", "many", "squares", "rank", "found"]
abbrev P_order_at : List Str := ["size", "many", "squares", "rank"]
theorem sc_order_at : FnScope N_order_at P_order_at (defScope s_order_at) := ⟨by decide +kernel, by decide +kernel, by decide +kernel, by decide +kernel, rfl, by decide +kernel, by decide +kernel⟩
theorem bi_order_at : BindsB "order_at" s_order_at P_order_at := fun _ _ _ _ _ _ us hl => match us, hl with | [_, _, _, _], _ => rfl
abbrev s__law_true : Stmt := topS 28
abbrev N__law_true : List Str := ["value", "expected"]
abbrev P__law_true : List Str := ["value", "expected"]
theorem sc__law_true : FnScope N__law_true P__law_true (defScope s__law_true) := ⟨by decide +kernel, by decide +kernel, by decide +kernel, by decide +kernel, rfl, by decide +kernel, by decide +kernel⟩
theorem bi__law_true : BindsB "_law_true" s__law_true P__law_true := fun _ _ _ _ _ _ us hl => match us, hl with | [_, _], _ => rfl
abbrev s__law_against : Stmt := topS 29
abbrev N__law_against : List Str := ["one", "other", "found", "k", "j"]
abbrev P__law_against : List Str := ["one", "other"]
theorem sc__law_against : FnScope N__law_against P__law_against (defScope s__law_against) := ⟨by decide +kernel, by decide +kernel, by decide +kernel, by decide +kernel, rfl, by decide +kernel, by decide +kernel⟩
theorem bi__law_against : BindsB "_law_against" s__law_against P__law_against := fun _ _ _ _ _ _ us hl => match us, hl with | [_, _], _ => rfl
abbrev s__law_squares : Stmt := topS 30
abbrev N__law_squares : List Str := ["one", "other", "a", "b"]
abbrev P__law_squares : List Str := ["one", "other"]
theorem sc__law_squares : FnScope N__law_squares P__law_squares (defScope s__law_squares) := ⟨by decide +kernel, by decide +kernel, by decide +kernel, by decide +kernel, rfl, by decide +kernel, by decide +kernel⟩
theorem bi__law_squares : BindsB "_law_squares" s__law_squares P__law_squares := fun _ _ _ _ _ _ us hl => match us, hl with | [_, _], _ => rfl
abbrev s__law_all : Stmt := topS 31
abbrev N__law_all : List Str := ["size", "rows", "k", "longer_rows", "row", "rank"]
abbrev P__law_all : List Str := ["size"]
theorem sc__law_all : FnScope N__law_all P__law_all (defScope s__law_all) := ⟨by decide +kernel, by decide +kernel, by decide +kernel, by decide +kernel, rfl, by decide +kernel, by decide +kernel⟩
theorem bi__law_all : BindsB "_law_all" s__law_all P__law_all := fun _ _ _ _ _ _ us hl => match us, hl with | [_], _ => rfl
abbrev s__law_call : Stmt := topS 32
abbrev N__law_call : List Str := ["kind", "size", "many", "squares", "rank", "found", "caught", "e"]
abbrev P__law_call : List Str := ["kind", "size", "many", "squares", "rank"]
theorem sc__law_call : FnScope N__law_call P__law_call (defScope s__law_call) := ⟨by decide +kernel, by decide +kernel, by decide +kernel, by decide +kernel, rfl, by decide +kernel, by decide +kernel⟩
theorem bi__law_call : BindsB "_law_call" s__law_call P__law_call := fun _ _ _ _ _ _ us hl => match us, hl with | [_, _, _, _, _], _ => rfl
abbrev s_law : Stmt := topS 33
abbrev N_law : List Str := ["script", "draws", "size", "straight", "known", "rows", "row", "key", "many", "squares", "good", "rank", "counted", "great", "whole", "product", "k"]
abbrev P_law : List Str := ["script"]
theorem sc_law : FnScope N_law P_law (defScope s_law) := ⟨by decide +kernel, by decide +kernel, by decide +kernel, by decide +kernel, rfl, by decide +kernel, by decide +kernel⟩
theorem bi_law : BindsB "law" s_law P_law := fun _ _ _ _ _ _ us hl => match us, hl with | [_], _ => rfl
/-! what the top holds -/
structure Top (K : PySem.W.Frag) (mg : Str → Option Value) : Prop where
  n_len : mg "len" = none
  n_max : mg "max" = none
  n_min : mg "min" = none
  n_sum : mg "sum" = none
  n_sorted : mg "sorted" = none
  n_list : mg "list" = none
  n_isinstance : mg "isinstance" = none
  n_range : mg "range" = none
  n_zip : mg "zip" = none
  n_enumerate : mg "enumerate" = none
  n_int : mg "int" = none
  n_bool : mg "bool" = none
  x_MOST_SMALL : ∃ t, mg "MOST_SMALL" = some (.int 6 t)
  e_BadNumber : XOk K mg "BadNumber"
  e_NotFound : XOk K mg "NotFound"
  xt : ∃ C R, XTop K mg C R
  n_ValueError : mg "ValueError" = none
  f__law_start : ∃ f fd, Fun K "_law_start" "_law_start" s__law_start f fd ∧ mg "_law_start" = some (.ref f)
  f__law_draw : ∃ f fd, Fun K "_law_draw" "_law_draw" s__law_draw f fd ∧ mg "_law_draw" = some (.ref f)
  f__law_pick : ∃ f fd, Fun K "_law_pick" "_law_pick" s__law_pick f fd ∧ mg "_law_pick" = some (.ref f)
  f__law_error : ∃ f fd, Fun K "_law_error" "_law_error" s__law_error f fd ∧ mg "_law_error" = some (.ref f)
  f_is_int : ∃ f fd, Fun K "is_int" "is_int" s_is_int f fd ∧ mg "is_int" = some (.ref f)
  f_check_size : ∃ f fd, Fun K "check_size" "check_size" s_check_size f fd ∧ mg "check_size" = some (.ref f)
  f_orders : ∃ f fd, Fun K "orders" "orders" s_orders f fd ∧ mg "orders" = some (.ref f)
  f_all_rankings : ∃ f fd, Fun K "all_rankings" "all_rankings" s_all_rankings f fd ∧ mg "all_rankings" = some (.ref f)
  f_inversions : ∃ f fd, Fun K "inversions" "inversions" s_inversions f fd ∧ mg "inversions" = some (.ref f)
  f_squares_of : ∃ f fd, Fun K "squares_of" "squares_of" s_squares_of f fd ∧ mg "squares_of" = some (.ref f)
  f_count_with : ∃ f fd, Fun K "count_with" "count_with" s_count_with f fd ∧ mg "count_with" = some (.ref f)
  f_value_table : ∃ f fd, Fun K "value_table" "value_table" s_value_table f fd ∧ mg "value_table" = some (.ref f)
  f_orders_with : ∃ f fd, Fun K "orders_with" "orders_with" s_orders_with f fd ∧ mg "orders_with" = some (.ref f)
  f_can_be : ∃ f fd, Fun K "can_be" "can_be" s_can_be f fd ∧ mg "can_be" = some (.ref f)
  f_first_with : ∃ f fd, Fun K "first_with" "first_with" s_first_with f fd ∧ mg "first_with" = some (.ref f)
  f_order_at : ∃ f fd, Fun K "order_at" "order_at" s_order_at f fd ∧ mg "order_at" = some (.ref f)
  f__law_true : ∃ f fd, Fun K "_law_true" "_law_true" s__law_true f fd ∧ mg "_law_true" = some (.ref f)
  f__law_against : ∃ f fd, Fun K "_law_against" "_law_against" s__law_against f fd ∧ mg "_law_against" = some (.ref f)
  f__law_squares : ∃ f fd, Fun K "_law_squares" "_law_squares" s__law_squares f fd ∧ mg "_law_squares" = some (.ref f)
  f__law_all : ∃ f fd, Fun K "_law_all" "_law_all" s__law_all f fd ∧ mg "_law_all" = some (.ref f)
  f__law_call : ∃ f fd, Fun K "_law_call" "_law_call" s__law_call f fd ∧ mg "_law_call" = some (.ref f)
  f_law : ∃ f fd, Fun K "law" "law" s_law f fd ∧ mg "law" = some (.ref f)
section
variable {P : Program} {w : World} {K : PySem.W.Frag} {mg : Str → Option Value} {base : Heap}

theorem k__law_start (T : Top K mg) : Known P w K mg base 1 "_law_start" P__law_start (spStart K) := known_sp T.f__law_start sc__law_start bi__law_start (fun vs H Q E h => by obtain ⟨a, ns, rfl, _⟩ := h; rfl) 1 rfl fun X F hp vs H Q E h => ⟨tStart X.K,
  pss_one (ps_ret (pe_lst (pa_cons (pe_ifExp (pt_cmpR (op_neD (F.units64 ())) (vv F 0) (pe_lst pa_nil) (nomark _)) (pe_callTy call_list_of (F.gl_ok (by decide +kernel) ()) (F.none T.n_list ()) PyProof.Rows.boot_list (pa_cons (vv F 0) pa_nil)) (pe_lst (pa_cons pe_int pa_nil))) (pa_cons pe_int pa_nil)))),
  start_reads (K := X.K) vs H Q E (by have e : X.K = K := F.kk (); rw [e]; exact h)⟩
theorem k__law_draw (T : Top K mg) : Known P w K mg base 1 "_law_draw" P__law_draw spDraw := known_sp T.f__law_draw sc__law_draw bi__law_draw (fun vs H Q E h => by obtain ⟨ad, an, n, rfl, _⟩ := h; rfl) 1 rfl fun X F hp vs H Q E h => ⟨tDraw X.K,
  pss_cons (sset F 2 (pe_ix ix_list (vv F 0) pe_int (fun _ _ => rfl)))
  (pss_cons (ps_asg (pe_op op_add (pe_ix ix_list (vv F 0) pe_int (fun _ _ => rfl)) pe_int) (pg_sub (vv F 0) pe_int set_list))
  (pss_cons (sset F 3 (pe_op op_modN (pe_ix ix_list (vv F 0) pe_int (fun _ _ => rfl)) (elen F T.n_len (vv F 2))))
  (pss_cons (sset F 4 (pe_ix ix_list (vv F 2) (vv F 3) (fun _ _ => rfl)))
  (pss_cons (ps_if (pt_cmpR op_ge (vv F 4) pe_int (nomark _)) (pss_cons (ps_asg (pe_op op_fdiv (vv F 4) (vv F 1)) (pg_sub (vv F 2) (vv F 3) set_list)) (pss_one (ps_ret (pe_op op_mod (vv F 4) (vv F 1))))) pss_nil)
  (pss_cons (sset F 5 (pe_op op_mod (pe_op op_add (vv F 4) (pe_op op_mul pe_int (pe_ix ix_list (vv F 0) pe_int (fun _ _ => rfl)))) pe_int))
  (pss_cons (sset F 5 (pe_op op_mod (pe_op op_pow (vv F 5) pe_int) pe_int))
  (pss_one (ps_ret (pe_op op_mod (pe_op op_fdiv (pe_op op_mod (pe_op op_add (pe_op op_mul (pe_op op_fdiv (vv F 5) pe_int) pe_int) (vv F 5)) pe_int) pe_int) (vv F 1)))))))))),
  draw_reads vs H Q E h⟩


theorem k__law_pick (T : Top K mg) : Known P w K mg base 2 "_law_pick" P__law_pick spPick := known_sp T.f__law_pick sc__law_pick bi__law_pick (fun vs H Q E h => by obtain ⟨ad, an, b, xs, rfl, _⟩ := h; rfl) 2 rfl fun X F hp vs H Q E h => ⟨tPick X.K,
  pss_one (ps_ret (pe_ix ix_list (vv F 1) (ecall2 F (k__law_draw T) (pa_cons (vv F 0) (pa_cons (elen F T.n_len (vv F 1)) pa_nil))) (fun _ _ => rfl))),
  pick_reads vs H Q E h⟩


section
variable {C : Nat → Addr} {R : Addr}
noncomputable def F_err (E : Addr) (b0 b1 b2 b3 b4 : Bool) : En → Out := sSeq (sSet 1 (apL dLst (fCons (fIsX (.ref E) b0 0) (fCons (fIsX (.ref E) b1 0) (fCons (fIsX (.ref E) b2 0) fNil)))))
  (sSeq (sSet 1 (ap2 dAdd (fVar 1) (apL dLst (fCons (fIsX (.ref E) b3 0) (fCons (fIsX (.ref E) b4 0) fNil)))))
  (sSeq (sIf (tOrr (tVal (ap2 dNe (apML dCountD (fVar 1) (fCons (fC (.bool true)) fNil)) (fC (.int 1)))) (tOrr (tNt (tVal (fIsX (.ref E) true 0))) (tNt (tVal (fIsX (.ref E) true 0))))) (sRet (fC (.str "odd"))) sNil)
  (sRet (ap2 dIx (apL dLst (fCons (fC (.str "ranking")) (fCons (fC (.str "scores")) (fCons (fC (.str "number")) (fCons (fC (.str "text")) (fCons (fC (.str "none")) fNil)))))) (apML dIndex (fVar 1) (fCons (fC (.bool true)) fNil))))))
theorem F_err_at (E : Addr) (c : Nat) (hc : c < 5) : F_err E (decide (c = 0)) (decide (c = 1)) (decide (c = 2)) (decide (c = 3)) (decide (c = 4)) [some (.xo (.ref E)), none] = .rt (.str (eNm c)) := by
  have e : ∀ b (x : Option Sl), fIsX (.ref E) b 0 [some (.xo (.ref E)), x] = .ok (.bool b) := fun b x => fIsX_0
  have k1 : ∀ b0 b1 b2, sSet 1 (apL dLst (fCons (fIsX (.ref E) b0 0) (fCons (fIsX (.ref E) b1 0) (fCons (fIsX (.ref E) b2 0) fNil)))) [some (.xo (.ref E)), none] = .nx [some (.xo (.ref E)), some (.sh (.list [.bool b0, .bool b1, .bool b2]))] := fun b0 b1 b2 => by
    unfold sSet apL fCons
    rw [e, e, e]
    rfl
  have k2 : ∀ l b3 b4, l.length = 3 → sSet 1 (ap2 dAdd (fVar 1) (apL dLst (fCons (fIsX (.ref E) b3 0) (fCons (fIsX (.ref E) b4 0) fNil)))) [some (.xo (.ref E)), some (.sh (.list l))] = .nx [some (.xo (.ref E)), some (.sh (.list (l ++ [.bool b3, .bool b4])))] := fun l b3 b4 hl => by
    unfold sSet ap2 apL fCons
    rw [e, e]
    show ofR (if l.length + 2 ≤ LIM then _ else _) _ _ = _
    rw [hl]
    rfl
  have k3 : ∀ l, PyData.eqv (.int (l.countP (fun z => PyData.eqv z (.bool true)) : Nat)) (.int 1) = true → SeqAt.shaped (.list l) = true → sIf (tOrr (tVal (ap2 dNe (apML dCountD (fVar 1) (fCons (fC (.bool true)) fNil)) (fC (.int 1)))) (tOrr (tNt (tVal (fIsX (.ref E) true 0))) (tNt (tVal (fIsX (.ref E) true 0))))) (sRet (fC (.str "odd"))) sNil [some (.xo (.ref E)), some (.sh (.list l))] = .nx [some (.xo (.ref E)), some (.sh (.list l))] := fun l h1 h2 => by
    have q : tOrr (tVal (ap2 dNe (apML dCountD (fVar 1) (fCons (fC (.bool true)) fNil)) (fC (.int 1)))) (tOrr (tNt (tVal (fIsX (.ref E) true 0))) (tNt (tVal (fIsX (.ref E) true 0)))) [some (.xo (.ref E)), some (.sh (.list l))] = .ok false := by
      have q1 : apML dCountD (fVar 1) (fCons (fC (.bool true)) fNil) [some (.xo (.ref E)), some (.sh (.list l))] = .ok (.int (l.countP (fun z => PyData.eqv z (.bool true)) : Nat)) := by
        show dCountD l [.bool true] = _
        unfold dCountD
        exact if_pos ⟨h2, rfl⟩
      have q2 : tVal (ap2 dNe (apML dCountD (fVar 1) (fCons (fC (.bool true)) fNil)) (fC (.int 1))) [some (.xo (.ref E)), some (.sh (.list l))] = .ok false := by
        unfold tVal ap2
        rw [q1]
        show (dNe (.int (l.countP (fun z => PyData.eqv z (.bool true)) : Nat)) (.int 1)).bind dBool = _
        unfold dNe
        rw [h1]
        rfl
      have q3 : tNt (tVal (fIsX (.ref E) true 0)) [some (.xo (.ref E)), some (.sh (.list l))] = .ok false := by
        unfold tNt tVal
        rw [e]
        rfl
      unfold tOrr
      rw [q2, q3]
      rfl
    unfold sIf
    rw [q]
    rfl
  unfold F_err sSeq
  rw [k1]
  dsimp only
  rw [k2 _ _ _ rfl]
  dsimp only
  match c, hc with
  | 0, _ => rw [k3 _ (by decide +kernel) (by decide +kernel)]; rfl
  | 1, _ => rw [k3 _ (by decide +kernel) (by decide +kernel)]; rfl
  | 2, _ => rw [k3 _ (by decide +kernel) (by decide +kernel)]; rfl
  | 3, _ => rw [k3 _ (by decide +kernel) (by decide +kernel)]; rfl
  | 4, _ => rw [k3 _ (by decide +kernel) (by decide +kernel)]; rfl
theorem b__law_error (T : Top K mg) (X : XTop K mg C R) (c : Nat) (hc : c < 5) {Xs : Unit → Cx} (F : Fam Xs P w K mg base N__law_error (defScope s__law_error) (fun _ => true) 0) :
    SSs cv0 W0 .dat Xs (defBody s__law_error) (F_err (C c) (decide (c = 0)) (decide (c = 1)) (decide (c = 2)) (decide (c = 3)) (decide (c = 4))) :=
  (s_cons (s_set F 1 (e_lst (a_cons (e_isX F 0 (X.exc c hc) (X.kit c 0 hc (by decide)) T.n_isinstance (X.cls 0)) (a_cons (e_isX F 0 (X.exc c hc) (X.kit c 1 hc (by decide)) T.n_isinstance (X.cls 1)) (a_cons (e_isX F 0 (X.exc c hc) (X.kit c 2 hc (by decide)) T.n_isinstance (X.cls 2)) a_nil)))).e)
  (s_cons (s_set F 1 (e_add F (b_var F 1) (e_lst (a_cons (e_isX F 0 (X.exc c hc) (X.kit c 3 hc (by decide)) T.n_isinstance (X.cls 3)) (a_cons (e_isX F 0 (X.exc c hc) (X.kit c 4 hc (by decide)) T.n_isinstance (X.cls 4)) a_nil))).e.b))
  (s_cons (s_if (w_or (t_ne F (e_countD F (b_var F 1) (e_bool).b).b (e_int).b) (w_or (t_not (t_val (e_isX F 0 (X.exc c hc) (X.kitR c hc) T.n_isinstance X.base))) (w_or1 (t_not (t_val (e_isXB F 0 (X.exc c hc) (X.kitV c hc) T.n_isinstance T.n_ValueError (by decide +kernel))))))).tt (s_one (s_ret e_str)) s_nil)
  (s_one (s_ret (e_ix F (e_lst (a_cons e_str (a_cons e_str (a_cons e_str (a_cons e_str (a_cons e_str a_nil)))))).e.b (e_index F (b_var F 1) (e_bool).b).b))))))
theorem k__law_error (T : Top K mg) : KnownE P w K mg base 1 := by
  obtain ⟨C, R, X⟩ := T.xt
  refine known_err T.f__law_error sc__law_error bi__law_error fun c hc Xs F => ⟨_, b__law_error T X c hc F, ?_⟩
  rw [X.cv]
  exact F_err_at (C c) c hc
end

theorem b_is_int (T : Top K mg) {W : WX} {Xs : Unit → Cx} (F : Fam Xs P w K mg base N_is_int (defScope s_is_int) (fun _ => true) 0) (tk : ∀ j, Takes (Xs j) W) (hp : ∀ j, PassesOwn (model (Xs j).prog (Xs j).w) (Xs j).A (Xs j).env (Xs j).xe) (hq : ∀ j, (Xs j).stack = (Xs j).env :: (Xs j).outer ∧ (Xs j).env.frame = some (Xs j).env.locals ∧ (Xs j).ex = []) : SSs (cvM mg) W .dat Xs (defBody s_is_int) (F_is_int) :=
  (s_one (s_ret (e_and (e_isi F tg_int T.n_isinstance T.n_int PyProof.Rows.boot_int (b_var F 0)) (e_and (e_not (e_isi F tg_bool T.n_isinstance T.n_bool (by decide +kernel) (b_var F 0))) (e_one (e_chain (fun _ => op_le) ope_le noer_le (fun _ => op_le) ope_le noer_le (b_var F 1) (b_var F 0) (b_var F 2)))))))
theorem k_is_int (T : Top K mg) : KnownX P w K mg base 1 "is_int" P_is_int (spX mg 3 C_is_int) := knownX_fn T.f_is_int sc_is_int bi_is_int 3 3 1 rfl rfl rfl fun W Xs F tk hp hq => b_is_int T  F tk hp hq
theorem b_check_size (T : Top K mg) (G_is_int : KnownX P w K mg base 1 "is_int" P_is_int (spX mg 3 C_is_int)) {W : WX} {Xs : Unit → Cx} (F : Fam Xs P w K mg base N_check_size (defScope s_check_size) (fun _ => true) 1) (tk : ∀ j, Takes (Xs j) W) (hp : ∀ j, PassesOwn (model (Xs j).prog (Xs j).w) (Xs j).A (Xs j).env (Xs j).xe) (hq : ∀ j, (Xs j).stack = (Xs j).env :: (Xs j).outer ∧ (Xs j).env.frame = some (Xs j).env.locals ∧ (Xs j).ex = []) : SSs (cvM mg) W .dat Xs (defBody s_check_size) (F_check_size) :=
  (s_one (s_if (t_not (t_val (e_callX F tk G_is_int (a_cons (e_var F 0) (a_cons e_int (a_cons (e_globI F T.x_MOST_SMALL.choose_spec) a_nil)))))) (s_one (s_raise F tk 2 T.e_BadNumber)) s_nil))
theorem k_check_size (T : Top K mg) : KnownX P w K mg base 2 "check_size" P_check_size (spX mg 1 C_check_size) := knownX_fn T.f_check_size sc_check_size bi_check_size 1 1 2 rfl rfl rfl fun W Xs F tk hp hq => b_check_size T (k_is_int T) F tk hp hq
theorem b_orders (T : Top K mg) {fuel : Nat} (G_orders : KnownX P w K mg base (1 + fuel) "orders" P_orders (spX mg 1 (C_orders fuel))) {W : WX} {Xs : Unit → Cx} (F : Fam Xs P w K mg base N_orders (defScope s_orders) (fun _ => true) (1 + fuel)) (tk : ∀ j, Takes (Xs j) W) (hp : ∀ j, PassesOwn (model (Xs j).prog (Xs j).w) (Xs j).A (Xs j).env (Xs j).xe) (hq : ∀ j, (Xs j).stack = (Xs j).env :: (Xs j).outer ∧ (Xs j).env.frame = some (Xs j).env.locals ∧ (Xs j).ex = []) : SSs (cvM mg) W .dat Xs (defBody s_orders) (F_orders (fun _ => C_orders fuel) fuel) :=
  (s_cons (s_if (t_eq F (b_var F 0) (e_lst a_nil).e.b) (s_one (s_ret (e_lst (a_cons (e_lst a_nil).e a_nil)).e)) s_nil)
  (s_cons (s_own F 1 (e_lst a_nil))
  (s_cons (s_for F hp [2, 3] (is_enum F T.n_enumerate (a_cons (e_var F 0) a_nil)) (g_tup F (gs_cons F 2 (gs_cons F 3 gs_nil)))
  (s_one (s_ext F 1 (f_comp (W' := W0) F [("rest", 4)] (i_list F (e_callX (hk := Nat.le_refl _) F tk G_orders (a_cons (e_add F (e_slice F (b_var F 0) o_none (o_some (b_var F 2))).b (e_slice F (b_var F 0) (o_some (e_add F (b_var F 2) (e_int).b).b) o_none).b) a_nil)).b) (fun F1 => (g_name F1 4)) (fun F1 => ts_nil) (fun F1 => (e_add F1 (e_lst (a_cons (e_var F1 3) a_nil)).e.b (b_var F1 4)))).e.b)))
  (s_one (s_frz 1 (s_ret (e_var F 1)))))))
theorem k_orders_n (T : Top K mg) : ∀ fuel, KnownX P w K mg base (1 + fuel) "orders" P_orders (spX mg 1 (C_orders fuel))
  | 0 => knownX_none (k := 0) T.f_orders sc_orders bi_orders 1 (1 + 0) rfl rfl
  | fuel + 1 => knownX_fn T.f_orders sc_orders bi_orders 1 5 (1 + (fuel + 1)) rfl rfl rfl fun W Xs F tk hp hq => b_orders T (k_orders_n T fuel) F tk hp hq
theorem k_orders (T : Top K mg) : KnownX P w K mg base 9 "orders" P_orders (spX mg 1 (C_orders 8)) := k_orders_n T 8
theorem b_all_rankings (T : Top K mg) (G_check_size : KnownX P w K mg base 2 "check_size" P_check_size (spX mg 1 C_check_size)) (G_orders : KnownX P w K mg base 9 "orders" P_orders (spX mg 1 (C_orders 8))) {W : WX} {Xs : Unit → Cx} (F : Fam Xs P w K mg base N_all_rankings (defScope s_all_rankings) (fun _ => true) 9) (tk : ∀ j, Takes (Xs j) W) (hp : ∀ j, PassesOwn (model (Xs j).prog (Xs j).w) (Xs j).A (Xs j).env (Xs j).xe) (hq : ∀ j, (Xs j).stack = (Xs j).env :: (Xs j).outer ∧ (Xs j).env.frame = some (Xs j).env.locals ∧ (Xs j).ex = []) : SSs (cvM mg) W .dat Xs (defBody s_all_rankings) (F_all_rankings) :=
  (s_cons (s_expr (e_callX F tk G_check_size (a_cons (e_var F 0) a_nil)))
  (s_one (s_ret (e_callX F tk G_orders (a_cons (f_list_range2 F T.n_list T.n_range (e_int).b (e_add F (b_var F 0) (e_int).b).b).e a_nil)))))
theorem k_all_rankings (T : Top K mg) : KnownX P w K mg base 10 "all_rankings" P_all_rankings (spX mg 1 C_all_rankings) := knownX_fn T.f_all_rankings sc_all_rankings bi_all_rankings 1 1 10 rfl rfl rfl fun W Xs F tk hp hq => b_all_rankings T (k_check_size T) (k_orders T) F tk hp hq
theorem b_inversions (T : Top K mg) {W : WX} {Xs : Unit → Cx} (F : Fam Xs P w K mg base N_inversions (defScope s_inversions) (fun _ => true) 0) (tk : ∀ j, Takes (Xs j) W) (hp : ∀ j, PassesOwn (model (Xs j).prog (Xs j).w) (Xs j).A (Xs j).env (Xs j).xe) (hq : ∀ j, (Xs j).stack = (Xs j).env :: (Xs j).outer ∧ (Xs j).env.frame = some (Xs j).env.locals ∧ (Xs j).ex = []) : SSs (cvM mg) W .dat Xs (defBody s_inversions) (F_inversions) :=
  (s_cons (s_set F 1 e_int)
  (s_cons (s_for F hp [2, 3] (is_enum F T.n_enumerate (a_cons (e_var F 0) a_nil)) (g_tup F (gs_cons F 2 (gs_cons F 3 gs_nil)))
  (s_one (s_aug F (fun _ => iop_add) ope_addI noer_addI 1 (e_len F T.n_len (f_comp (W' := W0) F [("other", 4)] (i_list F (e_slice F (b_var F 0) (o_some (e_add F (b_var F 2) (e_int).b).b) o_none).b) (fun F1 => (g_name F1 4)) (fun F1 => (ts_one (t_lt (b_var F1 4) (b_var F1 3)))) (fun F1 => (e_var F1 4))).e.b).b)))
  (s_one (s_ret (e_var F 1)))))
theorem k_inversions (T : Top K mg) : KnownX P w K mg base 1 "inversions" P_inversions (spX mg 1 C_inversions) := knownX_fn T.f_inversions sc_inversions bi_inversions 1 5 1 rfl rfl rfl fun W Xs F tk hp hq => b_inversions T  F tk hp hq
theorem b_squares_of (T : Top K mg) {W : WX} {Xs : Unit → Cx} (F : Fam Xs P w K mg base N_squares_of (defScope s_squares_of) (fun _ => true) 0) (tk : ∀ j, Takes (Xs j) W) (hp : ∀ j, PassesOwn (model (Xs j).prog (Xs j).w) (Xs j).A (Xs j).env (Xs j).xe) (hq : ∀ j, (Xs j).stack = (Xs j).env :: (Xs j).outer ∧ (Xs j).env.frame = some (Xs j).env.locals ∧ (Xs j).ex = []) : SSs (cvM mg) W .dat Xs (defBody s_squares_of) (F_squares_of) :=
  (s_one (s_ret (e_sum F T.n_sum (f_comp (W' := W0) F [("k", 1), ("rank", 2)] (i_enum F T.n_enumerate (ab_cons (b_var F 0) ab_nil)) (fun F1 => (g_tup F1 (gs_cons F1 1 (gs_cons F1 2 gs_nil)))) (fun F1 => ts_nil) (fun F1 => (e_mul F1 (e_sub (e_sub (b_var F1 2) (b_var F1 1)).b (e_int).b).b (e_sub (e_sub (b_var F1 2) (b_var F1 1)).b (e_int).b).b))).e.b)))
theorem k_squares_of (T : Top K mg) : KnownX P w K mg base 1 "squares_of" P_squares_of (spX mg 1 C_squares_of) := knownX_fn T.f_squares_of sc_squares_of bi_squares_of 1 3 1 rfl rfl rfl fun W Xs F tk hp hq => b_squares_of T  F tk hp hq
theorem b_count_with (T : Top K mg) (G_is_int : KnownX P w K mg base 1 "is_int" P_is_int (spX mg 3 C_is_int)) {W : WX} {Xs : Unit → Cx} (F : Fam Xs P w K mg base N_count_with (defScope s_count_with) (fun _ => true) 1) (tk : ∀ j, Takes (Xs j) W) (hp : ∀ j, PassesOwn (model (Xs j).prog (Xs j).w) (Xs j).A (Xs j).env (Xs j).xe) (hq : ∀ j, (Xs j).stack = (Xs j).env :: (Xs j).outer ∧ (Xs j).env.frame = some (Xs j).env.locals ∧ (Xs j).ex = []) : SSs (cvM mg) W .dat Xs (defBody s_count_with) (F_count_with) :=
  (s_cons (s_if (t_not (t_val (e_callX F tk G_is_int (a_cons (e_var F 0) (a_cons e_int (a_cons e_int a_nil)))))) (s_one (s_raise F tk 2 T.e_BadNumber)) s_nil)
  (s_cons (s_if (t_not (t_val (e_callX F tk G_is_int (a_cons (e_var F 1) (a_cons e_int (a_cons e_int a_nil)))))) (s_one (s_raise F tk 2 T.e_BadNumber)) s_nil)
  (s_cons (s_set F 2 (e_lst (a_cons e_int a_nil)).e)
  (s_cons (s_for F hp [3, 4, 5] (is_range2 F T.n_range (e_int).b (e_add F (b_var F 0) (e_int).b).b) (g_name F 3)
  (s_cons (s_own F 4 (e_lst a_nil))
  (s_cons (s_for F hp [5] (is_range1 F T.n_range (e_sub (e_add F (e_len F T.n_len (b_var F 2)).b (b_var F 3)).b (e_int).b).b) (g_name F 5)
  (s_one (s_app F 4 (e_sum F T.n_sum (e_slice F (b_var F 2) (o_some (e_max2 F T.n_max (e_int).b (e_add F (e_sub (b_var F 5) (b_var F 3)).b (e_int).b).b).b) (o_some (e_add F (b_var F 5) (e_int).b).b)).b))))
  (s_one (s_frz 4 (s_set F 2 (e_var F 4)))))))
  (s_one (s_ret (e_ifx (t_lt (b_var F 1) (e_len F T.n_len (b_var F 2)).b) (e_ix F (b_var F 2) (b_var F 1)) e_int)))))))
theorem k_count_with (T : Top K mg) : KnownX P w K mg base 2 "count_with" P_count_with (spX mg 2 C_count_with) := knownX_fn T.f_count_with sc_count_with bi_count_with 2 6 2 rfl rfl rfl fun W Xs F tk hp hq => b_count_with T (k_is_int T) F tk hp hq
theorem b_value_table (T : Top K mg) (G_check_size : KnownX P w K mg base 2 "check_size" P_check_size (spX mg 1 C_check_size)) (G_all_rankings : KnownX P w K mg base 10 "all_rankings" P_all_rankings (spX mg 1 C_all_rankings)) (G_squares_of : KnownX P w K mg base 1 "squares_of" P_squares_of (spX mg 1 C_squares_of)) (G_inversions : KnownX P w K mg base 1 "inversions" P_inversions (spX mg 1 C_inversions)) {W : WX} {Xs : Unit → Cx} (F : Fam Xs P w K mg base N_value_table (defScope s_value_table) (fun _ => true) 10) (tk : ∀ j, Takes (Xs j) W) (hp : ∀ j, PassesOwn (model (Xs j).prog (Xs j).w) (Xs j).A (Xs j).env (Xs j).xe) (hq : ∀ j, (Xs j).stack = (Xs j).env :: (Xs j).outer ∧ (Xs j).env.frame = some (Xs j).env.locals ∧ (Xs j).ex = []) : SSs (cvM mg) W .dat Xs (defBody s_value_table) (F_value_table) :=
  (s_cons (s_expr (e_callX F tk G_check_size (a_cons (e_var F 0) a_nil)))
  (s_cons (s_dnew F 1)
  (s_cons (s_for F hp [2, 3] (is_list F (e_callX F tk G_all_rankings (a_cons (e_var F 0) a_nil))) (g_name F 2)
  (s_cons (s_set F 3 (e_tup (a_cons (e_callX F tk G_inversions (a_cons (e_var F 2) a_nil)) (a_cons (e_callX F tk G_squares_of (a_cons (e_var F 2) a_nil)) a_nil))))
  (s_one (s_dput F 1 (e_var F 3) (e_add F (e_dget2 F 1 (e_var F 3) e_int).b (e_int).b)))))
  (s_one (s_ret (f_comp (W' := W0) F [("key", 3)] (i_list F (f_dsort F T.n_sorted 1).e.b) (fun F1 => (g_name F1 3)) (fun F1 => ts_nil) (fun F1 => (e_add F1 (b_var F1 3) (e_tup (a_cons (e_dix F1 1 (e_var F1 3)) a_nil)).b))).e)))))
theorem k_value_table (T : Top K mg) : KnownX P w K mg base 11 "value_table" P_value_table (spX mg 1 C_value_table) := knownX_fn T.f_value_table sc_value_table bi_value_table 1 4 11 rfl rfl rfl fun W Xs F tk hp hq => b_value_table T (k_check_size T) (k_all_rankings T) (k_squares_of T) (k_inversions T) F tk hp hq
theorem b_orders_with (T : Top K mg) (G_check_size : KnownX P w K mg base 2 "check_size" P_check_size (spX mg 1 C_check_size)) (G_is_int : KnownX P w K mg base 1 "is_int" P_is_int (spX mg 3 C_is_int)) (G_all_rankings : KnownX P w K mg base 10 "all_rankings" P_all_rankings (spX mg 1 C_all_rankings)) (G_squares_of : KnownX P w K mg base 1 "squares_of" P_squares_of (spX mg 1 C_squares_of)) (G_inversions : KnownX P w K mg base 1 "inversions" P_inversions (spX mg 1 C_inversions)) {W : WX} {Xs : Unit → Cx} (F : Fam Xs P w K mg base N_orders_with (defScope s_orders_with) (fun _ => true) 10) (tk : ∀ j, Takes (Xs j) W) (hp : ∀ j, PassesOwn (model (Xs j).prog (Xs j).w) (Xs j).A (Xs j).env (Xs j).xe) (hq : ∀ j, (Xs j).stack = (Xs j).env :: (Xs j).outer ∧ (Xs j).env.frame = some (Xs j).env.locals ∧ (Xs j).ex = []) : SSs (cvM mg) W .dat Xs (defBody s_orders_with) (F_orders_with) :=
  (s_cons (s_expr (e_callX F tk G_check_size (a_cons (e_var F 0) a_nil)))
  (s_cons (s_if ((w_or (t_not (t_val (e_callX F tk G_is_int (a_cons (e_var F 1) (a_cons e_int (a_cons e_int a_nil)))))) (w_or1 (t_not (t_val (e_callX F tk G_is_int (a_cons (e_var F 2) (a_cons e_int (a_cons e_int a_nil))))))))).tt (s_one (s_raise F tk 2 T.e_BadNumber)) s_nil)
  (s_one (s_ret (f_comp (W' := W0) F [("order", 3)] (i_list F (e_callX F tk G_all_rankings (a_cons (e_var F 0) a_nil)).b) (fun F1 => (g_name F1 3)) (fun F1 => (ts_one (t_eq F1 (e_tup (a_cons (e_callX F1 (fun _ => takes0) G_inversions (a_cons (e_var F1 3) a_nil)) (a_cons (e_callX F1 (fun _ => takes0) G_squares_of (a_cons (e_var F1 3) a_nil)) a_nil))).b (e_tup (a_cons (e_var F1 1) (a_cons (e_var F1 2) a_nil))).b))) (fun F1 => (e_var F1 3))).e))))
theorem k_orders_with (T : Top K mg) : KnownX P w K mg base 11 "orders_with" P_orders_with (spX mg 3 C_orders_with) := knownX_fn T.f_orders_with sc_orders_with bi_orders_with 3 4 11 rfl rfl rfl fun W Xs F tk hp hq => b_orders_with T (k_check_size T) (k_is_int T) (k_all_rankings T) (k_squares_of T) (k_inversions T) F tk hp hq
theorem b_can_be (T : Top K mg) (G_orders_with : KnownX P w K mg base 11 "orders_with" P_orders_with (spX mg 3 C_orders_with)) {W : WX} {Xs : Unit → Cx} (F : Fam Xs P w K mg base N_can_be (defScope s_can_be) (fun _ => true) 11) (tk : ∀ j, Takes (Xs j) W) (hp : ∀ j, PassesOwn (model (Xs j).prog (Xs j).w) (Xs j).A (Xs j).env (Xs j).xe) (hq : ∀ j, (Xs j).stack = (Xs j).env :: (Xs j).outer ∧ (Xs j).env.frame = some (Xs j).env.locals ∧ (Xs j).ex = []) : SSs (cvM mg) W .dat Xs (defBody s_can_be) (F_can_be) :=
  (s_one (s_ret (e_ne F (e_callX F tk G_orders_with (a_cons (e_var F 0) (a_cons (e_var F 1) (a_cons (e_var F 2) a_nil)))).b (e_lst a_nil).e.b)))
theorem k_can_be (T : Top K mg) : KnownX P w K mg base 12 "can_be" P_can_be (spX mg 3 C_can_be) := knownX_fn T.f_can_be sc_can_be bi_can_be 3 3 12 rfl rfl rfl fun W Xs F tk hp hq => b_can_be T (k_orders_with T) F tk hp hq
theorem b_first_with (T : Top K mg) (G_orders_with : KnownX P w K mg base 11 "orders_with" P_orders_with (spX mg 3 C_orders_with)) {W : WX} {Xs : Unit → Cx} (F : Fam Xs P w K mg base N_first_with (defScope s_first_with) (fun _ => true) 11) (tk : ∀ j, Takes (Xs j) W) (hp : ∀ j, PassesOwn (model (Xs j).prog (Xs j).w) (Xs j).A (Xs j).env (Xs j).xe) (hq : ∀ j, (Xs j).stack = (Xs j).env :: (Xs j).outer ∧ (Xs j).env.frame = some (Xs j).env.locals ∧ (Xs j).ex = []) : SSs (cvM mg) W .dat Xs (defBody s_first_with) (F_first_with) :=
  (s_cons (s_set F 3 (e_callX F tk G_orders_with (a_cons (e_var F 0) (a_cons (e_var F 1) (a_cons (e_var F 2) a_nil)))))
  (s_cons (s_if (t_eq F (b_var F 3) (e_lst a_nil).e.b) (s_one (s_raise F tk 4 T.e_NotFound)) s_nil)
  (s_one (s_ret (e_ix F (b_var F 3) (e_int).b)))))
theorem k_first_with (T : Top K mg) : KnownX P w K mg base 12 "first_with" P_first_with (spX mg 3 C_first_with) := knownX_fn T.f_first_with sc_first_with bi_first_with 3 4 12 rfl rfl rfl fun W Xs F tk hp hq => b_first_with T (k_orders_with T) F tk hp hq
theorem b_order_at (T : Top K mg) (G_orders_with : KnownX P w K mg base 11 "orders_with" P_orders_with (spX mg 3 C_orders_with)) (G_is_int : KnownX P w K mg base 1 "is_int" P_is_int (spX mg 3 C_is_int)) {W : WX} {Xs : Unit → Cx} (F : Fam Xs P w K mg base N_order_at (defScope s_order_at) (fun _ => true) 11) (tk : ∀ j, Takes (Xs j) W) (hp : ∀ j, PassesOwn (model (Xs j).prog (Xs j).w) (Xs j).A (Xs j).env (Xs j).xe) (hq : ∀ j, (Xs j).stack = (Xs j).env :: (Xs j).outer ∧ (Xs j).env.frame = some (Xs j).env.locals ∧ (Xs j).ex = []) : SSs (cvM mg) W .dat Xs (defBody s_order_at) (F_order_at) :=
  (s_cons (s_set F 4 (e_callX F tk G_orders_with (a_cons (e_var F 0) (a_cons (e_var F 1) (a_cons (e_var F 2) a_nil)))))
  (s_cons (s_if (t_not (t_val (e_callX F tk G_is_int (a_cons (e_var F 3) (a_cons e_int (a_cons (e_sub (e_len F T.n_len (b_var F 4)).b (e_int).b) a_nil)))))) (s_one (s_raise F tk 2 T.e_BadNumber)) s_nil)
  (s_one (s_ret (e_ix F (b_var F 4) (b_var F 3))))))
theorem k_order_at (T : Top K mg) : KnownX P w K mg base 12 "order_at" P_order_at (spX mg 4 C_order_at) := knownX_fn T.f_order_at sc_order_at bi_order_at 4 5 12 rfl rfl rfl fun W Xs F tk hp hq => b_order_at T (k_orders_with T) (k_is_int T) F tk hp hq
theorem b__law_true (T : Top K mg) {W : WX} {Xs : Unit → Cx} (F : Fam Xs P w K mg base N__law_true (defScope s__law_true) (fun _ => true) 0) (tk : ∀ j, Takes (Xs j) W) (hp : ∀ j, PassesOwn (model (Xs j).prog (Xs j).w) (Xs j).A (Xs j).env (Xs j).xe) (hq : ∀ j, (Xs j).stack = (Xs j).env :: (Xs j).outer ∧ (Xs j).env.frame = some (Xs j).env.locals ∧ (Xs j).ex = []) : SSs (cvM mg) W .dat Xs (defBody s__law_true) (F__law_true) :=
  (s_one (s_ret (e_and (e_isi F tg_bool T.n_isinstance T.n_bool (by decide +kernel) (b_var F 0)) (e_one (e_eq F (b_var F 0) (b_var F 1))))))
theorem k__law_true (T : Top K mg) : KnownX P w K mg base 1 "_law_true" P__law_true (spX mg 2 C__law_true) := knownX_fn T.f__law_true sc__law_true bi__law_true 2 2 1 rfl rfl rfl fun W Xs F tk hp hq => b__law_true T  F tk hp hq
theorem b__law_against (T : Top K mg) {W : WX} {Xs : Unit → Cx} (F : Fam Xs P w K mg base N__law_against (defScope s__law_against) (fun _ => true) 0) (tk : ∀ j, Takes (Xs j) W) (hp : ∀ j, PassesOwn (model (Xs j).prog (Xs j).w) (Xs j).A (Xs j).env (Xs j).xe) (hq : ∀ j, (Xs j).stack = (Xs j).env :: (Xs j).outer ∧ (Xs j).env.frame = some (Xs j).env.locals ∧ (Xs j).ex = []) : SSs (cvM mg) W .dat Xs (defBody s__law_against) (F__law_against) :=
  (s_cons (s_own F 2 (e_lst a_nil))
  (s_cons (s_for F hp [3, 4] (is_range1 F T.n_range (e_len F T.n_len (b_var F 0)).b) (g_name F 3)
  (s_one (s_for F hp [4] (is_range2 F T.n_range (e_add F (b_var F 3) (e_int).b).b (e_len F T.n_len (b_var F 0)).b) (g_name F 4)
  (s_one (s_if (t_lt (e_mul F (e_sub (e_ix F (b_var F 0) (b_var F 3)).b (e_ix F (b_var F 0) (b_var F 4)).b).b (e_sub (e_ix F (b_var F 1) (b_var F 3)).b (e_ix F (b_var F 1) (b_var F 4)).b).b).b (e_int).b) (s_one (s_app F 2 (e_tup (a_cons (e_var F 3) (a_cons (e_var F 4) a_nil))))) s_nil)))))
  (s_one (s_frz 2 (s_ret (e_var F 2))))))
theorem k__law_against (T : Top K mg) : KnownX P w K mg base 1 "_law_against" P__law_against (spX mg 2 C__law_against) := knownX_fn T.f__law_against sc__law_against bi__law_against 2 5 1 rfl rfl rfl fun W Xs F tk hp hq => b__law_against T  F tk hp hq
theorem b__law_squares (T : Top K mg) {W : WX} {Xs : Unit → Cx} (F : Fam Xs P w K mg base N__law_squares (defScope s__law_squares) (fun _ => true) 0) (tk : ∀ j, Takes (Xs j) W) (hp : ∀ j, PassesOwn (model (Xs j).prog (Xs j).w) (Xs j).A (Xs j).env (Xs j).xe) (hq : ∀ j, (Xs j).stack = (Xs j).env :: (Xs j).outer ∧ (Xs j).env.frame = some (Xs j).env.locals ∧ (Xs j).ex = []) : SSs (cvM mg) W .dat Xs (defBody s__law_squares) (F__law_squares) :=
  (s_one (s_ret (e_sum F T.n_sum (f_comp (W' := W0) F [("a", 2), ("b", 3)] (i_zip F T.n_zip (ab_cons (b_var F 0) (ab_cons (b_var F 1) ab_nil))) (fun F1 => (g_tup F1 (gs_cons F1 2 (gs_cons F1 3 gs_nil)))) (fun F1 => ts_nil) (fun F1 => (e_mul F1 (e_sub (b_var F1 2) (b_var F1 3)).b (e_sub (b_var F1 2) (b_var F1 3)).b))).e.b)))
theorem k__law_squares (T : Top K mg) : KnownX P w K mg base 1 "_law_squares" P__law_squares (spX mg 2 C__law_squares) := knownX_fn T.f__law_squares sc__law_squares bi__law_squares 2 4 1 rfl rfl rfl fun W Xs F tk hp hq => b__law_squares T  F tk hp hq
theorem b__law_all (T : Top K mg) {W : WX} {Xs : Unit → Cx} (F : Fam Xs P w K mg base N__law_all (defScope s__law_all) (fun _ => true) 0) (tk : ∀ j, Takes (Xs j) W) (hp : ∀ j, PassesOwn (model (Xs j).prog (Xs j).w) (Xs j).A (Xs j).env (Xs j).xe) (hq : ∀ j, (Xs j).stack = (Xs j).env :: (Xs j).outer ∧ (Xs j).env.frame = some (Xs j).env.locals ∧ (Xs j).ex = []) : SSs (cvM mg) W .dat Xs (defBody s__law_all) (F__law_all) :=
  (s_cons (s_set F 1 (e_lst (a_cons (e_lst a_nil).e a_nil)).e)
  (s_cons (s_for F hp [2, 3, 4] (is_range1 F T.n_range (b_var F 0)) (g_name F 2)
  (s_cons (s_set F 3 (e_lst a_nil).e)
  (s_cons (s_for F hp [4] (is_list F (e_var F 1)) (g_name F 4)
  (s_one (s_set F 3 (e_add F (b_var F 3) (f_comp (W' := W0) F [("rank", 5)] (is_range2 F T.n_range (e_int).b (e_add F (b_var F 0) (e_int).b).b).i (fun F1 => (g_name F1 5)) (fun F1 => (ts_one (t_notIn F1 (b_var F1 5) (b_var F1 4)))) (fun F1 => (e_add F1 (b_var F1 4) (e_lst (a_cons (e_var F1 5) a_nil)).e.b))).e.b))))
  (s_one (s_set F 1 (e_var F 3))))))
  (s_one (s_ret (e_var F 1)))))
theorem k__law_all (T : Top K mg) : KnownX P w K mg base 1 "_law_all" P__law_all (spX mg 1 C__law_all) := knownX_fn T.f__law_all sc__law_all bi__law_all 1 6 1 rfl rfl rfl fun W Xs F tk hp hq => b__law_all T  F tk hp hq
theorem b__law_call (T : Top K mg) (G_first_with : KnownX P w K mg base 12 "first_with" P_first_with (spX mg 3 C_first_with)) (G_order_at : KnownX P w K mg base 12 "order_at" P_order_at (spX mg 4 C_order_at)) (G__law_error : KnownE P w K mg base 1) {W : WX} {Xs : Unit → Cx} (F : Fam Xs P w K mg base N__law_call (defScope s__law_call) (fun _ => true) 12) (tk : ∀ j, Takes (Xs j) W) (hp : ∀ j, PassesOwn (model (Xs j).prog (Xs j).w) (Xs j).A (Xs j).env (Xs j).xe) (hq : ∀ j, (Xs j).stack = (Xs j).env :: (Xs j).outer ∧ (Xs j).env.frame = some (Xs j).env.locals ∧ (Xs j).ex = []) : SSs (cvM mg) W .dat Xs (defBody s__law_call) (F__law_call) :=
  (s_cons (s_set F 5 e_none)
  (s_cons (s_set F 6 e_none)
  (s_tryR T.xt.choose_spec.choose_spec (s_cons (s_try F hq 7 6 T.xt.choose_spec.choose_spec.base T.xt.choose_spec.choose_spec.exmC (fun W1 {κ} Ys F tk hp => (s_one (s_set F 5 (e_ifx (t_eq F (b_var F 0) (e_int).b) (e_callX F tk G_first_with (a_cons (e_var F 1) (a_cons (e_var F 2) (a_cons (e_var F 3) a_nil)))) (e_callX F tk G_order_at (a_cons (e_var F 1) (a_cons (e_var F 2) (a_cons (e_var F 3) (a_cons (e_var F 4) a_nil)))))))))) (s_one (s_ret (e_ifx (t_isNo F 6) (e_var F 5) (e_id (e_err F tk G__law_error 6)))))))))
theorem k__law_call (T : Top K mg) : KnownX P w K mg base 13 "_law_call" P__law_call (spX mg 5 C__law_call) := knownX_fn T.f__law_call sc__law_call bi__law_call 5 8 13 rfl rfl rfl fun W Xs F tk hp hq => b__law_call T (k_first_with T) (k_order_at T) (k__law_error T) F tk hp hq
theorem b_law (T : Top K mg) (G__law_draw : Known P w K mg base 1 "_law_draw" P__law_draw spDraw) (G__law_all : KnownX P w K mg base 1 "_law_all" P__law_all (spX mg 1 C__law_all)) (G__law_squares : KnownX P w K mg base 1 "_law_squares" P__law_squares (spX mg 2 C__law_squares)) (G__law_against : KnownX P w K mg base 1 "_law_against" P__law_against (spX mg 2 C__law_against)) (G_value_table : KnownX P w K mg base 11 "value_table" P_value_table (spX mg 1 C_value_table)) (G__law_pick : Known P w K mg base 2 "_law_pick" P__law_pick spPick) (G_orders_with : KnownX P w K mg base 11 "orders_with" P_orders_with (spX mg 3 C_orders_with)) (G_can_be : KnownX P w K mg base 12 "can_be" P_can_be (spX mg 3 C_can_be)) (G__law_true : KnownX P w K mg base 1 "_law_true" P__law_true (spX mg 2 C__law_true)) (G__law_call : KnownX P w K mg base 13 "_law_call" P__law_call (spX mg 5 C__law_call)) (G_count_with : KnownX P w K mg base 2 "count_with" P_count_with (spX mg 2 C_count_with)) {Xs : Unit → Cx} (F : Fam Xs P w K mg base N_law (defScope s_law) (fun _ => true) 13) (hp : ∀ j, PassesOwn (model (Xs j).prog (Xs j).w) (Xs j).A (Xs j).env (Xs j).xe) : ∃ s1 rest, defBody s_law = s1 :: rest ∧ (∀ j, PS (Xs j) s1 (tAsg (tCall (spStart K) [] E0 (tCons (tVar 0) tNil)) (gName 1))) ∧ WSs Xs rest W_law :=
  ⟨_, _, rfl, ps_start F 1 (k__law_start T), (ws_cons (ws_set F 2 (we_add (we_lift (cv := cvM mg) (W := W0) e_int) (we_draw F 1 G__law_draw (we_lift (cv := cvM mg) (W := W0) e_int))))
  (ws_cons (ws_lift (cv := cvM mg) (W := W0) (s_set F 3 (f_list_range2 F T.n_list T.n_range (e_int).b (e_add F (b_var F 2) (e_int).b).b).e))
  (ws_cons (ws_lift (cv := cvM mg) (W := W0) (s_dnew F 4))
  (ws_cons (ws_lift (cv := cvM mg) (W := W0) (s_set F 5 (e_callX F (fun _ => takes0) G__law_all (a_cons (e_var F 2) a_nil))))
  (ws_cons (ws_lift (cv := cvM mg) (W := W0) (s_for F hp [6, 7] (is_list F (e_var F 5)) (g_name F 6)
  (s_cons (s_set F 7 (e_tup (a_cons (e_len F T.n_len (e_callX F (fun _ => takes0) G__law_against (a_cons (e_var F 3) (a_cons (e_var F 6) a_nil))).b) (a_cons (e_callX F (fun _ => takes0) G__law_squares (a_cons (e_var F 3) (a_cons (e_var F 6) a_nil))) a_nil))))
  (s_one (s_dput F 4 (e_var F 7) (e_add F (e_dget2 F 4 (e_var F 7) (e_lst a_nil).e).b (e_lst (a_cons (e_var F 6) a_nil)).e.b))))))
  (ws_cons (ws_lift (cv := cvM mg) (W := W0) (s_if (t_ne F (e_callX F (fun _ => takes0) G_value_table (a_cons (e_var F 2) a_nil)).b (f_comp (W' := W0) F [("key", 7)] (i_list F (f_dsort F T.n_sorted 4).e.b) (fun F1 => (g_name F1 7)) (fun F1 => ts_nil) (fun F1 => (e_tup (a_cons (e_ix F1 (b_var F1 7) (e_int).b) (a_cons (e_ix F1 (b_var F1 7) (e_int).b) (a_cons (e_len F1 T.n_len (e_dix F1 4 (e_var F1 7)).b) a_nil)))))).e.b) (s_one (s_ret e_bool)) s_nil))
  (ws_cons (ws_asg (we_pick F 1 G__law_pick (we_lift (cv := cvM mg) (W := W0) (f_dsort F T.n_sorted 4).e)) (g_tup F (gs_cons F 8 (gs_cons F 9 gs_nil))))
  (ws_cons (ws_if (wt_eq F (we_draw F 1 G__law_draw (we_lift (cv := cvM mg) (W := W0) e_int)) (we_lift (cv := cvM mg) (W := W0) e_int)) (ws_one (ws_par2 F 8 9 (wa_cons (we_draw F 1 G__law_draw (we_lift (cv := cvM mg) (W := W0) e_int)) (wa_cons (we_draw F 1 G__law_draw (we_lift (cv := cvM mg) (W := W0) e_int)) wa_nil)))) ws_nil)
  (ws_cons (ws_lift (cv := cvM mg) (W := W0) (s_set F 10 (e_dget2 F 4 (e_tup (a_cons (e_var F 8) (a_cons (e_var F 9) a_nil))) (e_lst a_nil).e)))
  (ws_cons (ws_lift (cv := cvM mg) (W := W0) (s_if ((w_or (t_ne F (e_callX F (fun _ => takes0) G_orders_with (a_cons (e_var F 2) (a_cons (e_var F 8) (a_cons (e_var F 9) a_nil)))).b (b_var F 10)) (w_or1 (t_not (t_val (e_callX F (fun _ => takes0) G__law_true (a_cons (e_callX F (fun _ => takes0) G_can_be (a_cons (e_var F 2) (a_cons (e_var F 8) (a_cons (e_var F 9) a_nil)))) (a_cons (e_ne F (b_var F 10) (e_lst a_nil).e.b) a_nil)))))))).tt (s_one (s_ret e_bool)) s_nil))
  (ws_cons (ws_lift (cv := cvM mg) (W := W0) (s_if (t_ne F (e_callX F (fun _ => takes0) G__law_call (a_cons e_int (a_cons (e_var F 2) (a_cons (e_var F 8) (a_cons (e_var F 9) (a_cons e_int a_nil)))))).b (e_ifx (t_ne F (b_var F 10) (e_lst a_nil).e.b) (e_ix F (b_var F 10) (e_int).b) e_str).b) (s_one (s_ret e_bool)) s_nil))
  (ws_cons (ws_set F 11 (we_draw F 1 G__law_draw (we_lift (cv := cvM mg) (W := W0) (e_add F (e_len F T.n_len (b_var F 10)).b (e_int).b))))
  (ws_cons (ws_lift (cv := cvM mg) (W := W0) (s_if (t_ne F (e_callX F (fun _ => takes0) G__law_call (a_cons e_int (a_cons (e_var F 2) (a_cons (e_var F 8) (a_cons (e_var F 9) (a_cons (e_var F 11) a_nil)))))).b (e_ifx (t_lt (b_var F 11) (e_len F T.n_len (b_var F 10)).b) (e_ix F (b_var F 10) (b_var F 11)) e_str).b) (s_one (s_ret e_bool)) s_nil))
  (ws_cons (ws_lift (cv := cvM mg) (W := W0) (s_setLc (W' := W0) F 12 [("k", 16)] (is_range1 F T.n_range (e_int).b).i (fun F1 => (g_name F1 16)) (fun F1 => ts_nil) (fun F1 => (e_len F1 T.n_len (f_comp (W' := W0) F1 [("row", 6)] (i_list F1 (b_var F1 5)) (fun F2 => (g_name F2 6)) (fun F2 => (ts_one (t_eq F2 (e_len F2 T.n_len (e_callX F2 (fun _ => takes0) G__law_against (a_cons (e_var F2 3) (a_cons (e_var F2 6) a_nil))).b).b (b_var F2 16)))) (fun F2 => (e_var F2 6))).e.b))))
  (ws_cons (ws_lift (cv := cvM mg) (W := W0) (s_if (t_ne F (f_comp (W' := W0) F [("k", 16)] (is_range1 F T.n_range (e_int).b).i (fun F1 => (g_name F1 16)) (fun F1 => ts_nil) (fun F1 => (e_callX F1 (fun _ => takes0) G_count_with (a_cons (e_var F1 2) (a_cons (e_var F1 16) a_nil))))).e.b (b_var F 12)) (s_one (s_ret e_bool)) s_nil))
  (ws_cons (ws_set F 13 (we_add (we_lift (cv := cvM mg) (W := W0) e_int) (we_draw F 1 G__law_draw (we_lift (cv := cvM mg) (W := W0) e_int))))
  (ws_cons (ws_lift (cv := cvM mg) (W := W0) (s_set F 14 (e_fdiv (e_mul F (b_var F 13) (e_sub (b_var F 13) (e_int).b).b).b (e_int).b)))
  (ws_cons (ws_lift (cv := cvM mg) (W := W0) (s_setLc (W' := W0) F 6 [("k", 16)] (is_range1 F T.n_range (e_add F (b_var F 14) (e_int).b).b).i (fun F1 => (g_name F1 16)) (fun F1 => ts_nil) (fun F1 => (e_callX F1 (fun _ => takes0) G_count_with (a_cons (e_var F1 13) (a_cons (e_var F1 16) a_nil))))))
  (ws_cons (ws_lift (cv := cvM mg) (W := W0) (s_set F 15 e_int))
  (ws_cons (ws_lift (cv := cvM mg) (W := W0) (s_for F hp [16] (is_range2 F T.n_range (e_int).b (e_add F (b_var F 13) (e_int).b).b) (g_name F 16)
  (s_one (s_set F 15 (e_mul F (b_var F 15) (b_var F 16))))))
  (ws_one (ws_lift (cv := cvM mg) (W := W0) (s_ret (e_and (e_eq F (e_sum F T.n_sum (b_var F 6)).b (b_var F 15)) (e_and (e_eq F (b_var F 6) (e_rev F (b_var F 6)).b) (e_one (e_eq F (e_callX F (fun _ => takes0) G_count_with (a_cons (e_var F 13) (a_cons (e_min2 F T.n_min (e_int).b (e_add F (b_var F 14) (e_int).b).b) a_nil))).b (e_int).b)))))))))))))))))))))))))))⟩
theorem k_law (T : Top K mg) (h : lawOk 17 1 W_law) : ∃ f fd, Fun K "law" "law" s_law f fd ∧ mg "law" = some (.ref f) ∧ FnOk P w K mg base CX0 14 f fd P_law (spLaw K) := law_fn T.f_law sc_law rfl 14 1 (by decide) rfl rfl (fun Xs F hp => b_law T (k__law_draw T) (k__law_all T) (k__law_squares T) (k__law_against T) (k_value_table T) (k__law_pick T) (k_orders_with T) (k_can_be T) (k__law_true T) (k__law_call T) (k_count_with T) F hp) h
theorem law_end (h : lawOk 17 1 W_law) {fa : Addr} (hfa : mg "law" = some (.ref fa)) (T : Top K mg) :
    ∃ fd : FuncData, (∀ (s : Shared) (v : Value), BindsTo s fd ⟨[v], []⟩ [("script", v)]) ∧ ∀ base : Heap, K.In base → base.Ns mainGlobals mg → FnOk P w K mg base CX0 14 fa fd ["script"] (spLaw K) := by
  obtain ⟨f, fd, Fn, hm⟩ := T.f_law
  have e := hfa.symm.trans hm
  cases e
  refine ⟨fd, ?_, fun base _ _ => ?_⟩
  · obtain ⟨oc, od, kV, doc, pm, an, cdv, ct, osl, rfl, lk, hcd⟩ := Fn.ex
    exact fun s v => .of_eq rfl
  · obtain ⟨f2, fd2, Fn2, hm2, G⟩ := k_law (P := P) (w := w) (base := base) T h
    rw [hm] at hm2
    cases hm2
    obtain ⟨oc, od, kV, doc, pm, an, cdv, ct, osl, e1, lk, hcd⟩ := Fn.ex
    obtain ⟨oc2, od2, kV2, doc2, pm2, an2, cdv2, ct2, osl2, e2, lk2, hcd2⟩ := Fn2.ex
    rw [lk] at lk2
    have e3 : fd = fd2 := by injection lk2 with h1; injection h1 with h2 h3 h4 h5; injection h4
    rw [e3]
    exact G
end
end K07

namespace DL
open PySem L2

/-! ### typed data -/
class Enc (α : Type) where
  enc : α → D
  dep : Nat
  lay : ∀ a, PyData.canLay0 (enc a) = true
  dp : ∀ a, PyData.depth (enc a) ≤ dep
  eqv : ∀ a b, PyData.eqv (enc a) (enc b) = true ↔ a = b
open Enc (enc)
instance : Enc Int := ⟨.int, 0, fun _ => rfl, fun _ => Nat.le_refl 0, fun a b => by simp [PyData.eqv]⟩
instance : Enc Nat := ⟨fun n => .int (n : Int), 0, fun _ => rfl, fun _ => Nat.le_refl 0, fun a b => by simp only [PyData.eqv, beq_iff_eq]; omega⟩
instance : Enc Bool := ⟨.bool, 0, fun _ => rfl, fun _ => Nat.le_refl 0, fun a b => by simp [PyData.eqv]⟩
section
variable {α : Type} [Enc α]
theorem layAll : ∀ l : List α, PyData.canLayAll0 (l.map enc) = true
  | [] => rfl
  | x :: l => by rw [List.map_cons, PyData.canLayAll0, Enc.lay, layAll l]; rfl
theorem depAll : ∀ l : List α, PyData.depthAll (l.map enc) ≤ Enc.dep α
  | [] => Nat.zero_le _
  | x :: l => by rw [List.map_cons, PyData.depthAll]; exact Nat.max_le.mpr ⟨Enc.dp x, depAll l⟩
theorem eqvAll_iff : ∀ l m : List α, PyData.eqvAll (l.map enc) (m.map enc) = true ↔ l = m
  | [], [] => by simp [PyData.eqvAll]
  | [], y :: m => by simp [PyData.eqvAll]
  | x :: l, [] => by simp [PyData.eqvAll]
  | x :: l, y :: m => by
    rw [List.map_cons, List.map_cons, PyData.eqvAll, Bool.and_eq_true, Enc.eqv, eqvAll_iff l m]
    simp
end
instance {α : Type} [Enc α] : Enc (List α) := ⟨fun l => .list (l.map enc), Enc.dep α + 1, fun l => layAll l, fun l => by rw [PyData.depth]; exact Nat.add_le_add_right (depAll l) 1, fun a b => by rw [PyData.eqv]; exact eqvAll_iff a b⟩
instance {α β : Type} [Enc α] [Enc β] : Enc (α × β) := ⟨fun p => .tuple [enc p.1, enc p.2], max (Enc.dep α) (Enc.dep β) + 1, fun p => by simp [PyData.canLay0, PyData.canLayAll0, Enc.lay],
  fun p => by
    have h1 := Enc.dp p.1
    have h2 := Enc.dp p.2
    simp only [PyData.depth, PyData.depthAll]
    omega, fun a b => by simp [PyData.eqv, PyData.eqvAll, Enc.eqv, Prod.ext_iff]⟩
section
variable {α : Type} [Enc α]
theorem enc_list (l : List α) : enc l = .list (l.map enc) := rfl
theorem enc_nat (n : Nat) : (enc n : D) = .int (n : Int) := rfl
theorem enc_int (n : Int) : (enc n : D) = .int n := rfl
theorem enc_bool (n : Bool) : (enc n : D) = .bool n := rfl
theorem enc_pair {β : Type} [Enc β] (p : α × β) : enc p = .tuple [enc p.1, enc p.2] := rfl
theorem shaped_enc (h : Enc.dep α ≤ 64) (a : α) : SeqAt.shaped (enc a) = true := by
  unfold SeqAt.shaped
  rw [Enc.lay, Bool.true_and]
  exact decide_eq_true (Nat.le_trans (Enc.dp a) h)
theorem eqv_enc [DecidableEq α] (a b : α) : PyData.eqv (enc a) (enc b) = decide (a = b) := by
  by_cases h : a = b
  · rw [decide_eq_true h]; exact (Enc.eqv a b).mpr h
  · rw [decide_eq_false h]
    cases e : PyData.eqv (enc a) (enc b) with
    | false => rfl
    | true => exact absurd ((Enc.eqv a b).mp e) h
theorem dEq_enc [DecidableEq α] (h : Enc.dep α ≤ 64) (a b : α) : dEq (enc a) (enc b) = .ok (.bool (decide (a = b))) := by
  unfold dEq
  rw [if_pos ⟨shaped_enc h a, shaped_enc h b⟩, eqv_enc]
theorem dNe_enc [DecidableEq α] (h : Enc.dep α ≤ 64) (a b : α) : dNe (enc a) (enc b) = .ok (.bool (!decide (a = b))) := by
  unfold dNe
  rw [if_pos ⟨shaped_enc h a, shaped_enc h b⟩, eqv_enc]
theorem dIn_enc [DecidableEq α] (h : Enc.dep α + 1 ≤ 64) (a : α) (l : List α) : dIn (enc a) (enc l) = .ok (.bool (decide (a ∈ l))) := by
  rw [enc_list]
  unfold dIn
  have h1 : SeqAt.shaped (enc a) = true := shaped_enc (by omega) a
  have h2 : SeqAt.shaped (.list (l.map enc)) = true := shaped_enc (α := List α) h l
  have h3 : dInT (enc a) (l.map enc) = decide (a ∈ l) := by
    unfold dInT
    induction l with
    | nil => simp
    | cons x l ih =>
      rw [List.map_cons, List.any_cons, eqv_enc, ih (shaped_enc (α := List α) h l)]
      by_cases q : x = a
      · subst q; simp
      · simp [q, Ne.symm q]
  generalize hd : enc a = d at *
  cases d <;> simp [h1, h2, h3]
theorem dNotIn_enc [DecidableEq α] (h : Enc.dep α + 1 ≤ 64) (a : α) (l : List α) : dNotIn (enc a) (enc l) = .ok (.bool (!decide (a ∈ l))) := by
  unfold dNotIn
  rw [dIn_enc h]
  rfl
theorem findIdx_enc [DecidableEq α] (a : α) : ∀ l : List α, (l.map enc).findIdx? (fun z => PyData.eqv z (enc a)) = if a ∈ l then some (l.idxOf a) else none
  | [] => by simp
  | x :: l => by
    rw [List.map_cons, List.findIdx?_cons, eqv_enc, findIdx_enc a l]
    by_cases q : x = a
    · subst q; simp
    · have q' : ¬ a = x := fun z => q z.symm
      simp only [q, decide_false, Bool.false_eq_true, if_false, List.mem_cons, q', false_or]
      by_cases m : a ∈ l
      · have : (x == a) = false := by simpa using q
        simp [m, List.idxOf_cons, this]
      · simp [m]
theorem dIndex_enc [DecidableEq α] (h : Enc.dep α + 1 ≤ 64) (l : List α) (a : α) (hm : a ∈ l) : dIndex (l.map enc) [enc a] = .ok (enc (l.idxOf a)) := by
  unfold dIndex
  have h1 : SeqAt.shaped (enc a) = true := shaped_enc (by omega) a
  have h2 : SeqAt.shaped (.list (l.map enc)) = true := shaped_enc (α := List α) h l
  dsimp only
  rw [if_pos ⟨h2, h1⟩, findIdx_enc, if_pos hm]
  rfl
end

/-! ### loops and comprehensions over typed data -/
theorem compL_map {α : Type} {T : Tg} {ft : En → Rs Bool} {fe : En → Rs D} {ρ : En} (toD : α → D) (en : α → En) (p : α → Bool) (g : α → D) : ∀ (xs : List α), (∀ x ∈ xs, T.asg (toD x) ρ = some (en x)) → (∀ x ∈ xs, ft (en x) = .ok (p x)) → (∀ x ∈ xs, p x = true → fe (en x) = .ok (g x)) →
    compL T ft fe ρ (xs.map toD) = .ok ((xs.filter p).map g)
  | [], _, _, _ => rfl
  | x :: xs, h1, h2, h3 => by
    have ih := compL_map toD en p g xs (fun y hy => h1 y (List.mem_cons_of_mem _ hy)) (fun y hy => h2 y (List.mem_cons_of_mem _ hy)) (fun y hy => h3 y (List.mem_cons_of_mem _ hy))
    rw [List.map_cons]
    unfold compL
    rw [h1 x (by simp)]
    dsimp only
    rw [h2 x (by simp), ih]
    by_cases hp : p x = true
    · simp [h3 x (by simp) hp, hp]
    · simp [hp]
theorem fComp_map {α : Type} {it : En → Rs (List D)} {T : Tg} {ft : En → Rs Bool} {fe : En → Rs D} {vs : List Nat} {ρ : En} (toD : α → D) (en : α → En) (p : α → Bool) (g : α → D) (xs : List α) (h0 : it ρ = .ok (xs.map toD)) (hl : xs.length ≤ LIM)
    (h1 : ∀ x ∈ xs, T.asg (toD x) (wipeE ρ vs) = some (en x)) (h2 : ∀ x ∈ xs, ft (en x) = .ok (p x)) (h3 : ∀ x ∈ xs, p x = true → fe (en x) = .ok (g x)) :
    fComp it T ft fe vs ρ = .ok (.list ((xs.filter p).map g)) := by
  unfold fComp
  rw [h0, Rs.bind_ok, if_pos (by simpa using hl), compL_map toD en p g xs h1 h2 h3]
  rfl
theorem fComp_all {α : Type} {it : En → Rs (List D)} {T : Tg} {fe : En → Rs D} {vs : List Nat} {ρ : En} (toD : α → D) (en : α → En) (g : α → D) (xs : List α) (h0 : it ρ = .ok (xs.map toD)) (hl : xs.length ≤ LIM)
    (h1 : ∀ x ∈ xs, T.asg (toD x) (wipeE ρ vs) = some (en x)) (h3 : ∀ x ∈ xs, fe (en x) = .ok (g x)) :
    fComp it T tTrue fe vs ρ = .ok (.list (xs.map g)) := by
  rw [fComp_map toD en (fun _ => true) g xs h0 hl h1 (fun _ _ => rfl) (fun x hx _ => h3 x hx), List.filter_eq_self.mpr (fun _ _ => rfl)]
theorem forL_fold {α β : Type} {T : Tg} {vs : List Nat} {body : En → Out} (toD : α → D) (en : β → En) (step : β → α → β) (inv : β → Prop) : ∀ (xs : List α) (b : β), inv b → (∀ b x, inv b → x ∈ xs → inv (step b x) ∧ ∃ ρ1 ρ2, T.asg (toD x) (en b) = some ρ1 ∧ body ρ1 = .nx ρ2 ∧ wipeE ρ2 vs = en (step b x)) →
    forL T vs body (xs.map toD) (en b) = .nx (en (xs.foldl step b)) ∧ inv (xs.foldl step b)
  | [], b, hb, _ => ⟨rfl, hb⟩
  | x :: xs, b, hb, h => by
    obtain ⟨hi, ρ1, ρ2, e1, e2, e3⟩ := h b x hb (by simp)
    have ih := forL_fold toD en step inv xs (step b x) hi (fun b y hb hy => h b y hb (List.mem_cons_of_mem _ hy))
    rw [List.map_cons, List.foldl_cons]
    refine ⟨?_, ih.2⟩
    unfold forL
    rw [e1]
    dsimp only
    rw [e2]
    dsimp only
    rw [e3]
    exact ih.1
end DL

namespace DL
open PySem L2
open Enc (enc)
section
variable (i j n : Nat) (ρ : En) (f g h : En → Rs D) (fs fs' : En → Rs (List D)) (c t u : En → Rs Bool) (F G : En → Out) (d : D) (is vs : List Nat) (T : Tg) (g1 : D → Rs D) (g2 g2' : D → D → Rs D) (gl : List D → Rs D) (gi : List D → Rs (List D)) (gm : List D → List D → Rs D) (lo hi : En → Rs (Option Int)) (it : En → Rs (List D))
theorem ap_fVar : fVar i ρ = (match ρ[i]? with | some (some (.sh d)) => .ok d | some (some (.ow ds)) => .ok (.list ds) | _ => .no) := rfl
theorem ap_fSh : fSh i ρ = (match ρ[i]? with | some (some (.sh d)) => .ok d | _ => .no) := rfl
theorem ap_fC : fC d ρ = .ok d := rfl
theorem ap_ap1 : ap1 g1 f ρ = (f ρ).bind g1 := rfl
theorem ap_ap2 : ap2 g2 f g ρ = (f ρ).bind fun x => (g ρ).bind fun y => g2 x y := rfl
theorem ap_fNil : fNil ρ = .ok [] := rfl
theorem ap_fCons : fCons f fs ρ = (f ρ).bind fun d => (fs ρ).bind fun ds => .ok (d :: ds) := rfl
theorem ap_apL : apL gl fs ρ = (fs ρ).bind gl := rfl
theorem ap_apI : apI gi fs ρ = (fs ρ).bind gi := rfl
theorem ap_apML : apML gm f fs ρ = (f ρ).bind fun x => (match x with | .list xs => (fs ρ).bind fun ds => gm xs ds | _ => .no) := rfl
theorem ap_tVal : tVal f ρ = (f ρ).bind dBool := rfl
theorem ap_tAn : tAn c t ρ = (c ρ).bind fun b => if b = true then t ρ else .ok false := rfl
theorem ap_tOrr : tOrr c t ρ = (c ρ).bind fun b => if b = true then .ok true else t ρ := rfl
theorem ap_tNt : tNt c ρ = (c ρ).bind fun b => .ok (!b) := rfl
theorem ap_tTrue : tTrue ρ = .ok true := rfl
theorem ap_fAnd : fAnd f g ρ = ((f ρ).bind dBool).bind fun b => if b = true then g ρ else .ok (.bool false) := rfl
theorem ap_fOr : fOr f g ρ = ((f ρ).bind dBool).bind fun b => if b = true then .ok (.bool true) else g ρ := rfl
theorem ap_fNot : fNot f ρ = ((f ρ).bind dBool).bind fun b => .ok (.bool (!b)) := rfl
theorem ap_fIf : fIf c f g ρ = (c ρ).bind fun b => if b = true then f ρ else g ρ := rfl
theorem ap_fChain : fChain g2 g2' f g h ρ = (f ρ).bind fun x => (g ρ).bind fun y => ((g2 x y).bind dBool).bind fun b => if b = true then (h ρ).bind fun z => g2' y z else .ok (.bool false) := rfl
theorem ap_fNoPart : fNoPart ρ = .ok none := rfl
theorem ap_fPart : fPart f ρ = (f ρ).bind dPart := rfl
theorem ap_fSl : fSl f lo hi ρ = (f ρ).bind fun x => (lo ρ).bind fun a => (hi ρ).bind fun b => dSl x a b := rfl
theorem ap_iLs : iLs f ρ = (f ρ).bind dItL := rfl
theorem ap_iTp : iTp f ρ = (f ρ).bind dItT := rfl
theorem ap_sNil : sNil ρ = .nx ρ := rfl
theorem ap_sSeq : sSeq F G ρ = (match F ρ with | .nx ρ' => G ρ' | o => o) := rfl
theorem ap_sSet : sSet i f ρ = ofR (f ρ) ρ fun d => .nx (ρ.set i (some (.sh d))) := rfl
theorem ap_sOwn : sOwn i f ρ = ofR (f ρ) ρ fun d => (match d with | .list ds => .nx (ρ.set i (some (.ow ds))) | _ => .no) := rfl
theorem ap_sAsg : sAsg T f ρ = ofR (f ρ) ρ fun d => (match T.asg d ρ with | some ρ' => .nx ρ' | none => .no) := rfl
theorem ap_sPar : sPar is fs ρ = ofR (fs ρ) ρ fun ds => if ds.length = is.length then .nx (setD ρ is ds) else .no := rfl
theorem ap_sIf : sIf c F G ρ = ofR (c ρ) ρ fun b => if b = true then F ρ else G ρ := rfl
theorem ap_sRet : sRet f ρ = ofR (f ρ) ρ .rt := rfl
theorem ap_sRetN : sRetN ρ = .rt .none := rfl
theorem ap_sRetO : sRetO i ρ = (match ρ[i]? with | some (some (.ow ds)) => .rt (.list ds) | _ => .no) := rfl
theorem ap_sExp : sExp f ρ = ofR (f ρ) ρ fun _ => .nx ρ := rfl
theorem ap_sNo : sNo ρ = .no := rfl
theorem ap_sApp : sApp i f ρ = (match ρ[i]? with | some (some (.ow ds)) => ofR (f ρ) ρ fun d => if ds.length < LIM then .nx (ρ.set i (some (.ow (ds ++ [d])))) else .no | _ => .no) := rfl
theorem ap_sRem : sRem i f ρ = (match ρ[i]? with | some (some (.ow ds)) => ofR (f ρ) ρ fun d => (match intsOf ds, d with | some ns, .int k => (match ns.findIdx? (· == k) with | some j => .nx (ρ.set i (some (.ow ((ns.eraseIdx j).map PyData.int)))) | none => .no) | _, _ => .no) | _ => .no) := rfl
theorem ap_sSetI : sSetI i f g ρ = ofR (g ρ) ρ fun d => (match ρ[i]? with | some (some (.ow ds)) => ofR (f ρ) ρ fun e => (match e with | .int k => (match ixN ds.length k with | some j => .nx (ρ.set i (some (.ow (ds.set j d)))) | none => .no) | _ => .no) | _ => .no) := rfl
theorem ap_sAug : sAug i g2 f ρ = (match ρ[i]? with | some (some (.sh x)) => ofR (f ρ) ρ fun d => ofR (g2 x d) ρ fun z => .nx (ρ.set i (some (.sh z))) | _ => .no) := rfl
theorem ap_sExt : sExt i f ρ = (match ρ[i]? with | some (some (.ow ds)) => ofR (f ρ) ρ fun d => (match d with | .list es => if ds.length + es.length ≤ LIM then .nx (ρ.set i (some (.ow (ds ++ es)))) else .no | _ => .no) | _ => .no) := rfl
theorem ap_sFrz : sFrz i F ρ = (match ρ[i]? with | some (some (.ow ds)) => F (ρ.set i (some (.sh (.list ds)))) | _ => .no) := rfl
theorem ap_sFor : sFor it T vs F ρ = ofR (it ρ) ρ fun items => forL T vs F items (wipeE ρ vs) := rfl
theorem ap_sWhile : sWhile n c vs F ρ = whileL c vs F n (wipeE ρ vs) := rfl
theorem ap_asg_nm : (Tg.nm i).asg d ρ = some (ρ.set i (some (.sh d))) := rfl
theorem ap_asg_tp (ds : List D) : (Tg.tp is).asg (.tuple ds) ρ = if ds.length = is.length then some (setD ρ is ds) else none := by
  unfold Tg.asg Tg.parts
  split <;> simp_all [Tg.ix]
theorem callG_of {np : Nat} {g : List D → Rs D} {ds : List D} {d : D} (h : g ds = .ok d) (hl : ds.length = np) : callX np g ds = .ok d := by
  unfold callX
  rw [if_pos hl, h]
end
end DL
namespace DL
open PySem L2
open Enc (enc)
section
variable {α : Type} [Enc α]
theorem len_enc (l : List α) : dLen [enc l] = .ok (.int (l.length : Nat)) := by
  rw [enc_list]
  simp [dLen]
theorem isi_list (l : List α) (T : String) : dIsi T (enc l) = .ok (.bool (isiB "list" T)) := rfl
theorem isi_int (i : Int) (T : String) : dIsi T (.int i) = .ok (.bool (isiB "int" T)) := rfl
theorem itl_enc (l : List α) : dItL (enc l) = .ok (l.map enc) := rfl
theorem add_enc (l m : List α) (h : l.length + m.length ≤ LIM) : dAdd (enc l) (enc m) = .ok (enc (l ++ m)) := by
  show (if (l.map enc).length + (m.map enc).length ≤ LIM then _ else _) = _
  rw [List.length_map, List.length_map, if_pos h, ← List.map_append]
  rfl
theorem cat_enc (l m : List α) (h : l.length + m.length ≤ LIM) : dCat (enc l) (enc m) = .ok (enc (l ++ m)) := add_enc l m h
theorem add_int (i j : Int) : dAdd (.int i) (.int j) = .ok (.int (i + j)) := rfl
theorem sub_int (i j : Int) : dSub (.int i) (.int j) = .ok (.int (i - j)) := rfl
theorem lt_int (i j : Int) : dLt (.int i) (.int j) = .ok (.bool (decide (i < j))) := rfl
theorem le_int (i j : Int) : dLe (.int i) (.int j) = .ok (.bool (decide (i ≤ j))) := rfl
theorem gt_int (i j : Int) : dGt (.int i) (.int j) = .ok (.bool (decide (j < i))) := rfl
theorem ge_int (i j : Int) : dGe (.int i) (.int j) = .ok (.bool (decide (j ≤ i))) := rfl
theorem neg_int (i : Int) : dNeg (.int i) = .ok (.int (-i)) := rfl
theorem addI_int (i j : Int) : dAddI (.int i) (.int j) = .ok (.int (i + j)) := rfl
theorem subI_int (i j : Int) : dSubI (.int i) (.int j) = .ok (.int (i - j)) := rfl
theorem abs_int (i : Int) : dAbs [.int i] = .ok (.int (if i < 0 then -i else i)) := rfl
theorem mul_int (i j : Int) (h : (-(2 ^ 64) < i ∧ i < 2 ^ 64) ∨ (-(2 ^ 64) < j ∧ j < 2 ^ 64)) : dMul (.int i) (.int j) = .ok (.int (i * j)) := by
  show (if _ then _ else _) = _
  rw [if_pos h]
theorem fdiv_int (i j : Int) (h : 0 < j) (h2 : j < 1073741824) : dFdiv (.int i) (.int j) = .ok (.int (i / j)) := by
  show (if _ then _ else _) = _
  rw [if_pos ⟨by omega, by omega⟩, Int.fdiv_eq_ediv_of_nonneg _ (by omega)]
theorem mod_int (i j : Int) (h : 0 < j) : dMod (.int i) (.int j) = .ok (.int (i % j)) := by
  show (if _ then _ else _) = _
  rw [if_pos (by omega), Int.fmod_eq_emod_of_nonneg _ (by omega)]
theorem ixN_nat {n k : Nat} (h : k < n) : ixN n (k : Int) = some k := by
  unfold ixN
  rw [if_pos (by omega), if_pos (by omega)]
  simp
theorem ix_enc (l : List α) (k : Nat) (h : k < l.length) : dIx (enc l) (.int (k : Nat)) = .ok (enc l[k]) := by
  show (match atI (l.map enc) (k : Int) with | some d => Rs.ok d | none => Rs.no) = _
  unfold atI
  rw [List.length_map, ixN_nat h]
  show (match (l.map enc)[k]? with | some d => Rs.ok d | none => Rs.no) = _
  rw [List.getElem?_map, List.getElem?_eq_getElem h]
  rfl
theorem ix_encI (l : List α) (i : Int) (h0 : 0 ≤ i) (h : i.toNat < l.length) : dIx (enc l) (.int i) = .ok (enc l[i.toNat]) := by
  have e : ((i.toNat : Nat) : Int) = i := by omega
  have := ix_enc l i.toNat h
  rwa [e] at this
theorem ix_last (l : List α) (x : α) : dIx (enc (l ++ [x])) (.int (-1)) = .ok (enc x) := by
  show (match atI ((l ++ [x]).map enc) (-1 : Int) with | some d => Rs.ok d | none => Rs.no) = _
  rw [List.map_append, List.map_singleton, atI_last]
theorem list_enc (l : List α) : dList [enc l] = .ok (enc l) := rfl
theorem tuple_enc (l : List α) : dTuple [enc l] = .ok (.tuple (l.map enc)) := rfl
theorem sIx_nat' (n d k : Nat) : HT.sIx n d (some (k : Int)) = min k n := HT.sIx_nat n d k
theorem drop_enc (l : List α) (k : Nat) : dSl (enc l) (some (k : Int)) none = .ok (enc (l.drop k)) := by
  show Rs.ok (PyData.list (cutD (l.map enc) (some (k : Int)) none)) = _
  unfold cutD
  rw [HT.sIx_nat, HT.sIx_none, List.length_map]
  have : ((l.map enc).drop (min k l.length)).take (l.length - min k l.length) = (l.drop k).map enc := by
    rw [List.take_of_length_le (by simp), ← List.map_drop]
    by_cases h : k ≤ l.length
    · rw [Nat.min_eq_left h]
    · rw [Nat.min_eq_right (by omega), List.drop_length, List.drop_of_length_le (by omega)]
  rw [this]
  rfl
theorem take_enc (l : List α) (k : Nat) : dSl (enc l) none (some (k : Int)) = .ok (enc (l.take k)) := by
  show Rs.ok (PyData.list (cutD (l.map enc) none (some (k : Int)))) = _
  unfold cutD
  rw [HT.sIx_nat, HT.sIx_none, List.length_map, Nat.sub_zero, List.drop_zero, ← List.map_take]
  by_cases h : k ≤ l.length
  · rw [Nat.min_eq_left h]; rfl
  · rw [Nat.min_eq_right (by omega), List.take_length, List.take_of_length_le (by omega)]; rfl
theorem rev_enc (l : List α) : dRev (enc l) = .ok (enc l.reverse) := by
  show Rs.ok (PyData.list (l.map enc).reverse) = _
  rw [← List.map_reverse]
  rfl
end
theorem ints_enc (l : List Int) : intsOf (l.map enc) = some l := intsOf_map l
theorem ints_nat (l : List Nat) : intsOf (l.map enc) = some (l.map fun k : Nat => (k : Int)) := by
  have : l.map (fun k : Nat => (enc k : D)) = (l.map fun k : Nat => (k : Int)).map PyData.int := by rw [List.map_map]; rfl
  rw [show l.map enc = l.map (fun k : Nat => (enc k : D)) from rfl, this, intsOf_map]
theorem bools_enc (l : List Bool) : boolsOf (l.map enc) = some l := boolsOf_map l
theorem all_enc (l : List Bool) : dAll [enc l] = .ok (.bool (l.all id)) := by
  show (match boolsOf (l.map enc) with | some ns => Rs.ok (PyData.bool (ns.all id)) | none => Rs.no) = _
  rw [bools_enc]
theorem sum_enc (l : List Int) : dSum [enc l] = .ok (.int l.sum) := by
  show (match intsOf (l.map enc) with | some ns => Rs.ok (PyData.int ns.sum) | none => Rs.no) = _
  rw [ints_enc]
theorem sum_nat (l : List Nat) : dSum [enc l] = .ok (.int (l.sum : Nat)) := by
  show (match intsOf (l.map enc) with | some ns => Rs.ok (PyData.int ns.sum) | none => Rs.no) = _
  rw [ints_nat]
  have : (l.map fun k : Nat => (k : Int)).sum = ((l.sum : Nat) : Int) := by
    induction l with
    | nil => rfl
    | cons x l ih => simp [ih]
  simp [this]
theorem sorted_nat (l : List Nat) : dSorted [enc l] = .ok (.list ((sortI (l.map fun k : Nat => (k : Int))).map PyData.int)) := by
  show (match intsOf (l.map enc) with | some ns => Rs.ok (PyData.list ((sortI ns).map PyData.int)) | none => Rs.no) = _
  rw [ints_nat]
theorem rangeD_nat (n : Nat) : rangeD 1 n = (List.range' 1 n).map fun k : Nat => (enc k : D) := by
  unfold rangeD
  rw [List.range'_eq_map_range, List.map_map]
  apply List.map_congr_left
  intro i _
  show PyData.int _ = PyData.int _
  congr 1
theorem dRange_eq (i j : Int) : dRange (.int i) (.int j) = if (-(2 ^ 62) ≤ i ∧ i < 2 ^ 62 ∧ -(2 ^ 62) ≤ j ∧ j < 2 ^ 62) ∧ (j - i).toNat ≤ LIM then .ok (.list (rangeD i (j - i).toNat)) else .no := rfl
theorem range_nat (n : Nat) (h : n ≤ 10000) : dRange (.int 1) (.int ((n : Nat) + 1)) = .ok (enc (List.range' 1 n)) := by
  rw [dRange_eq, if_pos ⟨⟨by decide, by decide, by omega, by omega⟩, Nat.le_trans (show ((n : Int) + 1 - 1).toNat ≤ 10000 by omega) (by decide)⟩, show ((n : Int) + 1 - 1).toNat = n by omega, rangeD_nat]
  rfl
end DL

namespace DL
open PySem L2
open Enc (enc)
section
variable {i j n np : Nat} {ρ ρ1 ρ2 : En} {f g h : En → Rs D} {fs : En → Rs (List D)} {c t u : En → Rs Bool} {F G : En → Out} {d x y z r1 : D} {r : Rs D} {is vs : List Nat} {T : Tg} {g1 : D → Rs D} {g2 g2' : D → D → Rs D} {gl : List D → Rs D} {gi : List D → Rs (List D)} {gm : List D → List D → Rs D} {ds xs : List D} {rl : Rs (List D)} {lo hi : En → Rs (Option Int)} {it : En → Rs (List D)} {a b : Bool} {o : Out}
theorem r_var (h : ρ[i]? = some (some (.sh d))) : fVar i ρ = .ok d := by unfold fVar; rw [h]
theorem r_varO (h : ρ[i]? = some (some (.ow ds))) : fVar i ρ = .ok (.list ds) := by unfold fVar; rw [h]
theorem r_sh (h : ρ[i]? = some (some (.sh d))) : fSh i ρ = .ok d := by unfold fSh; rw [h]
theorem r_c : fC d ρ = .ok d := rfl
theorem r_ap1 (h1 : f ρ = .ok x) (h2 : g1 x = r) : ap1 g1 f ρ = r := by unfold ap1; rw [h1]; exact h2
theorem r_ap2 (h1 : f ρ = .ok x) (h2 : g ρ = .ok y) (h3 : g2 x y = r) : ap2 g2 f g ρ = r := by unfold ap2; rw [h1, Rs.bind_ok, h2]; exact h3
theorem r_nilA : fNil ρ = .ok [] := rfl
theorem r_cons (h1 : f ρ = .ok x) (h2 : fs ρ = .ok ds) : fCons f fs ρ = .ok (x :: ds) := by unfold fCons; rw [h1, Rs.bind_ok, h2]; rfl
theorem r_apL (h1 : fs ρ = .ok ds) (h2 : gl ds = r) : apL gl fs ρ = r := by unfold apL; rw [h1]; exact h2
theorem r_apI (h1 : fs ρ = .ok ds) (h2 : gi ds = rl) : apI gi fs ρ = rl := by unfold apI; rw [h1]; exact h2
theorem r_apML (h1 : f ρ = .ok (.list xs)) (h2 : fs ρ = .ok ds) (h3 : gm xs ds = r) : apML gm f fs ρ = r := by unfold apML; rw [h1, Rs.bind_ok]; dsimp only; rw [h2]; exact h3
theorem r_tVal (h : f ρ = .ok (.bool b)) : tVal f ρ = .ok b := by unfold tVal; rw [h]; rfl
theorem r_tAn (h1 : c ρ = .ok a) (h2 : a = true → t ρ = .ok b) : tAn c t ρ = .ok (a && b) := by unfold tAn; rw [h1, Rs.bind_ok]; cases a <;> simp_all
theorem r_tOr (h1 : c ρ = .ok a) (h2 : a = false → t ρ = .ok b) : tOrr c t ρ = .ok (a || b) := by unfold tOrr; rw [h1, Rs.bind_ok]; cases a <;> simp_all
theorem r_tNt (h1 : c ρ = .ok a) : tNt c ρ = .ok (!a) := by unfold tNt; rw [h1]; rfl
theorem r_fAnd (h1 : f ρ = .ok (.bool a)) (h2 : a = true → g ρ = .ok (.bool b)) : fAnd f g ρ = .ok (.bool (a && b)) := by unfold fAnd; rw [h1, Rs.bind_ok]; cases a <;> simp_all [dBool]
theorem r_fOr (h1 : f ρ = .ok (.bool a)) (h2 : a = false → g ρ = .ok (.bool b)) : fOr f g ρ = .ok (.bool (a || b)) := by unfold fOr; rw [h1, Rs.bind_ok]; cases a <;> simp_all [dBool]
theorem r_fNot (h1 : f ρ = .ok (.bool a)) : fNot f ρ = .ok (.bool (!a)) := by unfold fNot; rw [h1]; rfl
theorem r_fIf (h1 : c ρ = .ok a) (h2 : a = true → f ρ = .ok x) (h3 : a = false → g ρ = .ok y) : fIf c f g ρ = .ok (if a = true then x else y) := by unfold fIf; rw [h1, Rs.bind_ok]; cases a <;> simp_all
theorem r_chain (h1 : f ρ = .ok x) (h2 : g ρ = .ok y) (h3 : g2 x y = .ok (.bool a)) (h4 : h ρ = .ok z) (h5 : g2' y z = .ok (.bool b)) : fChain g2 g2' f g h ρ = .ok (.bool (a && b)) := by
  unfold fChain; rw [h1, Rs.bind_ok, h2, Rs.bind_ok, h3]; cases a <;> simp_all [dBool]
theorem r_part {k : Int} (h1 : f ρ = .ok (.int k)) : fPart f ρ = .ok (some k) := by unfold fPart; rw [h1]; rfl
theorem r_noPart : fNoPart ρ = .ok none := rfl
theorem r_sl {p q : Option Int} (h1 : f ρ = .ok x) (h2 : lo ρ = .ok p) (h3 : hi ρ = .ok q) (h4 : dSl x p q = r) : fSl f lo hi ρ = r := by unfold fSl; rw [h1, Rs.bind_ok, h2, Rs.bind_ok, h3]; exact h4
theorem r_iLs (h1 : f ρ = .ok x) (h2 : dItL x = rl) : iLs f ρ = rl := by unfold iLs; rw [h1]; exact h2
theorem r_iTp (h1 : f ρ = .ok x) (h2 : dItT x = rl) : iTp f ρ = rl := by unfold iTp; rw [h1]; exact h2
theorem r_seq (h1 : F ρ = .nx ρ1) (h2 : G ρ1 = o) : sSeq F G ρ = o := by unfold sSeq; rw [h1]; exact h2
theorem r_nil : sNil ρ = .nx ρ := rfl
theorem r_set (h : f ρ = .ok d) (e : ρ.set i (some (.sh d)) = ρ1) : sSet i f ρ = .nx ρ1 := by unfold sSet; rw [h, ofR_ok, e]
theorem r_own (h : f ρ = .ok (.list ds)) (e : ρ.set i (some (.ow ds)) = ρ1) : sOwn i f ρ = .nx ρ1 := by unfold sOwn; rw [h, ofR_ok]; dsimp only; rw [e]
theorem r_asg (h : f ρ = .ok d) (e : T.asg d ρ = some ρ1) : sAsg T f ρ = .nx ρ1 := by unfold sAsg; rw [h, ofR_ok]; rw [e]
theorem r_par (h : fs ρ = .ok ds) (hl : ds.length = is.length) (e : setD ρ is ds = ρ1) : sPar is fs ρ = .nx ρ1 := by unfold sPar; rw [h, ofR_ok, if_pos hl, e]
theorem r_ifT (h : c ρ = .ok a) (ha : a = true) (h2 : F ρ = o) : sIf c F G ρ = o := by unfold sIf; rw [h, ofR_ok, if_pos ha]; exact h2
theorem r_ifF (h : c ρ = .ok a) (ha : a = false) (h2 : G ρ = o) : sIf c F G ρ = o := by unfold sIf; rw [h, ofR_ok, if_neg (by rw [ha]; simp)]; exact h2
theorem r_if {o1 o2 : Out} (h : c ρ = .ok a) (h1 : a = true → F ρ = o1) (h2 : a = false → G ρ = o2) : sIf c F G ρ = if a = true then o1 else o2 := by
  unfold sIf; rw [h, ofR_ok]; cases a <;> simp_all
theorem r_ret (h : f ρ = .ok d) : sRet f ρ = .rt d := by unfold sRet; rw [h]; rfl
theorem r_retN : sRetN ρ = .rt .none := rfl
theorem r_retO (h : ρ[i]? = some (some (.ow ds))) : sRetO i ρ = .rt (.list ds) := by unfold sRetO; rw [h]
theorem r_exp (h : f ρ = .ok d) : sExp f ρ = .nx ρ := by unfold sExp; rw [h]; rfl
theorem r_app (h : ρ[i]? = some (some (.ow ds))) (h1 : f ρ = .ok d) (hl : ds.length < LIM) (e : ρ.set i (some (.ow (ds ++ [d]))) = ρ1) : sApp i f ρ = .nx ρ1 := by
  unfold sApp; rw [h]; dsimp only; rw [h1, ofR_ok, if_pos hl, e]
theorem r_frz (h : ρ[i]? = some (some (.ow ds))) (e : F (ρ.set i (some (.sh (.list ds)))) = o) : sFrz i F ρ = o := by
  unfold sFrz; rw [h]; exact e
theorem r_aug (h : ρ[i]? = some (some (.sh x))) (h1 : f ρ = .ok y) (h2 : g2 x y = .ok z) (e : ρ.set i (some (.sh z)) = ρ1) : sAug i g2 f ρ = .nx ρ1 := by
  unfold sAug; rw [h]; dsimp only; rw [h1, ofR_ok, h2, ofR_ok, e]
theorem r_for (h : it ρ = .ok ds) (e : forL T vs F ds (wipeE ρ vs) = o) : sFor it T vs F ρ = o := by unfold sFor; rw [h]; exact e
theorem r_callF (h : F (startE n ds) = .rt d) : callF n F ds = .ok d := by unfold callF; rw [h]
theorem r_callN (h : F (startE n ds) = .nx ρ1) : callF n F ds = .ok .none := by unfold callF; rw [h]
theorem r_callR (h : F (startE n ds) = .rt d) : callR n F ds = .ok d := by unfold callR; rw [h]
theorem r_callX (h : gl ds = .ok d) (hl : ds.length = np) : callX np gl ds = .ok d := callG_of h hl
theorem r_lst (h : ds.length ≤ 1000) : dLst ds = .ok (.list ds) := if_pos (Nat.le_trans h (by decide))
theorem r_tup (h : ds.length ≤ 1000) : dTup ds = .ok (.tuple ds) := if_pos (Nat.le_trans h (by decide))
end
end DL

namespace DL
open PySem L2
open Enc (enc)
/-! ### typed readings of the meanings -/
structure Tp (α : Type) where
  l : List α
  deriving DecidableEq
instance {α : Type} [Enc α] : Enc (Tp α) := ⟨fun t => .tuple (t.l.map enc), Enc.dep α + 1, fun t => by simpa [PyData.canLay0] using layAll t.l, fun l => by rw [PyData.depth]; exact Nat.add_le_add_right (depAll l.l) 1, fun a b => by
  rw [PyData.eqv, eqvAll_iff]
  cases a; cases b; simp⟩
instance : Enc Unit := ⟨fun _ => .none, 0, fun _ => rfl, fun _ => Nat.le_refl 0, fun a b => by simp [PyData.eqv]⟩
instance : Enc (Option Int) := ⟨fun o => match o with | none => .none | some i => .int i, 0, fun o => by cases o <;> rfl, fun o => by cases o <;> exact Nat.le_refl 0, fun a b => by cases a <;> cases b <;> simp [PyData.eqv]⟩
def P {α : Type} [Enc α] (f : En → Rs D) (ρ : En) (a : α) : Prop := f ρ = .ok (enc a)
def J {α : Type} [Enc α] (f : En → Rs D) (ρ : En) (m : Option α) : Prop := ∀ a, m = some a → f ρ = .ok (enc a)
def JT (f : En → Rs Bool) (ρ : En) (m : Option Bool) : Prop := ∀ a, m = some a → f ρ = .ok a
def JL {α : Type} [Enc α] (f : En → Rs (List D)) (ρ : En) (m : Option (List α)) : Prop := ∀ a, m = some a → f ρ = .ok (a.map enc)
section
variable {α β γ δ : Type} [Enc α] [Enc β] [Enc γ] [Enc δ] {ρ ρ1 : En} {f g h f4 f1 f2 f3 : En → Rs D} {c t : En → Rs Bool} {i : Nat} {m : Option α} {m1 : Option α} {m2 : Option β} {m3 : Option γ} {m4 : Option δ} {op1 : D → Rs D} {op2 op2' : D → D → Rs D} {opl : List D → Rs D} {opi : List D → Rs (List D)} {opm : List D → List D → Rs D} {mb mc : Option Bool} {T : Tg} {vs : List Nat}
theorem j_var {a : α} (h : ρ[i]? = some (some (.sh (enc a)))) : J (fVar i) ρ (some a) := fun b e => by rw [← Option.some.inj e]; exact r_var h
theorem j_varO {a : List α} (h : ρ[i]? = some (some (.ow (a.map enc)))) : J (fVar i) ρ (some a) := fun b e => by rw [← Option.some.inj e]; exact r_varO h
theorem j_sh {a : α} (h : ρ[i]? = some (some (.sh (enc a)))) : J (fSh i) ρ (some a) := fun b e => by rw [← Option.some.inj e]; exact r_sh h
theorem j_c {a : α} {d : D} (h : d = enc a) : J (fC d) ρ (some a) := fun b e => by rw [← Option.some.inj e, h]; rfl
theorem bind_some {α β : Type} {m : Option α} {k : α → Option β} {b : β} (h : m.bind k = some b) : ∃ a, m = some a ∧ k a = some b := by
  cases m with
  | none => exact absurd h (by simp)
  | some a => exact ⟨a, rfl, h⟩
theorem j1 {φ : α → Option β} (hop : ∀ a r, φ a = some r → op1 (enc a) = .ok (enc r)) (h : J f ρ m) : J (ap1 op1 f) ρ (m.bind φ) := fun r e => by
  obtain ⟨a, e1, e2⟩ := bind_some e
  exact r_ap1 (h a e1) (hop a r e2)
theorem j2 {φ : α → β → Option γ} (hop : ∀ a b r, φ a b = some r → op2 (enc a) (enc b) = .ok (enc r)) (h1 : J f ρ m1) (h2 : J g ρ m2) : J (ap2 op2 f g) ρ (m1.bind fun a => m2.bind fun b => φ a b) := fun r e => by
  obtain ⟨a, e1, e⟩ := bind_some e
  obtain ⟨b, e2, e⟩ := bind_some e
  exact r_ap2 (h1 a e1) (h2 b e2) (hop a b r e)
theorem jl0 {r : β} (hop : opl [] = .ok (enc r)) : J (apL opl fNil) ρ (some r) := fun b e => by rw [← Option.some.inj e]; exact r_apL r_nilA hop
theorem jl1 {φ : α → Option β} (hop : ∀ a r, φ a = some r → opl [enc a] = .ok (enc r)) (h : J f ρ m) : J (apL opl (fCons f fNil)) ρ (m.bind φ) := fun r e => by
  obtain ⟨a, e1, e2⟩ := bind_some e
  exact r_apL (r_cons (h a e1) r_nilA) (hop a r e2)
theorem jl2 {φ : α → β → Option γ} (hop : ∀ a b r, φ a b = some r → opl [enc a, enc b] = .ok (enc r)) (h1 : J f1 ρ m1) (h2 : J f2 ρ m2) : J (apL opl (fCons f1 (fCons f2 fNil))) ρ (m1.bind fun a => m2.bind fun b => φ a b) := fun r e => by
  obtain ⟨a, e1, e⟩ := bind_some e
  obtain ⟨b, e2, e⟩ := bind_some e
  exact r_apL (r_cons (h1 a e1) (r_cons (h2 b e2) r_nilA)) (hop a b r e)
theorem jl3 {φ : α → β → γ → Option δ} (hop : ∀ a b c r, φ a b c = some r → opl [enc a, enc b, enc c] = .ok (enc r)) (h1 : J f1 ρ m1) (h2 : J f2 ρ m2) (h3 : J f3 ρ m3) : J (apL opl (fCons f1 (fCons f2 (fCons f3 fNil)))) ρ (m1.bind fun a => m2.bind fun b => m3.bind fun c => φ a b c) := fun r e => by
  obtain ⟨a, e1, e⟩ := bind_some e
  obtain ⟨b, e2, e⟩ := bind_some e
  obtain ⟨c, e3, e⟩ := bind_some e
  exact r_apL (r_cons (h1 a e1) (r_cons (h2 b e2) (r_cons (h3 c e3) r_nilA))) (hop a b c r e)
theorem jl4 {ε : Type} [Enc ε] {φ : α → β → γ → δ → Option ε} (hop : ∀ a b c d r, φ a b c d = some r → opl [enc a, enc b, enc c, enc d] = .ok (enc r)) (h1 : J f1 ρ m1) (h2 : J f2 ρ m2) (h3 : J f3 ρ m3) (h4 : J f4 ρ m4) : J (apL opl (fCons f1 (fCons f2 (fCons f3 (fCons f4 fNil))))) ρ (m1.bind fun a => m2.bind fun b => m3.bind fun c => m4.bind fun d => φ a b c d) := fun r e => by
  obtain ⟨a, e1, e⟩ := bind_some e
  obtain ⟨b, e2, e⟩ := bind_some e
  obtain ⟨c, e3, e⟩ := bind_some e
  obtain ⟨d, e4, e⟩ := bind_some e
  exact r_apL (r_cons (h1 a e1) (r_cons (h2 b e2) (r_cons (h3 c e3) (r_cons (h4 d e4) r_nilA)))) (hop a b c d r e)
theorem g1 {φ : α → Option β} (hg : ∀ a r, φ a = some r → opl [enc a] = .ok (enc r)) : ∀ a r, φ a = some r → callX 1 opl [enc a] = .ok (enc r) := fun a r e => r_callX (hg a r e) rfl
theorem g2 {φ : α → β → Option γ} (hg : ∀ a b r, φ a b = some r → opl [enc a, enc b] = .ok (enc r)) : ∀ a b r, φ a b = some r → callX 2 opl [enc a, enc b] = .ok (enc r) := fun a b r e => r_callX (hg a b r e) rfl
theorem g3 {φ : α → β → γ → Option δ} (hg : ∀ a b c r, φ a b c = some r → opl [enc a, enc b, enc c] = .ok (enc r)) : ∀ a b c r, φ a b c = some r → callX 3 opl [enc a, enc b, enc c] = .ok (enc r) := fun a b c r e => r_callX (hg a b c r e) rfl
theorem g4 {ε : Type} [Enc ε] {φ : α → β → γ → δ → Option ε} (hg : ∀ a b c d r, φ a b c d = some r → opl [enc a, enc b, enc c, enc d] = .ok (enc r)) : ∀ a b c d r, φ a b c d = some r → callX 4 opl [enc a, enc b, enc c, enc d] = .ok (enc r) := fun a b c d r e => r_callX (hg a b c d r e) rfl
theorem ji1 {φ : α → Option (List β)} (hop : ∀ a r, φ a = some r → opi [enc a] = .ok (r.map enc)) (h : J f ρ m) : JL (apI opi (fCons f fNil)) ρ (m.bind φ) := fun r e => by
  obtain ⟨a, e1, e2⟩ := bind_some e
  exact r_apI (r_cons (h a e1) r_nilA) (hop a r e2)
theorem ji2 {φ : α → β → Option (List γ)} (hop : ∀ a b r, φ a b = some r → opi [enc a, enc b] = .ok (r.map enc)) (h1 : J f1 ρ m1) (h2 : J f2 ρ m2) : JL (apI opi (fCons f1 (fCons f2 fNil))) ρ (m1.bind fun a => m2.bind fun b => φ a b) := fun r e => by
  obtain ⟨a, e1, e⟩ := bind_some e
  obtain ⟨b, e2, e⟩ := bind_some e
  exact r_apI (r_cons (h1 a e1) (r_cons (h2 b e2) r_nilA)) (hop a b r e)
theorem ji3 {φ : α → β → γ → Option (List δ)} (hop : ∀ a b c r, φ a b c = some r → opi [enc a, enc b, enc c] = .ok (r.map enc)) (h1 : J f1 ρ m1) (h2 : J f2 ρ m2) (h3 : J f3 ρ m3) : JL (apI opi (fCons f1 (fCons f2 (fCons f3 fNil)))) ρ (m1.bind fun a => m2.bind fun b => m3.bind fun c => φ a b c) := fun r e => by
  obtain ⟨a, e1, e⟩ := bind_some e
  obtain ⟨b, e2, e⟩ := bind_some e
  obtain ⟨c, e3, e⟩ := bind_some e
  exact r_apI (r_cons (h1 a e1) (r_cons (h2 b e2) (r_cons (h3 c e3) r_nilA))) (hop a b c r e)
theorem jm1 {ml : Option (List α)} {φ : List α → β → Option γ} (hop : ∀ a b r, φ a b = some r → opm (a.map enc) [enc b] = .ok (enc r)) (h1 : J f ρ ml) (h2 : J g ρ m2) : J (apML opm f (fCons g fNil)) ρ (ml.bind fun a => m2.bind fun b => φ a b) := fun r e => by
  obtain ⟨a, e1, e⟩ := bind_some e
  obtain ⟨b, e2, e⟩ := bind_some e
  exact r_apML (h1 a e1) (r_cons (h2 b e2) r_nilA) (hop a b r e)
theorem jt {mb : Option Bool} (h : J f ρ mb) : JT (tVal f) ρ mb := fun b e => r_tVal (h b e)
theorem jt_an (h1 : JT c ρ mc) (h2 : JT t ρ mb) : JT (tAn c t) ρ (mc.bind fun a => if a = true then mb else some false) := fun r e => by
  obtain ⟨a, e1, e⟩ := bind_some e
  unfold tAn
  rw [h1 a e1, Rs.bind_ok]
  cases a with
  | true => exact h2 r e
  | false => rw [← Option.some.inj e]; rfl
theorem jt_or (h1 : JT c ρ mc) (h2 : JT t ρ mb) : JT (tOrr c t) ρ (mc.bind fun a => if a = true then some true else mb) := fun r e => by
  obtain ⟨a, e1, e⟩ := bind_some e
  unfold tOrr
  rw [h1 a e1, Rs.bind_ok]
  cases a with
  | false => exact h2 r e
  | true => rw [← Option.some.inj e]; rfl
theorem jt_not (h1 : JT c ρ mc) : JT (tNt c) ρ (mc.bind fun a => some (!a)) := fun r e => by
  obtain ⟨a, e1, e⟩ := bind_some e
  rw [← Option.some.inj e]
  exact r_tNt (h1 a e1)
theorem jt_true : JT tTrue ρ (some true) := fun b e => by rw [← Option.some.inj e]; rfl
theorem j_and {ma mb : Option Bool} (h1 : J f ρ ma) (h2 : J g ρ mb) : J (fAnd f g) ρ (ma.bind fun a => if a = true then mb else some false) := fun r e => by
  obtain ⟨a, e1, e⟩ := bind_some e
  unfold fAnd
  rw [h1 a e1, Rs.bind_ok]
  cases a with
  | true => exact h2 r e
  | false => rw [← Option.some.inj e]; rfl
theorem j_or {ma mb : Option Bool} (h1 : J f ρ ma) (h2 : J g ρ mb) : J (fOr f g) ρ (ma.bind fun a => if a = true then some true else mb) := fun r e => by
  obtain ⟨a, e1, e⟩ := bind_some e
  unfold fOr
  rw [h1 a e1, Rs.bind_ok]
  cases a with
  | false => exact h2 r e
  | true => rw [← Option.some.inj e]; rfl
theorem j_not {ma : Option Bool} (h1 : J f ρ ma) : J (fNot f) ρ (ma.bind fun a => some (!a)) := fun r e => by
  obtain ⟨a, e1, e⟩ := bind_some e
  rw [← Option.some.inj e]
  exact r_fNot (h1 a e1)
theorem j_if {n1 n2 : Option α} (h0 : JT c ρ mc) (h1 : J f ρ n1) (h2 : J g ρ n2) : J (fIf c f g) ρ (mc.bind fun a => if a = true then n1 else n2) := fun r e => by
  obtain ⟨a, e1, e⟩ := bind_some e
  unfold fIf
  rw [h0 a e1, Rs.bind_ok]
  cases a with
  | true => exact h1 r e
  | false => exact h2 r e
theorem j_chain {φ : α → β → Bool} {ψ : β → γ → Bool} (o1 : ∀ a b, op2 (enc a) (enc b) = .ok (enc (φ a b))) (o2 : ∀ a b, op2' (enc a) (enc b) = .ok (enc (ψ a b))) (h1 : J f ρ m1) (h2 : J g ρ m2) (h3 : J h ρ m3) : J (fChain op2 op2' f g h) ρ (m1.bind fun a => m2.bind fun b => m3.bind fun c => some (φ a b && ψ b c)) := fun r e => by
  obtain ⟨a, e1, e⟩ := bind_some e
  obtain ⟨b, e2, e⟩ := bind_some e
  obtain ⟨c, e3, e⟩ := bind_some e
  rw [← Option.some.inj e]
  exact r_chain (h1 a e1) (h2 b e2) (o1 a b) (h3 c e3) (o2 b c)
/-- slices -/
def JQ (f : En → Rs (Option Int)) (ρ : En) (m : Option (Option Int)) : Prop := ∀ a, m = some a → f ρ = .ok a
theorem jq_no : JQ fNoPart ρ (some none) := fun b e => by rw [← Option.some.inj e]; rfl
theorem jq_part {mi : Option Int} (h : J f ρ mi) : JQ (fPart f) ρ (mi.bind fun k => some (some k)) := fun r e => by
  obtain ⟨a, e1, e⟩ := bind_some e
  rw [← Option.some.inj e]
  exact r_part (h a e1)
theorem cutD_map (l : List α) (p q : Option Int) : cutD (l.map enc) p q = (cutD l p q).map enc := by
  unfold cutD
  simp [List.map_take, List.map_drop]
theorem j_sl {lo hi : En → Rs (Option Int)} {ml : Option (List α)} {mp mq : Option (Option Int)} (h1 : J f ρ ml) (h2 : JQ lo ρ mp) (h3 : JQ hi ρ mq) : J (fSl f lo hi) ρ (ml.bind fun l => mp.bind fun p => mq.bind fun q => some (cutD l p q)) := fun r e => by
  obtain ⟨a, e1, e⟩ := bind_some e
  obtain ⟨b, e2, e⟩ := bind_some e
  obtain ⟨c, e3, e⟩ := bind_some e
  rw [← Option.some.inj e]
  refine r_sl (h1 a e1) (h2 b e2) (h3 c e3) ?_
  show Rs.ok (PyData.list (cutD (a.map enc) b c)) = _
  rw [cutD_map]
  rfl
theorem jl_ls {ml : Option (List α)} (h : J f ρ ml) : JL (iLs f) ρ ml := fun r e => r_iLs (h r e) rfl
theorem jl_tp {ml : Option (Tp α)} (h : J f ρ ml) : JL (iTp f) ρ (ml.bind fun t => some t.l) := fun r e => by
  obtain ⟨a, e1, e⟩ := bind_some e
  rw [← Option.some.inj e]
  exact r_iTp (h a e1) rfl
theorem jl_pr {ml : Option (α × α)} (h : J f ρ ml) : JL (iTp f) ρ (ml.bind fun t => some [t.1, t.2]) := fun r e => by
  obtain ⟨a, e1, e⟩ := bind_some e
  rw [← Option.some.inj e]
  exact r_iTp (h a e1) rfl
/-! comprehensions -/
def oComp {α β : Type} (mt : α → Option Bool) (me : α → Option β) : List α → Option (List β)
  | [] => some []
  | x :: l => (mt x).bind fun b => if b = true then (me x).bind fun y => (oComp mt me l).bind fun ys => some (y :: ys) else oComp mt me l
def oMap {α β : Type} (me : α → Option β) : List α → Option (List β)
  | [] => some []
  | x :: l => (me x).bind fun y => (oMap me l).bind fun ys => some (y :: ys)
def lim {α β : Type} (l : List α) (m : Option β) : Option β := if l.length ≤ LIM then m else none
theorem lim_some {α β : Type} {l : List α} {m : Option β} {b : β} (h : lim l m = some b) : l.length ≤ LIM ∧ m = some b := by
  unfold lim at h
  split at h
  · exact ⟨by assumption, h⟩
  · exact absurd h (by simp)
theorem compL_o {ft : En → Rs Bool} {fe : En → Rs D} {en : α → En} {mt : α → Option Bool} {me : α → Option β} (h1 : ∀ x, T.asg (enc x) ρ = some (en x)) (ht : ∀ x, JT ft (en x) (mt x)) (he : ∀ x, J fe (en x) (me x)) : ∀ (l : List α) r, oComp mt me l = some r → compL T ft fe ρ (l.map enc) = .ok (r.map enc)
  | [], r, e => by rw [← Option.some.inj e]; rfl
  | x :: l, r, e => by
    obtain ⟨b, e1, e⟩ := bind_some e
    rw [List.map_cons]
    unfold compL
    rw [h1 x]
    dsimp only
    rw [ht x b e1]
    cases b with
    | false => exact compL_o h1 ht he l r e
    | true =>
      obtain ⟨y, e2, e⟩ := bind_some e
      obtain ⟨ys, e3, e⟩ := bind_some e
      rw [← Option.some.inj e]
      simp only [Rs.noEr_ok, Rs.bind_ok, if_true]
      rw [he x y e2, compL_o h1 ht he l ys e3]
      rfl
theorem oMap_comp {α β : Type} (me : α → Option β) : ∀ l, oComp (fun _ => some true) me l = oMap me l
  | [] => rfl
  | x :: l => by unfold oComp oMap; rw [oMap_comp me l]; rfl
theorem j_comp {it : En → Rs (List D)} {ft : En → Rs Bool} {fe : En → Rs D} {ml : Option (List α)} {en : α → En} {mt : α → Option Bool} {me : α → Option β} (hi : JL it ρ ml) (h1 : ∀ x, T.asg (enc x) (wipeE ρ vs) = some (en x)) (ht : ∀ x, JT ft (en x) (mt x)) (he : ∀ x, J fe (en x) (me x)) : J (fComp it T ft fe vs) ρ (ml.bind fun l => lim l (oComp mt me l)) := fun r e => by
  obtain ⟨l, e1, e⟩ := bind_some e
  obtain ⟨e2, e⟩ := lim_some e
  unfold fComp
  rw [hi l e1, Rs.bind_ok, if_pos (by simpa using e2), compL_o h1 ht he l r e]
  rfl
theorem j_compA {it : En → Rs (List D)} {fe : En → Rs D} {ml : Option (List α)} {en : α → En} {me : α → Option β} (hi : JL it ρ ml) (h1 : ∀ x, T.asg (enc x) (wipeE ρ vs) = some (en x)) (he : ∀ x, J fe (en x) (me x)) : J (fComp it T tTrue fe vs) ρ (ml.bind fun l => lim l (oMap me l)) := by
  have := j_comp (ft := tTrue) (mt := fun _ => some true) hi h1 (fun _ => jt_true) he
  simpa only [oMap_comp] using this
end
end DL

namespace DL
open PySem L2
open Enc (enc)
/-! ### operations on typed data -/
section
variable {α β : Type} [Enc α] [Enc β]
theorem sinj {α β : Type} [Enc β] {a r : β} {x : Rs D} (h : x = .ok (enc a)) (e : some a = some r) : x = .ok (enc r) := by rw [← Option.some.inj e]; exact h
theorem o_add (a b r : Int) (e : some (a + b) = some r) : dAdd (enc a) (enc b) = .ok (enc r) := sinj (α := Int) rfl e
theorem o_addI (a b r : Int) (e : some (a + b) = some r) : dAddI (enc a) (enc b) = .ok (enc r) := sinj (α := Int) rfl e
theorem o_sub (a b r : Int) (e : some (a - b) = some r) : dSub (enc a) (enc b) = .ok (enc r) := sinj (α := Int) rfl e
theorem o_subI (a b r : Int) (e : some (a - b) = some r) : dSubI (enc a) (enc b) = .ok (enc r) := sinj (α := Int) rfl e
theorem o_neg (a r : Int) (e : some (-a) = some r) : dNeg (enc a) = .ok (enc r) := sinj (α := Int) rfl e
theorem o_lt (a b : Int) (r : Bool) (e : some (decide (a < b)) = some r) : dLt (enc a) (enc b) = .ok (enc r) := sinj (α := Int) rfl e
theorem o_le (a b : Int) (r : Bool) (e : some (decide (a ≤ b)) = some r) : dLe (enc a) (enc b) = .ok (enc r) := sinj (α := Int) rfl e
theorem o_gt (a b : Int) (r : Bool) (e : some (decide (b < a)) = some r) : dGt (enc a) (enc b) = .ok (enc r) := sinj (α := Int) rfl e
theorem o_ge (a b : Int) (r : Bool) (e : some (decide (b ≤ a)) = some r) : dGe (enc a) (enc b) = .ok (enc r) := sinj (α := Int) rfl e
theorem c_le (a b : Int) : dLe (enc a) (enc b) = .ok (enc (decide (a ≤ b))) := rfl
theorem c_lt (a b : Int) : dLt (enc a) (enc b) = .ok (enc (decide (a < b))) := rfl
theorem o_abs (a r : Int) (e : some (if a < 0 then -a else a) = some r) : dAbs [enc a] = .ok (enc r) := sinj (α := Int) rfl e
def oMul (a b : Int) : Option Int := if a.natAbs ≤ 1000000000 then some (a * b) else none
def oDiv (a b : Int) : Option Int := if 0 < b ∧ b < 1073741824 then some (a / b) else none
def oMod (a b : Int) : Option Int := if 0 < b then some (a % b) else none
theorem o_mul (a b r : Int) (e : oMul a b = some r) : dMul (enc a) (enc b) = .ok (enc r) := by
  unfold oMul at e
  split at e
  · rename_i h
    rw [← Option.some.inj e]
    exact if_pos (Or.inl ⟨by omega, by omega⟩)
  · exact absurd e (by simp)
theorem o_mulI (a b r : Int) (e : oMul a b = some r) : dMulI (enc a) (enc b) = .ok (enc r) := o_mul a b r e
theorem o_div (a b r : Int) (e : oDiv a b = some r) : dFdiv (enc a) (enc b) = .ok (enc r) := by
  unfold oDiv at e
  split at e
  · rename_i h
    rw [← Option.some.inj e, ← Int.fdiv_eq_ediv_of_nonneg _ (by omega)]
    exact if_pos ⟨by omega, by omega⟩
  · exact absurd e (by simp)
theorem o_divI (a b r : Int) (e : oDiv a b = some r) : dFdivI (enc a) (enc b) = .ok (enc r) := by
  unfold oDiv at e
  split at e
  · rename_i h
    rw [← Option.some.inj e]
    exact if_pos h
  · exact absurd e (by simp)
theorem o_mod (a b r : Int) (e : oMod a b = some r) : dMod (enc a) (enc b) = .ok (enc r) := by
  unfold oMod at e
  split at e
  · rename_i h
    rw [← Option.some.inj e, ← Int.fmod_eq_emod_of_nonneg _ (by omega)]
    exact if_pos (by omega)
  · exact absurd e (by simp)
theorem o_modI (a b r : Int) (e : oMod a b = some r) : dModI (enc a) (enc b) = .ok (enc r) := by
  unfold oMod at e
  split at e
  · rename_i h
    rw [← Option.some.inj e]
    exact if_pos h
  · exact absurd e (by simp)
def oCat {α : Type} (a b : List α) : Option (List α) := if a.length + b.length ≤ LIM then some (a ++ b) else none
theorem o_cat (a b r : List α) (e : oCat a b = some r) : dAdd (enc a) (enc b) = .ok (enc r) := by
  unfold oCat at e
  split at e
  · rename_i h
    rw [← Option.some.inj e]
    exact add_enc a b h
  · exact absurd e (by simp)
theorem o_catT (a b r : Tp α) (e : (oCat a.l b.l).bind (fun x => some (Tp.mk x)) = some r) : dAdd (enc a) (enc b) = .ok (enc r) := by
  obtain ⟨x, e1, e⟩ := bind_some e
  rw [← Option.some.inj e]
  unfold oCat at e1
  split at e1
  · rename_i h
    rw [← Option.some.inj e1]
    show (if (a.l.map enc).length + (b.l.map enc).length ≤ LIM then _ else _) = _
    rw [List.length_map, List.length_map, if_pos h, ← List.map_append]
    rfl
  · exact absurd e1 (by simp)
def oRep {α : Type} (a : List α) (k : Int) : Option (List α) := if k.natAbs ≤ 1000 ∧ a.length ≤ 1000 then some (List.replicate k.toNat a).flatten else none
theorem o_rep (a : List α) (k : Int) (r : List α) (e : oRep a k = some r) : dRep (enc a) (enc k) = .ok (enc r) := by
  unfold oRep at e
  split at e
  · rename_i h
    rw [← Option.some.inj e]
    show (if _ then _ else _) = _
    have hk : k.toNat ≤ 1000 := by omega
    have hm : (a.map enc).length * k.toNat ≤ 1000 * 1000 := by rw [List.length_map]; exact Nat.mul_le_mul h.2 hk
    rw [if_pos ⟨by omega, by omega, Nat.le_trans hm (by decide)⟩]
    show Rs.ok (PyData.list _) = Rs.ok (PyData.list ((List.replicate k.toNat a).flatten.map enc))
    rw [List.map_flatten, List.map_replicate]
  · exact absurd e (by simp)
variable [DecidableEq α]
theorem o_eq (h : Enc.dep α ≤ 64) (a b : α) (r : Bool) (e : some (decide (a = b)) = some r) : dEq (enc a) (enc b) = .ok (enc r) := by rw [← Option.some.inj e]; exact dEq_enc h a b
theorem o_ne (h : Enc.dep α ≤ 64) (a b : α) (r : Bool) (e : some (!decide (a = b)) = some r) : dNe (enc a) (enc b) = .ok (enc r) := by rw [← Option.some.inj e]; exact dNe_enc h a b
theorem o_in (h : Enc.dep α + 1 ≤ 64) (a : α) (l : List α) (r : Bool) (e : some (decide (a ∈ l)) = some r) : dIn (enc a) (enc l) = .ok (enc r) := by rw [← Option.some.inj e]; exact dIn_enc h a l
theorem o_notin (h : Enc.dep α + 1 ≤ 64) (a : α) (l : List α) (r : Bool) (e : some (!decide (a ∈ l)) = some r) : dNotIn (enc a) (enc l) = .ok (enc r) := by rw [← Option.some.inj e]; exact dNotIn_enc h a l
def oIdx {α : Type} [DecidableEq α] (l : List α) (a : α) : Option Int := if a ∈ l then some ((l.idxOf a : Nat) : Int) else none
theorem o_index (h : Enc.dep α + 1 ≤ 64) (l : List α) (a : α) (r : Int) (e : oIdx l a = some r) : dIndex (l.map enc) [enc a] = .ok (enc r) := by
  unfold oIdx at e
  split at e
  · rename_i q
    rw [← Option.some.inj e]
    exact dIndex_enc h l a q
  · exact absurd e (by simp)
omit [DecidableEq α]
theorem o_count (l : List Int) (a r : Int) (e : some ((l.count a : Nat) : Int) = some r) : dCount (l.map enc) [enc a] = .ok (enc r) := by
  rw [← Option.some.inj e]
  unfold dCount
  rw [ints_enc]
  rfl
theorem o_isTrue (a : Bool) (r : Bool) (e : some (!a) = some r) : dIsNotN (enc a) (enc true) = .ok (enc r) := by
  rw [← Option.some.inj e]
  cases a <;> rfl
theorem o_ix (l : List α) (k : Int) (r : α) (e : atI l k = some r) : dIx (enc l) (enc k) = .ok (enc r) := by
  show (match atI (l.map enc) k with | some d => Rs.ok d | none => Rs.no) = _
  have : atI (l.map enc) k = (atI l k).map enc := by
    unfold atI
    rw [List.length_map]
    cases ixN l.length k with
    | none => rfl
    | some j => exact List.getElem?_map
  rw [this, e]
  rfl
theorem o_ixT (t : Tp α) (k : Int) (r : α) (e : atI t.l k = some r) : dIx (enc t) (enc k) = .ok (enc r) := o_ix t.l k r e
theorem o_ix0 (p : α × β) (k : Int) (r : α) (e : (if k = 0 then some p.1 else none) = some r) : dIx (enc p) (enc k) = .ok (enc r) := by
  split at e
  · rename_i h; rw [h, ← Option.some.inj e]; rfl
  · exact absurd e (by simp)
theorem o_ix1 (p : α × β) (k : Int) (r : β) (e : (if k = 1 then some p.2 else none) = some r) : dIx (enc p) (enc k) = .ok (enc r) := by
  split at e
  · rename_i h; rw [h, ← Option.some.inj e]; rfl
  · exact absurd e (by simp)
theorem o_len (l : List α) (r : Int) (e : some ((l.length : Nat) : Int) = some r) : dLen [enc l] = .ok (enc r) := by rw [← Option.some.inj e]; exact len_enc l
theorem o_lenT (l : Tp α) (r : Int) (e : some ((l.l.length : Nat) : Int) = some r) : dLen [enc l] = .ok (enc r) := by
  rw [← Option.some.inj e]
  show Rs.ok (PyData.int ((l.l.map enc).length : Nat)) = _
  rw [List.length_map]
  rfl
theorem o_lenP (l : α × β) (r : Int) (e : some (2 : Int) = some r) : dLen [enc l] = .ok (enc r) := by rw [← Option.some.inj e]; rfl
theorem o_sum (l : List Int) (r : Int) (e : some l.sum = some r) : dSum [enc l] = .ok (enc r) := by rw [← Option.some.inj e]; exact sum_enc l
def oMax (l : List Int) : Option Int := if l ≠ [] then some (maxI l) else none
def oMin (l : List Int) : Option Int := if l ≠ [] then some (minI l) else none
theorem o_max (l : List Int) (r : Int) (e : oMax l = some r) : dMax [enc l] = .ok (enc r) := by
  show (match intsOf (l.map enc) with | some ns => if ns ≠ [] then Rs.ok (PyData.int (maxI ns)) else .no | none => Rs.no) = _
  rw [ints_enc]
  unfold oMax at e
  split at e
  · rename_i h; rw [← Option.some.inj e]; exact if_pos h
  · exact absurd e (by simp)
theorem o_min (l : List Int) (r : Int) (e : oMin l = some r) : dMin [enc l] = .ok (enc r) := by
  show (match intsOf (l.map enc) with | some ns => if ns ≠ [] then Rs.ok (PyData.int (minI ns)) else .no | none => Rs.no) = _
  rw [ints_enc]
  unfold oMin at e
  split at e
  · rename_i h; rw [← Option.some.inj e]; exact if_pos h
  · exact absurd e (by simp)
theorem o_max2 (a b r : Int) (e : some (if b > a then b else a) = some r) : dMax [enc a, enc b] = .ok (enc r) := sinj (α := Int) rfl e
theorem o_min2 (a b r : Int) (e : some (if b < a then b else a) = some r) : dMin [enc a, enc b] = .ok (enc r) := sinj (α := Int) rfl e
theorem o_all (l : List Bool) (r : Bool) (e : some (l.all id) = some r) : dAll [enc l] = .ok (enc r) := by rw [← Option.some.inj e]; exact all_enc l
theorem o_sorted (l : List Int) (r : List Int) (e : some (sortI l) = some r) : dSorted [enc l] = .ok (enc r) := by
  rw [← Option.some.inj e]
  show (match intsOf (l.map enc) with | some ns => Rs.ok (PyData.list ((sortI ns).map PyData.int)) | none => Rs.no) = _
  rw [ints_enc]
  rfl
theorem o_list (l r : List α) (e : some l = some r) : dList [enc l] = .ok (enc r) := by rw [← Option.some.inj e]; rfl
theorem o_tuple (l : List α) (r : Tp α) (e : some (Tp.mk l) = some r) : dTuple [enc l] = .ok (enc r) := by rw [← Option.some.inj e]; rfl
theorem o_rev (l r : List α) (e : some l.reverse = some r) : dRev (enc l) = .ok (enc r) := by rw [← Option.some.inj e]; exact rev_enc l
theorem o_ltl (l m : List Int) (r : Bool) (e : some (lexI l m) = some r) : dLtL (enc l) (enc m) = .ok (enc r) := by
  rw [← Option.some.inj e]
  show (match intsOf (l.map enc), intsOf (m.map enc) with | some ns, some ms => Rs.ok (PyData.bool (lexI ns ms)) | _, _ => Rs.no) = _
  rw [ints_enc, ints_enc]
  rfl
theorem o_isiL (a : List α) (T : String) (r : Bool) (e : some (isiB "list" T) = some r) : dIsi T (enc a) = .ok (enc r) := by rw [← Option.some.inj e]; rfl
theorem o_isiI (a : Int) (T : String) (r : Bool) (e : some (isiB "int" T) = some r) : dIsi T (enc a) = .ok (enc r) := by rw [← Option.some.inj e]; rfl
theorem o_isiP (a : α × β) (T : String) (r : Bool) (e : some (isiB "tuple" T) = some r) : dIsi T (enc a) = .ok (enc r) := by rw [← Option.some.inj e]; rfl
theorem o_lst1 (a : α) (r : List α) (e : some [a] = some r) : dLst [enc a] = .ok (enc r) := by rw [← Option.some.inj e]; exact r_lst (by simp)
theorem o_lst2 (a b : α) (r : List α) (e : some [a, b] = some r) : dLst [enc a, enc b] = .ok (enc r) := by rw [← Option.some.inj e]; exact r_lst (by simp)
theorem o_lst3 (a b c : α) (r : List α) (e : some [a, b, c] = some r) : dLst [enc a, enc b, enc c] = .ok (enc r) := by rw [← Option.some.inj e]; exact r_lst (by simp)
theorem o_pair (a : α) (b : β) (r : α × β) (e : some (a, b) = some r) : dTup [enc a, enc b] = .ok (enc r) := by rw [← Option.some.inj e]; exact r_tup (by simp)
theorem o_tup3 (a b c : α) (r : Tp α) (e : some (Tp.mk [a, b, c]) = some r) : dTup [enc a, enc b, enc c] = .ok (enc r) := by rw [← Option.some.inj e]; exact r_tup (by simp)
theorem o_tup4 (a b c d : α) (r : Tp α) (e : some (Tp.mk [a, b, c, d]) = some r) : dTup [enc a, enc b, enc c, enc d] = .ok (enc r) := by rw [← Option.some.inj e]; exact r_tup (by simp)
theorem o_lst0 : dLst [] = .ok (enc ([] : List α)) := r_lst (by simp)
/-! iterators -/
def rg : Int → Nat → List Int
  | _, 0 => []
  | i, n + 1 => i :: rg (i + 1) n
def rgd : Int → Nat → List Int
  | _, 0 => []
  | i, n + 1 => i :: rgd (i - 1) n
def enumL {α : Type} : Int → List α → List (Int × α)
  | _, [] => []
  | i, x :: l => (i, x) :: enumL (i + 1) l
theorem rangeD_rg (i : Int) (n : Nat) : rangeD i n = (rg i n).map enc := by
  induction n generalizing i with
  | zero => rfl
  | succ n ih =>
    have e : rangeD i (n + 1) = .int i :: rangeD (i + 1) n := by
      unfold rangeD
      rw [List.range_succ_eq_map, List.map_cons, List.map_map]
      congr 1
      · simp
      · apply List.map_congr_left
        intro k _
        show PyData.int _ = PyData.int _
        congr 1
        simp only [Nat.succ_eq_add_one]
        omega
    rw [e, ih (i + 1)]
    rfl
theorem downD_rg (i : Int) (n : Nat) : downD i n = (rgd i n).map enc := by
  induction n generalizing i with
  | zero => rfl
  | succ n ih =>
    have e : downD i (n + 1) = .int i :: downD (i - 1) n := by
      unfold downD
      rw [List.range_succ_eq_map, List.map_cons, List.map_map]
      congr 1
      · simp
      · apply List.map_congr_left
        intro k _
        show PyData.int _ = PyData.int _
        congr 1
        simp only [Nat.succ_eq_add_one]
        omega
    rw [e, ih (i - 1)]
    rfl
def oR1 (n : Int) : Option (List Int) := if n.natAbs ≤ 1000000 then some (rg 0 n.toNat) else none
def oR2 (i j : Int) : Option (List Int) := if i.natAbs ≤ 1000000 ∧ j.natAbs ≤ 100000 ∧ 0 ≤ i then some (rg i (j - i).toNat) else none
def oR3 (i j c : Int) : Option (List Int) := if (i.natAbs ≤ 1000000 ∧ j.natAbs ≤ 1000000) ∧ c = -1 then some (rgd i (i - j).toNat) else none
theorem o_rng1 (n : Int) (r : List Int) (e : oR1 n = some r) : dRng [enc n] = .ok (r.map enc) := by
  unfold oR1 at e
  split at e
  · rename_i h
    rw [← Option.some.inj e, ← rangeD_rg]
    exact if_pos ⟨by omega, by omega⟩
  · exact absurd e (by simp)
theorem o_rng2 (i j : Int) (r : List Int) (e : oR2 i j = some r) : dRng [enc i, enc j] = .ok (r.map enc) := by
  unfold oR2 at e
  split at e
  · rename_i h
    rw [← Option.some.inj e, ← rangeD_rg]
    exact if_pos ⟨by omega, by omega, by omega, by omega⟩
  · exact absurd e (by simp)
theorem o_rng3 (i j c : Int) (r : List Int) (e : oR3 i j c = some r) : dRng [enc i, enc j, enc c] = .ok (r.map enc) := by
  unfold oR3 at e
  split at e
  · rename_i h
    rw [← Option.some.inj e, ← downD_rg]
    exact if_pos ⟨⟨by omega, by omega, by omega, by omega⟩, h.2⟩
  · exact absurd e (by simp)
theorem o_range (i j : Int) (r : List Int) (e : oR2 i j = some r) : dRange (enc i) (enc j) = .ok (enc r) := by
  unfold oR2 at e
  split at e
  · rename_i h
    rw [← Option.some.inj e]
    have : (j - i).toNat ≤ 100000 := by omega
    refine (if_pos ⟨⟨by omega, by omega, by omega, by omega⟩, Nat.le_trans this (by decide)⟩).trans ?_
    rw [rangeD_rg]
    rfl
  · exact absurd e (by simp)
theorem zipD_enc (l : List α) (m : List β) : zipD (l.map enc) (m.map enc) = (l.zip m).map enc := by
  unfold zipD
  rw [List.length_map, List.length_map]
  apply List.ext_getElem?
  intro i
  by_cases h : i < min l.length m.length
  · have h1 : i < l.length := by omega
    have h2 : i < m.length := by omega
    have h3 : i < (l.zip m).length := by rw [List.length_zip]; exact h
    rw [List.getElem?_map, List.getElem?_map, List.getElem?_range h, List.getElem?_eq_getElem h3]
    simp [List.getD_eq_getElem?_getD, h1, h2, enc_pair]
  · rw [List.getElem?_map, List.getElem?_map, List.getElem?_eq_none (by simpa using (by omega : min l.length m.length ≤ i)), List.getElem?_eq_none (by rw [List.length_zip]; omega)]
    rfl
theorem enumL_get {α : Type} : ∀ (l : List α) (k : Int) (i : Nat), (enumL k l)[i]? = l[i]?.map fun x => (k + (i : Int), x)
  | [], k, i => by simp [enumL]
  | x :: l, k, 0 => by simp [enumL]
  | x :: l, k, i + 1 => by
    unfold enumL
    rw [List.getElem?_cons_succ, List.getElem?_cons_succ, enumL_get l (k + 1) i]
    have : k + 1 + (i : Int) = k + ((i + 1 : Nat) : Int) := by omega
    rw [this]
theorem enumD_enc (l : List α) : enumD (l.map enc) = (enumL 0 l).map enc := by
  unfold enumD
  rw [List.length_map]
  apply List.ext_getElem?
  intro i
  rw [List.getElem?_map, List.getElem?_map, enumL_get]
  by_cases h : i < l.length
  · rw [List.getElem?_range h, List.getElem?_eq_getElem h]
    simp [List.getD_eq_getElem?_getD, h, enc_pair]
    rfl
  · rw [List.getElem?_eq_none (by simpa using h), List.getElem?_eq_none (by omega)]
    rfl
theorem o_zip (l : List α) (m : List β) (r : List (α × β)) (e : some (l.zip m) = some r) : dZip [enc l, enc m] = .ok (r.map enc) := by
  rw [← Option.some.inj e, ← zipD_enc]
  rfl
theorem o_enum (l : List α) (r : List (Int × α)) (e : some (enumL 0 l) = some r) : dEnum [enc l] = .ok (r.map enc) := by
  rw [← Option.some.inj e, ← enumD_enc]
  rfl
end
end DL

namespace DL
open PySem L2
open Enc (enc)
/-! ### typed readings of statements -/
inductive TO (σ τ : Type) where
  | nx (s : σ) | rt (r : τ)
def Ho {σ τ : Type} [Enc τ] (E : σ → En → Prop) (o : Out) : TO σ τ → Prop
  | .nx s => ∃ ρ', o = .nx ρ' ∧ E s ρ'
  | .rt r => o = .rt (enc r)
def JS {σ τ κ : Type} [Enc τ] (E : σ → En → Prop) (dec : κ → TO σ τ) (F : En → Out) (ρ : En) (m : Option κ) : Prop := ∀ x, m = some x → Ho E (F ρ) (dec x)
section
variable {σ τ κ : Type} [Enc τ] {E : σ → En → Prop} {dec : κ → TO σ τ} {F G A B : En → Out} {ρ ρ1 : En} {α β : Type} [Enc α] [Enc β] {f g fa fb : En → Rs D} {c : En → Rs Bool} {i j : Nat} {m : Option α} {m2 : Option β} {mk : Option κ} {vs is : List Nat} {T : Tg} {it : En → Rs (List D)}
theorem seq_nx (h : F ρ = .nx ρ1) : sSeq F G ρ = G ρ1 := by unfold sSeq; rw [h]
theorem seq_rt {d : D} (h : F ρ = .rt d) : sSeq F G ρ = .rt d := by unfold sSeq; rw [h]
theorem js_last (h : JS E dec (sSeq F sNil) ρ mk) : JS E dec F ρ mk := by
  intro x e
  have := h x e
  have q : sSeq F sNil ρ = F ρ := by
    unfold sSeq sNil
    cases F ρ <;> rfl
  rwa [q] at this
theorem js_assoc (h : JS E dec (sSeq A (sSeq B G)) ρ mk) : JS E dec (sSeq (sSeq A B) G) ρ mk := by
  intro x e
  have := h x e
  have q : sSeq (sSeq A B) G ρ = sSeq A (sSeq B G) ρ := by
    unfold sSeq
    cases A ρ <;> rfl
  rwa [q]
theorem js_nilS (h : JS E dec G ρ mk) : JS E dec (sSeq sNil G) ρ mk := h
theorem js_nil {s : σ} {x : κ} (hd : dec x = .nx s) (h : E s ρ) : JS E dec sNil ρ (some x) := by
  intro y e
  rw [← Option.some.inj e, hd]
  exact ⟨ρ, rfl, h⟩
theorem js_ex {c : Nat} : JS E dec (sSeq (sEx c) G) ρ none := fun x e => absurd e (by simp)
theorem js_no : JS E dec (sSeq sNo G) ρ none := fun x e => absurd e (by simp)
theorem js_set {k : α → Option κ} (h : J f ρ m) (hk : ∀ v, JS E dec G (ρ.set i (some (.sh (enc v)))) (k v)) : JS E dec (sSeq (sSet i f) G) ρ (m.bind k) := by
  intro x e
  obtain ⟨a, e1, e⟩ := bind_some e
  rw [seq_nx (r_set (h a e1) rfl)]
  exact hk a x e
theorem js_own {ml : Option (List α)} {k : List α → Option κ} (h : J f ρ ml) (hk : ∀ v : List α, JS E dec G (ρ.set i (some (.ow (v.map enc)))) (k v)) : JS E dec (sSeq (sOwn i f) G) ρ (ml.bind k) := by
  intro x e
  obtain ⟨a, e1, e⟩ := bind_some e
  rw [seq_nx (r_own (h a e1) rfl)]
  exact hk a x e
theorem js_exp (h : J f ρ m) (hk : JS E dec G ρ mk) : JS E dec (sSeq (sExp f) G) ρ (m.bind fun _ => mk) := by
  intro x e
  obtain ⟨a, e1, e⟩ := bind_some e
  rw [seq_nx (r_exp (h a e1))]
  exact hk x e
theorem js_ret {mt : Option τ} {w : τ → κ} (hw : ∀ r, dec (w r) = .rt r) (h : J f ρ mt) : JS E dec (sSeq (sRet f) G) ρ (mt.bind fun r => some (w r)) := by
  intro x e
  obtain ⟨a, e1, e⟩ := bind_some e
  rw [← Option.some.inj e, hw, seq_rt (r_ret (h a e1))]
  rfl
theorem js_ret' {mt : Option τ} {E : σ → En → Prop} (h : J f ρ mt) : JS E (TO.rt : τ → TO σ τ) (sSeq (sRet f) G) ρ mt := by
  intro x e
  rw [seq_rt (r_ret (h x e))]
  rfl
theorem js_retO {l : List β} {E : σ → En → Prop} (h : ρ[i]? = some (some (.ow (l.map enc)))) : JS E (TO.rt : List β → TO σ (List β)) (sSeq (sRetO i) G) ρ (some l) := by
  intro x e
  rw [seq_rt (r_retO h), ← Option.some.inj e]
  rfl
theorem js_if {mc : Option Bool} {ma mb : Option κ} (hc : JT c ρ mc) (ha : JS E dec (sSeq A G) ρ ma) (hb : JS E dec (sSeq B G) ρ mb) : JS E dec (sSeq (sIf c A B) G) ρ (mc.bind fun b => if b = true then ma else mb) := by
  intro x e
  obtain ⟨b, e1, e⟩ := bind_some e
  cases b with
  | true =>
    have q : sSeq (sIf c A B) G ρ = sSeq A G ρ := by
      unfold sSeq
      rw [r_ifT (h2 := rfl) (hc true e1) rfl]
    rw [q]
    exact ha x e
  | false =>
    have q : sSeq (sIf c A B) G ρ = sSeq B G ρ := by
      unfold sSeq
      rw [r_ifF (h2 := rfl) (hc false e1) rfl]
    rw [q]
    exact hb x e
def oApp {α κ : Type} (l : List α) (m : Option α) (k : List α → Option κ) : Option κ := m.bind fun v => if l.length < LIM then k (l ++ [v]) else none
theorem js_app {l : List α} {k : List α → Option κ} (hs : ρ[i]? = some (some (.ow (l.map enc)))) (h : J f ρ m) (hk : ∀ v : List α, JS E dec G (ρ.set i (some (.ow (v.map enc)))) (k v)) : JS E dec (sSeq (sApp i f) G) ρ (oApp l m k) := by
  intro x e
  obtain ⟨a, e1, e⟩ := bind_some e
  split at e
  · rename_i hl
    rw [seq_nx (r_app hs (h a e1) (by simpa using hl) rfl)]
    have := hk (l ++ [a]) x e
    rwa [List.map_append] at this
  · exact absurd e (by simp)
def oExt {α κ : Type} (l : List α) (m : Option (List α)) (k : List α → Option κ) : Option κ := m.bind fun v => if l.length + v.length ≤ LIM then k (l ++ v) else none
theorem js_ext {l : List α} {ml : Option (List α)} {k : List α → Option κ} (hs : ρ[i]? = some (some (.ow (l.map enc)))) (h : J f ρ ml) (hk : ∀ v : List α, JS E dec G (ρ.set i (some (.ow (v.map enc)))) (k v)) : JS E dec (sSeq (sExt i f) G) ρ (oExt l ml k) := by
  intro x e
  obtain ⟨a, e1, e⟩ := bind_some e
  split at e
  · rename_i hl
    have q : sExt i f ρ = .nx (ρ.set i (some (.ow ((l ++ a).map enc)))) := by
      unfold sExt
      rw [hs]
      dsimp only
      rw [h a e1, ofR_ok]
      show (if (l.map enc).length + (a.map enc).length ≤ LIM then _ else _) = _
      rw [List.length_map, List.length_map, if_pos hl, List.map_append]
    rw [seq_nx q]
    exact hk (l ++ a) x e
  · exact absurd e (by simp)
def oSetI {α κ : Type} (l : List α) (mv : Option α) (mi : Option Int) (k : List α → Option κ) : Option κ := mv.bind fun v => mi.bind fun i => (ixN l.length i).bind fun j => k (l.set j v)
theorem js_setI {l : List α} {mi : Option Int} {k : List α → Option κ} (hs : ρ[i]? = some (some (.ow (l.map enc)))) (hv : J f ρ m) (hi : J g ρ mi) (hk : ∀ v : List α, JS E dec G (ρ.set i (some (.ow (v.map enc)))) (k v)) : JS E dec (sSeq (sSetI i g f) G) ρ (oSetI l m mi k) := by
  intro x e
  obtain ⟨a, e1, e⟩ := bind_some e
  obtain ⟨b, e2, e⟩ := bind_some e
  obtain ⟨j, e3, e⟩ := bind_some e
  have q : sSetI i g f ρ = .nx (ρ.set i (some (.ow ((l.set j a).map enc)))) := by
    unfold sSetI
    rw [hv a e1, ofR_ok]
    rw [hs]
    dsimp only
    rw [hi b e2, ofR_ok]
    show (match ixN (l.map enc).length b with | some j => _ | none => _) = _
    rw [List.length_map, e3]
    dsimp only
    rw [List.map_set]
  rw [seq_nx q]
  exact hk _ x e
def oAugI {κ : Type} (l : List Int) (mi mv : Option Int) (k : List Int → Option κ) : Option κ := mi.bind fun i => (ixN l.length i).bind fun j => mv.bind fun v => l[j]?.bind fun u => k (l.set j (u + v))
theorem js_augI {l : List Int} {mi mv : Option Int} {k : List Int → Option κ} (hs : ρ[i]? = some (some (.ow (l.map enc)))) (hi : J g ρ mi) (hv : J f ρ mv) (hk : ∀ v : List Int, JS E dec G (ρ.set i (some (.ow (v.map enc)))) (k v)) : JS E dec (sSeq (sAugI i g f) G) ρ (oAugI l mi mv k) := by
  intro x e
  obtain ⟨b, e2, e⟩ := bind_some e
  obtain ⟨j, e3, e⟩ := bind_some e
  obtain ⟨a, e1, e⟩ := bind_some e
  obtain ⟨u, e4, e⟩ := bind_some e
  have q : sAugI i g f ρ = .nx (ρ.set i (some (.ow ((l.set j (u + a)).map enc)))) := by
    unfold sAugI
    rw [hs]
    dsimp only
    rw [hi b e2, ofR_ok]
    show (match ixN (l.map enc).length b with | some j => _ | none => _) = _
    rw [List.length_map, e3]
    dsimp only
    rw [hv a e1, ofR_ok, List.getElem?_map, e4]
    show Out.nx _ = _
    rw [List.map_set]
    rfl
  rw [seq_nx q]
  exact hk _ x e
def oRem {κ : Type} (l : List Int) (mv : Option Int) (k : List Int → Option κ) : Option κ := mv.bind fun v => (l.findIdx? (· == v)).bind fun j => k (l.eraseIdx j)
theorem js_rem {l : List Int} {mv : Option Int} {k : List Int → Option κ} (hs : ρ[i]? = some (some (.ow (l.map enc)))) (hv : J f ρ mv) (hk : ∀ v : List Int, JS E dec G (ρ.set i (some (.ow (v.map enc)))) (k v)) : JS E dec (sSeq (sRem i f) G) ρ (oRem l mv k) := by
  intro x e
  obtain ⟨a, e1, e⟩ := bind_some e
  obtain ⟨j, e3, e⟩ := bind_some e
  have q : sRem i f ρ = .nx (ρ.set i (some (.ow ((l.eraseIdx j).map enc)))) := by
    unfold sRem
    rw [hs]
    dsimp only
    rw [hv a e1, ofR_ok, ints_enc]
    show (match l.findIdx? (· == a) with | some j => _ | none => _) = _
    rw [e3]
    rfl
  rw [seq_nx q]
  exact hk _ x e
theorem js_aug {op : D → D → Rs D} {a : α} {φ : α → β → Option α} {k : α → Option κ} (hop : ∀ a b r, φ a b = some r → op (enc a) (enc b) = .ok (enc r)) (hs : ρ[i]? = some (some (.sh (enc a)))) (h : J f ρ m2) (hk : ∀ v, JS E dec G (ρ.set i (some (.sh (enc v)))) (k v)) : JS E dec (sSeq (sAug i op f) G) ρ (m2.bind fun b => (φ a b).bind k) := by
  intro x e
  obtain ⟨b, e1, e⟩ := bind_some e
  obtain ⟨z, e2, e⟩ := bind_some e
  rw [seq_nx (r_aug hs (h b e1) (hop a b z e2) rfl)]
  exact hk z x e
def oSwap {α κ : Type} (l : List α) (md me : Option α) (ma : Option Int) (mb : List α → Option Int) (k : List α → Option κ) : Option κ := md.bind fun d => me.bind fun e => ma.bind fun a => (ixN l.length a).bind fun ja => (mb (l.set ja d)).bind fun b => (ixN l.length b).bind fun jb => k ((l.set ja d).set jb e)
theorem js_swap {f2 : En → Rs D} {l : List α} {md me : Option α} {ma : Option Int} {mb : List α → Option Int} {k : List α → Option κ} (hs : ρ[i]? = some (some (.ow (l.map enc)))) (hd : J f ρ md) (he : J f2 ρ me) (ha : J fa ρ ma) (hb : ∀ v : List α, J fb (ρ.set i (some (.ow (v.map enc)))) (mb v)) (hk : ∀ v : List α, JS E dec G (ρ.set i (some (.ow (v.map enc)))) (k v)) : JS E dec (sSeq (sSwap i fa fb (fCons f (fCons f2 fNil))) G) ρ (oSwap l md me ma mb k) := by
  intro x e
  obtain ⟨d, e1, e⟩ := bind_some e
  obtain ⟨d', e2, e⟩ := bind_some e
  obtain ⟨a, e3, e⟩ := bind_some e
  obtain ⟨ja, e4, e⟩ := bind_some e
  obtain ⟨b, e5, e⟩ := bind_some e
  obtain ⟨jb, e6, e⟩ := bind_some e
  have q : sSwap i fa fb (fCons f (fCons f2 fNil)) ρ = .nx (ρ.set i (some (.ow (((l.set ja d).set jb d').map enc)))) := by
    unfold sSwap
    rw [r_cons (hd d e1) (r_cons (he d' e2) r_nilA), ofR_ok, hs]
    dsimp only
    rw [ha a e3, ofR_ok]
    show (match ixN (l.map enc).length a with | some j => _ | none => _) = _
    rw [List.length_map, e4]
    dsimp only
    rw [← List.map_set, hb _ b e5]
    show (match ixN l.length b with | some j => _ | none => _) = _
    rw [e6]
    dsimp only
    rw [← List.map_set]
  rw [seq_nx q]
  exact hk _ x e
theorem js_frz {l : List α} (hs : ρ[i]? = some (some (.ow (l.map enc)))) (hk : JS E dec (sSeq F G) (ρ.set i (some (.sh (enc l)))) mk) : JS E dec (sSeq (sFrz i F) G) ρ mk := by
  intro x e
  have q : sSeq (sFrz i F) G ρ = sSeq F G (ρ.set i (some (.sh (enc l)))) := by
    unfold sSeq
    rw [show sFrz i F ρ = F (ρ.set i (some (.sh (enc l)))) from r_frz hs rfl]
  rw [q]
  exact hk x e
theorem js_asg {mp : Option (α × β)} {k : α → β → Option κ} (h : J f ρ mp) (hk : ∀ a b, JS E dec G ((ρ.set i (some (.sh (enc a)))).set j (some (.sh (enc b)))) (k a b)) : JS E dec (sSeq (sAsg (.tp [i, j]) f) G) ρ (mp.bind fun p => k p.1 p.2) := by
  intro x e
  obtain ⟨p, e1, e⟩ := bind_some e
  rw [seq_nx (r_asg (ρ1 := (ρ.set i (some (.sh (enc p.1)))).set j (some (.sh (enc p.2)))) (h p e1) rfl)]
  exact hk p.1 p.2 x e
theorem js_par2 {k : α → β → Option κ} (h1 : J f ρ m) (h2 : J g ρ m2) (hk : ∀ a b, JS E dec G ((ρ.set i (some (.sh (enc a)))).set j (some (.sh (enc b)))) (k a b)) : JS E dec (sSeq (sPar [i, j] (fCons f (fCons g fNil))) G) ρ (m.bind fun a => m2.bind fun b => k a b) := by
  intro x e
  obtain ⟨a, e1, e⟩ := bind_some e
  obtain ⟨b, e2, e⟩ := bind_some e
  rw [seq_nx (r_par (ρ1 := (ρ.set i (some (.sh (enc a)))).set j (some (.sh (enc b)))) (r_cons (h1 a e1) (r_cons (h2 b e2) r_nilA)) rfl rfl)]
  exact hk a b x e
/-! loops -/
def oFor {σ τ α : Type} (mb : σ → α → Option (TO σ τ)) : List α → σ → Option (TO σ τ)
  | [], s => some (.nx s)
  | x :: l, s => (mb s x).bind fun o => match o with
    | .nx s' => oFor mb l s'
    | .rt r => some (.rt r)
def oFold {σ α : Type} (mb : σ → α → Option σ) : List α → σ → Option σ
  | [], s => some s
  | x :: l, s => (mb s x).bind fun s' => oFold mb l s'
theorem forL_o {σ' : Type} {en0 : σ' → En} {enb : σ' → α → En} {body : En → Out} {mb : σ' → α → Option (TO σ' τ)} (h1 : ∀ s x, T.asg (enc x) (en0 s) = some (enb s x)) (hb : ∀ s x, JS (fun s' ρ' => wipeE ρ' vs = en0 s') id body (enb s x) (mb s x)) : ∀ (l : List α) (s : σ') (o : TO σ' τ), oFor mb l s = some o → match o with
    | .nx s' => forL T vs body (l.map enc) (en0 s) = .nx (en0 s')
    | .rt r => forL T vs body (l.map enc) (en0 s) = .rt (enc r)
  | [], s, o, e => by rw [← Option.some.inj e]; rfl
  | x :: l, s, o, e => by
    obtain ⟨o1, e1, e⟩ := bind_some e
    have q := hb s x o1 e1
    rw [List.map_cons]
    cases o1 with
    | nx s1 =>
      obtain ⟨ρ', q1, q2⟩ := q
      have ih := forL_o h1 hb l s1 o e
      have z : forL T vs body (enc x :: l.map enc) (en0 s) = forL T vs body (l.map enc) (en0 s1) := by
        rw [forL, h1 s x]
        dsimp only
        rw [q1]
        dsimp only
        rw [q2]
      rw [z]
      exact ih
    | rt r =>
      rw [← Option.some.inj e]
      have q : body (enb s x) = .rt (enc r) := q
      rw [forL, h1 s x]
      dsimp only
      rw [q]
def oGo {σ τ κ : Type} (k : σ → Option κ) (w : τ → κ) : TO σ τ → Option κ
  | .nx s => k s
  | .rt r => some (w r)
theorem js_for {σ' : Type} {ml : Option (List α)} {en0 : σ' → En} {enb : σ' → α → En} {body : En → Out} {mb : σ' → α → Option (TO σ' τ)} {k : σ' → Option κ} {w : τ → κ} {s0 : σ'} (hw : ∀ r, dec (w r) = .rt r) (hi : JL it ρ ml) (h0 : wipeE ρ vs = en0 s0) (h1 : ∀ s x, T.asg (enc x) (en0 s) = some (enb s x)) (hb : ∀ s x, JS (fun s' ρ' => wipeE ρ' vs = en0 s') id body (enb s x) (mb s x)) (hk : ∀ s, JS E dec G (en0 s) (k s)) : JS E dec (sSeq (sFor it T vs body) G) ρ (ml.bind fun l => (oFor mb l s0).bind (oGo k w)) := by
  intro x e
  obtain ⟨l, e1, e⟩ := bind_some e
  obtain ⟨o, e2, e⟩ := bind_some e
  have q := forL_o h1 hb l s0 o e2
  have z : sFor it T vs body ρ = forL T vs body (l.map enc) (en0 s0) := by rw [← h0]; exact r_for (hi l e1) rfl
  cases o with
  | nx s => rw [seq_nx (z.trans q)]; exact hk s x e
  | rt r => rw [seq_rt (z.trans q), ← Option.some.inj e, hw]; rfl
theorem oFor_fold {σ' τ α : Type} {mb : σ' → α → Option σ'} : ∀ (l : List α) (s r : σ'), oFold mb l s = some r → oFor (τ := τ) (fun s x => (mb s x).bind fun s' => some (.nx s')) l s = some (.nx r)
  | [], s, r, e => by rw [← Option.some.inj e]; rfl
  | x :: l, s, r, e => by
    obtain ⟨s1, e1, e⟩ := bind_some e
    unfold oFor
    rw [e1]
    exact oFor_fold l s1 r e
theorem js_forN {σ' : Type} {ml : Option (List α)} {en0 : σ' → En} {enb : σ' → α → En} {body : En → Out} {mb : σ' → α → Option σ'} {k : σ' → Option κ} {s0 : σ'} (hi : JL it ρ ml) (h0 : wipeE ρ vs = en0 s0) (h1 : ∀ s x, T.asg (enc x) (en0 s) = some (enb s x)) (hb : ∀ s x, JS (fun s' ρ' => wipeE ρ' vs = en0 s') (TO.nx : σ' → TO σ' Unit) body (enb s x) (mb s x)) (hk : ∀ s, JS E dec G (en0 s) (k s)) : JS E dec (sSeq (sFor it T vs body) G) ρ (ml.bind fun l => (oFold mb l s0).bind k) := by
  intro x e
  obtain ⟨l, e1, e⟩ := bind_some e
  obtain ⟨s, e2, e⟩ := bind_some e
  have hb' : ∀ s x, JS (τ := Unit) (fun s' ρ' => wipeE ρ' vs = en0 s') id body (enb s x) ((mb s x).bind fun s' => some (.nx s')) := by
    intro s x o eo
    obtain ⟨s1, q1, q⟩ := bind_some eo
    rw [← Option.some.inj q]
    exact hb s x s1 q1
  have q := forL_o h1 hb' l s0 _ (oFor_fold l s0 s e2)
  have z : sFor it T vs body ρ = forL T vs body (l.map enc) (en0 s0) := by rw [← h0]; exact r_for (hi l e1) rfl
  rw [seq_nx (z.trans q)]
  exact hk s x e
def oWhile {σ : Type} (c : σ → Option Bool) (mb : σ → Option σ) : Nat → σ → Option σ
  | 0, _ => none
  | n + 1, s => (c s).bind fun b => if b = true then (mb s).bind fun s' => oWhile c mb n s' else some s
theorem whileL_o {σ' : Type} {en0 : σ' → En} {body : En → Out} {mc : σ' → Option Bool} {mb : σ' → Option σ'} (hc : ∀ s, JT c (en0 s) (mc s)) (hb : ∀ s, JS (fun s' ρ' => wipeE ρ' vs = en0 s') (TO.nx : σ' → TO σ' Unit) body (en0 s) (mb s)) : ∀ (n : Nat) (s r : σ'), oWhile mc mb n s = some r → whileL c vs body n (en0 s) = .nx (en0 r)
  | 0, s, r, e => absurd e (by simp [oWhile])
  | n + 1, s, r, e => by
    obtain ⟨b, e1, e⟩ := bind_some e
    unfold whileL
    rw [hc s b e1, ofR_ok]
    cases b with
    | false => rw [← Option.some.inj e]; rfl
    | true =>
      obtain ⟨s1, e2, e⟩ := bind_some e
      obtain ⟨ρ', q1, q2⟩ := hb s s1 e2
      rw [if_pos rfl, q1]
      dsimp only
      rw [q2]
      exact whileL_o hc hb n s1 r e
theorem js_while {σ' : Type} {n : Nat} {en0 : σ' → En} {body : En → Out} {mc : σ' → Option Bool} {mb : σ' → Option σ'} {k : σ' → Option κ} {s0 : σ'} (h0 : wipeE ρ vs = en0 s0) (hc : ∀ s, JT c (en0 s) (mc s)) (hb : ∀ s, JS (fun s' ρ' => wipeE ρ' vs = en0 s') (TO.nx : σ' → TO σ' Unit) body (en0 s) (mb s)) (hk : ∀ s, JS E dec G (en0 s) (k s)) : JS E dec (sSeq (sWhile n c vs body) G) ρ ((oWhile mc mb n s0).bind k) := by
  intro x e
  obtain ⟨s, e2, e⟩ := bind_some e
  have q := whileL_o hc hb n s0 s e2
  have z : sWhile n c vs body ρ = .nx (en0 s) := by unfold sWhile; rw [h0]; exact q
  rw [seq_nx z]
  exact hk s x e
/-! defs -/
theorem fn_ret {n : Nat} {ds : List D} {mt : Option τ} (h : JS (fun (_ : Empty) _ => False) (TO.rt : τ → TO Empty τ) F (startE n ds) mt) (r : τ) (e : mt = some r) : callF n F ds = .ok (enc r) := r_callF (h r e)
theorem fn_retR {n : Nat} {ds : List D} {mt : Option τ} (h : JS (fun (_ : Empty) _ => False) (TO.rt : τ → TO Empty τ) F (startE n ds) mt) (r : τ) (e : mt = some r) : callR n F ds = .ok (enc r) := r_callR (h r e)
theorem fn_nil {n : Nat} {ds : List D} {mt : Option Unit} (h : JS (fun (_ : Unit) _ => True) (TO.nx : Unit → TO Unit Unit) F (startE n ds) mt) (r : Unit) (e : mt = some r) : callF n F ds = .ok (enc r) := by
  obtain ⟨ρ', q, _⟩ := h r e
  exact r_callN q
end
end DL

namespace DL
open PySem L2
open Enc (enc)
section
variable {α β γ δ ε ζ : Type} [Enc α] [Enc β] [Enc γ] [Enc δ] [Enc ε] [Enc ζ] {ρ : En} {f1 f2 f3 f4 f5 : En → Rs D} {m1 : Option α} {m2 : Option β} {m3 : Option γ} {m4 : Option δ} {m5 : Option ε} {opl : List D → Rs D}
theorem jl5 {φ : α → β → γ → δ → ε → Option ζ} (hop : ∀ a b c d x r, φ a b c d x = some r → opl [enc a, enc b, enc c, enc d, enc x] = .ok (enc r)) (h1 : J f1 ρ m1) (h2 : J f2 ρ m2) (h3 : J f3 ρ m3) (h4 : J f4 ρ m4) (h5 : J f5 ρ m5) : J (apL opl (fCons f1 (fCons f2 (fCons f3 (fCons f4 (fCons f5 fNil)))))) ρ (m1.bind fun a => m2.bind fun b => m3.bind fun c => m4.bind fun d => m5.bind fun x => φ a b c d x) := fun r e => by
  obtain ⟨a, e1, e⟩ := bind_some e
  obtain ⟨b, e2, e⟩ := bind_some e
  obtain ⟨c, e3, e⟩ := bind_some e
  obtain ⟨d, e4, e⟩ := bind_some e
  obtain ⟨x, e5, e⟩ := bind_some e
  exact r_apL (r_cons (h1 a e1) (r_cons (h2 b e2) (r_cons (h3 c e3) (r_cons (h4 d e4) (r_cons (h5 x e5) r_nilA))))) (hop a b c d x r e)
theorem g5 {φ : α → β → γ → δ → ε → Option ζ} (hg : ∀ a b c d x r, φ a b c d x = some r → opl [enc a, enc b, enc c, enc d, enc x] = .ok (enc r)) : ∀ a b c d x r, φ a b c d x = some r → callX 5 opl [enc a, enc b, enc c, enc d, enc x] = .ok (enc r) := fun a b c d x r e => r_callX (hg a b c d x r e) rfl
end
theorem o_tup5 {α : Type} [Enc α] (a b c d x : α) (r : Tp α) (e : some (Tp.mk [a, b, c, d, x]) = some r) : dTup [enc a, enc b, enc c, enc d, enc x] = .ok (enc r) := by rw [← Option.some.inj e]; exact r_tup (by simp)
theorem o_lst4 {α : Type} [Enc α] (a b c d : α) (r : List α) (e : some [a, b, c, d] = some r) : dLst [enc a, enc b, enc c, enc d] = .ok (enc r) := by rw [← Option.some.inj e]; exact r_lst (by simp)
theorem o_lst5 {α : Type} [Enc α] (a b c d x : α) (r : List α) (e : some [a, b, c, d, x] = some r) : dLst [enc a, enc b, enc c, enc d, enc x] = .ok (enc r) := by rw [← Option.some.inj e]; exact r_lst (by simp)
theorem o_isiBl (a : Bool) (T : String) (r : Bool) (e : some (isiB "bool" T) = some r) : dIsi T (enc a) = .ok (enc r) := by rw [← Option.some.inj e]; rfl
theorem j_isnt {f : En → Rs D} {ρ : En} {m : Option Bool} (h : J f ρ m) : J (ap2 dIsNotN f (fC (.bool true))) ρ (m.bind fun a => some (!a)) := fun r e => by
  obtain ⟨a, e1, e⟩ := bind_some e
  exact r_ap2 (h a e1) r_c (o_isTrue a r e)
end DL

namespace DL
open PySem L2
open Enc (enc)
/-! ### typed readings of laws -/
def Kf : WO := ⟨fun _ => False, fun d => d = .bool true, fun _ => False, fun _ => False⟩
def JW (W : WS) (ρ : En) (p : Prop) : Prop := p → W ρ Kf
structure JWE {α : Type} [Enc α] (w : WE) (ρ : En) (Q : (α → Prop) → Prop) : Prop where
  mono : ∀ p q : α → Prop, (∀ a, p a → q a) → Q p → Q q
  ok : ∀ R : D → Prop, Q (fun a => R (enc a)) → w ρ R
section
variable {α β γ σ : Type} [Enc α] [Enc β] [Enc γ] {f : En → Rs D} {c : En → Rs Bool} {ρ : En} {m : Option α} {W : WS} {i j k : Nat} {F : En → Out} {w a b d : WE} {T : Tg} {vs : List Nat}
theorem law_of {n i : Nat} {W : WS} {p : Prop} (h : ∀ ad an, JW W ((List.replicate n none).set i (some (.dr ad an))) p) (hp : p) : lawOk n i W := fun ad an => h ad an hp
theorem jw_set {p : α → Prop} (h : J f ρ m) (hk : ∀ v, JW W (ρ.set i (some (.sh (enc v)))) (p v)) : JW (wSeq (ls (sSet i f)) W) ρ (∃ v, m = some v ∧ p v) := by
  rintro ⟨v, e, q⟩
  show ls (sSet i f) ρ _
  unfold ls
  rw [r_set (h v e) rfl]
  exact hk v q
theorem jw_own {ml : Option (List α)} {p : List α → Prop} (h : J f ρ ml) (hk : ∀ v : List α, JW W (ρ.set i (some (.ow (v.map enc)))) (p v)) : JW (wSeq (ls (sOwn i f)) W) ρ (∃ v, ml = some v ∧ p v) := by
  rintro ⟨v, e, q⟩
  show ls (sOwn i f) ρ _
  unfold ls
  rw [r_own (h v e) rfl]
  exact hk v q
theorem jw_if {A : En → Out} {mc : Option Bool} {p : Prop} (h : JT c ρ mc) (hk : JW W ρ p) : JW (wSeq (ls (sIf c A sNil)) W) ρ (mc = some false ∧ p) := by
  rintro ⟨e, q⟩
  show ls (sIf c A sNil) ρ _
  unfold ls
  rw [r_ifF (h2 := rfl) (h false e) rfl]
  exact hk q
theorem jw_ret {mb : Option Bool} (h : J f ρ mb) : JW (ls (sRet f)) ρ (mb = some true) := by
  intro e
  show ls (sRet f) ρ _
  unfold ls
  rw [r_ret (h true e)]
  rfl
theorem jw_asg {mp : Option (α × β)} {p : α → β → Prop} (h : J f ρ mp) (hk : ∀ x y, JW W ((ρ.set i (some (.sh (enc x)))).set j (some (.sh (enc y)))) (p x y)) : JW (wSeq (ls (sAsg (.tp [i, j]) f)) W) ρ (∃ v, mp = some v ∧ p v.1 v.2) := by
  rintro ⟨v, e, q⟩
  show ls (sAsg (.tp [i, j]) f) ρ _
  unfold ls
  rw [r_asg (ρ1 := (ρ.set i (some (.sh (enc v.1)))).set j (some (.sh (enc v.2)))) (h v e) rfl]
  exact hk _ _ q
theorem jw_par2 {g : En → Rs D} {m2 : Option β} {p : α → β → Prop} (h : J f ρ m) (h2 : J g ρ m2) (hk : ∀ x y, JW W ((ρ.set i (some (.sh (enc x)))).set j (some (.sh (enc y)))) (p x y)) : JW (wSeq (ls (sPar [i, j] (fCons f (fCons g fNil)))) W) ρ (∃ x, m = some x ∧ ∃ y, m2 = some y ∧ p x y) := by
  rintro ⟨x, e, y, e2, q⟩
  show ls _ ρ _
  unfold ls
  rw [r_par (ρ1 := (ρ.set i (some (.sh (enc x)))).set j (some (.sh (enc y)))) (r_cons (h x e) (r_cons (h2 y e2) r_nilA)) rfl rfl]
  exact hk _ _ q
theorem jw_lsN {ms : Option σ} {en : σ → En} {p : σ → Prop} (h : JS (fun s ρ' => ρ' = en s) (TO.nx : σ → TO σ Unit) F ρ ms) (hk : ∀ s, JW W (en s) (p s)) : JW (wSeq (ls F) W) ρ (∃ s, ms = some s ∧ p s) := by
  rintro ⟨s, e, q⟩
  obtain ⟨ρ', q1, q2⟩ := h s e
  show ls F ρ _
  unfold ls
  rw [q1, q2]
  exact hk s q
theorem jw_lsM {ms : Option (TO σ Bool)} {en : σ → En} {p : σ → Prop} (h : JS (fun s ρ' => ρ' = en s) (id : TO σ Bool → TO σ Bool) F ρ ms) (hk : ∀ s, JW W (en s) (p s)) : JW (wSeq (ls F) W) ρ (∃ s, ms = some (.nx s) ∧ p s) := by
  rintro ⟨s, e, q⟩
  obtain ⟨ρ', q1, q2⟩ := h _ e
  show ls F ρ _
  unfold ls
  rw [q1, q2]
  exact hk s q
theorem ks_set {v : α} (h : J f ρ m) (e : m = some v) (hk : W (ρ.set i (some (.sh (enc v)))) Kf) : wSeq (ls (sSet i f)) W ρ Kf := by
  show ls (sSet i f) ρ _
  unfold ls
  rw [r_set (h v e) rfl]
  exact hk
theorem ks_own {ml : Option (List α)} {v : List α} (h : J f ρ ml) (e : ml = some v) (hk : W (ρ.set i (some (.ow (v.map enc)))) Kf) : wSeq (ls (sOwn i f)) W ρ Kf := by
  show ls (sOwn i f) ρ _
  unfold ls
  rw [r_own (h v e) rfl]
  exact hk
theorem ks_if {A : En → Out} {mc : Option Bool} (h : JT c ρ mc) (e : mc = some false) (hk : W ρ Kf) : wSeq (ls (sIf c A sNil)) W ρ Kf := jw_if (p := True) h (fun _ => hk) ⟨e, trivial⟩
theorem ks_ret {mb : Option Bool} (h : J f ρ mb) (e : mb = some true) : ls (sRet f) ρ Kf := jw_ret h e
theorem ks_asg {mp : Option (α × β)} {v : α × β} (h : J f ρ mp) (e : mp = some v) (hk : W ((ρ.set i (some (.sh (enc v.1)))).set j (some (.sh (enc v.2)))) Kf) : wSeq (ls (sAsg (.tp [i, j]) f)) W ρ Kf := by
  show ls (sAsg (.tp [i, j]) f) ρ _
  unfold ls
  rw [r_asg (ρ1 := (ρ.set i (some (.sh (enc v.1)))).set j (some (.sh (enc v.2)))) (h v e) rfl]
  exact hk
theorem ks_par2 {g : En → Rs D} {m2 : Option β} {x : α} {y : β} (h : J f ρ m) (h2 : J g ρ m2) (e : m = some x) (e2 : m2 = some y) (hk : W ((ρ.set i (some (.sh (enc x)))).set j (some (.sh (enc y)))) Kf) : wSeq (ls (sPar [i, j] (fCons f (fCons g fNil)))) W ρ Kf := by
  show ls _ ρ _
  unfold ls
  rw [r_par (ρ1 := (ρ.set i (some (.sh (enc x)))).set j (some (.sh (enc y)))) (r_cons (h x e) (r_cons (h2 y e2) r_nilA)) rfl rfl]
  exact hk
theorem ks_lsN {ms : Option σ} {en : σ → En} {s : σ} (h : JS (fun s ρ' => ρ' = en s) (TO.nx : σ → TO σ Unit) F ρ ms) (e : ms = some s) (hk : W (en s) Kf) : wSeq (ls F) W ρ Kf := by
  obtain ⟨ρ', q1, q2⟩ := h s e
  show ls F ρ _
  unfold ls
  rw [q1, q2]
  exact hk
theorem ks_lsM {ms : Option (TO σ Bool)} {en : σ → En} {s : σ} (h : JS (fun s ρ' => ρ' = en s) (id : TO σ Bool → TO σ Bool) F ρ ms) (e : ms = some (.nx s)) (hk : W (en s) Kf) : wSeq (ls F) W ρ Kf := by
  obtain ⟨ρ', q1, q2⟩ := h _ e
  show ls F ρ _
  unfold ls
  rw [q1, q2]
  exact hk
/-! drawn values -/
theorem wq_lf (h : J f ρ m) : JWE (lf f) ρ (fun p => ∃ v, m = some v ∧ p v) :=
  ⟨fun p q hq ⟨v, e, x⟩ => ⟨v, e, hq v x⟩, fun R ⟨v, e, x⟩ => ⟨_, h v e, x⟩⟩
theorem wq_draw {Q : (Int → Prop) → Prop} (hs : ∃ ad an, ρ[i]? = some (some (.dr ad an))) (h : JWE w ρ Q) : JWE (wDraw i w) ρ (fun p => Q fun n => (0 < n ∧ n < 1073741824) ∧ ∀ r : Int, 0 ≤ r → r < n → p r) :=
  ⟨fun p q hq x => h.mono _ _ (fun n z => ⟨z.1, fun r h1 h2 => hq r (z.2 r h1 h2)⟩) x, fun R x => ⟨hs, h.ok _ (h.mono _ _ (fun n z => ⟨n, rfl, z.1.1, z.1.2, z.2⟩) x)⟩⟩
theorem wq_rank {Q : (Int → Prop) → Prop} (hs : ∃ ad an, ρ[i]? = some (some (.dr ad an))) (h : JWE w ρ Q) : JWE (wRank i w) ρ (fun p => Q fun n => (0 ≤ n ∧ n ≤ 1000) ∧ ∀ l : List Int, l.Perm (intR n) → p l) :=
  ⟨fun p q hq x => h.mono _ _ (fun n z => ⟨z.1, fun r h1 => hq r (z.2 r h1)⟩) x, fun R x => ⟨hs, h.ok _ (h.mono _ _ (fun n z => ⟨n, rfl, z.1.1, z.1.2, fun l hl => z.2 l hl⟩) x)⟩⟩
theorem wq_pick {Q : (List α → Prop) → Prop} (hs : ∃ ad an, ρ[i]? = some (some (.dr ad an))) (h : JWE w ρ Q) : JWE (wPick i w) ρ (fun p : α → Prop => Q fun l => (l ≠ [] ∧ l.length < 1073741824) ∧ ∀ x ∈ l, p x) :=
  ⟨fun p q hq x => h.mono _ _ (fun n z => ⟨z.1, fun r h1 => hq r (z.2 r h1)⟩) x, fun R x => ⟨hs, h.ok _ (h.mono _ _ (fun l z => ⟨l.map enc, rfl, by simpa using z.1.1, by simpa using z.1.2, fun y hy => by
    obtain ⟨v, hv, e⟩ := List.mem_map.mp hy
    rw [← e]
    exact z.2 v hv⟩) x)⟩⟩
theorem wq_op {op : D → D → Rs D} {φ : α → β → Option γ} {Qa : (α → Prop) → Prop} {Qb : (β → Prop) → Prop} (hop : ∀ x y r, φ x y = some r → op (enc x) (enc y) = .ok (enc r)) (ha : JWE a ρ Qa) (hb : JWE b ρ Qb) : JWE (wOp op a b) ρ (fun p : γ → Prop => Qa fun x => Qb fun y => ∃ z, φ x y = some z ∧ p z) :=
  ⟨fun p q hq x => ha.mono _ _ (fun x y => hb.mono _ _ (fun y ⟨z, e, r⟩ => ⟨z, e, hq z r⟩) y) x, fun R x => ha.ok _ (ha.mono _ _ (fun x y => hb.ok _ (hb.mono _ _ (fun y ⟨z, e, r⟩ => ⟨_, hop x y z e, r⟩) y)) x)⟩
theorem wq_ife {cw : WT} {mc : Option Bool} {Qa Qb : (α → Prop) → Prop} (hc : JT c ρ mc) (ha : JWE a ρ Qa) (hb : JWE b ρ Qb) : JWE (wIfE (lf c) a b) ρ (fun p => ∃ v, mc = some v ∧ if v = true then Qa p else Qb p) :=
  ⟨fun p q hq ⟨v, e, x⟩ => ⟨v, e, by cases v with
    | true => exact ha.mono p q hq x
    | false => exact hb.mono p q hq x⟩, fun R ⟨v, e, x⟩ => ⟨v, hc v e, by cases v with
    | true => exact ha.ok R x
    | false => exact hb.ok R x⟩⟩
def wCL {α β : Type} (Q : α → (β → Prop) → Prop) : List α → (List β → Prop) → Prop
  | [], p => p []
  | x :: l, p => Q x fun y => wCL Q l fun ys => p (y :: ys)
theorem wCL_mono {α β : Type} {Q : α → (β → Prop) → Prop} (hm : ∀ x p q, (∀ a, p a → q a) → Q x p → Q x q) : ∀ (l : List α) (p q : List β → Prop), (∀ a, p a → q a) → wCL Q l p → wCL Q l q
  | [], p, q, h, x => h _ x
  | y :: l, p, q, h, x => hm y _ _ (fun a z => wCL_mono hm l _ _ (fun b u => h _ u) z) x
theorem wq_comp {mi : Option Int} {Q : Int → (β → Prop) → Prop} {en : Int → En} (hi : J f ρ mi) (h1 : ∀ x : Int, T.asg (enc x) (wipeE ρ vs) = some (en x)) (hw : ∀ x, JWE w (en x) (Q x)) : JWE (wComp (wRng1 (lf f)) T w vs) ρ (fun p : List β → Prop => ∃ n, mi = some n ∧ (0 ≤ n ∧ n ≤ 1000) ∧ wCL Q (rg 0 n.toNat) p) := by
  refine ⟨fun p q hq ⟨n, e, hn, x⟩ => ⟨n, e, hn, wCL_mono (fun x => (hw x).mono) _ p q hq x⟩, fun R ⟨n, e, hn, x⟩ => ⟨_, hi n e, n, rfl, by omega, by omega, ?_, ?_⟩⟩
  · have : (rangeD 0 n.toNat).length = n.toNat := by unfold rangeD; simp
    rw [this]
    exact Nat.le_trans (show n.toNat ≤ 1000 by omega) (by decide)
  · rw [rangeD_rg]
    have key : ∀ (l : List Int) (R' : List D → Prop), wCL Q l (fun ys => R' (ys.map enc)) → wCompL T w (wipeE ρ vs) (l.map enc) R' := by
      intro l
      induction l with
      | nil => exact fun R' z => z
      | cons y l ih =>
        intro R' z
        rw [List.map_cons]
        unfold wCompL
        rw [h1 y]
        exact (hw y).ok _ ((hw y).mono _ _ (fun a u => ih (fun ys => R' (enc a :: ys)) u) z)
    exact key _ _ x
theorem jw_wset {Q : (α → Prop) → Prop} {p : α → Prop} (h : JWE w ρ Q) (hk : ∀ v, JW W (ρ.set i (some (.sh (enc v)))) (p v)) : JW (wSeq (wSet i w) W) ρ (Q p) := fun x => h.ok _ (h.mono _ _ (fun v z => hk v z) x)
theorem jw_wasg2 {Qa : (α → Prop) → Prop} {Qb : (β → Prop) → Prop} {p : α → β → Prop} (ha : JWE a ρ Qa) (hb : JWE b ρ Qb) (hk : ∀ x y, JW W ((ρ.set i (some (.sh (enc x)))).set j (some (.sh (enc y)))) (p x y)) : JW (wSeq (wAsg (.tp [i, j]) (wApL dTup (wCons a (wCons b wNil)))) W) ρ (Qa fun x => Qb fun y => p x y) := fun x =>
  ha.ok _ (ha.mono _ _ (fun u z => hb.ok _ (hb.mono _ _ (fun v q => ⟨_, r_tup (by simp), _, rfl, hk u v q⟩) z)) x)
theorem jw_wpar2 {Qa : (α → Prop) → Prop} {Qb : (β → Prop) → Prop} {p : α → β → Prop} (ha : JWE a ρ Qa) (hb : JWE b ρ Qb) (hk : ∀ x y, JW W ((ρ.set i (some (.sh (enc x)))).set j (some (.sh (enc y)))) (p x y)) : JW (wSeq (wPar [i, j] (wCons a (wCons b wNil))) W) ρ (Qa fun x => Qb fun y => p x y) := fun x =>
  ha.ok _ (ha.mono _ _ (fun u z => hb.ok _ (hb.mono _ _ (fun v q => ⟨rfl, hk u v q⟩) z)) x)
theorem jw_wasg3 {Qa : (α → Prop) → Prop} {Qb : (β → Prop) → Prop} {Qc : (γ → Prop) → Prop} {p : α → β → γ → Prop} (ha : JWE a ρ Qa) (hb : JWE b ρ Qb) (hc : JWE d ρ Qc) (hk : ∀ x y z, JW W (((ρ.set i (some (.sh (enc x)))).set j (some (.sh (enc y)))).set k (some (.sh (enc z)))) (p x y z)) : JW (wSeq (wAsg (.tp [i, j, k]) (wApL dTup (wCons a (wCons b (wCons d wNil))))) W) ρ (Qa fun x => Qb fun y => Qc fun z => p x y z) := fun x =>
  ha.ok _ (ha.mono _ _ (fun u z => hb.ok _ (hb.mono _ _ (fun v z => hc.ok _ (hc.mono _ _ (fun w q => ⟨_, r_tup (by simp), _, rfl, hk u v w q⟩) z)) z)) x)
theorem jw_wpar3 {Qa : (α → Prop) → Prop} {Qb : (β → Prop) → Prop} {Qc : (γ → Prop) → Prop} {p : α → β → γ → Prop} (ha : JWE a ρ Qa) (hb : JWE b ρ Qb) (hc : JWE d ρ Qc) (hk : ∀ x y z, JW W (((ρ.set i (some (.sh (enc x)))).set j (some (.sh (enc y)))).set k (some (.sh (enc z)))) (p x y z)) : JW (wSeq (wPar [i, j, k] (wCons a (wCons b (wCons d wNil)))) W) ρ (Qa fun x => Qb fun y => Qc fun z => p x y z) := fun x =>
  ha.ok _ (ha.mono _ _ (fun u z => hb.ok _ (hb.mono _ _ (fun v z => hc.ok _ (hc.mono _ _ (fun w q => ⟨rfl, hk u v w q⟩) z)) z)) x)
/-! the same, with the goal wrapped -/
structure KW (W : WS) (ρ : En) : Prop where
  run : W ρ Kf
theorem law_ofK {n i : Nat} {W : WS} {p : Prop} (h : ∀ ad an, p → KW W ((List.replicate n none).set i (some (.dr ad an)))) (hp : p) : lawOk n i W := fun ad an => (h ad an hp).run
theorem kw_set {v : α} (h : J f ρ m) (e : m = some v) (hk : KW W (ρ.set i (some (.sh (enc v))))) : KW (wSeq (ls (sSet i f)) W) ρ := ⟨ks_set h e hk.run⟩
theorem kw_own {ml : Option (List α)} {v : List α} (h : J f ρ ml) (e : ml = some v) (hk : KW W (ρ.set i (some (.ow (v.map enc))))) : KW (wSeq (ls (sOwn i f)) W) ρ := ⟨ks_own h e hk.run⟩
theorem kw_if {A : En → Out} {mc : Option Bool} (h : JT c ρ mc) (e : mc = some false) (hk : KW W ρ) : KW (wSeq (ls (sIf c A sNil)) W) ρ := ⟨ks_if h e hk.run⟩
theorem kw_ret {mb : Option Bool} (h : J f ρ mb) (e : mb = some true) : KW (ls (sRet f)) ρ := ⟨ks_ret h e⟩
theorem kw_asg {mp : Option (α × β)} {v : α × β} (h : J f ρ mp) (e : mp = some v) (hk : KW W ((ρ.set i (some (.sh (enc v.1)))).set j (some (.sh (enc v.2))))) : KW (wSeq (ls (sAsg (.tp [i, j]) f)) W) ρ := ⟨ks_asg h e hk.run⟩
theorem kw_par2 {g : En → Rs D} {m2 : Option β} {x : α} {y : β} (h : J f ρ m) (h2 : J g ρ m2) (e : m = some x) (e2 : m2 = some y) (hk : KW W ((ρ.set i (some (.sh (enc x)))).set j (some (.sh (enc y))))) : KW (wSeq (ls (sPar [i, j] (fCons f (fCons g fNil)))) W) ρ := ⟨ks_par2 h h2 e e2 hk.run⟩
theorem kw_lsN {ms : Option σ} {en : σ → En} {s : σ} (h : JS (fun s ρ' => ρ' = en s) (TO.nx : σ → TO σ Unit) F ρ ms) (e : ms = some s) (hk : KW W (en s)) : KW (wSeq (ls F) W) ρ := ⟨ks_lsN h e hk.run⟩
theorem kw_lsM {ms : Option (TO σ Bool)} {en : σ → En} {s : σ} (h : JS (fun s ρ' => ρ' = en s) (id : TO σ Bool → TO σ Bool) F ρ ms) (e : ms = some (.nx s)) (hk : KW W (en s)) : KW (wSeq (ls F) W) ρ := ⟨ks_lsM h e hk.run⟩
theorem kw_wset {Q : (α → Prop) → Prop} {p : α → Prop} (h : JWE w ρ Q) (hk : ∀ v, p v → KW W (ρ.set i (some (.sh (enc v))))) (x : Q p) : KW (wSeq (wSet i w) W) ρ := ⟨jw_wset h (fun v z => (hk v z).run) x⟩
theorem kw_wasg2 {Qa : (α → Prop) → Prop} {Qb : (β → Prop) → Prop} {p : α → β → Prop} (ha : JWE a ρ Qa) (hb : JWE b ρ Qb) (hk : ∀ x y, p x y → KW W ((ρ.set i (some (.sh (enc x)))).set j (some (.sh (enc y))))) (x : Qa fun x => Qb fun y => p x y) : KW (wSeq (wAsg (.tp [i, j]) (wApL dTup (wCons a (wCons b wNil)))) W) ρ := ⟨jw_wasg2 ha hb (fun x y z => (hk x y z).run) x⟩
theorem kw_wpar2 {Qa : (α → Prop) → Prop} {Qb : (β → Prop) → Prop} {p : α → β → Prop} (ha : JWE a ρ Qa) (hb : JWE b ρ Qb) (hk : ∀ x y, p x y → KW W ((ρ.set i (some (.sh (enc x)))).set j (some (.sh (enc y))))) (x : Qa fun x => Qb fun y => p x y) : KW (wSeq (wPar [i, j] (wCons a (wCons b wNil))) W) ρ := ⟨jw_wpar2 ha hb (fun x y z => (hk x y z).run) x⟩
theorem kw_wasg3 {Qa : (α → Prop) → Prop} {Qb : (β → Prop) → Prop} {Qc : (γ → Prop) → Prop} {p : α → β → γ → Prop} (ha : JWE a ρ Qa) (hb : JWE b ρ Qb) (hc : JWE d ρ Qc) (hk : ∀ x y z, p x y z → KW W (((ρ.set i (some (.sh (enc x)))).set j (some (.sh (enc y)))).set k (some (.sh (enc z))))) (x : Qa fun x => Qb fun y => Qc fun z => p x y z) : KW (wSeq (wAsg (.tp [i, j, k]) (wApL dTup (wCons a (wCons b (wCons d wNil))))) W) ρ := ⟨jw_wasg3 ha hb hc (fun x y z u => (hk x y z u).run) x⟩
theorem kw_wpar3 {Qa : (α → Prop) → Prop} {Qb : (β → Prop) → Prop} {Qc : (γ → Prop) → Prop} {p : α → β → γ → Prop} (ha : JWE a ρ Qa) (hb : JWE b ρ Qb) (hc : JWE d ρ Qc) (hk : ∀ x y z, p x y z → KW W (((ρ.set i (some (.sh (enc x)))).set j (some (.sh (enc y)))).set k (some (.sh (enc z))))) (x : Qa fun x => Qb fun y => Qc fun z => p x y z) : KW (wSeq (wPar [i, j, k] (wCons a (wCons b (wCons d wNil)))) W) ρ := ⟨jw_wpar3 ha hb hc (fun x y z u => (hk x y z u).run) x⟩
end
end DL

namespace DL
open PySem L2
open Enc (enc)
section
variable {α β γ δ σ τ κ : Type} [Enc α] [Enc β] [Enc γ] [Enc δ] [Enc τ] {f g h : En → Rs D} {c : En → Rs Bool} {ρ : En} {m : Option α} {m2 : Option β} {m3 : Option γ} {W : WS} {i j k : Nat} {G : En → Out} {E : σ → En → Prop} {dec : κ → TO σ τ}
theorem o_catTP (a : Tp α) (b : α × α) (r : Tp α) (e : (oCat a.l [b.1, b.2]).bind (fun x => some (Tp.mk x)) = some r) : dAdd (enc a) (enc b) = .ok (enc r) := o_catT a (Tp.mk [b.1, b.2]) r e
theorem o_catPT (a : α × α) (b : Tp α) (r : Tp α) (e : (oCat [a.1, a.2] b.l).bind (fun x => some (Tp.mk x)) = some r) : dAdd (enc a) (enc b) = .ok (enc r) := o_catT (Tp.mk [a.1, a.2]) b r e
def oMinR : List (List Int) → Option (List Int)
  | r :: rs => some (minRow r rs)
  | [] => none
theorem o_minR (l : List (List Int)) (r : List Int) (e : oMinR l = some r) : dMinR [enc l] = .ok (enc r) := by
  have e1 : (enc l : D) = .list (l.map rowD) := rfl
  rw [e1]
  show (match rowsOf (l.map rowD) with | some (r :: rs) => Rs.ok (rowD (minRow r rs)) | _ => .no) = _
  rw [rowsOf_map]
  cases l with
  | nil => cases e
  | cons x l => rw [← Option.some.inj e]; rfl
theorem jl6 {ε ζ η : Type} [Enc ε] [Enc ζ] [Enc η] {opl : List D → Rs D} {f1 f2 f3 f4 f5 f6 : En → Rs D} {m1 : Option α} {m2 : Option β} {m3 : Option γ} {m4 : Option δ} {m5 : Option ε} {m6 : Option ζ} {φ : α → β → γ → δ → ε → ζ → Option η} (hop : ∀ a b c d x y r, φ a b c d x y = some r → opl [enc a, enc b, enc c, enc d, enc x, enc y] = .ok (enc r)) (h1 : J f1 ρ m1) (h2 : J f2 ρ m2) (h3 : J f3 ρ m3) (h4 : J f4 ρ m4) (h5 : J f5 ρ m5) (h6 : J f6 ρ m6) : J (apL opl (fCons f1 (fCons f2 (fCons f3 (fCons f4 (fCons f5 (fCons f6 fNil))))))) ρ (m1.bind fun a => m2.bind fun b => m3.bind fun c => m4.bind fun d => m5.bind fun x => m6.bind fun y => φ a b c d x y) := fun r e => by
  obtain ⟨a, e1, e⟩ := bind_some e
  obtain ⟨b, e2, e⟩ := bind_some e
  obtain ⟨c, e3, e⟩ := bind_some e
  obtain ⟨d, e4, e⟩ := bind_some e
  obtain ⟨x, e5, e⟩ := bind_some e
  obtain ⟨y, e6, e⟩ := bind_some e
  exact r_apL (r_cons (h1 a e1) (r_cons (h2 b e2) (r_cons (h3 c e3) (r_cons (h4 d e4) (r_cons (h5 x e5) (r_cons (h6 y e6) r_nilA)))))) (hop a b c d x y r e)
theorem o_tup6 (a b c d x y : α) (r : Tp α) (e : some (Tp.mk [a, b, c, d, x, y]) = some r) : dTup [enc a, enc b, enc c, enc d, enc x, enc y] = .ok (enc r) := by rw [← Option.some.inj e]; exact r_tup (by simp)
theorem wq_ifw {a b : WE} {mc : Option Bool} {Qa Qb : (α → Prop) → Prop} (hc : JT c ρ mc) (ha : JWE a ρ Qa) (hb : JWE b ρ Qb) : JWE (wIfE (lf c) a b) ρ (fun p => ∃ v, mc = some v ∧ if v = true then Qa p else Qb p) := wq_ife (cw := lf c) hc ha hb
def oUni (l : List Int) : Option (List Int) := if l.length ≤ 60 then some (uniI l) else none
def oUnL (l : List Int) : Option Int := if l.length ≤ 60 then some ((uniI l).length : Nat) else none
theorem o_sortSet (l r : List Int) (e : oUni l = some r) : dSortSet [enc l] = .ok (enc r) := by
  unfold oUni at e
  show (match intsOf (l.map enc) with | some ns => if ns.length ≤ 60 then Rs.ok (PyData.list ((uniI ns).map PyData.int)) else .no | none => .no) = _
  rw [ints_enc]
  dsimp only
  split at e
  · rename_i h
    rw [if_pos h, ← Option.some.inj e]
    rfl
  · cases e
theorem o_lenSet (l : List Int) (r : Int) (e : oUnL l = some r) : dLenSet [enc l] = .ok (enc r) := by
  unfold oUnL at e
  show (match intsOf (l.map enc) with | some ns => if ns.length ≤ 60 then Rs.ok (PyData.int ((uniI ns).length : Nat)) else .no | none => .no) = _
  rw [ints_enc]
  dsimp only
  split at e
  · rename_i h
    rw [if_pos h, ← Option.some.inj e]
    rfl
  · cases e
theorem o_sortP (l r : List (Int × Int)) (e : some (sortP l) = some r) : dSortP [enc l] = .ok (enc r) := by
  have e1 : (enc l : D) = .list (l.map pairD) := rfl
  rw [e1, ← Option.some.inj e]
  show (match pairsOf (l.map pairD) with | some ps => Rs.ok (PyData.list ((sortP ps).map pairD)) | none => .no) = _
  rw [pairsOf_map]
  rfl
theorem o_tup1 (a : α) (r : Tp α) (e : some (Tp.mk [a]) = some r) : dTup [enc a] = .ok (enc r) := by rw [← Option.some.inj e]; exact r_tup (by simp)
def oRepT {α : Type} (l : List α) (k : Int) : Option (Tp α) := if l ≠ [] ∧ 2 ≤ k ∧ k ≤ 1000 ∧ l.length ≤ 1000 then some (Tp.mk (List.replicate k.toNat l).flatten) else none
theorem o_repT (a : Tp α) (k : Int) (r : Tp α) (e : oRepT a.l k = some r) : dMul (enc a) (enc k) = .ok (enc r) := by
  unfold oRepT at e
  split at e
  · rename_i q
    rw [← Option.some.inj e]
    show (if a.l.map enc ≠ [] ∧ 2 ≤ k ∧ k ≤ 1000 ∧ (a.l.map enc).length ≤ 1000 then Rs.ok (PyData.tuple (List.replicate k.toNat (a.l.map enc)).flatten) else .no) = _
    rw [if_pos ⟨by simpa using q.1, q.2.1, q.2.2.1, by simpa using q.2.2.2⟩]
    show _ = Rs.ok (PyData.tuple ((List.replicate k.toNat a.l).flatten.map enc))
    rw [List.map_flatten, List.map_replicate]
  · exact absurd e (by simp)
def memB {α : Type} [DecidableEq α] (a : α) (l : List α) : Bool := decide (a ∈ l)
theorem memB_iff {α : Type} [DecidableEq α] {a : α} {l : List α} : memB a l = true ↔ a ∈ l := by
  unfold memB
  exact decide_eq_true_iff
theorem o_inM [DecidableEq α] (h : Enc.dep α + 1 ≤ 64) (a : α) (l : List α) (r : Bool) (e : some (memB a l) = some r) : dIn (enc a) (enc l) = .ok (enc r) := o_in h a l r e
theorem o_notinM [DecidableEq α] (h : Enc.dep α + 1 ≤ 64) (a : α) (l : List α) (r : Bool) (e : some (!memB a l) = some r) : dNotIn (enc a) (enc l) = .ok (enc r) := o_notin h a l r e
theorem o_inP (a : Int) (b : Int × Int) (r : Bool) (e : some (decide (a ∈ [b.1, b.2])) = some r) : dIn (enc a) (enc b) = .ok (enc r) := by
  rw [← Option.some.inj e]
  rfl
theorem j_some {mi : Option Int} (h : J f ρ mi) : J f ρ (mi.bind fun a => some (some a : Option Int)) := fun r e => by
  obtain ⟨a, e1, e⟩ := bind_some e
  rw [← Option.some.inj e]
  exact h a e1
theorem j_noneO : J (fC .none) ρ (some (none : Option Int)) := fun r e => by
  rw [← Option.some.inj e]
  rfl
theorem js_par3 {k' : α → β → γ → Option κ} (h1 : J f ρ m) (h2 : J g ρ m2) (h3 : J h ρ m3) (hk : ∀ a b c, JS E dec G (((ρ.set i (some (.sh (enc a)))).set j (some (.sh (enc b)))).set k (some (.sh (enc c)))) (k' a b c)) : JS E dec (sSeq (sPar [i, j, k] (fCons f (fCons g (fCons h fNil)))) G) ρ (m.bind fun a => m2.bind fun b => m3.bind fun c => k' a b c) := by
  intro x e
  obtain ⟨a, e1, e⟩ := bind_some e
  obtain ⟨b, e2, e⟩ := bind_some e
  obtain ⟨c, e3, e⟩ := bind_some e
  rw [seq_nx (r_par (ρ1 := ((ρ.set i (some (.sh (enc a)))).set j (some (.sh (enc b)))).set k (some (.sh (enc c)))) (r_cons (h1 a e1) (r_cons (h2 b e2) (r_cons (h3 c e3) r_nilA))) rfl rfl)]
  exact hk a b c x e
theorem js_asg3 {k' : α → β → γ → Option κ} (h1 : J f ρ m) (h2 : J g ρ m2) (h3 : J h ρ m3) (hk : ∀ a b c, JS E dec G (((ρ.set i (some (.sh (enc a)))).set j (some (.sh (enc b)))).set k (some (.sh (enc c)))) (k' a b c)) : JS E dec (sSeq (sAsg (.tp [i, j, k]) (apL dTup (fCons f (fCons g (fCons h fNil))))) G) ρ (m.bind fun a => m2.bind fun b => m3.bind fun c => k' a b c) := by
  intro x e
  obtain ⟨a, e1, e⟩ := bind_some e
  obtain ⟨b, e2, e⟩ := bind_some e
  obtain ⟨c, e3, e⟩ := bind_some e
  rw [seq_nx (r_asg (ρ1 := ((ρ.set i (some (.sh (enc a)))).set j (some (.sh (enc b)))).set k (some (.sh (enc c)))) (r_apL (r_cons (h1 a e1) (r_cons (h2 b e2) (r_cons (h3 c e3) r_nilA))) (r_tup (by simp))) rfl)]
  exact hk a b c x e
theorem kw_par3 {x : α} {y : β} {z : γ} (h1 : J f ρ m) (h2 : J g ρ m2) (h3 : J h ρ m3) (e1 : m = some x) (e2 : m2 = some y) (e3 : m3 = some z) (hk : KW W (((ρ.set i (some (.sh (enc x)))).set j (some (.sh (enc y)))).set k (some (.sh (enc z))))) : KW (wSeq (ls (sPar [i, j, k] (fCons f (fCons g (fCons h fNil))))) W) ρ := by
  refine ⟨?_⟩
  show ls _ ρ _
  unfold ls
  rw [r_par (ρ1 := ((ρ.set i (some (.sh (enc x)))).set j (some (.sh (enc y)))).set k (some (.sh (enc z)))) (r_cons (h1 x e1) (r_cons (h2 y e2) (r_cons (h3 z e3) r_nilA))) rfl rfl]
  exact hk.run
theorem kw_asg3 {x : α} {y : β} {z : γ} (h1 : J f ρ m) (h2 : J g ρ m2) (h3 : J h ρ m3) (e1 : m = some x) (e2 : m2 = some y) (e3 : m3 = some z) (hk : KW W (((ρ.set i (some (.sh (enc x)))).set j (some (.sh (enc y)))).set k (some (.sh (enc z))))) : KW (wSeq (ls (sAsg (.tp [i, j, k]) (apL dTup (fCons f (fCons g (fCons h fNil)))))) W) ρ := by
  refine ⟨?_⟩
  show ls _ ρ _
  unfold ls
  rw [r_asg (ρ1 := ((ρ.set i (some (.sh (enc x)))).set j (some (.sh (enc y)))).set k (some (.sh (enc z)))) (r_apL (r_cons (h1 x e1) (r_cons (h2 y e2) (r_cons (h3 z e3) r_nilA))) (r_tup (by simp))) rfl]
  exact hk.run
theorem kw_if2 {A B : En → Out} {mc : Option Bool} {b : Bool} (h : JT c ρ mc) (e : mc = some b) (h1 : b = true → KW (wSeq (ls A) W) ρ) (h2 : b = false → KW (wSeq (ls B) W) ρ) : KW (wSeq (ls (sIf c A B)) W) ρ := by
  refine ⟨?_⟩
  show ls (sIf c A B) ρ _
  unfold ls
  cases b with
  | true => rw [r_ifT (h true e) rfl rfl]; exact (h1 rfl).run
  | false => rw [r_ifF (h false e) rfl rfl]; exact (h2 rfl).run
theorem kw_assoc {A B : En → Out} (h : KW (wSeq (ls A) (wSeq (ls B) W)) ρ) : KW (wSeq (ls (sSeq A B)) W) ρ := by
  refine ⟨?_⟩
  have h := h.run
  show ls (sSeq A B) ρ _
  have h : ls A ρ _ := h
  unfold ls at h ⊢
  unfold sSeq
  cases e : A ρ <;> rw [e] at h <;> exact h
theorem kw_nil (h : KW W ρ) : KW (wSeq (ls sNil) W) ρ := ⟨h.run⟩
theorem kw_wasg4 {a b d e' : WE} {i j k l : Nat} {Qa : (α → Prop) → Prop} {Qb : (β → Prop) → Prop} {Qc : (γ → Prop) → Prop} {Qd : (δ → Prop) → Prop} {p : α → β → γ → δ → Prop} (ha : JWE a ρ Qa) (hb : JWE b ρ Qb) (hc : JWE d ρ Qc) (hd : JWE e' ρ Qd) (hk : ∀ x y z u, p x y z u → KW W ((((ρ.set i (some (.sh (enc x)))).set j (some (.sh (enc y)))).set k (some (.sh (enc z)))).set l (some (.sh (enc u))))) (x : Qa fun x => Qb fun y => Qc fun z => Qd fun u => p x y z u) : KW (wSeq (wAsg (.tp [i, j, k, l]) (wApL dTup (wCons a (wCons b (wCons d (wCons e' wNil)))))) W) ρ :=
  ⟨ha.ok _ (ha.mono _ _ (fun u z => hb.ok _ (hb.mono _ _ (fun v z => hc.ok _ (hc.mono _ _ (fun w z => hd.ok _ (hd.mono _ _ (fun t q => ⟨_, r_tup (by simp), _, rfl, (hk u v w t q).run⟩) z)) z)) z)) x)⟩
theorem wq_compW {wi w : WE} {T : Tg} {vs : List Nat} {Qi : (Int → Prop) → Prop} {Q : Int → (β → Prop) → Prop} {en : Int → En} (hi : JWE wi ρ Qi) (h1 : ∀ x : Int, T.asg (enc x) (wipeE ρ vs) = some (en x)) (hw : ∀ x, JWE w (en x) (Q x)) : JWE (wComp (wRng1 wi) T w vs) ρ (fun p : List β → Prop => Qi fun n => (0 ≤ n ∧ n ≤ 1000) ∧ wCL Q (rg 0 n.toNat) p) := by
  have key : ∀ (l : List Int) (R' : List D → Prop), wCL Q l (fun ys => R' (ys.map enc)) → wCompL T w (wipeE ρ vs) (l.map enc) R' := by
    intro l
    induction l with
    | nil => exact fun R' z => z
    | cons y l ih =>
      intro R' z
      rw [List.map_cons]
      unfold wCompL
      rw [h1 y]
      exact (hw y).ok _ ((hw y).mono _ _ (fun a u => ih (fun ys => R' (enc a :: ys)) u) z)
  refine ⟨fun p q hq z => hi.mono _ _ (fun n ⟨hn, x⟩ => ⟨hn, wCL_mono (fun x => (hw x).mono) _ p q hq x⟩) z, fun R z => hi.ok _ (hi.mono _ _ (fun n ⟨hn, x⟩ => ⟨n, rfl, by omega, by omega, ?_, ?_⟩) z)⟩
  · have e : (rangeD 0 n.toNat).length = n.toNat := by unfold rangeD; simp
    have : n.toNat ≤ 1000 := by omega
    rw [e]
    exact Nat.le_trans this (by decide)
  · rw [rangeD_rg]
    exact key _ _ x
theorem setD_map : ∀ (is : List Nat) (ds : List α) (ρ : En), ds.length = is.length → (Tg.tp is).asg (enc (Tp.mk ds)) ρ = some (setD ρ is (ds.map enc)) := by
  intro is ds ρ hl
  have := ap_asg_tp (is := is) (ρ := ρ) (ds.map enc)
  rw [List.length_map, if_pos hl] at this
  exact this
theorem kw_asgT {is : List Nat} {mp : Option (Tp α)} (ds : List α) (h : J f ρ mp) (e : mp = some (Tp.mk ds)) (hl : ds.length = is.length) (hk : KW W (setD ρ is (ds.map enc))) : KW (wSeq (ls (sAsg (.tp is) f)) W) ρ := by
  refine ⟨?_⟩
  show ls _ ρ _
  unfold ls
  rw [r_asg (h _ e) (setD_map is ds ρ hl)]
  exact hk.run
end
end DL

/-! texts, and values or texts -/
namespace DL
open PySem L2
open Enc (enc)
/-- texts that may be laid -/
abbrev Tx := { s : Str // PyData.canLay0 (.str s) = true }
instance : Enc Tx := ⟨fun s => .str s.1, 0, fun s => s.2, fun _ => Nat.le_refl 0, fun a b => by
  constructor
  · intro h
    simp only [PyData.eqv, beq_iff_eq] at h
    exact Subtype.ext h
  · intro h
    simp [PyData.eqv, h]⟩
/-- data that no text equals -/
class NoStr (α : Type) [Enc α] : Prop where
  l : ∀ (a : α) (s : Str), PyData.eqv (enc a) (.str s) = false
  r : ∀ (a : α) (s : Str), PyData.eqv (.str s) (enc a) = false
instance : NoStr Int := ⟨fun _ _ => rfl, fun _ _ => rfl⟩
instance {α : Type} [Enc α] : NoStr (List α) := ⟨fun _ _ => rfl, fun _ _ => rfl⟩
instance {α β : Type} [Enc α] [Enc β] : NoStr (α × β) := ⟨fun _ _ => rfl, fun _ _ => rfl⟩
instance {α : Type} [Enc α] [NoStr α] : Enc (α ⊕ Tx) := ⟨fun | .inl a => enc a | .inr s => .str s.1, Enc.dep α, fun | .inl a => Enc.lay a | .inr s => s.2, fun | .inl a => Enc.dp a | .inr s => Nat.zero_le _, fun a b => by
  cases a with
  | inl a => cases b with
    | inl b => simp only [Sum.inl.injEq]; exact Enc.eqv a b
    | inr s => simp only [NoStr.l]; simp
  | inr s => cases b with
    | inl b => simp only [NoStr.r]; simp
    | inr t => simp only [Sum.inr.injEq]; exact Enc.eqv s t⟩
section
variable {α : Type} [Enc α] [NoStr α] {f : En → Rs D} {ρ : En} {m : Option α} {mt : Option Tx}
theorem j_inl (h : J f ρ m) : J f ρ (m.bind fun a => some (Sum.inl a : α ⊕ Tx)) := fun r e => by
  obtain ⟨a, e1, e⟩ := bind_some e
  rw [← Option.some.inj e]
  exact h a e1
theorem j_inr (h : J f ρ mt) : J f ρ (mt.bind fun a => some (Sum.inr a : α ⊕ Tx)) := fun r e => by
  obtain ⟨a, e1, e⟩ := bind_some e
  rw [← Option.some.inj e]
  exact h a e1
end
end DL

/-! typed readings of what raises -/
namespace DL
open PySem L2
open Enc (enc)
def JE (f : En → Rs D) (ρ : En) (x : Option Nat) : Prop := ∀ c, x = some c → f ρ = .er c
def JX (F : En → Out) (ρ : En) (x : Option Nat) : Prop := ∀ c, x = some c → ∃ ρ', F ρ = .ex c ρ' ∧ ρ'.length = ρ.length
section
variable {F G A B : En → Out} {ρ : En} {α β γ δ : Type} [Enc α] [Enc β] [Enc γ] [Enc δ] {f g f1 f2 f3 f4 : En → Rs D} {c : En → Rs Bool} {i : Nat} {m m1 : Option α} {m2 : Option β} {m3 : Option γ} {m4 : Option δ} {x y : Option Nat} {mc : Option Bool} {opl : List D → Rs D}
theorem je_no : JE f ρ none := fun c e => by cases e
theorem jx_no : JX F ρ none := fun c e => by cases e
theorem r_er1 (h : J f1 ρ m1) {a : α} (e : m1 = some a) {np : Nat} {k : Nat} (hl : np = 1) (q : opl [enc a] = .er k) : apL (callX np opl) (fCons f1 fNil) ρ = .er k := by
  subst hl
  unfold apL fCons fNil
  rw [h a e]
  exact q
theorem je1 {φ : α → Option Nat} (hx : ∀ a k, φ a = some k → opl [enc a] = .er k) (h : J f1 ρ m1) : JE (apL (callX 1 opl) (fCons f1 fNil)) ρ (m1.bind φ) := fun k e => by
  obtain ⟨a, e1, e⟩ := bind_some e
  unfold apL fCons fNil
  rw [h a e1]
  exact hx a k e
theorem je2 {φ : α → β → Option Nat} (hx : ∀ a b k, φ a b = some k → opl [enc a, enc b] = .er k) (h1 : J f1 ρ m1) (h2 : J f2 ρ m2) : JE (apL (callX 2 opl) (fCons f1 (fCons f2 fNil))) ρ (m1.bind fun a => m2.bind fun b => φ a b) := fun k e => by
  obtain ⟨a, e1, e⟩ := bind_some e
  obtain ⟨b, e2, e⟩ := bind_some e
  unfold apL fCons fNil
  rw [h1 a e1, h2 b e2]
  exact hx a b k e
theorem je3 {φ : α → β → γ → Option Nat} (hx : ∀ a b d k, φ a b d = some k → opl [enc a, enc b, enc d] = .er k) (h1 : J f1 ρ m1) (h2 : J f2 ρ m2) (h3 : J f3 ρ m3) : JE (apL (callX 3 opl) (fCons f1 (fCons f2 (fCons f3 fNil)))) ρ (m1.bind fun a => m2.bind fun b => m3.bind fun d => φ a b d) := fun k e => by
  obtain ⟨a, e1, e⟩ := bind_some e
  obtain ⟨b, e2, e⟩ := bind_some e
  obtain ⟨d, e3, e⟩ := bind_some e
  unfold apL fCons fNil
  rw [h1 a e1, h2 b e2, h3 d e3]
  exact hx a b d k e
theorem je4 {φ : α → β → γ → δ → Option Nat} (hx : ∀ a b d z k, φ a b d z = some k → opl [enc a, enc b, enc d, enc z] = .er k) (h1 : J f1 ρ m1) (h2 : J f2 ρ m2) (h3 : J f3 ρ m3) (h4 : J f4 ρ m4) : JE (apL (callX 4 opl) (fCons f1 (fCons f2 (fCons f3 (fCons f4 fNil))))) ρ (m1.bind fun a => m2.bind fun b => m3.bind fun d => m4.bind fun z => φ a b d z) := fun k e => by
  obtain ⟨a, e1, e⟩ := bind_some e
  obtain ⟨b, e2, e⟩ := bind_some e
  obtain ⟨d, e3, e⟩ := bind_some e
  obtain ⟨z, e4, e⟩ := bind_some e
  unfold apL fCons fNil
  rw [h1 a e1, h2 b e2, h3 d e3, h4 z e4]
  exact hx a b d z k e
theorem je_if (h0 : JT c ρ mc) (h1 : JE f ρ x) (h2 : JE g ρ y) : JE (fIf c f g) ρ (mc.bind fun b => if b = true then x else y) := fun k e => by
  obtain ⟨b, e1, e⟩ := bind_some e
  unfold fIf
  rw [h0 b e1, Rs.bind_ok]
  cases b with
  | true => rw [if_pos rfl] at e ⊢; exact h1 k e
  | false => rw [if_neg (by decide)] at e ⊢; exact h2 k e
theorem jx_or (h1 : JX F ρ x) (h2 : JX F ρ y) : JX F ρ (x.or y) := fun k e => by
  cases x with
  | none => exact h2 k e
  | some z => exact h1 k e
theorem seq_ex {k : Nat} {ρ' : En} (h : F ρ = .ex k ρ') : sSeq F G ρ = .ex k ρ' := by unfold sSeq; rw [h]
theorem jx_last (h : JX (sSeq F sNil) ρ x) : JX F ρ x := fun k e => by
  obtain ⟨ρ', q, l⟩ := h k e
  have z : sSeq F sNil ρ = F ρ := by
    unfold sSeq sNil
    cases F ρ <;> rfl
  exact ⟨ρ', z ▸ q, l⟩
theorem jx_assoc (h : JX (sSeq A (sSeq B G)) ρ x) : JX (sSeq (sSeq A B) G) ρ x := fun k e => by
  obtain ⟨ρ', q, l⟩ := h k e
  have z : sSeq (sSeq A B) G ρ = sSeq A (sSeq B G) ρ := by
    unfold sSeq
    cases A ρ <;> rfl
  exact ⟨ρ', z.trans q, l⟩
theorem jx_nilS (h : JX G ρ x) : JX (sSeq sNil G) ρ x := h
theorem jx_ex {k : Nat} : JX (sSeq (sEx k) G) ρ (some k) := fun c e => by
  cases e
  exact ⟨ρ, rfl, rfl⟩
theorem jx_setE (h : JE f ρ x) : JX (sSeq (sSet i f) G) ρ x := fun k e => ⟨ρ, seq_ex (by unfold sSet; rw [h k e]; rfl), rfl⟩
theorem jx_expE (h : JE f ρ x) : JX (sSeq (sExp f) G) ρ x := fun k e => ⟨ρ, seq_ex (by unfold sExp; rw [h k e]; rfl), rfl⟩
theorem jx_retE (h : JE f ρ x) : JX (sSeq (sRet f) G) ρ x := fun k e => ⟨ρ, seq_ex (by unfold sRet; rw [h k e]; rfl), rfl⟩
theorem jx_set {k : α → Option Nat} (h : J f ρ m) (hk : ∀ v, JX G (ρ.set i (some (.sh (enc v)))) (k v)) : JX (sSeq (sSet i f) G) ρ (m.bind k) := fun c e => by
  obtain ⟨a, e1, e⟩ := bind_some e
  obtain ⟨ρ', q, l⟩ := hk a c e
  rw [List.length_set] at l
  exact ⟨ρ', (seq_nx (r_set (h a e1) rfl)).trans q, l⟩
theorem jx_exp (h : J f ρ m) (hk : JX G ρ x) : JX (sSeq (sExp f) G) ρ (m.bind fun _ => x) := fun c e => by
  obtain ⟨a, e1, e⟩ := bind_some e
  obtain ⟨ρ', q, l⟩ := hk c e
  exact ⟨ρ', (seq_nx (r_exp (h a e1))).trans q, l⟩
theorem jx_if (hc : JT c ρ mc) (ha : JX (sSeq A G) ρ x) (hb : JX (sSeq B G) ρ y) : JX (sSeq (sIf c A B) G) ρ (mc.bind fun b => if b = true then x else y) := fun k e => by
  obtain ⟨b, e1, e⟩ := bind_some e
  cases b with
  | true =>
    rw [if_pos rfl] at e
    obtain ⟨ρ', q, l⟩ := ha k e
    refine ⟨ρ', ?_, l⟩
    rw [← q]
    unfold sSeq
    rw [r_ifT (h2 := rfl) (hc true e1) rfl]
  | false =>
    rw [if_neg (by decide)] at e
    obtain ⟨ρ', q, l⟩ := hb k e
    refine ⟨ρ', ?_, l⟩
    rw [← q]
    unfold sSeq
    rw [r_ifF (h2 := rfl) (hc false e1) rfl]
theorem fn_x {n : Nat} {ds : List D} {mx : Option Nat} (h : JX F (startE n ds) mx) (k : Nat) (e : mx = some k) : callF n F ds = .er k := by
  obtain ⟨ρ', q, _⟩ := h k e
  unfold callF
  rw [q]
end
theorem eNm_ok : ∀ c, PyData.canLay0 (.str (eNm c)) = true
  | 0 => by decide +kernel
  | 1 => by decide +kernel
  | 2 => by decide +kernel
  | 3 => by decide +kernel
  | n + 4 => by show PyData.canLay0 (.str "none") = true; decide +kernel
def tNm (c : Nat) : Tx := ⟨eNm c, eNm_ok c⟩
def oTry {α : Type} (m : Option α) (x : Option Nat) : Option (α ⊕ Tx) := match m with
  | some a => some (.inl a)
  | none => match x with
    | some c => if c < 5 then some (.inr (tNm c)) else none
    | none => none
/-- only the name: "done", or what was caught -/
def oAsk (m : Option Unit) (x : Option Nat) (d : Tx) : Option Tx := match m with
  | some _ => some d
  | none => match x with
    | some c => if c < 5 then some (tNm c) else none
    | none => none
section
variable {F G : En → Out} {ρ : En} {α : Type} [Enc α] [NoStr α] {fa : En → Rs D} {i ic : Nat} {m : Option α} {x : Option Nat} {σ : Type} {E : σ → En → Prop}
theorem js_tryR (hF : JS (fun (v : α) ρ' => ρ'[ic]? = some (some (.sh .none)) ∧ fa ρ' = .ok (enc v)) (TO.nx : α → TO α Unit) F ρ m) (hX : JX F ρ x) (hi : i < ρ.length) (hc : ic < ρ.length) (hn : i ≠ ic) :
    JS E (TO.rt : (α ⊕ Tx) → TO σ (α ⊕ Tx)) (sTryR i ic F fa .ok) ρ (oTry m x) := by
  intro r e
  unfold oTry at e
  cases hm : m with
  | some a =>
    rw [hm] at e
    cases e
    obtain ⟨ρ', q, q1, q2⟩ := hF a hm
    show sTryR i ic F fa .ok ρ = .rt (enc a)
    unfold sTryR
    rw [q]
    dsimp only
    rw [q1]
    show sRet fa ρ' = _
    unfold sRet
    rw [q2]
    rfl
  | none =>
    rw [hm] at e
    dsimp only at e
    cases hx : x with
    | none => rw [hx] at e; cases e
    | some c =>
      rw [hx] at e
      dsimp only at e
      split at e
      · cases e
        obtain ⟨ρ', q, l⟩ := hX c hx
        show sTryR i ic F fa .ok ρ = .rt (.str (eNm c))
        unfold sTryR
        rw [q]
        dsimp only
        rw [if_pos ⟨l ▸ hi, l ▸ hc, hn, ‹_›⟩]
      · cases e
theorem js_tryL {er : D → Rs D} {τ κ : Type} [Enc τ] {dec : κ → TO σ τ} {mk : Option κ} (h : JS E dec (sTryR i ic F fa er) ρ mk) : JS E dec (sSeq (sTryR i ic F fa er) sNil) ρ mk := by
  intro z e
  have := h z e
  have q : sSeq (sTryR i ic F fa er) sNil ρ = sTryR i ic F fa er ρ := by
    unfold sSeq sNil
    cases sTryR i ic F fa er ρ <;> rfl
  rwa [q]
end
end DL

/-! dicts, triples, numbers or None in typed data; drawn tuples -/
namespace DL
open PySem L2
open Enc (enc)
structure Tr (α β γ : Type) where
  a : α
  b : β
  c : γ
  deriving DecidableEq
instance {α β γ : Type} [Enc α] [Enc β] [Enc γ] : Enc (Tr α β γ) := ⟨fun p => .tuple [enc p.a, enc p.b, enc p.c], max (Enc.dep α) (max (Enc.dep β) (Enc.dep γ)) + 1, fun p => by simp [PyData.canLay0, PyData.canLayAll0, Enc.lay],
  fun p => by
    have h1 := Enc.dp p.a
    have h2 := Enc.dp p.b
    have h3 := Enc.dp p.c
    simp only [PyData.depth, PyData.depthAll]
    omega, fun x y => by cases x; cases y; simp [PyData.eqv, PyData.eqvAll, Enc.eqv]⟩
def oCatR {α β γ : Type} (a : α × β) (b : Tp γ) : Option (Tr α β γ) := match b.l with
  | [c] => some (Tr.mk a.1 a.2 c)
  | _ => none
section
variable {α β γ : Type} [Enc α] [Enc β] [Enc γ] {f : En → Rs D} {ρ : En} {i j k : Nat}
theorem o_tr (a : α) (b : β) (c : γ) (r : Tr α β γ) (e : some (Tr.mk a b c) = some r) : dTup [enc a, enc b, enc c] = .ok (enc r) := by rw [← Option.some.inj e]; exact r_tup (by simp)
theorem o_catR (a : α × β) (b : Tp γ) (r : Tr α β γ) (e : oCatR a b = some r) : dAdd (enc a) (enc b) = .ok (enc r) := by
  obtain ⟨l⟩ := b
  match l with
  | [c] =>
    cases e
    show (if 2 + 1 ≤ LIM then Rs.ok (PyData.tuple [enc a.1, enc a.2, enc c]) else .no) = _
    rw [if_pos (by decide)]
    rfl
  | [] => cases e
  | _ :: _ :: _ => cases e
/-! numbers or None -/
theorem j_unO {mo : Option (Option Int)} (h : J f ρ mo) : J f ρ (mo.bind fun x => x) := fun r e => by
  obtain ⟨a, e1, e⟩ := bind_some e
  subst e
  exact h _ e1
theorem j_pairO {mp : Option (Int × Int)} (h : J f ρ mp) : J f ρ (mp.bind fun x => some ((some x.1, some x.2) : Option Int × Option Int)) := fun r e => by
  obtain ⟨a, e1, e⟩ := bind_some e
  rw [← Option.some.inj e]
  exact h _ e1
theorem o_isNotN (a : Option Int) (u : Unit) (r : Bool) (e : some a.isSome = some r) : dIsNotN (enc a) (enc u) = .ok (enc r) := by
  rw [← Option.some.inj e]
  cases a <;> rfl
/-! dicts -/
def dkE {α : Type} [Enc α] (x : List ((Int × Int) × α)) : List (List Key × D) := x.map fun p => (key2 p.1, enc p.2)
def getP {α : Type} (x : List ((Int × Int) × α)) (k : Int × Int) : Option α := (x.find? fun p => decide (p.1 = k)).map (·.2)
def putP {α : Type} (x : List ((Int × Int) × α)) (k : Int × Int) (v : α) : List ((Int × Int) × α) :=
  if (x.any fun p => decide (p.1 = k)) = true then x.map (fun p => if p.1 = k then (p.1, v) else p) else x ++ [(k, v)]
theorem keyD_enc (p : Int × Int) : keyD (enc p) = some (key2 p) := rfl
theorem key2_iff {p q : Int × Int} : key2 p = key2 q ↔ p = q := ⟨key2_inj, fun h => by rw [h]⟩
theorem valD_dkE (x : List ((Int × Int) × α)) (k : Int × Int) : valD (dkE x) (key2 k) = (getP x k).map enc := by
  unfold valD getP dkE
  induction x with
  | nil => rfl
  | cons p x ih =>
    rw [List.map_cons]
    by_cases e : p.1 = k
    · rw [List.find?_cons_of_pos (by simpa using key2_iff.mpr e), List.find?_cons_of_pos (by simpa using e)]
      rfl
    · rw [List.find?_cons_of_neg (by simpa using fun z => e (key2_inj z)), List.find?_cons_of_neg (by simpa using e)]
      exact ih
theorem putD_dkE (x : List ((Int × Int) × α)) (k : Int × Int) (v : α) : putD (dkE x) (key2 k) (enc v) = dkE (putP x k v) := by
  unfold putD putP dkE
  have h1 : ((x.map fun p => (key2 p.1, (enc p.2 : D))).any fun kv => decide (kv.1 = key2 k)) = x.any fun p => decide (p.1 = k) := by
    rw [List.any_map]
    congr 1
    funext p
    simp [key2_iff]
  rw [h1]
  split
  · rw [List.map_map, List.map_map]
    apply List.map_congr_left
    intro p _
    by_cases e : p.1 = k
    · simp [e]
    · simp [e, key2_iff]
  · simp
theorem prKs_dkE (x : List ((Int × Int) × α)) : prKs (dkE x) = some (x.map (·.1)) := by
  unfold dkE
  induction x with
  | nil => rfl
  | cons p x ih =>
    rw [List.map_cons]
    show (prKs _).bind _ = _
    rw [ih]
    rfl
theorem j_dget {g : En → Rs D} {x : List ((Int × Int) × α)} {mk : Option (Int × Int)} {md : Option α} (hs : ρ[i]? = some (some (.mo (.dk (dkE x))))) (hk : J f ρ mk) (hd : J g ρ md) : J (fDGet i f g) ρ (mk.bind fun k => md.bind fun d => some ((getP x k).getD d)) := fun r e => by
  obtain ⟨a, e1, e⟩ := bind_some e
  obtain ⟨b, e2, e⟩ := bind_some e
  rw [← Option.some.inj e]
  unfold fDGet
  rw [hs]
  dsimp only
  rw [hk a e1, Rs.bind_ok, hd b e2, Rs.bind_ok, keyD_enc]
  dsimp only
  rw [valD_dkE]
  cases getP x a <;> rfl
theorem j_dix {x : List ((Int × Int) × α)} {mk : Option (Int × Int)} (hs : ρ[i]? = some (some (.mo (.dk (dkE x))))) (hk : J f ρ mk) : J (fDIx i f) ρ (mk.bind fun k => getP x k) := fun r e => by
  obtain ⟨a, e1, e⟩ := bind_some e
  unfold fDIx
  rw [hs]
  dsimp only
  rw [hk a e1, Rs.bind_ok, keyD_enc]
  show (match valD (dkE x) (key2 a) with | some d => Rs.ok d | none => Rs.no) = _
  rw [valD_dkE, e]
  rfl
theorem j_dsort {x : List ((Int × Int) × α)} (hs : ρ[i]? = some (some (.mo (.dk (dkE x))))) : J (fDSort i) ρ (some (sortP (x.map (·.1)))) := fun r e => by
  rw [← Option.some.inj e]
  unfold fDSort
  rw [hs]
  dsimp only
  rw [prKs_dkE]
  rfl
end
section
variable {σ τ κ : Type} [Enc τ] {E : σ → En → Prop} {dec : κ → TO σ τ} {G : En → Out} {ρ : En} {α : Type} [Enc α] {f g : En → Rs D} {i : Nat}
theorem js_dnew {mk : Option κ} (h : JS E dec G (ρ.set i (some (.mo (.dk (dkE ([] : List ((Int × Int) × α))))))) mk) : JS E dec (sSeq (sDNew i) G) ρ mk := by
  intro x e
  rw [seq_nx (show sDNew i ρ = .nx _ from rfl)]
  exact h x e
def oPut {α κ : Type} (x : List ((Int × Int) × α)) (mk : Option (Int × Int)) (mv : Option α) (k : List ((Int × Int) × α) → Option κ) : Option κ := mv.bind fun v => mk.bind fun a => if x.length < LIM then k (putP x a v) else none
theorem js_dput {x : List ((Int × Int) × α)} {mk : Option (Int × Int)} {mv : Option α} {k : List ((Int × Int) × α) → Option κ} (hs : ρ[i]? = some (some (.mo (.dk (dkE x))))) (hk : J f ρ mk) (hv : J g ρ mv) (h : ∀ v : List ((Int × Int) × α), JS E dec G (ρ.set i (some (.mo (.dk (dkE v))))) (k v)) :
    JS E dec (sSeq (sDPut i f g) G) ρ (oPut x mk mv k) := by
  intro z e
  obtain ⟨v, e1, e⟩ := bind_some e
  obtain ⟨a, e2, e⟩ := bind_some e
  split at e
  · rename_i hl
    have q : sDPut i f g ρ = .nx (ρ.set i (some (.mo (.dk (dkE (putP x a v)))))) := by
      unfold sDPut
      rw [hv v e1, ofR_ok, hs]
      dsimp only
      rw [hk a e2, ofR_ok, keyD_enc]
      dsimp only
      rw [if_pos (by unfold dkE; rw [List.length_map]; exact hl), putD_dkE]
    rw [seq_nx q]
    exact h _ z e
  · cases e
end
section
variable {α β γ : Type} [Enc α] [Enc β] [Enc γ] {w : WE} {ρ : En} {W U : WS} {i j k : Nat} {f : En → Rs D}
theorem kw_wasgP {Q : (α × β → Prop) → Prop} {p : α → β → Prop} (h : JWE w ρ Q) (hk : ∀ x y, p x y → KW W ((ρ.set i (some (.sh (enc x)))).set j (some (.sh (enc y))))) (x : Q fun v => p v.1 v.2) : KW (wSeq (wAsg (.tp [i, j]) w) W) ρ :=
  ⟨h.ok _ (h.mono _ _ (fun v z => ⟨_, rfl, (hk v.1 v.2 z).run⟩) x)⟩
theorem kw_wasgR {Q : (Tr α β γ → Prop) → Prop} {p : α → β → γ → Prop} (h : JWE w ρ Q) (hk : ∀ x y z, p x y z → KW W (((ρ.set i (some (.sh (enc x)))).set j (some (.sh (enc y)))).set k (some (.sh (enc z))))) (x : Q fun v => p v.a v.b v.c) : KW (wSeq (wAsg (.tp [i, j, k]) w) W) ρ :=
  ⟨h.ok _ (h.mono _ _ (fun v z => ⟨_, rfl, (hk v.a v.b v.c z).run⟩) x)⟩
theorem kw_dnew (h : KW W (ρ.set i (some (.mo (.dk (dkE ([] : List ((Int × Int) × α)))))))) : KW (wSeq (ls (sDNew i)) W) ρ := ⟨h.run⟩
theorem kw_skip (h : KW W ρ) : KW (wSeq wSkip W) ρ := ⟨h.run⟩
theorem kw_wif {c : WE} {A B : WS} {Q : (Bool → Prop) → Prop} {pa pb : Prop} (h : JWE c ρ Q) (ha : pa → KW (wSeq A W) ρ) (hb : pb → KW (wSeq B W) ρ) (x : Q fun b => if b = true then pa else pb) : KW (wSeq (wIfS (wVal c) A B) W) ρ :=
  ⟨h.ok _ (h.mono _ _ (fun v z => ⟨v, rfl, by
    cases v with
    | true => exact (ha z).run
    | false => exact (hb z).run⟩) x)⟩
end
end DL

namespace AG
open PySem L2 DL
open DL.Enc (enc)
def M_is_int (p0 : Int) (p1 : Int) (p2 : Int) : Option Bool := (((some p0).bind fun a1 => some (isiB "int" "int")).bind fun a8 => if a8 = true then ((((some p0).bind fun a2 => some (isiB "int" "bool")).bind fun a3 => some (!a3)).bind fun a7 => if a7 = true then ((some p1).bind fun a4 => (some p0).bind fun b5 => (some p2).bind fun c6 => some (decide (a4 ≤ b5) && decide (b5 ≤ c6))) else some false) else some false)
theorem m_is_int (p0 : Int) (p1 : Int) (p2 : Int) (r : Bool) (e : M_is_int p0 p1 p2 = some r) : C_is_int [enc p0, enc p1, enc p2] = .ok (enc r) := fn_ret (F := F_is_int) (mt := M_is_int p0 p1 p2) (js_last (js_ret' (j_and (j1 (fun a r e => o_isiI a _ r e) (j_var rfl)) (j_and (j_not (j1 (fun a r e => o_isiI a _ r e) (j_var rfl))) (j_chain c_le c_le (j_var rfl) (j_var rfl) (j_var rfl)))))) r e
def M_is_ranking (p0 : (List Int)) : Option Bool := (((((some p0).bind fun a3 => some (isiB "list" "list")).bind fun a2 => some (!a2)).bind fun a1 => if a1 = true then some true else (((some (1 : Int)).bind fun a6 => ((some p0).bind fun a5 => some ((a5.length : Nat) : Int)).bind fun b7 => (some (7 : Int)).bind fun c8 => some (decide (a6 ≤ b7) && decide (b7 ≤ c8))).bind fun a4 => some (!a4))).bind fun b9 => if b9 = true then (some false) else (((((some p0).bind fun l16 => lim l16 (oMap (fun x11 : Int => ((some x11).bind fun a13 => (some (1 : Int)).bind fun a14 => ((some p0).bind fun a12 => some ((a12.length : Nat) : Int)).bind fun a15 => M_is_int a13 a14 a15)) l16)).bind fun a17 => some (List.all a17 id)).bind fun a10 => some (!a10)).bind fun b18 => if b18 = true then (some false) else (((some p0).bind fun a19 => some (sortI a19)).bind fun a25 => ((some (1 : Int)).bind fun a23 => (((some p0).bind fun a20 => some ((a20.length : Nat) : Int)).bind fun a21 => (some (1 : Int)).bind fun b22 => some (a21 + b22)).bind fun b24 => oR2 a23 b24).bind fun b26 => some (decide (a25 = b26)))))
theorem m_is_ranking (p0 : (List Int)) (r : Bool) (e : M_is_ranking p0 = some r) : C_is_ranking [enc p0] = .ok (enc r) := fn_ret (F := F_is_ranking) (mt := M_is_ranking p0) (js_if (jt_or (jt_not (jt (j1 (fun a r e => o_isiL a _ r e) (j_var rfl)))) (jt_not (jt (j_chain c_le c_le (j_c rfl) (jl1 o_len (j_var rfl)) (j_c rfl))))) (js_ret' (j_c rfl)) (js_nilS (js_if (jt_not (jt (jl1 o_all (j_compA (jl_ls (j_var rfl)) (fun _ => rfl) (fun x11 => (jl3 (g3 m_is_int) (j_sh rfl) (j_c rfl) (jl1 o_len (j_var rfl)))))))) (js_ret' (j_c rfl)) (js_nilS (js_last (js_ret' (j2 (o_eq (by decide)) (jl1 o_sorted (j_var rfl)) (j2 o_range (j_c rfl) (j2 o_add (jl1 o_len (j_var rfl)) (j_c rfl)))))))))) r e
def M_check_ranking (p0 : (List Int)) : Option Unit := ((((some p0).bind fun a2 => M_is_ranking a2).bind fun a1 => some (!a1)).bind fun b3 => if b3 = true then none else (some ()))
theorem m_check_ranking (p0 : (List Int)) (r : Unit) (e : M_check_ranking p0 = some r) : C_check_ranking [enc p0] = .ok (enc r) := fn_nil (F := F_check_ranking) (mt := M_check_ranking p0) (js_last (js_if (jt_not (jt (jl1 (g1 m_is_ranking) (j_sh rfl)))) js_ex (js_nilS (js_nil rfl trivial)))) r e
def X_check_ranking (p0 : (List Int)) : Option Nat := ((((some p0).bind fun a5 => M_is_ranking a5).bind fun a4 => some (!a4)).bind fun b6 => if b6 = true then (some 0) else none)
theorem x_check_ranking (p0 : (List Int)) (k : Nat) (e : X_check_ranking p0 = some k) : C_check_ranking [enc p0] = .er k := fn_x (F := F_check_ranking) (mx := X_check_ranking p0) (jx_last (jx_if (jt_not (jt (jl1 (g1 m_is_ranking) (j_sh rfl)))) jx_ex jx_no)) k e
def M_check_both (p0 : (List Int)) (p1 : (List Int)) : Option Unit := (((some p0).bind fun a1 => M_check_ranking a1).bind fun _ => (((some p1).bind fun a2 => M_check_ranking a2).bind fun _ => ((((some p0).bind fun a3 => some ((a3.length : Nat) : Int)).bind fun a5 => ((some p1).bind fun a4 => some ((a4.length : Nat) : Int)).bind fun b6 => some (!decide (a5 = b6))).bind fun b7 => if b7 = true then none else (some ()))))
theorem m_check_both (p0 : (List Int)) (p1 : (List Int)) (r : Unit) (e : M_check_both p0 p1 = some r) : C_check_both [enc p0, enc p1] = .ok (enc r) := fn_nil (F := F_check_both) (mt := M_check_both p0 p1) (js_exp (jl1 (g1 m_check_ranking) (j_sh rfl)) (js_exp (jl1 (g1 m_check_ranking) (j_sh rfl)) (js_last (js_if (jt (j2 (o_ne (by decide)) (jl1 o_len (j_var rfl)) (jl1 o_len (j_var rfl)))) js_ex (js_nilS (js_nil rfl trivial)))))) r e
def X_check_both (p0 : (List Int)) (p1 : (List Int)) : Option Nat := ((((some p0).bind fun a8 => X_check_ranking a8)).or (((some p0).bind fun a9 => M_check_ranking a9).bind fun _ => ((((some p1).bind fun a10 => X_check_ranking a10)).or (((some p1).bind fun a11 => M_check_ranking a11).bind fun _ => ((((some p0).bind fun a12 => some ((a12.length : Nat) : Int)).bind fun a14 => ((some p1).bind fun a13 => some ((a13.length : Nat) : Int)).bind fun b15 => some (!decide (a14 = b15))).bind fun b16 => if b16 = true then (some 0) else none)))))
theorem x_check_both (p0 : (List Int)) (p1 : (List Int)) (k : Nat) (e : X_check_both p0 p1 = some k) : C_check_both [enc p0, enc p1] = .er k := fn_x (F := F_check_both) (mx := X_check_both p0 p1) (jx_or (jx_expE (je1 x_check_ranking (j_sh rfl))) (jx_exp (jl1 (g1 m_check_ranking) (j_sh rfl)) (jx_or (jx_expE (je1 x_check_ranking (j_sh rfl))) (jx_exp (jl1 (g1 m_check_ranking) (j_sh rfl)) (jx_last (jx_if (jt (j2 (o_ne (by decide)) (jl1 o_len (j_var rfl)) (jl1 o_len (j_var rfl)))) jx_ex jx_no)))))) k e
def M_check_size (p0 : Int) : Option Unit := ((((some p0).bind fun a2 => (some (1 : Int)).bind fun a3 => (some (6 : Int)).bind fun a4 => M_is_int a2 a3 a4).bind fun a1 => some (!a1)).bind fun b5 => if b5 = true then none else (some ()))
theorem m_check_size (p0 : Int) (r : Unit) (e : M_check_size p0 = some r) : C_check_size [enc p0] = .ok (enc r) := fn_nil (F := F_check_size) (mt := M_check_size p0) (js_last (js_if (jt_not (jt (jl3 (g3 m_is_int) (j_sh rfl) (j_c rfl) (j_c rfl)))) js_ex (js_nilS (js_nil rfl trivial)))) r e
def X_check_size (p0 : Int) : Option Nat := ((((some p0).bind fun a7 => (some (1 : Int)).bind fun a8 => (some (6 : Int)).bind fun a9 => M_is_int a7 a8 a9).bind fun a6 => some (!a6)).bind fun b10 => if b10 = true then (some 2) else none)
theorem x_check_size (p0 : Int) (k : Nat) (e : X_check_size p0 = some k) : C_check_size [enc p0] = .er k := fn_x (F := F_check_size) (mx := X_check_size p0) (jx_last (jx_if (jt_not (jt (jl3 (g3 m_is_int) (j_sh rfl) (j_c rfl) (j_c rfl)))) jx_ex jx_no)) k e
def M_seen (p0 : (List Int)) (p1 : (List Int)) : Option (List Int) := ((((some (0 : Int)).bind fun a1 => some [a1]).bind fun a3 => ((some p0).bind fun a2 => some ((a2.length : Nat) : Int)).bind fun b4 => oRep a3 b4).bind fun v5 : (List Int) => (((some p0).bind fun a7 => (some p1).bind fun a8 => some (List.zip a7 a8)).bind fun l10 => (oFold (fun (s6 : (List Int)) (x9 : (Int × Int)) => (oSetI s6 (some x9.2) ((some x9.1).bind fun a12 => (some (1 : Int)).bind fun b13 => some (a12 - b13)) fun v11 => (some v11))) l10 v5).bind fun s6 : (List Int) => (some s6)))
theorem m_seen (p0 : (List Int)) (p1 : (List Int)) (r : (List Int)) (e : M_seen p0 p1 = some r) : C_seen [enc p0, enc p1] = .ok (enc r) := fn_retR (F := F_seen) (mt := M_seen p0 p1) (js_own (j2 o_rep (jl1 o_lst1 (j_c rfl)) (jl1 o_len (j_var rfl))) (fun v5 => (js_forN (en0 := (fun s6 : (List Int) => [some (.sh (enc p0)), some (.sh (enc p1)), some (.ow (List.map enc s6)), none, none])) (enb := (fun (s6 : (List Int)) (x9 : (Int × Int)) => [some (.sh (enc p0)), some (.sh (enc p1)), some (.ow (List.map enc s6)), some (.sh (enc x9.1)), some (.sh (enc x9.2))])) (ji2 o_zip (j_sh rfl) (j_sh rfl)) rfl (fun _ _ => rfl) (fun s6 x9 => (js_last (js_setI rfl (j_sh rfl) (j2 o_sub (j_var rfl) (j_c rfl)) (fun v11 => (js_nil rfl rfl))))) (fun s6 => (js_last (js_retO rfl)))))) r e
def M_seen_from (p0 : (List Int)) (p1 : (List Int)) : Option (List Int) := (((some p0).bind fun a1 => (some p1).bind fun a2 => M_check_both a1 a2).bind fun _ => ((some p0).bind fun a3 => (some p1).bind fun a4 => M_seen a3 a4))
theorem m_seen_from (p0 : (List Int)) (p1 : (List Int)) (r : (List Int)) (e : M_seen_from p0 p1 = some r) : C_seen_from [enc p0, enc p1] = .ok (enc r) := fn_ret (F := F_seen_from) (mt := M_seen_from p0 p1) (js_exp (jl2 (g2 m_check_both) (j_sh rfl) (j_sh rfl)) (js_last (js_ret' (jl2 (g2 m_seen) (j_sh rfl) (j_sh rfl))))) r e
def X_seen_from (p0 : (List Int)) (p1 : (List Int)) : Option Nat := ((some p0).bind fun a5 => (some p1).bind fun a6 => X_check_both a5 a6)
theorem x_seen_from (p0 : (List Int)) (p1 : (List Int)) (k : Nat) (e : X_seen_from p0 p1 = some k) : C_seen_from [enc p0, enc p1] = .er k := fn_x (F := F_seen_from) (mx := X_seen_from p0 p1) (jx_expE (je2 x_check_both (j_sh rfl) (j_sh rfl))) k e
def M_things_in_order (p0 : (List Int)) : Option (List Int) := (((some p0).bind fun a1 => M_check_ranking a1).bind fun _ => (((some (1 : Int)).bind fun a5 => (((some p0).bind fun a2 => some ((a2.length : Nat) : Int)).bind fun a3 => (some (1 : Int)).bind fun b4 => some (a3 + b4)).bind fun a6 => oR2 a5 a6).bind fun l10 => lim l10 (oMap (fun x7 : Int => ((some p0).bind fun a8 => (some x7).bind fun b9 => oIdx a8 b9)) l10)))
theorem m_things_in_order (p0 : (List Int)) (r : (List Int)) (e : M_things_in_order p0 = some r) : C_things_in_order [enc p0] = .ok (enc r) := fn_ret (F := F_things_in_order) (mt := M_things_in_order p0) (js_exp (jl1 (g1 m_check_ranking) (j_sh rfl)) (js_last (js_ret' (j_compA (ji2 o_rng2 (j_c rfl) (j2 o_add (jl1 o_len (j_var rfl)) (j_c rfl))) (fun _ => rfl) (fun x7 => (jm1 (o_index (by decide)) (j_var rfl) (j_var rfl))))))) r e
def X_things_in_order (p0 : (List Int)) : Option Nat := ((some p0).bind fun a11 => X_check_ranking a11)
theorem x_things_in_order (p0 : (List Int)) (k : Nat) (e : X_things_in_order p0 = some k) : C_things_in_order [enc p0] = .er k := fn_x (F := F_things_in_order) (mx := X_things_in_order p0) (jx_expE (je1 x_check_ranking (j_sh rfl))) k e
def M_ranking_of (p0 : (List Int)) : Option (List Int) := (((((some p0).bind fun a3 => some (isiB "list" "list")).bind fun a2 => some (!a2)).bind fun a1 => if a1 = true then some true else ((((some p0).bind fun l9 => lim l9 (oMap (fun x5 : Int => ((some x5).bind fun a6 => (some (0 : Int)).bind fun a7 => (some (6 : Int)).bind fun a8 => M_is_int a6 a7 a8)) l9)).bind fun a10 => some (List.all a10 id)).bind fun a4 => some (!a4))).bind fun b11 => if b11 = true then none else (((((some (1 : Int)).bind fun a15 => ((some p0).bind fun a14 => some ((a14.length : Nat) : Int)).bind fun b16 => (some (7 : Int)).bind fun c17 => some (decide (a15 ≤ b16) && decide (b16 ≤ c17))).bind fun a13 => some (!a13)).bind fun a12 => if a12 = true then some true else (((some p0).bind fun a18 => some (sortI a18)).bind fun a22 => ((some (0 : Int)).bind fun a20 => ((some p0).bind fun a19 => some ((a19.length : Nat) : Int)).bind fun b21 => oR2 a20 b21).bind fun b23 => some (!decide (a22 = b23)))).bind fun b24 => if b24 = true then none else ((((some p0).bind fun a25 => some ((a25.length : Nat) : Int)).bind fun a26 => oR1 a26).bind fun l32 => lim l32 (oMap (fun x27 : Int => (((some p0).bind fun a28 => (some x27).bind fun b29 => oIdx a28 b29).bind fun a30 => (some (1 : Int)).bind fun b31 => some (a30 + b31))) l32))))
theorem m_ranking_of (p0 : (List Int)) (r : (List Int)) (e : M_ranking_of p0 = some r) : C_ranking_of [enc p0] = .ok (enc r) := fn_ret (F := F_ranking_of) (mt := M_ranking_of p0) (js_if (jt_or (jt_not (jt (j1 (fun a r e => o_isiL a _ r e) (j_var rfl)))) (jt_not (jt (jl1 o_all (j_compA (jl_ls (j_var rfl)) (fun _ => rfl) (fun x5 => (jl3 (g3 m_is_int) (j_sh rfl) (j_c rfl) (j_c rfl)))))))) js_ex (js_nilS (js_if (jt_or (jt_not (jt (j_chain c_le c_le (j_c rfl) (jl1 o_len (j_var rfl)) (j_c rfl)))) (jt (j2 (o_ne (by decide)) (jl1 o_sorted (j_var rfl)) (j2 o_range (j_c rfl) (jl1 o_len (j_var rfl)))))) js_ex (js_nilS (js_last (js_ret' (j_compA (ji1 o_rng1 (jl1 o_len (j_var rfl))) (fun _ => rfl) (fun x27 => (j2 o_add (jm1 (o_index (by decide)) (j_var rfl) (j_var rfl)) (j_c rfl)))))))))) r e
def X_ranking_of (p0 : (List Int)) : Option Nat := (((((some p0).bind fun a48 => some (isiB "list" "list")).bind fun a47 => some (!a47)).bind fun a46 => if a46 = true then some true else ((((some p0).bind fun l54 => lim l54 (oMap (fun x50 : Int => ((some x50).bind fun a51 => (some (0 : Int)).bind fun a52 => (some (6 : Int)).bind fun a53 => M_is_int a51 a52 a53)) l54)).bind fun a55 => some (List.all a55 id)).bind fun a49 => some (!a49))).bind fun b56 => if b56 = true then (some 0) else (((((some (1 : Int)).bind fun a36 => ((some p0).bind fun a35 => some ((a35.length : Nat) : Int)).bind fun b37 => (some (7 : Int)).bind fun c38 => some (decide (a36 ≤ b37) && decide (b37 ≤ c38))).bind fun a34 => some (!a34)).bind fun a33 => if a33 = true then some true else (((some p0).bind fun a39 => some (sortI a39)).bind fun a43 => ((some (0 : Int)).bind fun a41 => ((some p0).bind fun a40 => some ((a40.length : Nat) : Int)).bind fun b42 => oR2 a41 b42).bind fun b44 => some (!decide (a43 = b44)))).bind fun b45 => if b45 = true then (some 0) else none))
theorem x_ranking_of (p0 : (List Int)) (k : Nat) (e : X_ranking_of p0 = some k) : C_ranking_of [enc p0] = .er k := fn_x (F := F_ranking_of) (mx := X_ranking_of p0) (jx_if (jt_or (jt_not (jt (j1 (fun a r e => o_isiL a _ r e) (j_var rfl)))) (jt_not (jt (jl1 o_all (j_compA (jl_ls (j_var rfl)) (fun _ => rfl) (fun x50 => (jl3 (g3 m_is_int) (j_sh rfl) (j_c rfl) (j_c rfl)))))))) jx_ex (jx_nilS (jx_if (jt_or (jt_not (jt (j_chain c_le c_le (j_c rfl) (jl1 o_len (j_var rfl)) (j_c rfl)))) (jt (j2 (o_ne (by decide)) (jl1 o_sorted (j_var rfl)) (j2 o_range (j_c rfl) (jl1 o_len (j_var rfl)))))) jx_ex jx_no))) k e
def M_orders : Nat → (List Int) → Option (List (List Int))
  | 0, _ => none
  | fuel + 1, p0 => (((some p0).bind fun a1 => (some ([] : (List Int))).bind fun b2 => some (decide (a1 = b2))).bind fun b3 => if b3 = true then ((some ([] : (List Int))).bind fun a4 => some [a4]) else ((some ([] : (List (List Int)))).bind fun v5 : (List (List Int)) => (((some p0).bind fun a8 => some (enumL 0 a8)).bind fun l10 => (oFold (fun (s6 : (List (List Int))) (x9 : (Int × Int)) => (oExt s6 (((((some p0).bind fun a13 => (some none).bind fun b14 => ((some x9.1).bind fun k12 => some (some k12)).bind fun c15 => some (cutD a13 b14 c15)).bind fun a22 => ((some p0).bind fun a19 => (((some x9.1).bind fun a16 => (some (1 : Int)).bind fun b17 => some (a16 + b17)).bind fun k18 => some (some k18)).bind fun b20 => (some none).bind fun c21 => some (cutD a19 b20 c21)).bind fun b23 => oCat a22 b23).bind fun a24 => M_orders fuel a24).bind fun l29 => lim l29 (oMap (fun x25 : (List Int) => (((some x9.2).bind fun a26 => some [a26]).bind fun a27 => (some x25).bind fun b28 => oCat a27 b28)) l29)) fun v11 => (some v11))) l10 v5).bind fun s6 : (List (List Int)) => (some s6))))
theorem m_orders : ∀ (fuel : Nat) (p0 : (List Int)) (r : (List (List Int))), M_orders fuel p0 = some r → C_orders fuel [enc p0] = .ok (enc r)
  | 0, p0, r, e => absurd e (by simp [M_orders])
  | fuel + 1, p0, r, e => by
    have ih := m_orders fuel
    exact fn_ret (F := F_orders (fun _ => C_orders fuel) fuel) (mt := (((some p0).bind fun a1 => (some ([] : (List Int))).bind fun b2 => some (decide (a1 = b2))).bind fun b3 => if b3 = true then ((some ([] : (List Int))).bind fun a4 => some [a4]) else ((some ([] : (List (List Int)))).bind fun v5 : (List (List Int)) => (((some p0).bind fun a8 => some (enumL 0 a8)).bind fun l10 => (oFold (fun (s6 : (List (List Int))) (x9 : (Int × Int)) => (oExt s6 (((((some p0).bind fun a13 => (some none).bind fun b14 => ((some x9.1).bind fun k12 => some (some k12)).bind fun c15 => some (cutD a13 b14 c15)).bind fun a22 => ((some p0).bind fun a19 => (((some x9.1).bind fun a16 => (some (1 : Int)).bind fun b17 => some (a16 + b17)).bind fun k18 => some (some k18)).bind fun b20 => (some none).bind fun c21 => some (cutD a19 b20 c21)).bind fun b23 => oCat a22 b23).bind fun a24 => M_orders fuel a24).bind fun l29 => lim l29 (oMap (fun x25 : (List Int) => (((some x9.2).bind fun a26 => some [a26]).bind fun a27 => (some x25).bind fun b28 => oCat a27 b28)) l29)) fun v11 => (some v11))) l10 v5).bind fun s6 : (List (List Int)) => (some s6))))) (js_if (jt (j2 (o_eq (by decide)) (j_var rfl) (jl0 o_lst0))) (js_ret' (jl1 o_lst1 (jl0 o_lst0))) (js_nilS (js_own (jl0 o_lst0) (fun v5 => (js_forN (en0 := (fun s6 : (List (List Int)) => [some (.sh (enc p0)), some (.ow (List.map enc s6)), none, none, none])) (enb := (fun (s6 : (List (List Int))) (x9 : (Int × Int)) => [some (.sh (enc p0)), some (.ow (List.map enc s6)), some (.sh (enc x9.1)), some (.sh (enc x9.2)), none])) (ji1 o_enum (j_sh rfl)) rfl (fun _ _ => rfl) (fun s6 x9 => (js_last (js_ext rfl (j_compA (jl_ls (jl1 (g1 (ih)) (j2 o_cat (j_sl (j_var rfl) jq_no (jq_part (j_var rfl))) (j_sl (j_var rfl) (jq_part (j2 o_add (j_var rfl) (j_c rfl))) jq_no)))) (fun _ => rfl) (fun x25 => (j2 o_cat (jl1 o_lst1 (j_sh rfl)) (j_var rfl)))) (fun v11 => (js_nil rfl rfl))))) (fun s6 => (js_last (js_frz rfl (js_ret' (j_sh rfl)))))))))) r e
def M_all_rankings (p0 : Int) : Option (List (List Int)) := (((some p0).bind fun a1 => M_check_size a1).bind fun _ => (((some (1 : Int)).bind fun a4 => ((some p0).bind fun a2 => (some (1 : Int)).bind fun b3 => some (a2 + b3)).bind fun b5 => oR2 a4 b5).bind fun a6 => M_orders 8 a6))
theorem m_all_rankings (p0 : Int) (r : (List (List Int))) (e : M_all_rankings p0 = some r) : C_all_rankings [enc p0] = .ok (enc r) := fn_ret (F := F_all_rankings) (mt := M_all_rankings p0) (js_exp (jl1 (g1 m_check_size) (j_sh rfl)) (js_last (js_ret' (jl1 (g1 (m_orders 8)) (j2 o_range (j_c rfl) (j2 o_add (j_var rfl) (j_c rfl))))))) r e
def X_all_rankings (p0 : Int) : Option Nat := ((some p0).bind fun a7 => X_check_size a7)
theorem x_all_rankings (p0 : Int) (k : Nat) (e : X_all_rankings p0 = some k) : C_all_rankings [enc p0] = .er k := fn_x (F := F_all_rankings) (mx := X_all_rankings p0) (jx_expE (je1 x_check_size (j_sh rfl))) k e
def M_rank_of_ranking (p0 : (List Int)) : Option Int := (((some p0).bind fun a1 => M_check_ranking a1).bind fun _ => ((some (0 : Int)).bind fun v2 : Int => (((some p0).bind fun a4 => some (enumL 0 a4)).bind fun l6 => (oFold (fun (s3 : Int) (x5 : (Int × Int)) => (((((some p0).bind fun a10 => (((some x5.1).bind fun a7 => (some (1 : Int)).bind fun b8 => some (a7 + b8)).bind fun k9 => some (some k9)).bind fun b11 => (some none).bind fun c12 => some (cutD a10 b11 c12)).bind fun l14 => lim l14 (oComp (fun x13 : Int => ((some x13).bind fun a15 => (some x5.2).bind fun b16 => some (decide (a15 < b16)))) (fun x13 : Int => (some x13)) l14)).bind fun a17 => some ((a17.length : Nat) : Int)).bind fun v18 : Int => ((((some s3).bind fun a22 => (((some p0).bind fun a19 => some ((a19.length : Nat) : Int)).bind fun a20 => (some x5.1).bind fun b21 => some (a20 - b21)).bind fun b23 => oMul a22 b23).bind fun a24 => (some v18).bind fun b25 => some (a24 + b25)).bind fun v26 : Int => (some v26)))) l6 v2).bind fun s3 : Int => (some s3))))
theorem m_rank_of_ranking (p0 : (List Int)) (r : Int) (e : M_rank_of_ranking p0 = some r) : C_rank_of_ranking [enc p0] = .ok (enc r) := fn_ret (F := F_rank_of_ranking) (mt := M_rank_of_ranking p0) (js_exp (jl1 (g1 m_check_ranking) (j_sh rfl)) (js_set (j_c rfl) (fun v2 => (js_forN (en0 := (fun s3 : Int => [some (.sh (enc p0)), some (.sh (enc s3)), none, none, none, none])) (enb := (fun (s3 : Int) (x5 : (Int × Int)) => [some (.sh (enc p0)), some (.sh (enc s3)), some (.sh (enc x5.1)), some (.sh (enc x5.2)), none, none])) (ji1 o_enum (j_sh rfl)) rfl (fun _ _ => rfl) (fun s3 x5 => (js_set (jl1 o_len (j_comp (jl_ls (j_sl (j_var rfl) (jq_part (j2 o_add (j_var rfl) (j_c rfl))) jq_no)) (fun _ => rfl) (fun x13 => (jt (j2 o_lt (j_var rfl) (j_var rfl)))) (fun x13 => (j_sh rfl)))) (fun v18 => (js_last (js_set (j2 o_add (j2 o_mul (j_var rfl) (j2 o_sub (jl1 o_len (j_var rfl)) (j_var rfl))) (j_var rfl)) (fun v26 => (js_nil rfl rfl))))))) (fun s3 => (js_last (js_ret' (j_sh rfl)))))))) r e
def X_rank_of_ranking (p0 : (List Int)) : Option Nat := ((some p0).bind fun a27 => X_check_ranking a27)
theorem x_rank_of_ranking (p0 : (List Int)) (k : Nat) (e : X_rank_of_ranking p0 = some k) : C_rank_of_ranking [enc p0] = .er k := fn_x (F := F_rank_of_ranking) (mx := X_rank_of_ranking p0) (jx_expE (je1 x_check_ranking (j_sh rfl))) k e
def M_ranking_at (p0 : Int) (p1 : Int) : Option (List Int) := ((((some p0).bind fun a2 => (some (1 : Int)).bind fun a3 => (some (7 : Int)).bind fun a4 => M_is_int a2 a3 a4).bind fun a1 => some (!a1)).bind fun b5 => if b5 = true then none else ((some (1 : Int)).bind fun v6 : Int => (((some (2 : Int)).bind fun a48 => ((some p0).bind fun a46 => (some (1 : Int)).bind fun b47 => some (a46 + b47)).bind fun a49 => oR2 a48 a49).bind fun l51 => (oFold (fun (s7 : Int) (x50 : Int) => ((some x50).bind fun b53 => (oMul s7 b53).bind fun v52 => (some v52))) l51 v6).bind fun s7 : Int => ((((some p1).bind fun a11 => (some (0 : Int)).bind fun a12 => ((some s7).bind fun a9 => (some (1 : Int)).bind fun b10 => some (a9 - b10)).bind fun a13 => M_is_int a11 a12 a13).bind fun a8 => some (!a8)).bind fun b14 => if b14 = true then none else (((some (1 : Int)).bind fun a17 => ((some p0).bind fun a15 => (some (1 : Int)).bind fun b16 => some (a15 + b16)).bind fun b18 => oR2 a17 b18).bind fun v19 : (List Int) => ((some ([] : (List Int))).bind fun v20 : (List Int) => (((some p0).bind fun a24 => (some (0 : Int)).bind fun a25 => ((some (1 : Int)).bind fun a23 => some (-a23)).bind fun a26 => oR3 a24 a25 a26).bind fun l28 => (oFold (fun (s21 : Int × Int × (List Int) × (List Int)) (x27 : Int) => ((some x27).bind fun b45 => (oDiv s21.2.1 b45).bind fun v29 => (oApp s21.2.2.2 ((some s21.2.2.1).bind fun a33 => ((some s21.1).bind fun a31 => (some v29).bind fun b32 => oDiv a31 b32).bind fun b34 => atI a33 b34) fun v30 => (((some s21.2.2.1).bind fun l36 => lim l36 (oComp (fun x35 : Int => ((some x35).bind fun a40 => ((some v30).bind fun a38 => ((some (1 : Int)).bind fun a37 => some (-a37)).bind fun b39 => atI a38 b39).bind fun b41 => some (!decide (a40 = b41)))) (fun x35 : Int => (some x35)) l36)).bind fun v42 : (List Int) => ((some v29).bind fun b44 => (oMod s21.1 b44).bind fun v43 => (some (v43, v29, v42, v30))))))) l28 (p1, s7, v19, v20)).bind fun s21 : Int × Int × (List Int) × (List Int) => (some s21.2.2.2))))))))
theorem m_ranking_at (p0 : Int) (p1 : Int) (r : (List Int)) (e : M_ranking_at p0 p1 = some r) : C_ranking_at [enc p0, enc p1] = .ok (enc r) := fn_ret (F := F_ranking_at) (mt := M_ranking_at p0 p1) (js_if (jt_not (jt (jl3 (g3 m_is_int) (j_sh rfl) (j_c rfl) (j_c rfl)))) js_ex (js_nilS (js_set (j_c rfl) (fun v6 => (js_forN (en0 := (fun s7 : Int => [some (.sh (enc p0)), some (.sh (enc p1)), some (.sh (enc s7)), none, none, none, none])) (enb := (fun (s7 : Int) (x50 : Int) => [some (.sh (enc p0)), some (.sh (enc p1)), some (.sh (enc s7)), some (.sh (enc x50)), none, none, none])) (ji2 o_rng2 (j_c rfl) (j2 o_add (j_var rfl) (j_c rfl))) rfl (fun _ _ => rfl) (fun s7 x50 => (js_last (js_aug o_mulI rfl (j_var rfl) (fun v52 => (js_nil rfl rfl))))) (fun s7 => (js_if (jt_not (jt (jl3 (g3 m_is_int) (j_sh rfl) (j_c rfl) (j2 o_sub (j_var rfl) (j_c rfl))))) js_ex (js_nilS (js_set (j2 o_range (j_c rfl) (j2 o_add (j_var rfl) (j_c rfl))) (fun v19 => (js_own (jl0 o_lst0) (fun v20 => (js_forN (en0 := (fun s21 : Int × Int × (List Int) × (List Int) => [some (.sh (enc p0)), some (.sh (enc s21.1)), some (.sh (enc s21.2.1)), none, some (.sh (enc s21.2.2.1)), some (.ow (List.map enc s21.2.2.2)), none])) (enb := (fun (s21 : Int × Int × (List Int) × (List Int)) (x27 : Int) => [some (.sh (enc p0)), some (.sh (enc s21.1)), some (.sh (enc s21.2.1)), some (.sh (enc x27)), some (.sh (enc s21.2.2.1)), some (.ow (List.map enc s21.2.2.2)), none])) (ji3 o_rng3 (j_var rfl) (j_c rfl) (j1 o_neg (j_c rfl))) rfl (fun _ _ => rfl) (fun s21 x27 => (js_aug o_divI rfl (j_var rfl) (fun v29 => (js_app rfl (j2 o_ix (j_var rfl) (j2 o_div (j_var rfl) (j_var rfl))) (fun v30 => (js_set (j_comp (jl_ls (j_var rfl)) (fun _ => rfl) (fun x35 => (jt (j2 (o_ne (by decide)) (j_var rfl) (j2 o_ix (j_varO rfl) (j1 o_neg (j_c rfl)))))) (fun x35 => (j_sh rfl))) (fun v42 => (js_last (js_aug o_modI rfl (j_var rfl) (fun v43 => (js_nil rfl rfl))))))))))) (fun s21 => (js_last (js_frz rfl (js_ret' (j_sh rfl)))))))))))))))))) r e
def X_ranking_at (p0 : Int) (p1 : Int) : Option Nat := ((((some p0).bind fun a56 => (some (1 : Int)).bind fun a57 => (some (7 : Int)).bind fun a58 => M_is_int a56 a57 a58).bind fun a55 => some (!a55)).bind fun b59 => if b59 = true then (some 2) else none)
theorem x_ranking_at (p0 : Int) (p1 : Int) (k : Nat) (e : X_ranking_at p0 p1 = some k) : C_ranking_at [enc p0, enc p1] = .er k := fn_x (F := F_ranking_at) (mx := X_ranking_at p0 p1) (jx_if (jt_not (jt (jl3 (g3 m_is_int) (j_sh rfl) (j_c rfl) (j_c rfl)))) jx_ex jx_no) k e
def M__law_seen (p0 : (List Int)) (p1 : (List Int)) : Option (List Int) := (((some (1 : Int)).bind fun a4 => (((some p0).bind fun a1 => some ((a1.length : Nat) : Int)).bind fun a2 => (some (1 : Int)).bind fun b3 => some (a2 + b3)).bind fun a5 => oR2 a4 a5).bind fun l11 => lim l11 (oMap (fun x6 : Int => ((some p1).bind fun a9 => ((some p0).bind fun a7 => (some x6).bind fun b8 => oIdx a7 b8).bind fun b10 => atI a9 b10)) l11))
theorem m__law_seen (p0 : (List Int)) (p1 : (List Int)) (r : (List Int)) (e : M__law_seen p0 p1 = some r) : C__law_seen [enc p0, enc p1] = .ok (enc r) := fn_ret (F := F__law_seen) (mt := M__law_seen p0 p1) (js_last (js_ret' (j_compA (ji2 o_rng2 (j_c rfl) (j2 o_add (jl1 o_len (j_var rfl)) (j_c rfl))) (fun _ => rfl) (fun x6 => (j2 o_ix (j_var rfl) (jm1 (o_index (by decide)) (j_var rfl) (j_var rfl))))))) r e
def M__law_all (p0 : Int) : Option (List (List Int)) := (((some ([] : (List Int))).bind fun a1 => some [a1]).bind fun v2 : (List (List Int)) => (((some p0).bind fun a4 => oR1 a4).bind fun l6 => (oFold (fun (s3 : (List (List Int))) (x5 : Int) => ((some ([] : (List (List Int)))).bind fun v7 : (List (List Int)) => ((some s3).bind fun l11 => (oFold (fun (s8 : (List (List Int))) (x10 : (List Int)) => (((some s8).bind fun a23 => (((some (1 : Int)).bind fun a14 => ((some p0).bind fun a12 => (some (1 : Int)).bind fun b13 => some (a12 + b13)).bind fun a15 => oR2 a14 a15).bind fun l20 => lim l20 (oComp (fun x16 : Int => ((some x16).bind fun a21 => (some x10).bind fun b22 => some (!decide (a21 ∈ b22)))) (fun x16 : Int => ((some x10).bind fun a18 => ((some x16).bind fun a17 => some [a17]).bind fun b19 => oCat a18 b19)) l20)).bind fun b24 => oCat a23 b24).bind fun v25 : (List (List Int)) => (some v25))) l11 v7).bind fun s8 : (List (List Int)) => ((some s8).bind fun v9 : (List (List Int)) => (some v9))))) l6 v2).bind fun s3 : (List (List Int)) => (some s3)))
theorem m__law_all (p0 : Int) (r : (List (List Int))) (e : M__law_all p0 = some r) : C__law_all [enc p0] = .ok (enc r) := fn_ret (F := F__law_all) (mt := M__law_all p0) (js_set (jl1 o_lst1 (jl0 o_lst0)) (fun v2 => (js_forN (en0 := (fun s3 : (List (List Int)) => [some (.sh (enc p0)), some (.sh (enc s3)), none, none, none, none])) (enb := (fun (s3 : (List (List Int))) (x5 : Int) => [some (.sh (enc p0)), some (.sh (enc s3)), some (.sh (enc x5)), none, none, none])) (ji1 o_rng1 (j_var rfl)) rfl (fun _ _ => rfl) (fun s3 x5 => (js_set (jl0 o_lst0) (fun v7 => (js_forN (en0 := (fun s8 : (List (List Int)) => [some (.sh (enc p0)), some (.sh (enc s3)), some (.sh (enc x5)), some (.sh (enc s8)), none, none])) (enb := (fun (s8 : (List (List Int))) (x10 : (List Int)) => [some (.sh (enc p0)), some (.sh (enc s3)), some (.sh (enc x5)), some (.sh (enc s8)), some (.sh (enc x10)), none])) (jl_ls (j_sh rfl)) rfl (fun _ _ => rfl) (fun s8 x10 => (js_last (js_set (j2 o_cat (j_var rfl) (j_comp (ji2 o_rng2 (j_c rfl) (j2 o_add (j_var rfl) (j_c rfl))) (fun _ => rfl) (fun x16 => (jt (j2 (o_notin (by decide)) (j_var rfl) (j_var rfl)))) (fun x16 => (j2 o_cat (j_var rfl) (jl1 o_lst1 (j_sh rfl)))))) (fun v25 => (js_nil rfl rfl))))) (fun s8 => (js_last (js_set (j_sh rfl) (fun v9 => (js_nil rfl rfl))))))))) (fun s3 => (js_last (js_ret' (j_sh rfl))))))) r e
def M_against (p0 : (List Int)) (p1 : (List Int)) : Option (List (Int × Int)) := ((some ([] : (List (Int × Int)))).bind fun v1 : (List (Int × Int)) => ((((some p0).bind fun a4 => some ((a4.length : Nat) : Int)).bind fun a5 => oR1 a5).bind fun l7 => (oFold (fun (s2 : (List (Int × Int))) (x6 : Int) => ((((some x6).bind fun a9 => (some (1 : Int)).bind fun b10 => some (a9 + b10)).bind fun a12 => ((some p0).bind fun a11 => some ((a11.length : Nat) : Int)).bind fun a13 => oR2 a12 a13).bind fun l15 => (oFold (fun (s8 : (List (Int × Int))) (x14 : Int) => (((((some p0).bind fun a16 => (some x6).bind fun b17 => atI a16 b17).bind fun a20 => ((some p0).bind fun a18 => (some x14).bind fun b19 => atI a18 b19).bind fun b21 => some (decide (a20 < b21))).bind fun a28 => (((some p1).bind fun a22 => (some x6).bind fun b23 => atI a22 b23).bind fun a26 => ((some p1).bind fun a24 => (some x14).bind fun b25 => atI a24 b25).bind fun b27 => some (decide (a26 < b27))).bind fun b29 => some (!decide (a28 = b29))).bind fun b30 => if b30 = true then (oApp s8 ((some x6).bind fun a32 => (some x14).bind fun a33 => some (a32, a33)) fun v31 => (some v31)) else (some s8))) l15 s2).bind fun s8 : (List (Int × Int)) => (some s8))) l7 v1).bind fun s2 : (List (Int × Int)) => (some s2)))
theorem m_against (p0 : (List Int)) (p1 : (List Int)) (r : (List (Int × Int))) (e : M_against p0 p1 = some r) : C_against [enc p0, enc p1] = .ok (enc r) := fn_ret (F := F_against) (mt := M_against p0 p1) (js_own (jl0 o_lst0) (fun v1 => (js_forN (en0 := (fun s2 : (List (Int × Int)) => [some (.sh (enc p0)), some (.sh (enc p1)), some (.ow (List.map enc s2)), none, none])) (enb := (fun (s2 : (List (Int × Int))) (x6 : Int) => [some (.sh (enc p0)), some (.sh (enc p1)), some (.ow (List.map enc s2)), some (.sh (enc x6)), none])) (ji1 o_rng1 (jl1 o_len (j_var rfl))) rfl (fun _ _ => rfl) (fun s2 x6 => (js_last (js_forN (en0 := (fun s8 : (List (Int × Int)) => [some (.sh (enc p0)), some (.sh (enc p1)), some (.ow (List.map enc s8)), some (.sh (enc x6)), none])) (enb := (fun (s8 : (List (Int × Int))) (x14 : Int) => [some (.sh (enc p0)), some (.sh (enc p1)), some (.ow (List.map enc s8)), some (.sh (enc x6)), some (.sh (enc x14))])) (ji2 o_rng2 (j2 o_add (j_var rfl) (j_c rfl)) (jl1 o_len (j_var rfl))) rfl (fun _ _ => rfl) (fun s8 x14 => (js_last (js_if (jt (j2 (o_ne (by decide)) (j2 o_lt (j2 o_ix (j_var rfl) (j_var rfl)) (j2 o_ix (j_var rfl) (j_var rfl))) (j2 o_lt (j2 o_ix (j_var rfl) (j_var rfl)) (j2 o_ix (j_var rfl) (j_var rfl))))) (js_app rfl (jl2 o_pair (j_sh rfl) (j_sh rfl)) (fun v31 => (js_nil rfl rfl))) (js_nilS (js_nil rfl rfl))))) (fun s8 => (js_nil rfl rfl))))) (fun s2 => (js_last (js_frz rfl (js_ret' (j_sh rfl)))))))) r e
def M_pairs_against (p0 : (List Int)) (p1 : (List Int)) : Option (List (Int × Int)) := (((some p0).bind fun a1 => (some p1).bind fun a2 => M_check_both a1 a2).bind fun _ => ((some p0).bind fun a3 => (some p1).bind fun a4 => M_against a3 a4))
theorem m_pairs_against (p0 : (List Int)) (p1 : (List Int)) (r : (List (Int × Int))) (e : M_pairs_against p0 p1 = some r) : C_pairs_against [enc p0, enc p1] = .ok (enc r) := fn_ret (F := F_pairs_against) (mt := M_pairs_against p0 p1) (js_exp (jl2 (g2 m_check_both) (j_sh rfl) (j_sh rfl)) (js_last (js_ret' (jl2 (g2 m_against) (j_sh rfl) (j_sh rfl))))) r e
def X_pairs_against (p0 : (List Int)) (p1 : (List Int)) : Option Nat := ((some p0).bind fun a5 => (some p1).bind fun a6 => X_check_both a5 a6)
theorem x_pairs_against (p0 : (List Int)) (p1 : (List Int)) (k : Nat) (e : X_pairs_against p0 p1 = some k) : C_pairs_against [enc p0, enc p1] = .er k := fn_x (F := F_pairs_against) (mx := X_pairs_against p0 p1) (jx_expE (je2 x_check_both (j_sh rfl) (j_sh rfl))) k e
def M_count_against (p0 : (List Int)) (p1 : (List Int)) : Option Int := (((some p0).bind fun a1 => (some p1).bind fun a2 => M_check_both a1 a2).bind fun _ => (((some p0).bind fun a3 => (some p1).bind fun a4 => M_against a3 a4).bind fun a5 => some ((a5.length : Nat) : Int)))
theorem m_count_against (p0 : (List Int)) (p1 : (List Int)) (r : Int) (e : M_count_against p0 p1 = some r) : C_count_against [enc p0, enc p1] = .ok (enc r) := fn_ret (F := F_count_against) (mt := M_count_against p0 p1) (js_exp (jl2 (g2 m_check_both) (j_sh rfl) (j_sh rfl)) (js_last (js_ret' (jl1 o_len (jl2 (g2 m_against) (j_sh rfl) (j_sh rfl)))))) r e
def X_count_against (p0 : (List Int)) (p1 : (List Int)) : Option Nat := ((some p0).bind fun a6 => (some p1).bind fun a7 => X_check_both a6 a7)
theorem x_count_against (p0 : (List Int)) (p1 : (List Int)) (k : Nat) (e : X_count_against p0 p1 = some k) : C_count_against [enc p0, enc p1] = .er k := fn_x (F := F_count_against) (mx := X_count_against p0 p1) (jx_expE (je2 x_check_both (j_sh rfl) (j_sh rfl))) k e
def M_common (p0 : Int) (p1 : Int) : Option Int := ((oWhile (fun s1 : Int × Int => ((some s1.2).bind fun a2 => (some (0 : Int)).bind fun b3 => some (!decide (a2 = b3)))) (fun s1 : Int × Int => ((some s1.2).bind fun a6 => ((some s1.1).bind fun a4 => (some s1.2).bind fun b5 => oMod a4 b5).bind fun b7 => (some (a6, b7)))) 1000 (p0, p1)).bind fun s1 : Int × Int => (some s1.1))
theorem m_common (p0 : Int) (p1 : Int) (r : Int) (e : M_common p0 p1 = some r) : C_common [enc p0, enc p1] = .ok (enc r) := fn_ret (F := F_common) (mt := M_common p0 p1) (js_while (en0 := (fun s1 : Int × Int => [some (.sh (enc s1.1)), some (.sh (enc s1.2))])) rfl (fun s1 => (jt (j2 (o_ne (by decide)) (j_var rfl) (j_c rfl)))) (fun s1 => (js_last (js_par2 (j_sh rfl) (j2 o_mod (j_var rfl) (j_var rfl)) (fun a6 b7 => (js_nil rfl rfl))))) (fun s1 => (js_last (js_ret' (j_sh rfl))))) r e
def M_lowest (p0 : Int) (p1 : Int) : Option (Int × Int) := ((((some p0).bind fun a1 => some (if a1 < 0 then -a1 else a1)).bind fun a2 => (some p1).bind fun a3 => M_common a2 a3).bind fun v4 : Int => (((some p0).bind fun a5 => (some v4).bind fun b6 => oDiv a5 b6).bind fun a9 => ((some p1).bind fun a7 => (some v4).bind fun b8 => oDiv a7 b8).bind fun a10 => some (a9, a10)))
theorem m_lowest (p0 : Int) (p1 : Int) (r : (Int × Int)) (e : M_lowest p0 p1 = some r) : C_lowest [enc p0, enc p1] = .ok (enc r) := fn_ret (F := F_lowest) (mt := M_lowest p0 p1) (js_set (jl2 (g2 m_common) (jl1 o_abs (j_var rfl)) (j_sh rfl)) (fun v4 => (js_last (js_ret' (jl2 o_pair (j2 o_div (j_var rfl) (j_var rfl)) (j2 o_div (j_var rfl) (j_var rfl))))))) r e
def M_pair_agreement (p0 : (List Int)) (p1 : (List Int)) : Option (Int × Int) := (((some p0).bind fun a1 => (some p1).bind fun a2 => M_check_both a1 a2).bind fun _ => (((some p0).bind fun a3 => some ((a3.length : Nat) : Int)).bind fun v4 : Int => (((some v4).bind fun a5 => (some (1 : Int)).bind fun b6 => some (decide (a5 = b6))).bind fun b7 => if b7 = true then none else ((((some v4).bind fun a10 => ((some v4).bind fun a8 => (some (1 : Int)).bind fun b9 => some (a8 - b9)).bind fun b11 => oMul a10 b11).bind fun a17 => ((some (4 : Int)).bind fun a15 => (((some p0).bind fun a12 => (some p1).bind fun a13 => M_against a12 a13).bind fun a14 => some ((a14.length : Nat) : Int)).bind fun b16 => oMul a15 b16).bind fun b18 => some (a17 - b18)).bind fun a23 => ((some v4).bind fun a21 => ((some v4).bind fun a19 => (some (1 : Int)).bind fun b20 => some (a19 - b20)).bind fun b22 => oMul a21 b22).bind fun a24 => M_lowest a23 a24))))
theorem m_pair_agreement (p0 : (List Int)) (p1 : (List Int)) (r : (Int × Int)) (e : M_pair_agreement p0 p1 = some r) : C_pair_agreement [enc p0, enc p1] = .ok (enc r) := fn_ret (F := F_pair_agreement) (mt := M_pair_agreement p0 p1) (js_exp (jl2 (g2 m_check_both) (j_sh rfl) (j_sh rfl)) (js_set (jl1 o_len (j_var rfl)) (fun v4 => (js_if (jt (j2 (o_eq (by decide)) (j_var rfl) (j_c rfl))) js_ex (js_nilS (js_last (js_ret' (jl2 (g2 m_lowest) (j2 o_sub (j2 o_mul (j_var rfl) (j2 o_sub (j_var rfl) (j_c rfl))) (j2 o_mul (j_c rfl) (jl1 o_len (jl2 (g2 m_against) (j_sh rfl) (j_sh rfl))))) (j2 o_mul (j_var rfl) (j2 o_sub (j_var rfl) (j_c rfl))))))))))) r e
def X_pair_agreement (p0 : (List Int)) (p1 : (List Int)) : Option Nat := ((((some p0).bind fun a25 => (some p1).bind fun a26 => X_check_both a25 a26)).or (((some p0).bind fun a27 => (some p1).bind fun a28 => M_check_both a27 a28).bind fun _ => (((some p0).bind fun a29 => some ((a29.length : Nat) : Int)).bind fun v30 => (((some v30).bind fun a31 => (some (1 : Int)).bind fun b32 => some (decide (a31 = b32))).bind fun b33 => if b33 = true then (some 4) else none))))
theorem x_pair_agreement (p0 : (List Int)) (p1 : (List Int)) (k : Nat) (e : X_pair_agreement p0 p1 = some k) : C_pair_agreement [enc p0, enc p1] = .er k := fn_x (F := F_pair_agreement) (mx := X_pair_agreement p0 p1) (jx_or (jx_expE (je2 x_check_both (j_sh rfl) (j_sh rfl))) (jx_exp (jl2 (g2 m_check_both) (j_sh rfl) (j_sh rfl)) (jx_set (jl1 o_len (j_var rfl)) (fun v30 => (jx_if (jt (j2 (o_eq (by decide)) (j_var rfl) (j_c rfl))) jx_ex jx_no))))) k e
def M_is_even (p0 : (List Int)) (p1 : (List Int)) : Option Bool := (((some p0).bind fun a1 => (some p1).bind fun a2 => M_check_both a1 a2).bind fun _ => (((((some p0).bind fun a3 => (some p1).bind fun a4 => M_against a3 a4).bind fun a5 => some ((a5.length : Nat) : Int)).bind fun a6 => (some (2 : Int)).bind fun b7 => oMod a6 b7).bind fun a8 => (some (0 : Int)).bind fun b9 => some (decide (a8 = b9))))
theorem m_is_even (p0 : (List Int)) (p1 : (List Int)) (r : Bool) (e : M_is_even p0 p1 = some r) : C_is_even [enc p0, enc p1] = .ok (enc r) := fn_ret (F := F_is_even) (mt := M_is_even p0 p1) (js_exp (jl2 (g2 m_check_both) (j_sh rfl) (j_sh rfl)) (js_last (js_ret' (j2 (o_eq (by decide)) (j2 o_mod (jl1 o_len (jl2 (g2 m_against) (j_sh rfl) (j_sh rfl))) (j_c rfl)) (j_c rfl))))) r e
def X_is_even (p0 : (List Int)) (p1 : (List Int)) : Option Nat := ((some p0).bind fun a10 => (some p1).bind fun a11 => X_check_both a10 a11)
theorem x_is_even (p0 : (List Int)) (p1 : (List Int)) (k : Nat) (e : X_is_even p0 p1 = some k) : C_is_even [enc p0, enc p1] = .er k := fn_x (F := F_is_even) (mx := X_is_even p0 p1) (jx_expE (je2 x_check_both (j_sh rfl) (j_sh rfl))) k e
def M_inversion_table (p0 : (List Int)) (p1 : (List Int)) : Option (List Int) := (((some p0).bind fun a1 => (some p1).bind fun a2 => M_check_both a1 a2).bind fun _ => (((some p0).bind fun a3 => (some p1).bind fun a4 => M_seen a3 a4).bind fun v5 : (List Int) => (((some v5).bind fun a6 => some (enumL 0 a6)).bind fun l19 => lim l19 (oMap (fun x7 : (Int × Int) => ((((some v5).bind fun a11 => (((some x7.1).bind fun a8 => (some (1 : Int)).bind fun b9 => some (a8 + b9)).bind fun k10 => some (some k10)).bind fun b12 => (some none).bind fun c13 => some (cutD a11 b12 c13)).bind fun l15 => lim l15 (oComp (fun x14 : Int => ((some x14).bind fun a16 => (some x7.2).bind fun b17 => some (decide (a16 < b17)))) (fun x14 : Int => (some x14)) l15)).bind fun a18 => some ((a18.length : Nat) : Int))) l19))))
theorem m_inversion_table (p0 : (List Int)) (p1 : (List Int)) (r : (List Int)) (e : M_inversion_table p0 p1 = some r) : C_inversion_table [enc p0, enc p1] = .ok (enc r) := fn_ret (F := F_inversion_table) (mt := M_inversion_table p0 p1) (js_exp (jl2 (g2 m_check_both) (j_sh rfl) (j_sh rfl)) (js_set (jl2 (g2 m_seen) (j_sh rfl) (j_sh rfl)) (fun v5 => (js_last (js_ret' (j_compA (ji1 o_enum (j_var rfl)) (fun _ => rfl) (fun x7 => (jl1 o_len (j_comp (jl_ls (j_sl (j_var rfl) (jq_part (j2 o_add (j_var rfl) (j_c rfl))) jq_no)) (fun _ => rfl) (fun x14 => (jt (j2 o_lt (j_var rfl) (j_var rfl)))) (fun x14 => (j_sh rfl))))))))))) r e
def X_inversion_table (p0 : (List Int)) (p1 : (List Int)) : Option Nat := ((some p0).bind fun a20 => (some p1).bind fun a21 => X_check_both a20 a21)
theorem x_inversion_table (p0 : (List Int)) (p1 : (List Int)) (k : Nat) (e : X_inversion_table p0 p1 = some k) : C_inversion_table [enc p0, enc p1] = .er k := fn_x (F := F_inversion_table) (mx := X_inversion_table p0 p1) (jx_expE (je2 x_check_both (j_sh rfl) (j_sh rfl))) k e
def M_order_with_table (p0 : (List Int)) : Option (List Int) := (((((some p0).bind fun a3 => some (isiB "list" "list")).bind fun a2 => some (!a2)).bind fun a1 => if a1 = true then some true else (((some (1 : Int)).bind fun a6 => ((some p0).bind fun a5 => some ((a5.length : Nat) : Int)).bind fun b7 => (some (7 : Int)).bind fun c8 => some (decide (a6 ≤ b7) && decide (b7 ≤ c8))).bind fun a4 => some (!a4))).bind fun b9 => if b9 = true then none else ((((((some p0).bind fun a11 => some (enumL 0 a11)).bind fun l21 => lim l21 (oMap (fun x12 : (Int × Int) => ((some x12.2).bind fun a18 => (some (0 : Int)).bind fun a19 => ((((some p0).bind fun a13 => some ((a13.length : Nat) : Int)).bind fun a14 => (some (1 : Int)).bind fun b15 => some (a14 - b15)).bind fun a16 => (some x12.1).bind fun b17 => some (a16 - b17)).bind fun a20 => M_is_int a18 a19 a20)) l21)).bind fun a22 => some (List.all a22 id)).bind fun a10 => some (!a10)).bind fun b23 => if b23 = true then none else (((some (1 : Int)).bind fun a27 => (((some p0).bind fun a24 => some ((a24.length : Nat) : Int)).bind fun a25 => (some (1 : Int)).bind fun b26 => some (a25 + b26)).bind fun b28 => oR2 a27 b28).bind fun v29 : (List Int) => ((some ([] : (List Int))).bind fun v30 : (List Int) => ((some p0).bind fun l34 => (oFold (fun (s31 : (List Int) × (List Int)) (x33 : Int) => (oApp s31.2 ((some s31.1).bind fun a36 => (some x33).bind fun b37 => atI a36 b37) fun v35 => ((((some s31.1).bind fun a39 => (some none).bind fun b40 => ((some x33).bind fun k38 => some (some k38)).bind fun c41 => some (cutD a39 b40 c41)).bind fun a48 => ((some s31.1).bind fun a45 => (((some x33).bind fun a42 => (some (1 : Int)).bind fun b43 => some (a42 + b43)).bind fun k44 => some (some k44)).bind fun b46 => (some none).bind fun c47 => some (cutD a45 b46 c47)).bind fun b49 => oCat a48 b49).bind fun v50 : (List Int) => (some (v50, v35))))) l34 (v29, v30)).bind fun s31 : (List Int) × (List Int) => (some s31.2))))))
theorem m_order_with_table (p0 : (List Int)) (r : (List Int)) (e : M_order_with_table p0 = some r) : C_order_with_table [enc p0] = .ok (enc r) := fn_ret (F := F_order_with_table) (mt := M_order_with_table p0) (js_if (jt_or (jt_not (jt (j1 (fun a r e => o_isiL a _ r e) (j_var rfl)))) (jt_not (jt (j_chain c_le c_le (j_c rfl) (jl1 o_len (j_var rfl)) (j_c rfl))))) js_ex (js_nilS (js_if (jt_not (jt (jl1 o_all (j_compA (ji1 o_enum (j_var rfl)) (fun _ => rfl) (fun x12 => (jl3 (g3 m_is_int) (j_sh rfl) (j_c rfl) (j2 o_sub (j2 o_sub (jl1 o_len (j_var rfl)) (j_c rfl)) (j_var rfl)))))))) js_ex (js_nilS (js_set (j2 o_range (j_c rfl) (j2 o_add (jl1 o_len (j_var rfl)) (j_c rfl))) (fun v29 => (js_own (jl0 o_lst0) (fun v30 => (js_forN (en0 := (fun s31 : (List Int) × (List Int) => [some (.sh (enc p0)), some (.sh (enc s31.1)), some (.ow (List.map enc s31.2)), none, none])) (enb := (fun (s31 : (List Int) × (List Int)) (x33 : Int) => [some (.sh (enc p0)), some (.sh (enc s31.1)), some (.ow (List.map enc s31.2)), some (.sh (enc x33)), none])) (jl_ls (j_sh rfl)) rfl (fun _ _ => rfl) (fun s31 x33 => (js_app rfl (j2 o_ix (j_var rfl) (j_var rfl)) (fun v35 => (js_last (js_set (j2 o_cat (j_sl (j_var rfl) jq_no (jq_part (j_var rfl))) (j_sl (j_var rfl) (jq_part (j2 o_add (j_var rfl) (j_c rfl))) jq_no)) (fun v50 => (js_nil rfl rfl))))))) (fun s31 => (js_last (js_frz rfl (js_ret' (j_sh rfl)))))))))))))) r e
def X_order_with_table (p0 : (List Int)) : Option Nat := (((((some p0).bind fun a73 => some (isiB "list" "list")).bind fun a72 => some (!a72)).bind fun a71 => if a71 = true then some true else (((some (1 : Int)).bind fun a76 => ((some p0).bind fun a75 => some ((a75.length : Nat) : Int)).bind fun b77 => (some (7 : Int)).bind fun c78 => some (decide (a76 ≤ b77) && decide (b77 ≤ c78))).bind fun a74 => some (!a74))).bind fun b79 => if b79 = true then (some 2) else ((((((some p0).bind fun a58 => some (enumL 0 a58)).bind fun l68 => lim l68 (oMap (fun x59 : (Int × Int) => ((some x59.2).bind fun a65 => (some (0 : Int)).bind fun a66 => ((((some p0).bind fun a60 => some ((a60.length : Nat) : Int)).bind fun a61 => (some (1 : Int)).bind fun b62 => some (a61 - b62)).bind fun a63 => (some x59.1).bind fun b64 => some (a63 - b64)).bind fun a67 => M_is_int a65 a66 a67)) l68)).bind fun a69 => some (List.all a69 id)).bind fun a57 => some (!a57)).bind fun b70 => if b70 = true then (some 2) else none))
theorem x_order_with_table (p0 : (List Int)) (k : Nat) (e : X_order_with_table p0 = some k) : C_order_with_table [enc p0] = .er k := fn_x (F := F_order_with_table) (mx := X_order_with_table p0) (jx_if (jt_or (jt_not (jt (j1 (fun a r e => o_isiL a _ r e) (j_var rfl)))) (jt_not (jt (j_chain c_le c_le (j_c rfl) (jl1 o_len (j_var rfl)) (j_c rfl))))) jx_ex (jx_nilS (jx_if (jt_not (jt (jl1 o_all (j_compA (ji1 o_enum (j_var rfl)) (fun _ => rfl) (fun x59 => (jl3 (g3 m_is_int) (j_sh rfl) (j_c rfl) (j2 o_sub (j2 o_sub (jl1 o_len (j_var rfl)) (j_c rfl)) (j_var rfl)))))))) jx_ex jx_no))) k e
def M__law_true (p0 : Bool) (p1 : Bool) : Option Bool := (((some p0).bind fun a1 => some (isiB "bool" "bool")).bind fun a4 => if a4 = true then ((some p0).bind fun a2 => (some p1).bind fun b3 => some (decide (a2 = b3))) else some false)
theorem m__law_true (p0 : Bool) (p1 : Bool) (r : Bool) (e : M__law_true p0 p1 = some r) : C__law_true [enc p0, enc p1] = .ok (enc r) := fn_ret (F := F__law_true) (mt := M__law_true p0 p1) (js_last (js_ret' (j_and (j1 (fun a r e => o_isiBl a _ r e) (j_var rfl)) (j2 (o_eq (by decide)) (j_var rfl) (j_var rfl))))) r e
def M__law_against (p0 : (List Int)) (p1 : (List Int)) : Option (List (Int × Int)) := ((some ([] : (List (Int × Int)))).bind fun v1 : (List (Int × Int)) => ((((some p0).bind fun a4 => some ((a4.length : Nat) : Int)).bind fun a5 => oR1 a5).bind fun l7 => (oFold (fun (s2 : (List (Int × Int))) (x6 : Int) => ((((some x6).bind fun a9 => (some (1 : Int)).bind fun b10 => some (a9 + b10)).bind fun a12 => ((some p0).bind fun a11 => some ((a11.length : Nat) : Int)).bind fun a13 => oR2 a12 a13).bind fun l15 => (oFold (fun (s8 : (List (Int × Int))) (x14 : Int) => ((((((some p0).bind fun a16 => (some x6).bind fun b17 => atI a16 b17).bind fun a20 => ((some p0).bind fun a18 => (some x14).bind fun b19 => atI a18 b19).bind fun b21 => some (a20 - b21)).bind fun a28 => (((some p1).bind fun a22 => (some x6).bind fun b23 => atI a22 b23).bind fun a26 => ((some p1).bind fun a24 => (some x14).bind fun b25 => atI a24 b25).bind fun b27 => some (a26 - b27)).bind fun b29 => oMul a28 b29).bind fun a30 => (some (0 : Int)).bind fun b31 => some (decide (a30 < b31))).bind fun b32 => if b32 = true then (oApp s8 ((some x6).bind fun a34 => (some x14).bind fun a35 => some (a34, a35)) fun v33 => (some v33)) else (some s8))) l15 s2).bind fun s8 : (List (Int × Int)) => (some s8))) l7 v1).bind fun s2 : (List (Int × Int)) => (some s2)))
theorem m__law_against (p0 : (List Int)) (p1 : (List Int)) (r : (List (Int × Int))) (e : M__law_against p0 p1 = some r) : C__law_against [enc p0, enc p1] = .ok (enc r) := fn_ret (F := F__law_against) (mt := M__law_against p0 p1) (js_own (jl0 o_lst0) (fun v1 => (js_forN (en0 := (fun s2 : (List (Int × Int)) => [some (.sh (enc p0)), some (.sh (enc p1)), some (.ow (List.map enc s2)), none, none])) (enb := (fun (s2 : (List (Int × Int))) (x6 : Int) => [some (.sh (enc p0)), some (.sh (enc p1)), some (.ow (List.map enc s2)), some (.sh (enc x6)), none])) (ji1 o_rng1 (jl1 o_len (j_var rfl))) rfl (fun _ _ => rfl) (fun s2 x6 => (js_last (js_forN (en0 := (fun s8 : (List (Int × Int)) => [some (.sh (enc p0)), some (.sh (enc p1)), some (.ow (List.map enc s8)), some (.sh (enc x6)), none])) (enb := (fun (s8 : (List (Int × Int))) (x14 : Int) => [some (.sh (enc p0)), some (.sh (enc p1)), some (.ow (List.map enc s8)), some (.sh (enc x6)), some (.sh (enc x14))])) (ji2 o_rng2 (j2 o_add (j_var rfl) (j_c rfl)) (jl1 o_len (j_var rfl))) rfl (fun _ _ => rfl) (fun s8 x14 => (js_last (js_if (jt (j2 o_lt (j2 o_mul (j2 o_sub (j2 o_ix (j_var rfl) (j_var rfl)) (j2 o_ix (j_var rfl) (j_var rfl))) (j2 o_sub (j2 o_ix (j_var rfl) (j_var rfl)) (j2 o_ix (j_var rfl) (j_var rfl)))) (j_c rfl))) (js_app rfl (jl2 o_pair (j_sh rfl) (j_sh rfl)) (fun v33 => (js_nil rfl rfl))) (js_nilS (js_nil rfl rfl))))) (fun s8 => (js_nil rfl rfl))))) (fun s2 => (js_last (js_frz rfl (js_ret' (j_sh rfl)))))))) r e
def M__law_low (p0 : Int) (p1 : Int) : Option (Int × Int) := (((some p0).bind fun a1 => some (if a1 < 0 then -a1 else a1)).bind fun a2 => (some p1).bind fun b3 => ((oWhile (fun s4 : Int × Int => ((some s4.2).bind fun a11 => (some (0 : Int)).bind fun b12 => some (!decide (a11 = b12)))) (fun s4 : Int × Int => ((some s4.2).bind fun a15 => ((some s4.1).bind fun a13 => (some s4.2).bind fun b14 => oMod a13 b14).bind fun b16 => (some (a15, b16)))) 1000 (a2, b3)).bind fun s4 : Int × Int => (((some p0).bind fun a5 => (some s4.1).bind fun b6 => oDiv a5 b6).bind fun a9 => ((some p1).bind fun a7 => (some s4.1).bind fun b8 => oDiv a7 b8).bind fun a10 => some (a9, a10))))
theorem m__law_low (p0 : Int) (p1 : Int) (r : (Int × Int)) (e : M__law_low p0 p1 = some r) : C__law_low [enc p0, enc p1] = .ok (enc r) := fn_ret (F := F__law_low) (mt := M__law_low p0 p1) (js_par2 (jl1 o_abs (j_var rfl)) (j_sh rfl) (fun a2 b3 => (js_while (en0 := (fun s4 : Int × Int => [some (.sh (enc p0)), some (.sh (enc p1)), some (.sh (enc s4.1)), some (.sh (enc s4.2))])) rfl (fun s4 => (jt (j2 (o_ne (by decide)) (j_var rfl) (j_c rfl)))) (fun s4 => (js_last (js_par2 (j_sh rfl) (j2 o_mod (j_var rfl) (j_var rfl)) (fun a15 b16 => (js_nil rfl rfl))))) (fun s4 => (js_last (js_ret' (jl2 o_pair (j2 o_div (j_var rfl) (j_var rfl)) (j2 o_div (j_var rfl) (j_var rfl))))))))) r e
def M_square_sum (p0 : (List Int)) (p1 : (List Int)) : Option Int := (((some p0).bind fun a1 => (some p1).bind fun a2 => M_check_both a1 a2).bind fun _ => ((((some p0).bind fun a3 => (some p1).bind fun a4 => some (List.zip a3 a4)).bind fun l12 => lim l12 (oMap (fun x5 : (Int × Int) => (((some x5.1).bind fun a6 => (some x5.2).bind fun b7 => some (a6 - b7)).bind fun a10 => ((some x5.1).bind fun a8 => (some x5.2).bind fun b9 => some (a8 - b9)).bind fun b11 => oMul a10 b11)) l12)).bind fun a13 => some (List.sum a13)))
theorem m_square_sum (p0 : (List Int)) (p1 : (List Int)) (r : Int) (e : M_square_sum p0 p1 = some r) : C_square_sum [enc p0, enc p1] = .ok (enc r) := fn_ret (F := F_square_sum) (mt := M_square_sum p0 p1) (js_exp (jl2 (g2 m_check_both) (j_sh rfl) (j_sh rfl)) (js_last (js_ret' (jl1 o_sum (j_compA (ji2 o_zip (j_var rfl) (j_var rfl)) (fun _ => rfl) (fun x5 => (j2 o_mul (j2 o_sub (j_var rfl) (j_var rfl)) (j2 o_sub (j_var rfl) (j_var rfl))))))))) r e
def X_square_sum (p0 : (List Int)) (p1 : (List Int)) : Option Nat := ((some p0).bind fun a14 => (some p1).bind fun a15 => X_check_both a14 a15)
theorem x_square_sum (p0 : (List Int)) (p1 : (List Int)) (k : Nat) (e : X_square_sum p0 p1 = some k) : C_square_sum [enc p0, enc p1] = .er k := fn_x (F := F_square_sum) (mx := X_square_sum p0 p1) (jx_expE (je2 x_check_both (j_sh rfl) (j_sh rfl))) k e
def M_plain_sum (p0 : (List Int)) (p1 : (List Int)) : Option Int := (((some p0).bind fun a1 => (some p1).bind fun a2 => M_check_both a1 a2).bind fun _ => ((((some p0).bind fun a3 => (some p1).bind fun a4 => some (List.zip a3 a4)).bind fun l9 => lim l9 (oMap (fun x5 : (Int × Int) => (((some x5.1).bind fun a6 => (some x5.2).bind fun b7 => some (a6 - b7)).bind fun a8 => some (if a8 < 0 then -a8 else a8))) l9)).bind fun a10 => some (List.sum a10)))
theorem m_plain_sum (p0 : (List Int)) (p1 : (List Int)) (r : Int) (e : M_plain_sum p0 p1 = some r) : C_plain_sum [enc p0, enc p1] = .ok (enc r) := fn_ret (F := F_plain_sum) (mt := M_plain_sum p0 p1) (js_exp (jl2 (g2 m_check_both) (j_sh rfl) (j_sh rfl)) (js_last (js_ret' (jl1 o_sum (j_compA (ji2 o_zip (j_var rfl) (j_var rfl)) (fun _ => rfl) (fun x5 => (jl1 o_abs (j2 o_sub (j_var rfl) (j_var rfl))))))))) r e
def X_plain_sum (p0 : (List Int)) (p1 : (List Int)) : Option Nat := ((some p0).bind fun a11 => (some p1).bind fun a12 => X_check_both a11 a12)
theorem x_plain_sum (p0 : (List Int)) (p1 : (List Int)) (k : Nat) (e : X_plain_sum p0 p1 = some k) : C_plain_sum [enc p0, enc p1] = .er k := fn_x (F := F_plain_sum) (mx := X_plain_sum p0 p1) (jx_expE (je2 x_check_both (j_sh rfl) (j_sh rfl))) k e
def M_greatest_difference (p0 : (List Int)) (p1 : (List Int)) : Option Int := (((some p0).bind fun a1 => (some p1).bind fun a2 => M_check_both a1 a2).bind fun _ => ((((some p0).bind fun a3 => (some p1).bind fun a4 => some (List.zip a3 a4)).bind fun l9 => lim l9 (oMap (fun x5 : (Int × Int) => (((some x5.1).bind fun a6 => (some x5.2).bind fun b7 => some (a6 - b7)).bind fun a8 => some (if a8 < 0 then -a8 else a8))) l9)).bind fun a10 => oMax a10))
theorem m_greatest_difference (p0 : (List Int)) (p1 : (List Int)) (r : Int) (e : M_greatest_difference p0 p1 = some r) : C_greatest_difference [enc p0, enc p1] = .ok (enc r) := fn_ret (F := F_greatest_difference) (mt := M_greatest_difference p0 p1) (js_exp (jl2 (g2 m_check_both) (j_sh rfl) (j_sh rfl)) (js_last (js_ret' (jl1 o_max (j_compA (ji2 o_zip (j_var rfl) (j_var rfl)) (fun _ => rfl) (fun x5 => (jl1 o_abs (j2 o_sub (j_var rfl) (j_var rfl))))))))) r e
def X_greatest_difference (p0 : (List Int)) (p1 : (List Int)) : Option Nat := ((some p0).bind fun a11 => (some p1).bind fun a12 => X_check_both a11 a12)
theorem x_greatest_difference (p0 : (List Int)) (p1 : (List Int)) (k : Nat) (e : X_greatest_difference p0 p1 = some k) : C_greatest_difference [enc p0, enc p1] = .er k := fn_x (F := F_greatest_difference) (mx := X_greatest_difference p0 p1) (jx_expE (je2 x_check_both (j_sh rfl) (j_sh rfl))) k e
def M_count_unlike (p0 : (List Int)) (p1 : (List Int)) : Option Int := (((some p0).bind fun a1 => (some p1).bind fun a2 => M_check_both a1 a2).bind fun _ => ((((some p0).bind fun a3 => (some p1).bind fun a4 => some (List.zip a3 a4)).bind fun l6 => lim l6 (oComp (fun x5 : (Int × Int) => ((some x5.1).bind fun a7 => (some x5.2).bind fun b8 => some (!decide (a7 = b8)))) (fun x5 : (Int × Int) => (some (1 : Int))) l6)).bind fun a9 => some ((a9.length : Nat) : Int)))
theorem m_count_unlike (p0 : (List Int)) (p1 : (List Int)) (r : Int) (e : M_count_unlike p0 p1 = some r) : C_count_unlike [enc p0, enc p1] = .ok (enc r) := fn_ret (F := F_count_unlike) (mt := M_count_unlike p0 p1) (js_exp (jl2 (g2 m_check_both) (j_sh rfl) (j_sh rfl)) (js_last (js_ret' (jl1 o_len (j_comp (ji2 o_zip (j_var rfl) (j_var rfl)) (fun _ => rfl) (fun x5 => (jt (j2 (o_ne (by decide)) (j_var rfl) (j_var rfl)))) (fun x5 => (j_c rfl))))))) r e
def X_count_unlike (p0 : (List Int)) (p1 : (List Int)) : Option Nat := ((some p0).bind fun a10 => (some p1).bind fun a11 => X_check_both a10 a11)
theorem x_count_unlike (p0 : (List Int)) (p1 : (List Int)) (k : Nat) (e : X_count_unlike p0 p1 = some k) : C_count_unlike [enc p0, enc p1] = .er k := fn_x (F := F_count_unlike) (mx := X_count_unlike p0 p1) (jx_expE (je2 x_check_both (j_sh rfl) (j_sh rfl))) k e
def M_cycles_of (p0 : (List Int)) : Option (List (List Int)) := ((some ([] : (List (List Int)))).bind fun v1 : (List (List Int)) => ((some ([] : (List Int))).bind fun v2 : (List Int) => (((some (1 : Int)).bind fun a8 => (((some p0).bind fun a5 => some ((a5.length : Nat) : Int)).bind fun a6 => (some (1 : Int)).bind fun b7 => some (a6 + b7)).bind fun a9 => oR2 a8 a9).bind fun l11 => (oFold (fun (s3 : (List (List Int)) × (List Int)) (x10 : Int) => (((some x10).bind fun a12 => (some s3.2).bind fun b13 => some (!decide (a12 ∈ b13))).bind fun b14 => if b14 = true then (((some x10).bind fun a15 => some [a15]).bind fun v16 : (List Int) => ((oWhile (fun s17 : (List Int) => (((some p0).bind fun a28 => (((some s17).bind fun a24 => ((some (1 : Int)).bind fun a23 => some (-a23)).bind fun b25 => atI a24 b25).bind fun a26 => (some (1 : Int)).bind fun b27 => some (a26 - b27)).bind fun b29 => atI a28 b29).bind fun a30 => (some x10).bind fun b31 => some (!decide (a30 = b31)))) (fun s17 : (List Int) => (oApp s17 ((some p0).bind fun a38 => (((some s17).bind fun a34 => ((some (1 : Int)).bind fun a33 => some (-a33)).bind fun b35 => atI a34 b35).bind fun a36 => (some (1 : Int)).bind fun b37 => some (a36 - b37)).bind fun b39 => atI a38 b39) fun v32 => (some v32))) 1000 v16).bind fun s17 : (List Int) => (oApp s3.1 (some s17) fun v19 => (((some s3.2).bind fun a20 => (some s17).bind fun b21 => oCat a20 b21).bind fun v22 : (List Int) => (some (v19, v22)))))) else (some (s3.1, s3.2)))) l11 (v1, v2)).bind fun s3 : (List (List Int)) × (List Int) => (some s3.1))))
theorem m_cycles_of (p0 : (List Int)) (r : (List (List Int))) (e : M_cycles_of p0 = some r) : C_cycles_of [enc p0] = .ok (enc r) := fn_ret (F := F_cycles_of) (mt := M_cycles_of p0) (js_own (jl0 o_lst0) (fun v1 => (js_set (jl0 o_lst0) (fun v2 => (js_forN (en0 := (fun s3 : (List (List Int)) × (List Int) => [some (.sh (enc p0)), some (.ow (List.map enc s3.1)), some (.sh (enc s3.2)), none, none])) (enb := (fun (s3 : (List (List Int)) × (List Int)) (x10 : Int) => [some (.sh (enc p0)), some (.ow (List.map enc s3.1)), some (.sh (enc s3.2)), some (.sh (enc x10)), none])) (ji2 o_rng2 (j_c rfl) (j2 o_add (jl1 o_len (j_var rfl)) (j_c rfl))) rfl (fun _ _ => rfl) (fun s3 x10 => (js_last (js_if (jt (j2 (o_notin (by decide)) (j_var rfl) (j_var rfl))) (js_assoc (js_own (jl1 o_lst1 (j_sh rfl)) (fun v16 => (js_assoc (js_while (en0 := (fun s17 : (List Int) => [some (.sh (enc p0)), some (.ow (List.map enc s3.1)), some (.sh (enc s3.2)), some (.sh (enc x10)), some (.ow (List.map enc s17))])) rfl (fun s17 => (jt (j2 (o_ne (by decide)) (j2 o_ix (j_var rfl) (j2 o_sub (j2 o_ix (j_varO rfl) (j1 o_neg (j_c rfl))) (j_c rfl))) (j_var rfl)))) (fun s17 => (js_last (js_app rfl (j2 o_ix (j_var rfl) (j2 o_sub (j2 o_ix (j_varO rfl) (j1 o_neg (j_c rfl))) (j_c rfl))) (fun v32 => (js_nil rfl rfl))))) (fun s17 => (js_assoc (js_frz rfl (js_app rfl (j_sh rfl) (fun v19 => (js_set (j2 o_cat (j_var rfl) (j_var rfl)) (fun v22 => (js_nil rfl rfl))))))))))))) (js_nilS (js_nil rfl rfl))))) (fun s3 => (js_last (js_frz rfl (js_ret' (j_sh rfl)))))))))) r e
def M_exchanges (p0 : (List Int)) (p1 : (List Int)) : Option Int := (((some p0).bind fun a1 => some ((a1.length : Nat) : Int)).bind fun a6 => ((((some p0).bind fun a2 => (some p1).bind fun a3 => M_seen a2 a3).bind fun a4 => M_cycles_of a4).bind fun a5 => some ((a5.length : Nat) : Int)).bind fun b7 => some (a6 - b7))
theorem m_exchanges (p0 : (List Int)) (p1 : (List Int)) (r : Int) (e : M_exchanges p0 p1 = some r) : C_exchanges [enc p0, enc p1] = .ok (enc r) := fn_ret (F := F_exchanges) (mt := M_exchanges p0 p1) (js_last (js_ret' (j2 o_sub (jl1 o_len (j_var rfl)) (jl1 o_len (jl1 (g1 m_cycles_of) (jl2 (g2 m_seen) (j_sh rfl) (j_sh rfl))))))) r e
def M_count_exchanges (p0 : (List Int)) (p1 : (List Int)) : Option Int := (((some p0).bind fun a1 => (some p1).bind fun a2 => M_check_both a1 a2).bind fun _ => ((some p0).bind fun a3 => (some p1).bind fun a4 => M_exchanges a3 a4))
theorem m_count_exchanges (p0 : (List Int)) (p1 : (List Int)) (r : Int) (e : M_count_exchanges p0 p1 = some r) : C_count_exchanges [enc p0, enc p1] = .ok (enc r) := fn_ret (F := F_count_exchanges) (mt := M_count_exchanges p0 p1) (js_exp (jl2 (g2 m_check_both) (j_sh rfl) (j_sh rfl)) (js_last (js_ret' (jl2 (g2 m_exchanges) (j_sh rfl) (j_sh rfl))))) r e
def X_count_exchanges (p0 : (List Int)) (p1 : (List Int)) : Option Nat := ((some p0).bind fun a5 => (some p1).bind fun a6 => X_check_both a5 a6)
theorem x_count_exchanges (p0 : (List Int)) (p1 : (List Int)) (k : Nat) (e : X_count_exchanges p0 p1 = some k) : C_count_exchanges [enc p0, enc p1] = .er k := fn_x (F := F_count_exchanges) (mx := X_count_exchanges p0 p1) (jx_expE (je2 x_check_both (j_sh rfl) (j_sh rfl))) k e
def M_longest_rising (p0 : (List Int)) : Option Int := ((some ([] : (List Int))).bind fun v1 : (List Int) => (((some p0).bind fun a4 => some (enumL 0 a4)).bind fun l6 => (oFold (fun (s2 : (List Int)) (x5 : (Int × Int)) => (oApp s2 ((some (1 : Int)).bind fun a21 => ((((some (0 : Int)).bind fun a8 => some [a8]).bind fun a18 => (((some x5.1).bind fun a9 => oR1 a9).bind fun l13 => lim l13 (oComp (fun x10 : Int => (((some p0).bind fun a14 => (some x10).bind fun b15 => atI a14 b15).bind fun a16 => (some x5.2).bind fun b17 => some (decide (a16 < b17)))) (fun x10 : Int => ((some s2).bind fun a11 => (some x10).bind fun b12 => atI a11 b12)) l13)).bind fun b19 => oCat a18 b19).bind fun a20 => oMax a20).bind fun b22 => some (a21 + b22)) fun v7 => (some v7))) l6 v1).bind fun s2 : (List Int) => ((some s2).bind fun a3 => oMax a3)))
theorem m_longest_rising (p0 : (List Int)) (r : Int) (e : M_longest_rising p0 = some r) : C_longest_rising [enc p0] = .ok (enc r) := fn_ret (F := F_longest_rising) (mt := M_longest_rising p0) (js_own (jl0 o_lst0) (fun v1 => (js_forN (en0 := (fun s2 : (List Int) => [some (.sh (enc p0)), some (.ow (List.map enc s2)), none, none, none])) (enb := (fun (s2 : (List Int)) (x5 : (Int × Int)) => [some (.sh (enc p0)), some (.ow (List.map enc s2)), some (.sh (enc x5.1)), some (.sh (enc x5.2)), none])) (ji1 o_enum (j_sh rfl)) rfl (fun _ _ => rfl) (fun s2 x5 => (js_last (js_app rfl (j2 o_add (j_c rfl) (jl1 o_max (j2 o_cat (jl1 o_lst1 (j_c rfl)) (j_comp (ji1 o_rng1 (j_var rfl)) (fun _ => rfl) (fun x10 => (jt (j2 o_lt (j2 o_ix (j_var rfl) (j_var rfl)) (j_var rfl)))) (fun x10 => (j2 o_ix (j_varO rfl) (j_var rfl))))))) (fun v7 => (js_nil rfl rfl))))) (fun s2 => (js_last (js_ret' (jl1 o_max (j_varO rfl)))))))) r e
def M_count_moves (p0 : (List Int)) (p1 : (List Int)) : Option Int := (((some p0).bind fun a1 => (some p1).bind fun a2 => M_check_both a1 a2).bind fun _ => (((some p0).bind fun a3 => some ((a3.length : Nat) : Int)).bind fun a7 => (((some p0).bind fun a4 => (some p1).bind fun a5 => M_seen a4 a5).bind fun a6 => M_longest_rising a6).bind fun b8 => some (a7 - b8)))
theorem m_count_moves (p0 : (List Int)) (p1 : (List Int)) (r : Int) (e : M_count_moves p0 p1 = some r) : C_count_moves [enc p0, enc p1] = .ok (enc r) := fn_ret (F := F_count_moves) (mt := M_count_moves p0 p1) (js_exp (jl2 (g2 m_check_both) (j_sh rfl) (j_sh rfl)) (js_last (js_ret' (j2 o_sub (jl1 o_len (j_var rfl)) (jl1 (g1 m_longest_rising) (jl2 (g2 m_seen) (j_sh rfl) (j_sh rfl))))))) r e
def X_count_moves (p0 : (List Int)) (p1 : (List Int)) : Option Nat := ((some p0).bind fun a9 => (some p1).bind fun a10 => X_check_both a9 a10)
theorem x_count_moves (p0 : (List Int)) (p1 : (List Int)) (k : Nat) (e : X_count_moves p0 p1 = some k) : C_count_moves [enc p0, enc p1] = .er k := fn_x (F := F_count_moves) (mx := X_count_moves p0 p1) (jx_expE (je2 x_check_both (j_sh rfl) (j_sh rfl))) k e
def M_square_agreement (p0 : (List Int)) (p1 : (List Int)) : Option (Int × Int) := (((some p0).bind fun a1 => (some p1).bind fun a2 => M_check_both a1 a2).bind fun _ => (((some p0).bind fun a3 => some ((a3.length : Nat) : Int)).bind fun v4 : Int => (((some v4).bind fun a5 => (some (1 : Int)).bind fun b6 => some (decide (a5 = b6))).bind fun b7 => if b7 = true then none else (((some v4).bind fun a12 => (((some v4).bind fun a8 => (some v4).bind fun b9 => oMul a8 b9).bind fun a10 => (some (1 : Int)).bind fun b11 => some (a10 - b11)).bind fun b13 => oMul a12 b13).bind fun v14 : Int => (((some v14).bind fun a28 => ((some (6 : Int)).bind fun a26 => ((((some p0).bind fun a15 => (some p1).bind fun a16 => some (List.zip a15 a16)).bind fun l24 => lim l24 (oMap (fun x17 : (Int × Int) => (((some x17.1).bind fun a18 => (some x17.2).bind fun b19 => some (a18 - b19)).bind fun a22 => ((some x17.1).bind fun a20 => (some x17.2).bind fun b21 => some (a20 - b21)).bind fun b23 => oMul a22 b23)) l24)).bind fun a25 => some (List.sum a25)).bind fun b27 => oMul a26 b27).bind fun b29 => some (a28 - b29)).bind fun a30 => (some v14).bind fun a31 => M_lowest a30 a31)))))
theorem m_square_agreement (p0 : (List Int)) (p1 : (List Int)) (r : (Int × Int)) (e : M_square_agreement p0 p1 = some r) : C_square_agreement [enc p0, enc p1] = .ok (enc r) := fn_ret (F := F_square_agreement) (mt := M_square_agreement p0 p1) (js_exp (jl2 (g2 m_check_both) (j_sh rfl) (j_sh rfl)) (js_set (jl1 o_len (j_var rfl)) (fun v4 => (js_if (jt (j2 (o_eq (by decide)) (j_var rfl) (j_c rfl))) js_ex (js_nilS (js_set (j2 o_mul (j_var rfl) (j2 o_sub (j2 o_mul (j_var rfl) (j_var rfl)) (j_c rfl))) (fun v14 => (js_last (js_ret' (jl2 (g2 m_lowest) (j2 o_sub (j_var rfl) (j2 o_mul (j_c rfl) (jl1 o_sum (j_compA (ji2 o_zip (j_var rfl) (j_var rfl)) (fun _ => rfl) (fun x17 => (j2 o_mul (j2 o_sub (j_var rfl) (j_var rfl)) (j2 o_sub (j_var rfl) (j_var rfl)))))))) (j_sh rfl))))))))))) r e
def X_square_agreement (p0 : (List Int)) (p1 : (List Int)) : Option Nat := ((((some p0).bind fun a32 => (some p1).bind fun a33 => X_check_both a32 a33)).or (((some p0).bind fun a34 => (some p1).bind fun a35 => M_check_both a34 a35).bind fun _ => (((some p0).bind fun a36 => some ((a36.length : Nat) : Int)).bind fun v37 => (((some v37).bind fun a45 => (some (1 : Int)).bind fun b46 => some (decide (a45 = b46))).bind fun b47 => if b47 = true then (some 4) else none))))
theorem x_square_agreement (p0 : (List Int)) (p1 : (List Int)) (k : Nat) (e : X_square_agreement p0 p1 = some k) : C_square_agreement [enc p0, enc p1] = .er k := fn_x (F := F_square_agreement) (mx := X_square_agreement p0 p1) (jx_or (jx_expE (je2 x_check_both (j_sh rfl) (j_sh rfl))) (jx_exp (jl2 (g2 m_check_both) (j_sh rfl) (j_sh rfl)) (jx_set (jl1 o_len (j_var rfl)) (fun v37 => (jx_if (jt (j2 (o_eq (by decide)) (j_var rfl) (j_c rfl))) jx_ex jx_no))))) k e
def M_all_measures (p0 : (List Int)) (p1 : (List Int)) : Option (Tp Int) := (((some p0).bind fun a1 => (some p1).bind fun a2 => M_check_both a1 a2).bind fun _ => (((((some p0).bind fun a3 => (some p1).bind fun a4 => M_against a3 a4).bind fun a5 => some ((a5.length : Nat) : Int)).bind fun a12 => ((some p0).bind fun a6 => (some p1).bind fun a7 => M_square_sum a6 a7).bind fun a13 => ((some p0).bind fun a8 => (some p1).bind fun a9 => M_plain_sum a8 a9).bind fun a14 => ((some p0).bind fun a10 => (some p1).bind fun a11 => M_greatest_difference a10 a11).bind fun a15 => some (Tp.mk [a12, a13, a14, a15])).bind fun v16 : (Tp Int) => ((some v16).bind fun a26 => (((some p0).bind fun a17 => (some p1).bind fun a18 => M_count_unlike a17 a18).bind fun a23 => ((some p0).bind fun a19 => (some p1).bind fun a20 => M_exchanges a19 a20).bind fun a24 => ((some p0).bind fun a21 => (some p1).bind fun a22 => M_count_moves a21 a22).bind fun a25 => some (Tp.mk [a23, a24, a25])).bind fun b27 => (oCat a26.l b27.l).bind fun x => some (Tp.mk x))))
theorem m_all_measures (p0 : (List Int)) (p1 : (List Int)) (r : (Tp Int)) (e : M_all_measures p0 p1 = some r) : C_all_measures [enc p0, enc p1] = .ok (enc r) := fn_ret (F := F_all_measures) (mt := M_all_measures p0 p1) (js_exp (jl2 (g2 m_check_both) (j_sh rfl) (j_sh rfl)) (js_set (jl4 o_tup4 (jl1 o_len (jl2 (g2 m_against) (j_sh rfl) (j_sh rfl))) (jl2 (g2 m_square_sum) (j_sh rfl) (j_sh rfl)) (jl2 (g2 m_plain_sum) (j_sh rfl) (j_sh rfl)) (jl2 (g2 m_greatest_difference) (j_sh rfl) (j_sh rfl))) (fun v16 => (js_last (js_ret' (j2 o_catT (j_var rfl) (jl3 o_tup3 (jl2 (g2 m_count_unlike) (j_sh rfl) (j_sh rfl)) (jl2 (g2 m_exchanges) (j_sh rfl) (j_sh rfl)) (jl2 (g2 m_count_moves) (j_sh rfl) (j_sh rfl))))))))) r e
def X_all_measures (p0 : (List Int)) (p1 : (List Int)) : Option Nat := ((some p0).bind fun a28 => (some p1).bind fun a29 => X_check_both a28 a29)
theorem x_all_measures (p0 : (List Int)) (p1 : (List Int)) (k : Nat) (e : X_all_measures p0 p1 = some k) : C_all_measures [enc p0, enc p1] = .er k := fn_x (F := F_all_measures) (mx := X_all_measures p0 p1) (jx_expE (je2 x_check_both (j_sh rfl) (j_sh rfl))) k e
def M_cycles (p0 : (List Int)) (p1 : (List Int)) : Option (List (List Int)) := (((some p0).bind fun a1 => (some p1).bind fun a2 => M_check_both a1 a2).bind fun _ => (((some p0).bind fun a3 => (some p1).bind fun a4 => M_seen a3 a4).bind fun a5 => M_cycles_of a5))
theorem m_cycles (p0 : (List Int)) (p1 : (List Int)) (r : (List (List Int))) (e : M_cycles p0 p1 = some r) : C_cycles [enc p0, enc p1] = .ok (enc r) := fn_ret (F := F_cycles) (mt := M_cycles p0 p1) (js_exp (jl2 (g2 m_check_both) (j_sh rfl) (j_sh rfl)) (js_last (js_ret' (jl1 (g1 m_cycles_of) (jl2 (g2 m_seen) (j_sh rfl) (j_sh rfl)))))) r e
def X_cycles (p0 : (List Int)) (p1 : (List Int)) : Option Nat := ((some p0).bind fun a6 => (some p1).bind fun a7 => X_check_both a6 a7)
theorem x_cycles (p0 : (List Int)) (p1 : (List Int)) (k : Nat) (e : X_cycles p0 p1 = some k) : C_cycles [enc p0, enc p1] = .er k := fn_x (F := F_cycles) (mx := X_cycles p0 p1) (jx_expE (je2 x_check_both (j_sh rfl) (j_sh rfl))) k e
def M__law_cycles (p0 : (List Int)) : Option (List (List Int)) := (((some (1 : Int)).bind fun a4 => (((some p0).bind fun a1 => some ((a1.length : Nat) : Int)).bind fun a2 => (some (1 : Int)).bind fun b3 => some (a2 + b3)).bind fun b5 => oR2 a4 b5).bind fun v6 : (List Int) => ((some ([] : (List (List Int)))).bind fun v7 : (List (List Int)) => ((oWhile (fun s8 : (List Int) × (List (List Int)) => ((some s8.1).bind fun a10 => (some ([] : (List Int))).bind fun b11 => some (!decide (a10 = b11)))) (fun s8 : (List Int) × (List (List Int)) => ((((some s8.1).bind fun a12 => (some (0 : Int)).bind fun b13 => atI a12 b13).bind fun a14 => some [a14]).bind fun v15 : (List Int) => (oRem s8.1 ((some v15).bind fun a17 => (some (0 : Int)).bind fun b18 => atI a17 b18) fun v16 => ((oWhile (fun s19 : (List Int) × (List Int) => (((some p0).bind fun a27 => (((some s19.2).bind fun a23 => ((some (1 : Int)).bind fun a22 => some (-a22)).bind fun b24 => atI a23 b24).bind fun a25 => (some (1 : Int)).bind fun b26 => some (a25 - b26)).bind fun b28 => atI a27 b28).bind fun a29 => (some s19.1).bind fun b30 => some (decide (a29 ∈ b30)))) (fun s19 : (List Int) × (List Int) => (oApp s19.2 ((some p0).bind fun a37 => (((some s19.2).bind fun a33 => ((some (1 : Int)).bind fun a32 => some (-a32)).bind fun b34 => atI a33 b34).bind fun a35 => (some (1 : Int)).bind fun b36 => some (a35 - b36)).bind fun b38 => atI a37 b38) fun v31 => (oRem s19.1 ((some v31).bind fun a41 => ((some (1 : Int)).bind fun a40 => some (-a40)).bind fun b42 => atI a41 b42) fun v39 => (some (v39, v31))))) 1000 (v16, v15)).bind fun s19 : (List Int) × (List Int) => (oApp s8.2 (some s19.2) fun v21 => (some (s19.1, v21))))))) 1000 (v6, v7)).bind fun s8 : (List Int) × (List (List Int)) => (some s8.2))))
theorem m__law_cycles (p0 : (List Int)) (r : (List (List Int))) (e : M__law_cycles p0 = some r) : C__law_cycles [enc p0] = .ok (enc r) := fn_ret (F := F__law_cycles) (mt := M__law_cycles p0) (js_own (j2 o_range (j_c rfl) (j2 o_add (jl1 o_len (j_var rfl)) (j_c rfl))) (fun v6 => (js_own (jl0 o_lst0) (fun v7 => (js_while (en0 := (fun s8 : (List Int) × (List (List Int)) => [some (.sh (enc p0)), some (.ow (List.map enc s8.1)), some (.ow (List.map enc s8.2)), none])) rfl (fun s8 => (jt (j2 (o_ne (by decide)) (j_varO rfl) (jl0 o_lst0)))) (fun s8 => (js_own (jl1 o_lst1 (j2 o_ix (j_varO rfl) (j_c rfl))) (fun v15 => (js_rem rfl (j2 o_ix (j_varO rfl) (j_c rfl)) (fun v16 => (js_while (en0 := (fun s19 : (List Int) × (List Int) => [some (.sh (enc p0)), some (.ow (List.map enc s19.1)), some (.ow (List.map enc s8.2)), some (.ow (List.map enc s19.2))])) rfl (fun s19 => (jt (j2 (o_in (by decide)) (j2 o_ix (j_var rfl) (j2 o_sub (j2 o_ix (j_varO rfl) (j1 o_neg (j_c rfl))) (j_c rfl))) (j_varO rfl)))) (fun s19 => (js_app rfl (j2 o_ix (j_var rfl) (j2 o_sub (j2 o_ix (j_varO rfl) (j1 o_neg (j_c rfl))) (j_c rfl))) (fun v31 => (js_last (js_rem rfl (j2 o_ix (j_varO rfl) (j1 o_neg (j_c rfl))) (fun v39 => (js_nil rfl rfl))))))) (fun s19 => (js_last (js_frz rfl (js_app rfl (j_sh rfl) (fun v21 => (js_nil rfl rfl)))))))))))) (fun s8 => (js_last (js_frz rfl (js_ret' (j_sh rfl)))))))))) r e
def M__law_rising (p0 : (List Int)) : Option Int := (((some ([] : (List Int))).bind fun a1 => some [a1]).bind fun v2 : (List (List Int)) => ((some p0).bind fun l9 => (oFold (fun (s3 : (List (List Int))) (x8 : Int) => (((some s3).bind fun a23 => ((some s3).bind fun l14 => lim l14 (oComp (fun x10 : (List Int) => (((some x10).bind fun a16 => (some ([] : (List Int))).bind fun b17 => some (decide (a16 = b17))).bind fun a15 => if a15 = true then some true else (((some x10).bind fun a19 => ((some (1 : Int)).bind fun a18 => some (-a18)).bind fun b20 => atI a19 b20).bind fun a21 => (some x8).bind fun b22 => some (decide (a21 < b22))))) (fun x10 : (List Int) => ((some x10).bind fun a12 => ((some x8).bind fun a11 => some [a11]).bind fun b13 => oCat a12 b13)) l14)).bind fun b24 => oCat a23 b24).bind fun v25 : (List (List Int)) => (some v25))) l9 v2).bind fun s3 : (List (List Int)) => (((some s3).bind fun l6 => lim l6 (oMap (fun x4 : (List Int) => ((some x4).bind fun a5 => some ((a5.length : Nat) : Int))) l6)).bind fun a7 => oMax a7)))
theorem m__law_rising (p0 : (List Int)) (r : Int) (e : M__law_rising p0 = some r) : C__law_rising [enc p0] = .ok (enc r) := fn_ret (F := F__law_rising) (mt := M__law_rising p0) (js_set (jl1 o_lst1 (jl0 o_lst0)) (fun v2 => (js_forN (en0 := (fun s3 : (List (List Int)) => [some (.sh (enc p0)), some (.sh (enc s3)), none, none])) (enb := (fun (s3 : (List (List Int))) (x8 : Int) => [some (.sh (enc p0)), some (.sh (enc s3)), some (.sh (enc x8)), none])) (jl_ls (j_sh rfl)) rfl (fun _ _ => rfl) (fun s3 x8 => (js_last (js_set (j2 o_cat (j_var rfl) (j_comp (jl_ls (j_var rfl)) (fun _ => rfl) (fun x10 => (jt_or (jt (j2 (o_eq (by decide)) (j_var rfl) (jl0 o_lst0))) (jt (j2 o_lt (j2 o_ix (j_var rfl) (j1 o_neg (j_c rfl))) (j_var rfl))))) (fun x10 => (j2 o_cat (j_var rfl) (jl1 o_lst1 (j_sh rfl)))))) (fun v25 => (js_nil rfl rfl))))) (fun s3 => (js_last (js_ret' (jl1 o_max (j_compA (jl_ls (j_var rfl)) (fun _ => rfl) (fun x4 => (jl1 o_len (j_var rfl))))))))))) r e
def M_distance_sum (p0 : (List Int)) (p1 : (List Int)) : Option Int := (((some p0).bind fun a1 => (some p1).bind fun a2 => M_check_both a1 a2).bind fun _ => ((((some p0).bind fun a3 => (some p1).bind fun a4 => M_against a3 a4).bind fun l13 => lim l13 (oMap (fun x5 : (Int × Int) => ((((some p0).bind fun a6 => (some x5.1).bind fun b7 => atI a6 b7).bind fun a10 => ((some p0).bind fun a8 => (some x5.2).bind fun b9 => atI a8 b9).bind fun b11 => some (a10 - b11)).bind fun a12 => some (if a12 < 0 then -a12 else a12))) l13)).bind fun a14 => some (List.sum a14)))
theorem m_distance_sum (p0 : (List Int)) (p1 : (List Int)) (r : Int) (e : M_distance_sum p0 p1 = some r) : C_distance_sum [enc p0, enc p1] = .ok (enc r) := fn_ret (F := F_distance_sum) (mt := M_distance_sum p0 p1) (js_exp (jl2 (g2 m_check_both) (j_sh rfl) (j_sh rfl)) (js_last (js_ret' (jl1 o_sum (j_compA (jl_ls (jl2 (g2 m_against) (j_sh rfl) (j_sh rfl))) (fun _ => rfl) (fun x5 => (jl1 o_abs (j2 o_sub (j2 o_ix (j_var rfl) (j_var rfl)) (j2 o_ix (j_var rfl) (j_var rfl)))))))))) r e
def X_distance_sum (p0 : (List Int)) (p1 : (List Int)) : Option Nat := ((some p0).bind fun a15 => (some p1).bind fun a16 => X_check_both a15 a16)
theorem x_distance_sum (p0 : (List Int)) (p1 : (List Int)) (k : Nat) (e : X_distance_sum p0 p1 = some k) : C_distance_sum [enc p0, enc p1] = .er k := fn_x (F := F_distance_sum) (mx := X_distance_sum p0 p1) (jx_expE (je2 x_check_both (j_sh rfl) (j_sh rfl))) k e
def M_plain_bounds (p0 : (List Int)) (p1 : (List Int)) : Option (Int × Int) := (((some p0).bind fun a1 => (some p1).bind fun a2 => M_check_both a1 a2).bind fun _ => ((((some p0).bind fun a3 => (some p1).bind fun a4 => M_against a3 a4).bind fun a5 => some ((a5.length : Nat) : Int)).bind fun v6 : Int => (((some v6).bind fun a9 => ((some p0).bind fun a7 => (some p1).bind fun a8 => M_exchanges a7 a8).bind fun b10 => some (a9 + b10)).bind fun a13 => ((some (2 : Int)).bind fun a11 => (some v6).bind fun b12 => oMul a11 b12).bind fun a14 => some (a13, a14))))
theorem m_plain_bounds (p0 : (List Int)) (p1 : (List Int)) (r : (Int × Int)) (e : M_plain_bounds p0 p1 = some r) : C_plain_bounds [enc p0, enc p1] = .ok (enc r) := fn_ret (F := F_plain_bounds) (mt := M_plain_bounds p0 p1) (js_exp (jl2 (g2 m_check_both) (j_sh rfl) (j_sh rfl)) (js_set (jl1 o_len (jl2 (g2 m_against) (j_sh rfl) (j_sh rfl))) (fun v6 => (js_last (js_ret' (jl2 o_pair (j2 o_add (j_var rfl) (jl2 (g2 m_exchanges) (j_sh rfl) (j_sh rfl))) (j2 o_mul (j_c rfl) (j_var rfl)))))))) r e
def X_plain_bounds (p0 : (List Int)) (p1 : (List Int)) : Option Nat := ((some p0).bind fun a15 => (some p1).bind fun a16 => X_check_both a15 a16)
theorem x_plain_bounds (p0 : (List Int)) (p1 : (List Int)) (k : Nat) (e : X_plain_bounds p0 p1 = some k) : C_plain_bounds [enc p0, enc p1] = .er k := fn_x (F := F_plain_bounds) (mx := X_plain_bounds p0 p1) (jx_expE (je2 x_check_both (j_sh rfl) (j_sh rfl))) k e
def M_check_many (p0 : Int) : Option Unit := ((((some p0).bind fun a2 => (some (0 : Int)).bind fun a3 => (some (50 : Int)).bind fun a4 => M_is_int a2 a3 a4).bind fun a1 => some (!a1)).bind fun b5 => if b5 = true then none else (some ()))
theorem m_check_many (p0 : Int) (r : Unit) (e : M_check_many p0 = some r) : C_check_many [enc p0] = .ok (enc r) := fn_nil (F := F_check_many) (mt := M_check_many p0) (js_last (js_if (jt_not (jt (jl3 (g3 m_is_int) (j_sh rfl) (j_c rfl) (j_c rfl)))) js_ex (js_nilS (js_nil rfl trivial)))) r e
def X_check_many (p0 : Int) : Option Nat := ((((some p0).bind fun a7 => (some (0 : Int)).bind fun a8 => (some (50 : Int)).bind fun a9 => M_is_int a7 a8 a9).bind fun a6 => some (!a6)).bind fun b10 => if b10 = true then (some 2) else none)
theorem x_check_many (p0 : Int) (k : Nat) (e : X_check_many p0 = some k) : C_check_many [enc p0] = .er k := fn_x (F := F_check_many) (mx := X_check_many p0) (jx_last (jx_if (jt_not (jt (jl3 (g3 m_is_int) (j_sh rfl) (j_c rfl) (j_c rfl)))) jx_ex jx_no)) k e
def M_squares_of (p0 : (List Int)) : Option Int := ((((some p0).bind fun a1 => some (enumL 0 a1)).bind fun l13 => lim l13 (oMap (fun x2 : (Int × Int) => ((((some x2.2).bind fun a3 => (some x2.1).bind fun b4 => some (a3 - b4)).bind fun a5 => (some (1 : Int)).bind fun b6 => some (a5 - b6)).bind fun a11 => (((some x2.2).bind fun a7 => (some x2.1).bind fun b8 => some (a7 - b8)).bind fun a9 => (some (1 : Int)).bind fun b10 => some (a9 - b10)).bind fun b12 => oMul a11 b12)) l13)).bind fun a14 => some (List.sum a14))
theorem m_squares_of (p0 : (List Int)) (r : Int) (e : M_squares_of p0 = some r) : C_squares_of [enc p0] = .ok (enc r) := fn_ret (F := F_squares_of) (mt := M_squares_of p0) (js_last (js_ret' (jl1 o_sum (j_compA (ji1 o_enum (j_var rfl)) (fun _ => rfl) (fun x2 => (j2 o_mul (j2 o_sub (j2 o_sub (j_var rfl) (j_var rfl)) (j_c rfl)) (j2 o_sub (j2 o_sub (j_var rfl) (j_var rfl)) (j_c rfl)))))))) r e
def M_inversions (p0 : (List Int)) : Option Int := ((some (0 : Int)).bind fun v1 : Int => (((some p0).bind fun a3 => some (enumL 0 a3)).bind fun l5 => (oFold (fun (s2 : Int) (x4 : (Int × Int)) => (((((some p0).bind fun a10 => (((some x4.1).bind fun a7 => (some (1 : Int)).bind fun b8 => some (a7 + b8)).bind fun k9 => some (some k9)).bind fun b11 => (some none).bind fun c12 => some (cutD a10 b11 c12)).bind fun l14 => lim l14 (oComp (fun x13 : Int => ((some x13).bind fun a15 => (some x4.2).bind fun b16 => some (decide (a15 < b16)))) (fun x13 : Int => (some x13)) l14)).bind fun a17 => some ((a17.length : Nat) : Int)).bind fun b18 => (some (s2 + b18)).bind fun v6 => (some v6))) l5 v1).bind fun s2 : Int => (some s2)))
theorem m_inversions (p0 : (List Int)) (r : Int) (e : M_inversions p0 = some r) : C_inversions [enc p0] = .ok (enc r) := fn_ret (F := F_inversions) (mt := M_inversions p0) (js_set (j_c rfl) (fun v1 => (js_forN (en0 := (fun s2 : Int => [some (.sh (enc p0)), some (.sh (enc s2)), none, none, none])) (enb := (fun (s2 : Int) (x4 : (Int × Int)) => [some (.sh (enc p0)), some (.sh (enc s2)), some (.sh (enc x4.1)), some (.sh (enc x4.2)), none])) (ji1 o_enum (j_sh rfl)) rfl (fun _ _ => rfl) (fun s2 x4 => (js_last (js_aug o_addI rfl (jl1 o_len (j_comp (jl_ls (j_sl (j_var rfl) (jq_part (j2 o_add (j_var rfl) (j_c rfl))) jq_no)) (fun _ => rfl) (fun x13 => (jt (j2 o_lt (j_var rfl) (j_var rfl)))) (fun x13 => (j_sh rfl)))) (fun v6 => (js_nil rfl rfl))))) (fun s2 => (js_last (js_ret' (j_sh rfl))))))) r e
def M_least_squares (p0 : Int) (p1 : Int) : Option (Option Int) := (((some p0).bind fun a1 => M_check_size a1).bind fun _ => (((some p1).bind fun a2 => M_check_many a2).bind fun _ => ((((some p0).bind fun a3 => M_all_rankings a3).bind fun l6 => lim l6 (oComp (fun x4 : (List Int) => (((some x4).bind fun a7 => M_inversions a7).bind fun a8 => (some p1).bind fun b9 => some (decide (a8 = b9)))) (fun x4 : (List Int) => ((some x4).bind fun a5 => M_squares_of a5)) l6)).bind fun v10 : (List Int) => (((some v10).bind fun a11 => (some ([] : (List Int))).bind fun b12 => some (!decide (a11 = b12))).bind fun a14 => if a14 = true then (((some v10).bind fun a13 => oMin a13).bind fun x15 => some (some x15)) else some none))))
theorem m_least_squares (p0 : Int) (p1 : Int) (r : (Option Int)) (e : M_least_squares p0 p1 = some r) : C_least_squares [enc p0, enc p1] = .ok (enc r) := fn_ret (F := F_least_squares) (mt := M_least_squares p0 p1) (js_exp (jl1 (g1 m_check_size) (j_sh rfl)) (js_exp (jl1 (g1 m_check_many) (j_sh rfl)) (js_set (j_comp (jl_ls (jl1 (g1 m_all_rankings) (j_sh rfl))) (fun _ => rfl) (fun x4 => (jt (j2 (o_eq (by decide)) (jl1 (g1 m_inversions) (j_sh rfl)) (j_var rfl)))) (fun x4 => (jl1 (g1 m_squares_of) (j_sh rfl)))) (fun v10 => (js_last (js_ret' (j_if (jt (j2 (o_ne (by decide)) (j_var rfl) (jl0 o_lst0))) (j_some (jl1 o_min (j_var rfl))) j_noneO))))))) r e
def X_least_squares (p0 : Int) (p1 : Int) : Option Nat := ((((some p0).bind fun a16 => X_check_size a16)).or (((some p0).bind fun a17 => M_check_size a17).bind fun _ => ((some p1).bind fun a18 => X_check_many a18)))
theorem x_least_squares (p0 : Int) (p1 : Int) (k : Nat) (e : X_least_squares p0 p1 = some k) : C_least_squares [enc p0, enc p1] = .er k := fn_x (F := F_least_squares) (mx := X_least_squares p0 p1) (jx_or (jx_expE (je1 x_check_size (j_sh rfl))) (jx_exp (jl1 (g1 m_check_size) (j_sh rfl)) (jx_expE (je1 x_check_many (j_sh rfl))))) k e
def M_greatest_squares (p0 : Int) (p1 : Int) : Option (Option Int) := (((some p0).bind fun a1 => M_check_size a1).bind fun _ => (((some p1).bind fun a2 => M_check_many a2).bind fun _ => ((((some p0).bind fun a3 => M_all_rankings a3).bind fun l6 => lim l6 (oComp (fun x4 : (List Int) => (((some x4).bind fun a7 => M_inversions a7).bind fun a8 => (some p1).bind fun b9 => some (decide (a8 = b9)))) (fun x4 : (List Int) => ((some x4).bind fun a5 => M_squares_of a5)) l6)).bind fun v10 : (List Int) => (((some v10).bind fun a11 => (some ([] : (List Int))).bind fun b12 => some (!decide (a11 = b12))).bind fun a14 => if a14 = true then (((some v10).bind fun a13 => oMax a13).bind fun x15 => some (some x15)) else some none))))
theorem m_greatest_squares (p0 : Int) (p1 : Int) (r : (Option Int)) (e : M_greatest_squares p0 p1 = some r) : C_greatest_squares [enc p0, enc p1] = .ok (enc r) := fn_ret (F := F_greatest_squares) (mt := M_greatest_squares p0 p1) (js_exp (jl1 (g1 m_check_size) (j_sh rfl)) (js_exp (jl1 (g1 m_check_many) (j_sh rfl)) (js_set (j_comp (jl_ls (jl1 (g1 m_all_rankings) (j_sh rfl))) (fun _ => rfl) (fun x4 => (jt (j2 (o_eq (by decide)) (jl1 (g1 m_inversions) (j_sh rfl)) (j_var rfl)))) (fun x4 => (jl1 (g1 m_squares_of) (j_sh rfl)))) (fun v10 => (js_last (js_ret' (j_if (jt (j2 (o_ne (by decide)) (j_var rfl) (jl0 o_lst0))) (j_some (jl1 o_max (j_var rfl))) j_noneO))))))) r e
def X_greatest_squares (p0 : Int) (p1 : Int) : Option Nat := ((((some p0).bind fun a16 => X_check_size a16)).or (((some p0).bind fun a17 => M_check_size a17).bind fun _ => ((some p1).bind fun a18 => X_check_many a18)))
theorem x_greatest_squares (p0 : Int) (p1 : Int) (k : Nat) (e : X_greatest_squares p0 p1 = some k) : C_greatest_squares [enc p0, enc p1] = .er k := fn_x (F := F_greatest_squares) (mx := X_greatest_squares p0 p1) (jx_or (jx_expE (je1 x_check_size (j_sh rfl))) (jx_exp (jl1 (g1 m_check_size) (j_sh rfl)) (jx_expE (je1 x_check_many (j_sh rfl))))) k e
def M__law_squares (p0 : (List Int)) (p1 : (List Int)) : Option Int := ((((some p0).bind fun a1 => (some p1).bind fun a2 => some (List.zip a1 a2)).bind fun l10 => lim l10 (oMap (fun x3 : (Int × Int) => (((some x3.1).bind fun a4 => (some x3.2).bind fun b5 => some (a4 - b5)).bind fun a8 => ((some x3.1).bind fun a6 => (some x3.2).bind fun b7 => some (a6 - b7)).bind fun b9 => oMul a8 b9)) l10)).bind fun a11 => some (List.sum a11))
theorem m__law_squares (p0 : (List Int)) (p1 : (List Int)) (r : Int) (e : M__law_squares p0 p1 = some r) : C__law_squares [enc p0, enc p1] = .ok (enc r) := fn_ret (F := F__law_squares) (mt := M__law_squares p0 p1) (js_last (js_ret' (jl1 o_sum (j_compA (ji2 o_zip (j_var rfl) (j_var rfl)) (fun _ => rfl) (fun x3 => (j2 o_mul (j2 o_sub (j_var rfl) (j_var rfl)) (j2 o_sub (j_var rfl) (j_var rfl)))))))) r e
def M_neighbour_way (p0 : (List Int)) (p1 : (List Int)) : Option (List Int) := (((some p0).bind fun a1 => (some p1).bind fun a2 => M_check_both a1 a2).bind fun _ => (((some p0).bind fun a3 => (some p1).bind fun a4 => M_seen a3 a4).bind fun v5 : (List Int) => ((some ([] : (List Int))).bind fun v6 : (List Int) => ((((some v5).bind fun a9 => some ((a9.length : Nat) : Int)).bind fun a10 => oR1 a10).bind fun l12 => (oFold (fun (s7 : (List Int) × (List Int)) (x11 : Int) => (((((some s7.1).bind fun a14 => some ((a14.length : Nat) : Int)).bind fun a15 => (some (1 : Int)).bind fun b16 => some (a15 - b16)).bind fun a17 => oR1 a17).bind fun l19 => (oFold (fun (s13 : (List Int) × (List Int)) (x18 : Int) => ((((some s13.1).bind fun a20 => (some x18).bind fun b21 => atI a20 b21).bind fun a26 => ((some s13.1).bind fun a24 => ((some x18).bind fun a22 => (some (1 : Int)).bind fun b23 => some (a22 + b23)).bind fun b25 => atI a24 b25).bind fun b27 => some (decide (b27 < a26))).bind fun b28 => if b28 = true then (oSwap s13.1 ((some s13.1).bind fun a32 => ((some x18).bind fun a30 => (some (1 : Int)).bind fun b31 => some (a30 + b31)).bind fun b33 => atI a32 b33) ((some s13.1).bind fun a34 => (some x18).bind fun b35 => atI a34 b35) (some x18) (fun v29 => ((some x18).bind fun a36 => (some (1 : Int)).bind fun b37 => some (a36 + b37))) fun v29 => (oApp s13.2 ((some x18).bind fun a39 => (some (1 : Int)).bind fun b40 => some (a39 + b40)) fun v38 => (some (v29, v38)))) else (some (s13.1, s13.2)))) l19 (s7.1, s7.2)).bind fun s13 : (List Int) × (List Int) => (some (s13.1, s13.2)))) l12 (v5, v6)).bind fun s7 : (List Int) × (List Int) => (some s7.2)))))
theorem m_neighbour_way (p0 : (List Int)) (p1 : (List Int)) (r : (List Int)) (e : M_neighbour_way p0 p1 = some r) : C_neighbour_way [enc p0, enc p1] = .ok (enc r) := fn_ret (F := F_neighbour_way) (mt := M_neighbour_way p0 p1) (js_exp (jl2 (g2 m_check_both) (j_sh rfl) (j_sh rfl)) (js_own (jl2 (g2 m_seen) (j_sh rfl) (j_sh rfl)) (fun v5 => (js_own (jl0 o_lst0) (fun v6 => (js_forN (en0 := (fun s7 : (List Int) × (List Int) => [some (.sh (enc p0)), some (.sh (enc p1)), some (.ow (List.map enc s7.1)), some (.ow (List.map enc s7.2)), none, none])) (enb := (fun (s7 : (List Int) × (List Int)) (x11 : Int) => [some (.sh (enc p0)), some (.sh (enc p1)), some (.ow (List.map enc s7.1)), some (.ow (List.map enc s7.2)), some (.sh (enc x11)), none])) (ji1 o_rng1 (jl1 o_len (j_varO rfl))) rfl (fun _ _ => rfl) (fun s7 x11 => (js_last (js_forN (en0 := (fun s13 : (List Int) × (List Int) => [some (.sh (enc p0)), some (.sh (enc p1)), some (.ow (List.map enc s13.1)), some (.ow (List.map enc s13.2)), some (.sh (enc x11)), none])) (enb := (fun (s13 : (List Int) × (List Int)) (x18 : Int) => [some (.sh (enc p0)), some (.sh (enc p1)), some (.ow (List.map enc s13.1)), some (.ow (List.map enc s13.2)), some (.sh (enc x11)), some (.sh (enc x18))])) (ji1 o_rng1 (j2 o_sub (jl1 o_len (j_varO rfl)) (j_c rfl))) rfl (fun _ _ => rfl) (fun s13 x18 => (js_last (js_if (jt (j2 o_gt (j2 o_ix (j_varO rfl) (j_var rfl)) (j2 o_ix (j_varO rfl) (j2 o_add (j_var rfl) (j_c rfl))))) (js_assoc (js_swap rfl (j2 o_ix (j_varO rfl) (j2 o_add (j_var rfl) (j_c rfl))) (j2 o_ix (j_varO rfl) (j_var rfl)) (j_var rfl) (fun v29 => (j2 o_add (j_var rfl) (j_c rfl))) (fun v29 => (js_app rfl (j2 o_add (j_var rfl) (j_c rfl)) (fun v38 => (js_nil rfl rfl)))))) (js_nilS (js_nil rfl rfl))))) (fun s13 => (js_nil rfl rfl))))) (fun s7 => (js_last (js_frz rfl (js_ret' (j_sh rfl))))))))))) r e
def X_neighbour_way (p0 : (List Int)) (p1 : (List Int)) : Option Nat := ((some p0).bind fun a41 => (some p1).bind fun a42 => X_check_both a41 a42)
theorem x_neighbour_way (p0 : (List Int)) (p1 : (List Int)) (k : Nat) (e : X_neighbour_way p0 p1 = some k) : C_neighbour_way [enc p0, enc p1] = .er k := fn_x (F := F_neighbour_way) (mx := X_neighbour_way p0 p1) (jx_expE (je2 x_check_both (j_sh rfl) (j_sh rfl))) k e
def M_after_neighbours (p0 : (List Int)) (p1 : (List Int)) : Option (List Int) := (((some p0).bind fun a1 => M_check_ranking a1).bind fun _ => (((((some p1).bind fun a4 => some (isiB "list" "list")).bind fun a3 => some (!a3)).bind fun a2 => if a2 = true then some true else ((((some p1).bind fun l13 => lim l13 (oMap (fun x6 : Int => ((some x6).bind fun a10 => (some (1 : Int)).bind fun a11 => (((some p0).bind fun a7 => some ((a7.length : Nat) : Int)).bind fun a8 => (some (1 : Int)).bind fun b9 => some (a8 - b9)).bind fun a12 => M_is_int a10 a11 a12)) l13)).bind fun a14 => some (List.all a14 id)).bind fun a5 => some (!a5))).bind fun b15 => if b15 = true then none else (((some p0).bind fun a16 => some a16).bind fun v17 : (List Int) => ((some p1).bind fun l20 => (oFold (fun (s18 : (List Int)) (x19 : Int) => (((some s18).bind fun l32 => lim l32 (oMap (fun x21 : Int => (((some x21).bind fun a22 => (some x19).bind fun b23 => some (decide (a22 = b23))).bind fun a31 => if a31 = true then ((some x19).bind fun a24 => (some (1 : Int)).bind fun b25 => some (a24 + b25)) else (((some x21).bind fun a28 => ((some x19).bind fun a26 => (some (1 : Int)).bind fun b27 => some (a26 + b27)).bind fun b29 => some (decide (a28 = b29))).bind fun a30 => if a30 = true then (some x19) else (some x21)))) l32)).bind fun v33 : (List Int) => (some v33))) l20 v17).bind fun s18 : (List Int) => (some s18)))))
theorem m_after_neighbours (p0 : (List Int)) (p1 : (List Int)) (r : (List Int)) (e : M_after_neighbours p0 p1 = some r) : C_after_neighbours [enc p0, enc p1] = .ok (enc r) := fn_ret (F := F_after_neighbours) (mt := M_after_neighbours p0 p1) (js_exp (jl1 (g1 m_check_ranking) (j_sh rfl)) (js_if (jt_or (jt_not (jt (j1 (fun a r e => o_isiL a _ r e) (j_var rfl)))) (jt_not (jt (jl1 o_all (j_compA (jl_ls (j_var rfl)) (fun _ => rfl) (fun x6 => (jl3 (g3 m_is_int) (j_sh rfl) (j_c rfl) (j2 o_sub (jl1 o_len (j_var rfl)) (j_c rfl))))))))) js_ex (js_nilS (js_set (jl1 o_list (j_var rfl)) (fun v17 => (js_forN (en0 := (fun s18 : (List Int) => [some (.sh (enc p0)), some (.sh (enc p1)), some (.sh (enc s18)), none, none])) (enb := (fun (s18 : (List Int)) (x19 : Int) => [some (.sh (enc p0)), some (.sh (enc p1)), some (.sh (enc s18)), some (.sh (enc x19)), none])) (jl_ls (j_sh rfl)) rfl (fun _ _ => rfl) (fun s18 x19 => (js_last (js_set (j_compA (jl_ls (j_var rfl)) (fun _ => rfl) (fun x21 => (j_if (jt (j2 (o_eq (by decide)) (j_var rfl) (j_var rfl))) (j2 o_add (j_var rfl) (j_c rfl)) (j_if (jt (j2 (o_eq (by decide)) (j_var rfl) (j2 o_add (j_var rfl) (j_c rfl)))) (j_sh rfl) (j_sh rfl))))) (fun v33 => (js_nil rfl rfl))))) (fun s18 => (js_last (js_ret' (j_sh rfl)))))))))) r e
def X_after_neighbours (p0 : (List Int)) (p1 : (List Int)) : Option Nat := ((((some p0).bind fun a34 => X_check_ranking a34)).or (((some p0).bind fun a35 => M_check_ranking a35).bind fun _ => (((((some p1).bind fun a40 => some (isiB "list" "list")).bind fun a39 => some (!a39)).bind fun a38 => if a38 = true then some true else ((((some p1).bind fun l49 => lim l49 (oMap (fun x42 : Int => ((some x42).bind fun a46 => (some (1 : Int)).bind fun a47 => (((some p0).bind fun a43 => some ((a43.length : Nat) : Int)).bind fun a44 => (some (1 : Int)).bind fun b45 => some (a44 - b45)).bind fun a48 => M_is_int a46 a47 a48)) l49)).bind fun a50 => some (List.all a50 id)).bind fun a41 => some (!a41))).bind fun b51 => if b51 = true then (some 2) else none)))
theorem x_after_neighbours (p0 : (List Int)) (p1 : (List Int)) (k : Nat) (e : X_after_neighbours p0 p1 = some k) : C_after_neighbours [enc p0, enc p1] = .er k := fn_x (F := F_after_neighbours) (mx := X_after_neighbours p0 p1) (jx_or (jx_expE (je1 x_check_ranking (j_sh rfl))) (jx_exp (jl1 (g1 m_check_ranking) (j_sh rfl)) (jx_if (jt_or (jt_not (jt (j1 (fun a r e => o_isiL a _ r e) (j_var rfl)))) (jt_not (jt (jl1 o_all (j_compA (jl_ls (j_var rfl)) (fun _ => rfl) (fun x42 => (jl3 (g3 m_is_int) (j_sh rfl) (j_c rfl) (j2 o_sub (jl1 o_len (j_var rfl)) (j_c rfl))))))))) jx_ex jx_no))) k e
def M_exchange_way (p0 : (List Int)) (p1 : (List Int)) : Option (List (Int × Int)) := (((some p0).bind fun a1 => (some p1).bind fun a2 => M_check_both a1 a2).bind fun _ => (((some p0).bind fun a3 => some a3).bind fun v4 : (List Int) => ((some ([] : (List (Int × Int)))).bind fun v5 : (List (Int × Int)) => ((((some v4).bind fun a8 => some ((a8.length : Nat) : Int)).bind fun a9 => oR1 a9).bind fun l11 => (oFold (fun (s6 : (List Int) × (List (Int × Int))) (x10 : Int) => ((((some s6.1).bind fun a12 => (some x10).bind fun b13 => atI a12 b13).bind fun a16 => ((some p1).bind fun a14 => (some x10).bind fun b15 => atI a14 b15).bind fun b17 => some (!decide (a16 = b17))).bind fun b18 => if b18 = true then (((some s6.1).bind fun a21 => ((some p1).bind fun a19 => (some x10).bind fun b20 => atI a19 b20).bind fun b22 => oIdx a21 b22).bind fun v23 : Int => (oSwap s6.1 ((some s6.1).bind fun a25 => (some v23).bind fun b26 => atI a25 b26) ((some s6.1).bind fun a27 => (some x10).bind fun b28 => atI a27 b28) (some x10) (fun v24 => (some v23)) fun v24 => (oApp s6.2 ((some x10).bind fun a30 => (some v23).bind fun a31 => some (a30, a31)) fun v29 => (some (v24, v29))))) else (some (s6.1, s6.2)))) l11 (v4, v5)).bind fun s6 : (List Int) × (List (Int × Int)) => (some s6.2)))))
theorem m_exchange_way (p0 : (List Int)) (p1 : (List Int)) (r : (List (Int × Int))) (e : M_exchange_way p0 p1 = some r) : C_exchange_way [enc p0, enc p1] = .ok (enc r) := fn_ret (F := F_exchange_way) (mt := M_exchange_way p0 p1) (js_exp (jl2 (g2 m_check_both) (j_sh rfl) (j_sh rfl)) (js_own (jl1 o_list (j_var rfl)) (fun v4 => (js_own (jl0 o_lst0) (fun v5 => (js_forN (en0 := (fun s6 : (List Int) × (List (Int × Int)) => [some (.sh (enc p0)), some (.sh (enc p1)), some (.ow (List.map enc s6.1)), some (.ow (List.map enc s6.2)), none, none])) (enb := (fun (s6 : (List Int) × (List (Int × Int))) (x10 : Int) => [some (.sh (enc p0)), some (.sh (enc p1)), some (.ow (List.map enc s6.1)), some (.ow (List.map enc s6.2)), some (.sh (enc x10)), none])) (ji1 o_rng1 (jl1 o_len (j_varO rfl))) rfl (fun _ _ => rfl) (fun s6 x10 => (js_last (js_if (jt (j2 (o_ne (by decide)) (j2 o_ix (j_varO rfl) (j_var rfl)) (j2 o_ix (j_var rfl) (j_var rfl)))) (js_assoc (js_set (jm1 (o_index (by decide)) (j_varO rfl) (j2 o_ix (j_var rfl) (j_var rfl))) (fun v23 => (js_assoc (js_swap rfl (j2 o_ix (j_varO rfl) (j_var rfl)) (j2 o_ix (j_varO rfl) (j_var rfl)) (j_var rfl) (fun v24 => (j_var rfl)) (fun v24 => (js_app rfl (jl2 o_pair (j_sh rfl) (j_sh rfl)) (fun v29 => (js_nil rfl rfl))))))))) (js_nilS (js_nil rfl rfl))))) (fun s6 => (js_last (js_frz rfl (js_ret' (j_sh rfl))))))))))) r e
def X_exchange_way (p0 : (List Int)) (p1 : (List Int)) : Option Nat := ((some p0).bind fun a32 => (some p1).bind fun a33 => X_check_both a32 a33)
theorem x_exchange_way (p0 : (List Int)) (p1 : (List Int)) (k : Nat) (e : X_exchange_way p0 p1 = some k) : C_exchange_way [enc p0, enc p1] = .er k := fn_x (F := F_exchange_way) (mx := X_exchange_way p0 p1) (jx_expE (je2 x_check_both (j_sh rfl) (j_sh rfl))) k e
def M_after_exchanges (p0 : (List Int)) (p1 : (List (Int × Int))) : Option (List Int) := (((some p0).bind fun a1 => M_check_ranking a1).bind fun _ => ((((some p1).bind fun a3 => some (isiB "list" "list")).bind fun a2 => some (!a2)).bind fun b4 => if b4 = true then none else (((some p0).bind fun a5 => some a5).bind fun v6 : (List Int) => ((some p1).bind fun l10 => (oFold (fun (s7 : (List Int)) (x9 : (Int × Int)) => (((((some x9).bind fun a13 => some (isiB "tuple" "tuple")).bind fun a12 => some (!a12)).bind fun a11 => if a11 = true then some true else ((((some x9).bind fun a15 => some (2 : Int)).bind fun a16 => (some (2 : Int)).bind fun b17 => some (!decide (a16 = b17))).bind fun a14 => if a14 = true then some true else (((((some x9).bind fun t19 => some [t19.1, t19.2]).bind fun l27 => lim l27 (oMap (fun x20 : Int => ((some x20).bind fun a24 => (some (0 : Int)).bind fun a25 => (((some p0).bind fun a21 => some ((a21.length : Nat) : Int)).bind fun a22 => (some (1 : Int)).bind fun b23 => some (a22 - b23)).bind fun a26 => M_is_int a24 a25 a26)) l27)).bind fun a28 => some (List.all a28 id)).bind fun a18 => some (!a18)))).bind fun b29 => if b29 = true then none else ((some x9).bind fun p32 => (fun (a30 : Int) (b31 : Int) => (oSwap s7 ((some s7).bind fun a34 => (some b31).bind fun b35 => atI a34 b35) ((some s7).bind fun a36 => (some a30).bind fun b37 => atI a36 b37) (some a30) (fun v33 => (some b31)) fun v33 => (some v33))) p32.1 p32.2))) l10 v6).bind fun s7 : (List Int) => (some s7)))))
theorem m_after_exchanges (p0 : (List Int)) (p1 : (List (Int × Int))) (r : (List Int)) (e : M_after_exchanges p0 p1 = some r) : C_after_exchanges [enc p0, enc p1] = .ok (enc r) := fn_ret (F := F_after_exchanges) (mt := M_after_exchanges p0 p1) (js_exp (jl1 (g1 m_check_ranking) (j_sh rfl)) (js_if (jt_not (jt (j1 (fun a r e => o_isiL a _ r e) (j_var rfl)))) js_ex (js_nilS (js_own (jl1 o_list (j_var rfl)) (fun v6 => (js_forN (en0 := (fun s7 : (List Int) => [some (.sh (enc p0)), some (.sh (enc p1)), some (.ow (List.map enc s7)), none, none, none, none])) (enb := (fun (s7 : (List Int)) (x9 : (Int × Int)) => [some (.sh (enc p0)), some (.sh (enc p1)), some (.ow (List.map enc s7)), some (.sh (enc x9)), none, none, none])) (jl_ls (j_sh rfl)) rfl (fun _ _ => rfl) (fun s7 x9 => (js_if (jt_or (jt_not (jt (j1 (fun a r e => o_isiP a _ r e) (j_var rfl)))) (jt_or (jt (j2 (o_ne (by decide)) (jl1 o_lenP (j_var rfl)) (j_c rfl))) (jt_not (jt (jl1 o_all (j_compA (jl_pr (j_sh rfl)) (fun _ => rfl) (fun x20 => (jl3 (g3 m_is_int) (j_sh rfl) (j_c rfl) (j2 o_sub (jl1 o_len (j_var rfl)) (j_c rfl)))))))))) js_ex (js_nilS (js_asg (k := fun a30 b31 => (oSwap s7 ((some s7).bind fun a34 => (some b31).bind fun b35 => atI a34 b35) ((some s7).bind fun a36 => (some a30).bind fun b37 => atI a36 b37) (some a30) (fun v33 => (some b31)) fun v33 => (some v33))) (j_sh rfl) (fun a30 b31 => (js_last (js_swap rfl (j2 o_ix (j_varO rfl) (j_var rfl)) (j2 o_ix (j_varO rfl) (j_var rfl)) (j_var rfl) (fun v33 => (j_var rfl)) (fun v33 => (js_nil rfl rfl))))))))) (fun s7 => (js_last (js_frz rfl (js_ret' (j_sh rfl))))))))))) r e
def X_after_exchanges (p0 : (List Int)) (p1 : (List (Int × Int))) : Option Nat := ((((some p0).bind fun a38 => X_check_ranking a38)).or (((some p0).bind fun a39 => M_check_ranking a39).bind fun _ => ((((some p1).bind fun a41 => some (isiB "list" "list")).bind fun a40 => some (!a40)).bind fun b42 => if b42 = true then (some 2) else none)))
theorem x_after_exchanges (p0 : (List Int)) (p1 : (List (Int × Int))) (k : Nat) (e : X_after_exchanges p0 p1 = some k) : C_after_exchanges [enc p0, enc p1] = .er k := fn_x (F := F_after_exchanges) (mx := X_after_exchanges p0 p1) (jx_or (jx_expE (je1 x_check_ranking (j_sh rfl))) (jx_exp (jl1 (g1 m_check_ranking) (j_sh rfl)) (jx_if (jt_not (jt (j1 (fun a r e => o_isiL a _ r e) (j_var rfl)))) jx_ex jx_no))) k e
def M_staying (p0 : (List Int)) (p1 : (List Int)) : Option (List Int) := (((some p0).bind fun a1 => (some p1).bind fun a2 => M_check_both a1 a2).bind fun _ => (((some p0).bind fun a3 => (some p1).bind fun a4 => M_seen a3 a4).bind fun v5 : (List Int) => (((some ([] : (List Int))).bind fun a6 => some [a6]).bind fun v7 : (List (List Int)) => ((((some v5).bind fun a20 => some ((a20.length : Nat) : Int)).bind fun a21 => oR1 a21).bind fun l23 => (oFold (fun (s8 : (List (List Int))) (x22 : Int) => (oExt s8 ((some s8).bind fun l31 => lim l31 (oComp (fun x25 : (List Int) => (((some x25).bind fun a33 => (some ([] : (List Int))).bind fun b34 => some (decide (a33 = b34))).bind fun a32 => if a32 = true then some true else (((some v5).bind fun a40 => (((some x25).bind fun a36 => ((some (1 : Int)).bind fun a35 => some (-a35)).bind fun b37 => atI a36 b37).bind fun a38 => (some (1 : Int)).bind fun b39 => some (a38 - b39)).bind fun b41 => atI a40 b41).bind fun a44 => ((some v5).bind fun a42 => (some x22).bind fun b43 => atI a42 b43).bind fun b45 => some (decide (a44 < b45))))) (fun x25 : (List Int) => ((some x25).bind fun a29 => (((some x22).bind fun a26 => (some (1 : Int)).bind fun b27 => some (a26 + b27)).bind fun a28 => some [a28]).bind fun b30 => oCat a29 b30)) l31)) fun v24 => (some v24))) l23 v7).bind fun s8 : (List (List Int)) => ((((some s8).bind fun l11 => lim l11 (oMap (fun x9 : (List Int) => ((some x9).bind fun a10 => some ((a10.length : Nat) : Int))) l11)).bind fun a12 => oMax a12).bind fun v13 : Int => (((some s8).bind fun l15 => lim l15 (oComp (fun x14 : (List Int) => (((some x14).bind fun a16 => some ((a16.length : Nat) : Int)).bind fun a17 => (some v13).bind fun b18 => some (decide (a17 = b18)))) (fun x14 : (List Int) => (some x14)) l15)).bind fun a19 => oMinR a19))))))
theorem m_staying (p0 : (List Int)) (p1 : (List Int)) (r : (List Int)) (e : M_staying p0 p1 = some r) : C_staying [enc p0, enc p1] = .ok (enc r) := fn_ret (F := F_staying) (mt := M_staying p0 p1) (js_exp (jl2 (g2 m_check_both) (j_sh rfl) (j_sh rfl)) (js_set (jl2 (g2 m_seen) (j_sh rfl) (j_sh rfl)) (fun v5 => (js_own (jl1 o_lst1 (jl0 o_lst0)) (fun v7 => (js_forN (en0 := (fun s8 : (List (List Int)) => [some (.sh (enc p0)), some (.sh (enc p1)), some (.sh (enc v5)), some (.ow (List.map enc s8)), none, none, none])) (enb := (fun (s8 : (List (List Int))) (x22 : Int) => [some (.sh (enc p0)), some (.sh (enc p1)), some (.sh (enc v5)), some (.ow (List.map enc s8)), some (.sh (enc x22)), none, none])) (ji1 o_rng1 (jl1 o_len (j_var rfl))) rfl (fun _ _ => rfl) (fun s8 x22 => (js_last (js_ext rfl (j_comp (jl_ls (j_varO rfl)) (fun _ => rfl) (fun x25 => (jt_or (jt (j2 (o_eq (by decide)) (j_var rfl) (jl0 o_lst0))) (jt (j2 o_lt (j2 o_ix (j_var rfl) (j2 o_sub (j2 o_ix (j_var rfl) (j1 o_neg (j_c rfl))) (j_c rfl))) (j2 o_ix (j_var rfl) (j_var rfl)))))) (fun x25 => (j2 o_cat (j_var rfl) (jl1 o_lst1 (j2 o_add (j_var rfl) (j_c rfl)))))) (fun v24 => (js_nil rfl rfl))))) (fun s8 => (js_set (jl1 o_max (j_compA (jl_ls (j_varO rfl)) (fun _ => rfl) (fun x9 => (jl1 o_len (j_var rfl))))) (fun v13 => (js_last (js_ret' (jl1 o_minR (j_comp (jl_ls (j_varO rfl)) (fun _ => rfl) (fun x14 => (jt (j2 (o_eq (by decide)) (jl1 o_len (j_var rfl)) (j_var rfl)))) (fun x14 => (j_sh rfl))))))))))))))) r e
def X_staying (p0 : (List Int)) (p1 : (List Int)) : Option Nat := ((some p0).bind fun a46 => (some p1).bind fun a47 => X_check_both a46 a47)
theorem x_staying (p0 : (List Int)) (p1 : (List Int)) (k : Nat) (e : X_staying p0 p1 = some k) : C_staying [enc p0, enc p1] = .er k := fn_x (F := F_staying) (mx := X_staying p0 p1) (jx_expE (je2 x_check_both (j_sh rfl) (j_sh rfl))) k e
def M_lies_between (p0 : (List Int)) (p1 : (List Int)) (p2 : (List Int)) : Option Bool := ((((some p0).bind fun a2 => some ((a2.length : Nat) : Int)).bind fun a3 => oR1 a3).bind fun l5 => (oFor (fun (s1 : Unit) (x4 : Int) => ((((some x4).bind fun a7 => (some (1 : Int)).bind fun b8 => some (a7 + b8)).bind fun a10 => ((some p0).bind fun a9 => some ((a9.length : Nat) : Int)).bind fun a11 => oR2 a10 a11).bind fun l13 => (oFor (fun (s6 : Unit) (x12 : Int) => ((((some p0).bind fun a14 => (some x4).bind fun b15 => atI a14 b15).bind fun a18 => ((some p0).bind fun a16 => (some x12).bind fun b17 => atI a16 b17).bind fun b19 => some (decide (a18 < b19))).bind fun a26 => (((some p2).bind fun a20 => (some x4).bind fun b21 => atI a20 b21).bind fun a24 => ((some p2).bind fun a22 => (some x12).bind fun b23 => atI a22 b23).bind fun b25 => some (decide (a24 < b25))).bind fun b27 => ((((some a26).bind fun a29 => (some b27).bind fun b30 => some (decide (a29 = b30))).bind fun a28 => if a28 = true then ((some a26).bind fun a37 => (((some p1).bind fun a31 => (some x4).bind fun b32 => atI a31 b32).bind fun a35 => ((some p1).bind fun a33 => (some x12).bind fun b34 => atI a33 b34).bind fun b36 => some (decide (a35 < b36))).bind fun b38 => some (!decide (a37 = b38))) else some false).bind fun b39 => if b39 = true then ((some false).bind fun r40 => some (TO.rt r40)) else (some (TO.nx ()))))) l13 ()).bind (oGo (fun s6 : Unit => (some (TO.nx ()))) (fun r41 => TO.rt r41)))) l5 ()).bind (oGo (fun s1 : Unit => (some true)) (fun r42 => r42)))
theorem m_lies_between (p0 : (List Int)) (p1 : (List Int)) (p2 : (List Int)) (r : Bool) (e : M_lies_between p0 p1 p2 = some r) : C_lies_between [enc p0, enc p1, enc p2] = .ok (enc r) := fn_ret (F := F_lies_between) (mt := M_lies_between p0 p1 p2) (js_for (en0 := (fun s1 : Unit => [some (.sh (enc p0)), some (.sh (enc p1)), some (.sh (enc p2)), none, none, none, none])) (enb := (fun (s1 : Unit) (x4 : Int) => [some (.sh (enc p0)), some (.sh (enc p1)), some (.sh (enc p2)), some (.sh (enc x4)), none, none, none])) (w := (fun r42 => r42)) (fun _ => rfl) (ji1 o_rng1 (jl1 o_len (j_var rfl))) rfl (fun _ _ => rfl) (fun s1 x4 => (js_last (js_for (en0 := (fun s6 : Unit => [some (.sh (enc p0)), some (.sh (enc p1)), some (.sh (enc p2)), some (.sh (enc x4)), none, none, none])) (enb := (fun (s6 : Unit) (x12 : Int) => [some (.sh (enc p0)), some (.sh (enc p1)), some (.sh (enc p2)), some (.sh (enc x4)), some (.sh (enc x12)), none, none])) (w := (fun r41 => TO.rt r41)) (fun _ => rfl) (ji2 o_rng2 (j2 o_add (j_var rfl) (j_c rfl)) (jl1 o_len (j_var rfl))) rfl (fun _ _ => rfl) (fun s6 x12 => (js_par2 (j2 o_lt (j2 o_ix (j_var rfl) (j_var rfl)) (j2 o_ix (j_var rfl) (j_var rfl))) (j2 o_lt (j2 o_ix (j_var rfl) (j_var rfl)) (j2 o_ix (j_var rfl) (j_var rfl))) (fun a26 b27 => (js_last (js_if (jt_an (jt (j2 (o_eq (by decide)) (j_var rfl) (j_var rfl))) (jt (j2 (o_ne (by decide)) (j_var rfl) (j2 o_lt (j2 o_ix (j_var rfl) (j_var rfl)) (j2 o_ix (j_var rfl) (j_var rfl)))))) (js_ret (fun _ => rfl) (j_c rfl)) (js_nilS (js_nil rfl rfl))))))) (fun s6 => (js_nil rfl rfl))))) (fun s1 => (js_last (js_ret' (j_c rfl))))) r e
def M_is_between (p0 : (List Int)) (p1 : (List Int)) (p2 : (List Int)) : Option Bool := (((some p0).bind fun a1 => M_check_ranking a1).bind fun _ => (((some p0).bind fun a2 => (some p1).bind fun a3 => M_check_both a2 a3).bind fun _ => (((some p0).bind fun a4 => (some p2).bind fun a5 => M_check_both a4 a5).bind fun _ => ((some p0).bind fun a6 => (some p1).bind fun a7 => (some p2).bind fun a8 => M_lies_between a6 a7 a8))))
theorem m_is_between (p0 : (List Int)) (p1 : (List Int)) (p2 : (List Int)) (r : Bool) (e : M_is_between p0 p1 p2 = some r) : C_is_between [enc p0, enc p1, enc p2] = .ok (enc r) := fn_ret (F := F_is_between) (mt := M_is_between p0 p1 p2) (js_exp (jl1 (g1 m_check_ranking) (j_sh rfl)) (js_exp (jl2 (g2 m_check_both) (j_sh rfl) (j_sh rfl)) (js_exp (jl2 (g2 m_check_both) (j_sh rfl) (j_sh rfl)) (js_last (js_ret' (jl3 (g3 m_lies_between) (j_sh rfl) (j_sh rfl) (j_sh rfl))))))) r e
def X_is_between (p0 : (List Int)) (p1 : (List Int)) (p2 : (List Int)) : Option Nat := ((((some p0).bind fun a9 => X_check_ranking a9)).or (((some p0).bind fun a10 => M_check_ranking a10).bind fun _ => ((((some p0).bind fun a11 => (some p1).bind fun a12 => X_check_both a11 a12)).or (((some p0).bind fun a13 => (some p1).bind fun a14 => M_check_both a13 a14).bind fun _ => ((some p0).bind fun a15 => (some p2).bind fun a16 => X_check_both a15 a16)))))
theorem x_is_between (p0 : (List Int)) (p1 : (List Int)) (p2 : (List Int)) (k : Nat) (e : X_is_between p0 p1 p2 = some k) : C_is_between [enc p0, enc p1, enc p2] = .er k := fn_x (F := F_is_between) (mx := X_is_between p0 p1 p2) (jx_or (jx_expE (je1 x_check_ranking (j_sh rfl))) (jx_exp (jl1 (g1 m_check_ranking) (j_sh rfl)) (jx_or (jx_expE (je2 x_check_both (j_sh rfl) (j_sh rfl))) (jx_exp (jl2 (g2 m_check_both) (j_sh rfl) (j_sh rfl)) (jx_expE (je2 x_check_both (j_sh rfl) (j_sh rfl))))))) k e
def M_check_small (p0 : (List Int)) (p1 : (List Int)) : Option Unit := (((some p0).bind fun a1 => (some p1).bind fun a2 => M_check_both a1 a2).bind fun _ => ((((some p0).bind fun a3 => some ((a3.length : Nat) : Int)).bind fun a4 => (some (6 : Int)).bind fun b5 => some (decide (b5 < a4))).bind fun b6 => if b6 = true then none else (some ())))
theorem m_check_small (p0 : (List Int)) (p1 : (List Int)) (r : Unit) (e : M_check_small p0 p1 = some r) : C_check_small [enc p0, enc p1] = .ok (enc r) := fn_nil (F := F_check_small) (mt := M_check_small p0 p1) (js_exp (jl2 (g2 m_check_both) (j_sh rfl) (j_sh rfl)) (js_last (js_if (jt (j2 o_gt (jl1 o_len (j_var rfl)) (j_c rfl))) js_ex (js_nilS (js_nil rfl trivial))))) r e
def X_check_small (p0 : (List Int)) (p1 : (List Int)) : Option Nat := ((((some p0).bind fun a7 => (some p1).bind fun a8 => X_check_both a7 a8)).or (((some p0).bind fun a9 => (some p1).bind fun a10 => M_check_both a9 a10).bind fun _ => ((((some p0).bind fun a11 => some ((a11.length : Nat) : Int)).bind fun a12 => (some (6 : Int)).bind fun b13 => some (decide (b13 < a12))).bind fun b14 => if b14 = true then (some 0) else none)))
theorem x_check_small (p0 : (List Int)) (p1 : (List Int)) (k : Nat) (e : X_check_small p0 p1 = some k) : C_check_small [enc p0, enc p1] = .er k := fn_x (F := F_check_small) (mx := X_check_small p0 p1) (jx_or (jx_expE (je2 x_check_both (j_sh rfl) (j_sh rfl))) (jx_exp (jl2 (g2 m_check_both) (j_sh rfl) (j_sh rfl)) (jx_last (jx_if (jt (j2 o_gt (jl1 o_len (j_var rfl)) (j_c rfl))) jx_ex jx_no)))) k e
def M_between (p0 : (List Int)) (p1 : (List Int)) : Option (List (List Int)) := (((some p0).bind fun a1 => (some p1).bind fun a2 => M_check_small a1 a2).bind fun _ => ((((some p0).bind fun a3 => some ((a3.length : Nat) : Int)).bind fun a4 => M_all_rankings a4).bind fun l6 => lim l6 (oComp (fun x5 : (List Int) => ((some p0).bind fun a7 => (some x5).bind fun a8 => (some p1).bind fun a9 => M_lies_between a7 a8 a9)) (fun x5 : (List Int) => (some x5)) l6)))
theorem m_between (p0 : (List Int)) (p1 : (List Int)) (r : (List (List Int))) (e : M_between p0 p1 = some r) : C_between [enc p0, enc p1] = .ok (enc r) := fn_ret (F := F_between) (mt := M_between p0 p1) (js_exp (jl2 (g2 m_check_small) (j_sh rfl) (j_sh rfl)) (js_last (js_ret' (j_comp (jl_ls (jl1 (g1 m_all_rankings) (jl1 o_len (j_var rfl)))) (fun _ => rfl) (fun x5 => (jt (jl3 (g3 m_lies_between) (j_sh rfl) (j_sh rfl) (j_sh rfl)))) (fun x5 => (j_sh rfl)))))) r e
def X_between (p0 : (List Int)) (p1 : (List Int)) : Option Nat := ((some p0).bind fun a10 => (some p1).bind fun a11 => X_check_small a10 a11)
theorem x_between (p0 : (List Int)) (p1 : (List Int)) (k : Nat) (e : X_between p0 p1 = some k) : C_between [enc p0, enc p1] = .er k := fn_x (F := F_between) (mx := X_between p0 p1) (jx_expE (je2 x_check_small (j_sh rfl) (j_sh rfl))) k e
def M_count_between (p0 : (List Int)) (p1 : (List Int)) : Option Int := (((some p0).bind fun a1 => (some p1).bind fun a2 => M_between a1 a2).bind fun a3 => some ((a3.length : Nat) : Int))
theorem m_count_between (p0 : (List Int)) (p1 : (List Int)) (r : Int) (e : M_count_between p0 p1 = some r) : C_count_between [enc p0, enc p1] = .ok (enc r) := fn_ret (F := F_count_between) (mt := M_count_between p0 p1) (js_last (js_ret' (jl1 o_len (jl2 (g2 m_between) (j_sh rfl) (j_sh rfl))))) r e
def M_halfway (p0 : (List Int)) (p1 : (List Int)) : Option (List (List Int)) := (((some p0).bind fun a1 => (some p1).bind fun a2 => M_check_small a1 a2).bind fun _ => (((some p0).bind fun a3 => (some p1).bind fun a4 => M_between a3 a4).bind fun v5 : (List (List Int)) => (((some v5).bind fun l16 => lim l16 (oMap (fun x6 : (List Int) => (((((some p0).bind fun a7 => (some x6).bind fun a8 => M_against a7 a8).bind fun a9 => some ((a9.length : Nat) : Int)).bind fun a13 => (((some x6).bind fun a10 => (some p1).bind fun a11 => M_against a10 a11).bind fun a12 => some ((a12.length : Nat) : Int)).bind fun b14 => some (a13 - b14)).bind fun a15 => some (if a15 < 0 then -a15 else a15))) l16)).bind fun v17 : (List Int) => (((some v5).bind fun a18 => (some v17).bind fun a19 => some (List.zip a18 a19)).bind fun l21 => lim l21 (oComp (fun x20 : ((List Int) × Int) => ((some x20.2).bind fun a23 => ((some v17).bind fun a22 => oMin a22).bind fun b24 => some (decide (a23 = b24)))) (fun x20 : ((List Int) × Int) => (some x20.1)) l21)))))
theorem m_halfway (p0 : (List Int)) (p1 : (List Int)) (r : (List (List Int))) (e : M_halfway p0 p1 = some r) : C_halfway [enc p0, enc p1] = .ok (enc r) := fn_ret (F := F_halfway) (mt := M_halfway p0 p1) (js_exp (jl2 (g2 m_check_small) (j_sh rfl) (j_sh rfl)) (js_set (jl2 (g2 m_between) (j_sh rfl) (j_sh rfl)) (fun v5 => (js_set (j_compA (jl_ls (j_var rfl)) (fun _ => rfl) (fun x6 => (jl1 o_abs (j2 o_sub (jl1 o_len (jl2 (g2 m_against) (j_sh rfl) (j_sh rfl))) (jl1 o_len (jl2 (g2 m_against) (j_sh rfl) (j_sh rfl))))))) (fun v17 => (js_last (js_ret' (j_comp (ji2 o_zip (j_var rfl) (j_var rfl)) (fun _ => rfl) (fun x20 => (jt (j2 (o_eq (by decide)) (j_var rfl) (jl1 o_min (j_var rfl))))) (fun x20 => (j_sh rfl)))))))))) r e
def X_halfway (p0 : (List Int)) (p1 : (List Int)) : Option Nat := ((((some p0).bind fun a25 => (some p1).bind fun a26 => X_check_small a25 a26)).or (((some p0).bind fun a27 => (some p1).bind fun a28 => M_check_small a27 a28).bind fun _ => ((some p0).bind fun a29 => (some p1).bind fun a30 => X_between a29 a30)))
theorem x_halfway (p0 : (List Int)) (p1 : (List Int)) (k : Nat) (e : X_halfway p0 p1 = some k) : C_halfway [enc p0, enc p1] = .er k := fn_x (F := F_halfway) (mx := X_halfway p0 p1) (jx_or (jx_expE (je2 x_check_small (j_sh rfl) (j_sh rfl))) (jx_exp (jl2 (g2 m_check_small) (j_sh rfl) (j_sh rfl)) (jx_setE (je2 x_between (j_sh rfl) (j_sh rfl))))) k e
def M_near (p0 : (List Int)) (p1 : Int) : Option (List (List Int)) := (((some p0).bind fun a1 => (some p0).bind fun a2 => M_check_small a1 a2).bind fun _ => ((((some p1).bind fun a4 => (some (0 : Int)).bind fun a5 => (some (50 : Int)).bind fun a6 => M_is_int a4 a5 a6).bind fun a3 => some (!a3)).bind fun b7 => if b7 = true then none else ((((some p0).bind fun a8 => some ((a8.length : Nat) : Int)).bind fun a9 => M_all_rankings a9).bind fun l11 => lim l11 (oComp (fun x10 : (List Int) => ((((some p0).bind fun a12 => (some x10).bind fun a13 => M_against a12 a13).bind fun a14 => some ((a14.length : Nat) : Int)).bind fun a15 => (some p1).bind fun b16 => some (decide (a15 ≤ b16)))) (fun x10 : (List Int) => (some x10)) l11))))
theorem m_near (p0 : (List Int)) (p1 : Int) (r : (List (List Int))) (e : M_near p0 p1 = some r) : C_near [enc p0, enc p1] = .ok (enc r) := fn_ret (F := F_near) (mt := M_near p0 p1) (js_exp (jl2 (g2 m_check_small) (j_sh rfl) (j_sh rfl)) (js_if (jt_not (jt (jl3 (g3 m_is_int) (j_sh rfl) (j_c rfl) (j_c rfl)))) js_ex (js_nilS (js_last (js_ret' (j_comp (jl_ls (jl1 (g1 m_all_rankings) (jl1 o_len (j_var rfl)))) (fun _ => rfl) (fun x10 => (jt (j2 o_le (jl1 o_len (jl2 (g2 m_against) (j_sh rfl) (j_sh rfl))) (j_var rfl)))) (fun x10 => (j_sh rfl)))))))) r e
def X_near (p0 : (List Int)) (p1 : Int) : Option Nat := ((((some p0).bind fun a17 => (some p0).bind fun a18 => X_check_small a17 a18)).or (((some p0).bind fun a19 => (some p0).bind fun a20 => M_check_small a19 a20).bind fun _ => ((((some p1).bind fun a22 => (some (0 : Int)).bind fun a23 => (some (50 : Int)).bind fun a24 => M_is_int a22 a23 a24).bind fun a21 => some (!a21)).bind fun b25 => if b25 = true then (some 2) else none)))
theorem x_near (p0 : (List Int)) (p1 : Int) (k : Nat) (e : X_near p0 p1 = some k) : C_near [enc p0, enc p1] = .er k := fn_x (F := F_near) (mx := X_near p0 p1) (jx_or (jx_expE (je2 x_check_small (j_sh rfl) (j_sh rfl))) (jx_exp (jl2 (g2 m_check_small) (j_sh rfl) (j_sh rfl)) (jx_if (jt_not (jt (jl3 (g3 m_is_int) (j_sh rfl) (j_c rfl) (j_c rfl)))) jx_ex jx_no))) k e
def M_agreed_pairs (p0 : (List Int)) (p1 : (List Int)) : Option (List (Int × Int)) := (((some p0).bind fun a1 => (some p1).bind fun a2 => M_check_both a1 a2).bind fun _ => ((some ([] : (List (Int × Int)))).bind fun v3 : (List (Int × Int)) => ((((some p0).bind fun a6 => some ((a6.length : Nat) : Int)).bind fun a7 => oR1 a7).bind fun l9 => (oFold (fun (s4 : (List (Int × Int))) (x8 : Int) => ((((some p0).bind fun a11 => some ((a11.length : Nat) : Int)).bind fun a12 => oR1 a12).bind fun l14 => (oFold (fun (s10 : (List (Int × Int))) (x13 : Int) => (((((some p0).bind fun a16 => (some x8).bind fun b17 => atI a16 b17).bind fun a20 => ((some p0).bind fun a18 => (some x13).bind fun b19 => atI a18 b19).bind fun b21 => some (decide (a20 < b21))).bind fun a15 => if a15 = true then (((some p1).bind fun a22 => (some x8).bind fun b23 => atI a22 b23).bind fun a26 => ((some p1).bind fun a24 => (some x13).bind fun b25 => atI a24 b25).bind fun b27 => some (decide (a26 < b27))) else some false).bind fun b28 => if b28 = true then (oApp s10 ((some x8).bind fun a30 => (some x13).bind fun a31 => some (a30, a31)) fun v29 => (some v29)) else (some s10))) l14 s4).bind fun s10 : (List (Int × Int)) => (some s10))) l9 v3).bind fun s4 : (List (Int × Int)) => (some s4))))
theorem m_agreed_pairs (p0 : (List Int)) (p1 : (List Int)) (r : (List (Int × Int))) (e : M_agreed_pairs p0 p1 = some r) : C_agreed_pairs [enc p0, enc p1] = .ok (enc r) := fn_ret (F := F_agreed_pairs) (mt := M_agreed_pairs p0 p1) (js_exp (jl2 (g2 m_check_both) (j_sh rfl) (j_sh rfl)) (js_own (jl0 o_lst0) (fun v3 => (js_forN (en0 := (fun s4 : (List (Int × Int)) => [some (.sh (enc p0)), some (.sh (enc p1)), some (.ow (List.map enc s4)), none, none])) (enb := (fun (s4 : (List (Int × Int))) (x8 : Int) => [some (.sh (enc p0)), some (.sh (enc p1)), some (.ow (List.map enc s4)), some (.sh (enc x8)), none])) (ji1 o_rng1 (jl1 o_len (j_var rfl))) rfl (fun _ _ => rfl) (fun s4 x8 => (js_last (js_forN (en0 := (fun s10 : (List (Int × Int)) => [some (.sh (enc p0)), some (.sh (enc p1)), some (.ow (List.map enc s10)), some (.sh (enc x8)), none])) (enb := (fun (s10 : (List (Int × Int))) (x13 : Int) => [some (.sh (enc p0)), some (.sh (enc p1)), some (.ow (List.map enc s10)), some (.sh (enc x8)), some (.sh (enc x13))])) (ji1 o_rng1 (jl1 o_len (j_var rfl))) rfl (fun _ _ => rfl) (fun s10 x13 => (js_last (js_if (jt_an (jt (j2 o_lt (j2 o_ix (j_var rfl) (j_var rfl)) (j2 o_ix (j_var rfl) (j_var rfl)))) (jt (j2 o_lt (j2 o_ix (j_var rfl) (j_var rfl)) (j2 o_ix (j_var rfl) (j_var rfl))))) (js_app rfl (jl2 o_pair (j_sh rfl) (j_sh rfl)) (fun v29 => (js_nil rfl rfl))) (js_nilS (js_nil rfl rfl))))) (fun s10 => (js_nil rfl rfl))))) (fun s4 => (js_last (js_frz rfl (js_ret' (j_sh rfl))))))))) r e
def X_agreed_pairs (p0 : (List Int)) (p1 : (List Int)) : Option Nat := ((some p0).bind fun a32 => (some p1).bind fun a33 => X_check_both a32 a33)
theorem x_agreed_pairs (p0 : (List Int)) (p1 : (List Int)) (k : Nat) (e : X_agreed_pairs p0 p1 = some k) : C_agreed_pairs [enc p0, enc p1] = .er k := fn_x (F := F_agreed_pairs) (mx := X_agreed_pairs p0 p1) (jx_expE (je2 x_check_both (j_sh rfl) (j_sh rfl))) k e
def M_count_with (p0 : Int) (p1 : Int) : Option Int := ((((some p0).bind fun a2 => (some (1 : Int)).bind fun a3 => (some (20 : Int)).bind fun a4 => M_is_int a2 a3 a4).bind fun a1 => some (!a1)).bind fun b5 => if b5 = true then none else ((((some p1).bind fun a7 => (some (0 : Int)).bind fun a8 => (some (200 : Int)).bind fun a9 => M_is_int a7 a8 a9).bind fun a6 => some (!a6)).bind fun b10 => if b10 = true then none else (((some (1 : Int)).bind fun a11 => some [a11]).bind fun v12 : (List Int) => (((some (2 : Int)).bind fun a22 => ((some p0).bind fun a20 => (some (1 : Int)).bind fun b21 => some (a20 + b21)).bind fun a23 => oR2 a22 a23).bind fun l25 => (oFold (fun (s13 : (List Int)) (x24 : Int) => ((some ([] : (List Int))).bind fun v26 : (List Int) => ((((((some s13).bind fun a30 => some ((a30.length : Nat) : Int)).bind fun a31 => (some x24).bind fun b32 => some (a31 + b32)).bind fun a33 => (some (1 : Int)).bind fun b34 => some (a33 - b34)).bind fun a35 => oR1 a35).bind fun l37 => (oFold (fun (s27 : (List Int)) (x36 : Int) => (oApp s27 (((some s13).bind fun a49 => (((some (0 : Int)).bind fun a43 => (((some x36).bind fun a39 => (some x24).bind fun b40 => some (a39 - b40)).bind fun a41 => (some (1 : Int)).bind fun b42 => some (a41 + b42)).bind fun a44 => some (if a44 > a43 then a44 else a43)).bind fun k45 => some (some k45)).bind fun b50 => (((some x36).bind fun a46 => (some (1 : Int)).bind fun b47 => some (a46 + b47)).bind fun k48 => some (some k48)).bind fun c51 => some (cutD a49 b50 c51)).bind fun a52 => some (List.sum a52)) fun v38 => (some v38))) l37 v26).bind fun s27 : (List Int) => ((some s27).bind fun v29 : (List Int) => (some v29))))) l25 v12).bind fun s13 : (List Int) => (((some p1).bind fun a15 => ((some s13).bind fun a14 => some ((a14.length : Nat) : Int)).bind fun b16 => some (decide (a15 < b16))).bind fun a19 => if a19 = true then ((some s13).bind fun a17 => (some p1).bind fun b18 => atI a17 b18) else (some (0 : Int)))))))
theorem m_count_with (p0 : Int) (p1 : Int) (r : Int) (e : M_count_with p0 p1 = some r) : C_count_with [enc p0, enc p1] = .ok (enc r) := fn_ret (F := F_count_with) (mt := M_count_with p0 p1) (js_if (jt_not (jt (jl3 (g3 m_is_int) (j_sh rfl) (j_c rfl) (j_c rfl)))) js_ex (js_nilS (js_if (jt_not (jt (jl3 (g3 m_is_int) (j_sh rfl) (j_c rfl) (j_c rfl)))) js_ex (js_nilS (js_set (jl1 o_lst1 (j_c rfl)) (fun v12 => (js_forN (en0 := (fun s13 : (List Int) => [some (.sh (enc p0)), some (.sh (enc p1)), some (.sh (enc s13)), none, none, none])) (enb := (fun (s13 : (List Int)) (x24 : Int) => [some (.sh (enc p0)), some (.sh (enc p1)), some (.sh (enc s13)), some (.sh (enc x24)), none, none])) (ji2 o_rng2 (j_c rfl) (j2 o_add (j_var rfl) (j_c rfl))) rfl (fun _ _ => rfl) (fun s13 x24 => (js_own (jl0 o_lst0) (fun v26 => (js_forN (en0 := (fun s27 : (List Int) => [some (.sh (enc p0)), some (.sh (enc p1)), some (.sh (enc s13)), some (.sh (enc x24)), some (.ow (List.map enc s27)), none])) (enb := (fun (s27 : (List Int)) (x36 : Int) => [some (.sh (enc p0)), some (.sh (enc p1)), some (.sh (enc s13)), some (.sh (enc x24)), some (.ow (List.map enc s27)), some (.sh (enc x36))])) (ji1 o_rng1 (j2 o_sub (j2 o_add (jl1 o_len (j_var rfl)) (j_var rfl)) (j_c rfl))) rfl (fun _ _ => rfl) (fun s27 x36 => (js_last (js_app rfl (jl1 o_sum (j_sl (j_var rfl) (jq_part (jl2 o_max2 (j_c rfl) (j2 o_add (j2 o_sub (j_var rfl) (j_var rfl)) (j_c rfl)))) (jq_part (j2 o_add (j_var rfl) (j_c rfl))))) (fun v38 => (js_nil rfl rfl))))) (fun s27 => (js_last (js_frz rfl (js_set (j_sh rfl) (fun v29 => (js_nil rfl rfl)))))))))) (fun s13 => (js_last (js_ret' (j_if (jt (j2 o_lt (j_var rfl) (jl1 o_len (j_var rfl)))) (j2 o_ix (j_var rfl) (j_var rfl)) (j_c rfl)))))))))))) r e
def X_count_with (p0 : Int) (p1 : Int) : Option Nat := ((((some p0).bind fun a61 => (some (1 : Int)).bind fun a62 => (some (20 : Int)).bind fun a63 => M_is_int a61 a62 a63).bind fun a60 => some (!a60)).bind fun b64 => if b64 = true then (some 2) else ((((some p1).bind fun a56 => (some (0 : Int)).bind fun a57 => (some (200 : Int)).bind fun a58 => M_is_int a56 a57 a58).bind fun a55 => some (!a55)).bind fun b59 => if b59 = true then (some 2) else none))
theorem x_count_with (p0 : Int) (p1 : Int) (k : Nat) (e : X_count_with p0 p1 = some k) : C_count_with [enc p0, enc p1] = .er k := fn_x (F := F_count_with) (mx := X_count_with p0 p1) (jx_if (jt_not (jt (jl3 (g3 m_is_int) (j_sh rfl) (j_c rfl) (j_c rfl)))) jx_ex (jx_nilS (jx_if (jt_not (jt (jl3 (g3 m_is_int) (j_sh rfl) (j_c rfl) (j_c rfl)))) jx_ex jx_no))) k e
def M_value_table (p0 : Int) : Option (List (Tr Int Int Int)) := (((some p0).bind fun a1 => M_check_size a1).bind fun _ => (((some p0).bind fun a9 => M_all_rankings a9).bind fun l11 => (oFold (fun (s2 : (List ((Int × Int) × Int))) (x10 : (List Int)) => ((((some x10).bind fun a12 => M_inversions a12).bind fun a14 => ((some x10).bind fun a13 => M_squares_of a13).bind fun a15 => some (a14, a15)).bind fun v16 : (Int × Int) => (oPut s2 (some v16) (((some v16).bind fun a18 => (some (0 : Int)).bind fun b19 => some ((getP s2 a18).getD b19)).bind fun a20 => (some (1 : Int)).bind fun b21 => some (a20 + b21)) fun v17 => (some v17)))) l11 ([] : (List ((Int × Int) × Int)))).bind fun s2 : (List ((Int × Int) × Int)) => ((some (sortP (List.map (fun q => q.1) s2))).bind fun l8 => lim l8 (oMap (fun x3 : (Int × Int) => ((some x3).bind fun a6 => (((some x3).bind fun a4 => getP s2 a4).bind fun a5 => some (Tp.mk [a5])).bind fun b7 => oCatR a6 b7)) l8))))
theorem m_value_table (p0 : Int) (r : (List (Tr Int Int Int))) (e : M_value_table p0 = some r) : C_value_table [enc p0] = .ok (enc r) := fn_ret (F := F_value_table) (mt := M_value_table p0) (js_exp (jl1 (g1 m_check_size) (j_sh rfl)) (js_dnew (α := Int) (js_forN (en0 := (fun s2 : (List ((Int × Int) × Int)) => [some (.sh (enc p0)), some (.mo (.dk (dkE s2))), none, none])) (enb := (fun (s2 : (List ((Int × Int) × Int))) (x10 : (List Int)) => [some (.sh (enc p0)), some (.mo (.dk (dkE s2))), some (.sh (enc x10)), none])) (jl_ls (jl1 (g1 m_all_rankings) (j_sh rfl))) rfl (fun _ _ => rfl) (fun s2 x10 => (js_set (jl2 o_pair (jl1 (g1 m_inversions) (j_sh rfl)) (jl1 (g1 m_squares_of) (j_sh rfl))) (fun v16 => (js_last (js_dput rfl (j_sh rfl) (j2 o_add (j_dget rfl (j_sh rfl) (j_c rfl)) (j_c rfl)) (fun v17 => (js_nil rfl rfl))))))) (fun s2 => (js_last (js_ret' (j_compA (jl_ls (j_dsort rfl)) (fun _ => rfl) (fun x3 => (j2 o_catR (j_var rfl) (jl1 o_tup1 (j_dix rfl (j_sh rfl)))))))))))) r e
def X_value_table (p0 : Int) : Option Nat := ((some p0).bind fun a22 => X_check_size a22)
theorem x_value_table (p0 : Int) (k : Nat) (e : X_value_table p0 = some k) : C_value_table [enc p0] = .er k := fn_x (F := F_value_table) (mx := X_value_table p0) (jx_expE (je1 x_check_size (j_sh rfl))) k e
def M_orders_with (p0 : Int) (p1 : Int) (p2 : Int) : Option (List (List Int)) := (((some p0).bind fun a1 => M_check_size a1).bind fun _ => (((((some p1).bind fun a4 => (some (0 : Int)).bind fun a5 => (some (50 : Int)).bind fun a6 => M_is_int a4 a5 a6).bind fun a3 => some (!a3)).bind fun a2 => if a2 = true then some true else (((some p2).bind fun a8 => (some (0 : Int)).bind fun a9 => (some (500 : Int)).bind fun a10 => M_is_int a8 a9 a10).bind fun a7 => some (!a7))).bind fun b11 => if b11 = true then none else (((some p0).bind fun a12 => M_all_rankings a12).bind fun l14 => lim l14 (oComp (fun x13 : (List Int) => ((((some x13).bind fun a15 => M_inversions a15).bind fun a17 => ((some x13).bind fun a16 => M_squares_of a16).bind fun a18 => some (a17, a18)).bind fun a21 => ((some p1).bind fun a19 => (some p2).bind fun a20 => some (a19, a20)).bind fun b22 => some (decide (a21 = b22)))) (fun x13 : (List Int) => (some x13)) l14))))
theorem m_orders_with (p0 : Int) (p1 : Int) (p2 : Int) (r : (List (List Int))) (e : M_orders_with p0 p1 p2 = some r) : C_orders_with [enc p0, enc p1, enc p2] = .ok (enc r) := fn_ret (F := F_orders_with) (mt := M_orders_with p0 p1 p2) (js_exp (jl1 (g1 m_check_size) (j_sh rfl)) (js_if (jt_or (jt_not (jt (jl3 (g3 m_is_int) (j_sh rfl) (j_c rfl) (j_c rfl)))) (jt_not (jt (jl3 (g3 m_is_int) (j_sh rfl) (j_c rfl) (j_c rfl))))) js_ex (js_nilS (js_last (js_ret' (j_comp (jl_ls (jl1 (g1 m_all_rankings) (j_sh rfl))) (fun _ => rfl) (fun x13 => (jt (j2 (o_eq (by decide)) (jl2 o_pair (jl1 (g1 m_inversions) (j_sh rfl)) (jl1 (g1 m_squares_of) (j_sh rfl))) (jl2 o_pair (j_sh rfl) (j_sh rfl))))) (fun x13 => (j_sh rfl)))))))) r e
def X_orders_with (p0 : Int) (p1 : Int) (p2 : Int) : Option Nat := ((((some p0).bind fun a23 => X_check_size a23)).or (((some p0).bind fun a24 => M_check_size a24).bind fun _ => (((((some p1).bind fun a27 => (some (0 : Int)).bind fun a28 => (some (50 : Int)).bind fun a29 => M_is_int a27 a28 a29).bind fun a26 => some (!a26)).bind fun a25 => if a25 = true then some true else (((some p2).bind fun a31 => (some (0 : Int)).bind fun a32 => (some (500 : Int)).bind fun a33 => M_is_int a31 a32 a33).bind fun a30 => some (!a30))).bind fun b34 => if b34 = true then (some 2) else none)))
theorem x_orders_with (p0 : Int) (p1 : Int) (p2 : Int) (k : Nat) (e : X_orders_with p0 p1 p2 = some k) : C_orders_with [enc p0, enc p1, enc p2] = .er k := fn_x (F := F_orders_with) (mx := X_orders_with p0 p1 p2) (jx_or (jx_expE (je1 x_check_size (j_sh rfl))) (jx_exp (jl1 (g1 m_check_size) (j_sh rfl)) (jx_if (jt_or (jt_not (jt (jl3 (g3 m_is_int) (j_sh rfl) (j_c rfl) (j_c rfl)))) (jt_not (jt (jl3 (g3 m_is_int) (j_sh rfl) (j_c rfl) (j_c rfl))))) jx_ex jx_no))) k e
def M_can_be (p0 : Int) (p1 : Int) (p2 : Int) : Option Bool := (((some p0).bind fun a1 => (some p1).bind fun a2 => (some p2).bind fun a3 => M_orders_with a1 a2 a3).bind fun a4 => (some ([] : (List (List Int)))).bind fun b5 => some (!decide (a4 = b5)))
theorem m_can_be (p0 : Int) (p1 : Int) (p2 : Int) (r : Bool) (e : M_can_be p0 p1 p2 = some r) : C_can_be [enc p0, enc p1, enc p2] = .ok (enc r) := fn_ret (F := F_can_be) (mt := M_can_be p0 p1 p2) (js_last (js_ret' (j2 (o_ne (by decide)) (jl3 (g3 m_orders_with) (j_sh rfl) (j_sh rfl) (j_sh rfl)) (jl0 o_lst0)))) r e
def M_first_with (p0 : Int) (p1 : Int) (p2 : Int) : Option (List Int) := (((some p0).bind fun a1 => (some p1).bind fun a2 => (some p2).bind fun a3 => M_orders_with a1 a2 a3).bind fun v4 : (List (List Int)) => (((some v4).bind fun a5 => (some ([] : (List (List Int)))).bind fun b6 => some (decide (a5 = b6))).bind fun b7 => if b7 = true then none else ((some v4).bind fun a8 => (some (0 : Int)).bind fun b9 => atI a8 b9)))
theorem m_first_with (p0 : Int) (p1 : Int) (p2 : Int) (r : (List Int)) (e : M_first_with p0 p1 p2 = some r) : C_first_with [enc p0, enc p1, enc p2] = .ok (enc r) := fn_ret (F := F_first_with) (mt := M_first_with p0 p1 p2) (js_set (jl3 (g3 m_orders_with) (j_sh rfl) (j_sh rfl) (j_sh rfl)) (fun v4 => (js_if (jt (j2 (o_eq (by decide)) (j_var rfl) (jl0 o_lst0))) js_ex (js_nilS (js_last (js_ret' (j2 o_ix (j_var rfl) (j_c rfl)))))))) r e
def X_first_with (p0 : Int) (p1 : Int) (p2 : Int) : Option Nat := ((((some p0).bind fun a10 => (some p1).bind fun a11 => (some p2).bind fun a12 => X_orders_with a10 a11 a12)).or (((some p0).bind fun a13 => (some p1).bind fun a14 => (some p2).bind fun a15 => M_orders_with a13 a14 a15).bind fun v16 => (((some v16).bind fun a17 => (some ([] : (List (List Int)))).bind fun b18 => some (decide (a17 = b18))).bind fun b19 => if b19 = true then (some 4) else none)))
theorem x_first_with (p0 : Int) (p1 : Int) (p2 : Int) (k : Nat) (e : X_first_with p0 p1 p2 = some k) : C_first_with [enc p0, enc p1, enc p2] = .er k := fn_x (F := F_first_with) (mx := X_first_with p0 p1 p2) (jx_or (jx_setE (je3 x_orders_with (j_sh rfl) (j_sh rfl) (j_sh rfl))) (jx_set (jl3 (g3 m_orders_with) (j_sh rfl) (j_sh rfl) (j_sh rfl)) (fun v16 => (jx_if (jt (j2 (o_eq (by decide)) (j_var rfl) (jl0 o_lst0))) jx_ex jx_no)))) k e
def M_order_at (p0 : Int) (p1 : Int) (p2 : Int) (p3 : Int) : Option (List Int) := (((some p0).bind fun a1 => (some p1).bind fun a2 => (some p2).bind fun a3 => M_orders_with a1 a2 a3).bind fun v4 : (List (List Int)) => ((((some p3).bind fun a9 => (some (0 : Int)).bind fun a10 => (((some v4).bind fun a6 => some ((a6.length : Nat) : Int)).bind fun a7 => (some (1 : Int)).bind fun b8 => some (a7 - b8)).bind fun a11 => M_is_int a9 a10 a11).bind fun a5 => some (!a5)).bind fun b12 => if b12 = true then none else ((some v4).bind fun a13 => (some p3).bind fun b14 => atI a13 b14)))
theorem m_order_at (p0 : Int) (p1 : Int) (p2 : Int) (p3 : Int) (r : (List Int)) (e : M_order_at p0 p1 p2 p3 = some r) : C_order_at [enc p0, enc p1, enc p2, enc p3] = .ok (enc r) := fn_ret (F := F_order_at) (mt := M_order_at p0 p1 p2 p3) (js_set (jl3 (g3 m_orders_with) (j_sh rfl) (j_sh rfl) (j_sh rfl)) (fun v4 => (js_if (jt_not (jt (jl3 (g3 m_is_int) (j_sh rfl) (j_c rfl) (j2 o_sub (jl1 o_len (j_var rfl)) (j_c rfl))))) js_ex (js_nilS (js_last (js_ret' (j2 o_ix (j_var rfl) (j_var rfl)))))))) r e
def X_order_at (p0 : Int) (p1 : Int) (p2 : Int) (p3 : Int) : Option Nat := ((((some p0).bind fun a15 => (some p1).bind fun a16 => (some p2).bind fun a17 => X_orders_with a15 a16 a17)).or (((some p0).bind fun a18 => (some p1).bind fun a19 => (some p2).bind fun a20 => M_orders_with a18 a19 a20).bind fun v21 => ((((some p3).bind fun a26 => (some (0 : Int)).bind fun a27 => (((some v21).bind fun a23 => some ((a23.length : Nat) : Int)).bind fun a24 => (some (1 : Int)).bind fun b25 => some (a24 - b25)).bind fun a28 => M_is_int a26 a27 a28).bind fun a22 => some (!a22)).bind fun b29 => if b29 = true then (some 2) else none)))
theorem x_order_at (p0 : Int) (p1 : Int) (p2 : Int) (p3 : Int) (k : Nat) (e : X_order_at p0 p1 p2 p3 = some k) : C_order_at [enc p0, enc p1, enc p2, enc p3] = .er k := fn_x (F := F_order_at) (mx := X_order_at p0 p1 p2 p3) (jx_or (jx_setE (je3 x_orders_with (j_sh rfl) (j_sh rfl) (j_sh rfl))) (jx_set (jl3 (g3 m_orders_with) (j_sh rfl) (j_sh rfl) (j_sh rfl)) (fun v21 => (jx_if (jt_not (jt (jl3 (g3 m_is_int) (j_sh rfl) (j_c rfl) (j2 o_sub (jl1 o_len (j_var rfl)) (j_c rfl))))) jx_ex jx_no)))) k e
def M_is_scores (p0 : (List Int)) : Option Bool := (((((some p0).bind fun a3 => some (isiB "list" "list")).bind fun a2 => some (!a2)).bind fun a1 => if a1 = true then some true else (((some (1 : Int)).bind fun a6 => ((some p0).bind fun a5 => some ((a5.length : Nat) : Int)).bind fun b7 => (some (10 : Int)).bind fun c8 => some (decide (a6 ≤ b7) && decide (b7 ≤ c8))).bind fun a4 => some (!a4))).bind fun b9 => if b9 = true then (some false) else (((some p0).bind fun l14 => lim l14 (oMap (fun x10 : Int => ((some x10).bind fun a11 => (some (0 : Int)).bind fun a12 => (some (99 : Int)).bind fun a13 => M_is_int a11 a12 a13)) l14)).bind fun a15 => some (List.all a15 id)))
theorem m_is_scores (p0 : (List Int)) (r : Bool) (e : M_is_scores p0 = some r) : C_is_scores [enc p0] = .ok (enc r) := fn_ret (F := F_is_scores) (mt := M_is_scores p0) (js_if (jt_or (jt_not (jt (j1 (fun a r e => o_isiL a _ r e) (j_var rfl)))) (jt_not (jt (j_chain c_le c_le (j_c rfl) (jl1 o_len (j_var rfl)) (j_c rfl))))) (js_ret' (j_c rfl)) (js_nilS (js_last (js_ret' (jl1 o_all (j_compA (jl_ls (j_var rfl)) (fun _ => rfl) (fun x10 => (jl3 (g3 m_is_int) (j_sh rfl) (j_c rfl) (j_c rfl))))))))) r e
def M_check_scores (p0 : (List Int)) : Option Unit := ((((some p0).bind fun a2 => M_is_scores a2).bind fun a1 => some (!a1)).bind fun b3 => if b3 = true then none else (some ()))
theorem m_check_scores (p0 : (List Int)) (r : Unit) (e : M_check_scores p0 = some r) : C_check_scores [enc p0] = .ok (enc r) := fn_nil (F := F_check_scores) (mt := M_check_scores p0) (js_last (js_if (jt_not (jt (jl1 (g1 m_is_scores) (j_sh rfl)))) js_ex (js_nilS (js_nil rfl trivial)))) r e
def X_check_scores (p0 : (List Int)) : Option Nat := ((((some p0).bind fun a5 => M_is_scores a5).bind fun a4 => some (!a4)).bind fun b6 => if b6 = true then (some 1) else none)
theorem x_check_scores (p0 : (List Int)) (k : Nat) (e : X_check_scores p0 = some k) : C_check_scores [enc p0] = .er k := fn_x (F := F_check_scores) (mx := X_check_scores p0) (jx_last (jx_if (jt_not (jt (jl1 (g1 m_is_scores) (j_sh rfl)))) jx_ex jx_no)) k e
def M_check_same (p0 : (List Int)) (p1 : (List Int)) : Option Unit := (((some p0).bind fun a1 => M_check_scores a1).bind fun _ => (((some p1).bind fun a2 => M_check_scores a2).bind fun _ => ((((some p0).bind fun a3 => some ((a3.length : Nat) : Int)).bind fun a5 => ((some p1).bind fun a4 => some ((a4.length : Nat) : Int)).bind fun b6 => some (!decide (a5 = b6))).bind fun b7 => if b7 = true then none else (some ()))))
theorem m_check_same (p0 : (List Int)) (p1 : (List Int)) (r : Unit) (e : M_check_same p0 p1 = some r) : C_check_same [enc p0, enc p1] = .ok (enc r) := fn_nil (F := F_check_same) (mt := M_check_same p0 p1) (js_exp (jl1 (g1 m_check_scores) (j_sh rfl)) (js_exp (jl1 (g1 m_check_scores) (j_sh rfl)) (js_last (js_if (jt (j2 (o_ne (by decide)) (jl1 o_len (j_var rfl)) (jl1 o_len (j_var rfl)))) js_ex (js_nilS (js_nil rfl trivial)))))) r e
def X_check_same (p0 : (List Int)) (p1 : (List Int)) : Option Nat := ((((some p0).bind fun a8 => X_check_scores a8)).or (((some p0).bind fun a9 => M_check_scores a9).bind fun _ => ((((some p1).bind fun a10 => X_check_scores a10)).or (((some p1).bind fun a11 => M_check_scores a11).bind fun _ => ((((some p0).bind fun a12 => some ((a12.length : Nat) : Int)).bind fun a14 => ((some p1).bind fun a13 => some ((a13.length : Nat) : Int)).bind fun b15 => some (!decide (a14 = b15))).bind fun b16 => if b16 = true then (some 1) else none)))))
theorem x_check_same (p0 : (List Int)) (p1 : (List Int)) (k : Nat) (e : X_check_same p0 p1 = some k) : C_check_same [enc p0, enc p1] = .er k := fn_x (F := F_check_same) (mx := X_check_same p0 p1) (jx_or (jx_expE (je1 x_check_scores (j_sh rfl))) (jx_exp (jl1 (g1 m_check_scores) (j_sh rfl)) (jx_or (jx_expE (je1 x_check_scores (j_sh rfl))) (jx_exp (jl1 (g1 m_check_scores) (j_sh rfl)) (jx_last (jx_if (jt (j2 (o_ne (by decide)) (jl1 o_len (j_var rfl)) (jl1 o_len (j_var rfl)))) jx_ex jx_no)))))) k e
def M_outcomes (p0 : (List Int)) (p1 : (List Int)) : Option (List Int) := (((some (0 : Int)).bind fun a1 => (some (0 : Int)).bind fun a2 => (some (0 : Int)).bind fun a3 => (some (0 : Int)).bind fun a4 => (some (0 : Int)).bind fun a5 => some [a1, a2, a3, a4, a5]).bind fun v6 : (List Int) => ((((some p0).bind fun a9 => some ((a9.length : Nat) : Int)).bind fun a10 => oR1 a10).bind fun l12 => (oFold (fun (s7 : (List Int)) (x11 : Int) => ((((some x11).bind fun a14 => (some (1 : Int)).bind fun b15 => some (a14 + b15)).bind fun a17 => ((some p0).bind fun a16 => some ((a16.length : Nat) : Int)).bind fun a18 => oR2 a17 a18).bind fun l20 => (oFold (fun (s13 : (List Int)) (x19 : Int) => ((((some p0).bind fun a21 => (some x11).bind fun b22 => atI a21 b22).bind fun a25 => ((some p0).bind fun a23 => (some x19).bind fun b24 => atI a23 b24).bind fun b26 => some (a25 - b26)).bind fun a33 => (((some p1).bind fun a27 => (some x11).bind fun b28 => atI a27 b28).bind fun a31 => ((some p1).bind fun a29 => (some x19).bind fun b30 => atI a29 b30).bind fun b32 => some (a31 - b32)).bind fun b34 => ((((some a33).bind fun a36 => (some (0 : Int)).bind fun b37 => some (decide (a36 = b37))).bind fun a35 => if a35 = true then ((some b34).bind fun a38 => (some (0 : Int)).bind fun b39 => some (decide (a38 = b39))) else some false).bind fun b40 => if b40 = true then (oAugI s13 (some (4 : Int)) (some (1 : Int)) fun v41 => (some v41)) else (((some a33).bind fun a42 => (some (0 : Int)).bind fun b43 => some (decide (a42 = b43))).bind fun b44 => if b44 = true then (oAugI s13 (some (2 : Int)) (some (1 : Int)) fun v45 => (some v45)) else (((some b34).bind fun a46 => (some (0 : Int)).bind fun b47 => some (decide (a46 = b47))).bind fun b48 => if b48 = true then (oAugI s13 (some (3 : Int)) (some (1 : Int)) fun v49 => (some v49)) else (oAugI s13 ((((some a33).bind fun a51 => (some (0 : Int)).bind fun b52 => some (decide (b52 < a51))).bind fun a55 => ((some b34).bind fun a53 => (some (0 : Int)).bind fun b54 => some (decide (b54 < a53))).bind fun b56 => some (decide (a55 = b56))).bind fun a57 => if a57 = true then (some (0 : Int)) else (some (1 : Int))) (some (1 : Int)) fun v50 => (some v50))))))) l20 s7).bind fun s13 : (List Int) => (some s13))) l12 v6).bind fun s7 : (List Int) => (some s7)))
theorem m_outcomes (p0 : (List Int)) (p1 : (List Int)) (r : (List Int)) (e : M_outcomes p0 p1 = some r) : C_outcomes [enc p0, enc p1] = .ok (enc r) := fn_ret (F := F_outcomes) (mt := M_outcomes p0 p1) (js_own (jl5 o_lst5 (j_c rfl) (j_c rfl) (j_c rfl) (j_c rfl) (j_c rfl)) (fun v6 => (js_forN (en0 := (fun s7 : (List Int) => [some (.sh (enc p0)), some (.sh (enc p1)), some (.ow (List.map enc s7)), none, none, none, none])) (enb := (fun (s7 : (List Int)) (x11 : Int) => [some (.sh (enc p0)), some (.sh (enc p1)), some (.ow (List.map enc s7)), some (.sh (enc x11)), none, none, none])) (ji1 o_rng1 (jl1 o_len (j_var rfl))) rfl (fun _ _ => rfl) (fun s7 x11 => (js_last (js_forN (en0 := (fun s13 : (List Int) => [some (.sh (enc p0)), some (.sh (enc p1)), some (.ow (List.map enc s13)), some (.sh (enc x11)), none, none, none])) (enb := (fun (s13 : (List Int)) (x19 : Int) => [some (.sh (enc p0)), some (.sh (enc p1)), some (.ow (List.map enc s13)), some (.sh (enc x11)), some (.sh (enc x19)), none, none])) (ji2 o_rng2 (j2 o_add (j_var rfl) (j_c rfl)) (jl1 o_len (j_var rfl))) rfl (fun _ _ => rfl) (fun s13 x19 => (js_par2 (j2 o_sub (j2 o_ix (j_var rfl) (j_var rfl)) (j2 o_ix (j_var rfl) (j_var rfl))) (j2 o_sub (j2 o_ix (j_var rfl) (j_var rfl)) (j2 o_ix (j_var rfl) (j_var rfl))) (fun a33 b34 => (js_last (js_if (jt_an (jt (j2 (o_eq (by decide)) (j_var rfl) (j_c rfl))) (jt (j2 (o_eq (by decide)) (j_var rfl) (j_c rfl)))) (js_augI rfl (j_c rfl) (j_c rfl) (fun v41 => (js_nil rfl rfl))) (js_if (jt (j2 (o_eq (by decide)) (j_var rfl) (j_c rfl))) (js_augI rfl (j_c rfl) (j_c rfl) (fun v45 => (js_nil rfl rfl))) (js_if (jt (j2 (o_eq (by decide)) (j_var rfl) (j_c rfl))) (js_augI rfl (j_c rfl) (j_c rfl) (fun v49 => (js_nil rfl rfl))) (js_augI rfl (j_if (jt (j2 (o_eq (by decide)) (j2 o_gt (j_var rfl) (j_c rfl)) (j2 o_gt (j_var rfl) (j_c rfl)))) (j_c rfl) (j_c rfl)) (j_c rfl) (fun v50 => (js_nil rfl rfl)))))))))) (fun s13 => (js_nil rfl rfl))))) (fun s7 => (js_last (js_frz rfl (js_ret' (j_sh rfl)))))))) r e
def M_pair_outcomes (p0 : (List Int)) (p1 : (List Int)) : Option (Tp Int) := (((some p0).bind fun a1 => (some p1).bind fun a2 => M_check_same a1 a2).bind fun _ => (((some p0).bind fun a3 => (some p1).bind fun a4 => M_outcomes a3 a4).bind fun a5 => some (Tp.mk a5)))
theorem m_pair_outcomes (p0 : (List Int)) (p1 : (List Int)) (r : (Tp Int)) (e : M_pair_outcomes p0 p1 = some r) : C_pair_outcomes [enc p0, enc p1] = .ok (enc r) := fn_ret (F := F_pair_outcomes) (mt := M_pair_outcomes p0 p1) (js_exp (jl2 (g2 m_check_same) (j_sh rfl) (j_sh rfl)) (js_last (js_ret' (jl1 o_tuple (jl2 (g2 m_outcomes) (j_sh rfl) (j_sh rfl)))))) r e
def X_pair_outcomes (p0 : (List Int)) (p1 : (List Int)) : Option Nat := ((some p0).bind fun a6 => (some p1).bind fun a7 => X_check_same a6 a7)
theorem x_pair_outcomes (p0 : (List Int)) (p1 : (List Int)) (k : Nat) (e : X_pair_outcomes p0 p1 = some k) : C_pair_outcomes [enc p0, enc p1] = .er k := fn_x (F := F_pair_outcomes) (mx := X_pair_outcomes p0 p1) (jx_expE (je2 x_check_same (j_sh rfl) (j_sh rfl))) k e
def M_shared_ranks (p0 : (List Int)) : Option (List Int) := (((some p0).bind fun a1 => M_check_scores a1).bind fun _ => ((some ([] : (List Int))).bind fun v2 : (List Int) => ((some p0).bind fun l6 => (oFold (fun (s3 : (List Int)) (x5 : Int) => ((((some p0).bind fun l8 => lim l8 (oComp (fun x7 : Int => ((some x7).bind fun a9 => (some x5).bind fun b10 => some (decide (a9 < b10)))) (fun x7 : Int => (some x7)) l8)).bind fun a11 => some ((a11.length : Nat) : Int)).bind fun v12 : Int => (oApp s3 ((((some (2 : Int)).bind fun a14 => (some v12).bind fun b15 => oMul a14 b15).bind fun a18 => ((some p0).bind fun a16 => (some x5).bind fun b17 => some ((List.count b17 a16 : Nat) : Int)).bind fun b19 => some (a18 + b19)).bind fun a20 => (some (1 : Int)).bind fun b21 => some (a20 + b21)) fun v13 => (some v13)))) l6 v2).bind fun s3 : (List Int) => (some s3))))
theorem m_shared_ranks (p0 : (List Int)) (r : (List Int)) (e : M_shared_ranks p0 = some r) : C_shared_ranks [enc p0] = .ok (enc r) := fn_ret (F := F_shared_ranks) (mt := M_shared_ranks p0) (js_exp (jl1 (g1 m_check_scores) (j_sh rfl)) (js_own (jl0 o_lst0) (fun v2 => (js_forN (en0 := (fun s3 : (List Int) => [some (.sh (enc p0)), some (.ow (List.map enc s3)), none, none, none])) (enb := (fun (s3 : (List Int)) (x5 : Int) => [some (.sh (enc p0)), some (.ow (List.map enc s3)), some (.sh (enc x5)), none, none])) (jl_ls (j_sh rfl)) rfl (fun _ _ => rfl) (fun s3 x5 => (js_set (jl1 o_len (j_comp (jl_ls (j_var rfl)) (fun _ => rfl) (fun x7 => (jt (j2 o_lt (j_var rfl) (j_var rfl)))) (fun x7 => (j_sh rfl)))) (fun v12 => (js_last (js_app rfl (j2 o_add (j2 o_add (j2 o_mul (j_c rfl) (j_var rfl)) (jm1 o_count (j_var rfl) (j_var rfl))) (j_c rfl)) (fun v13 => (js_nil rfl rfl))))))) (fun s3 => (js_last (js_frz rfl (js_ret' (j_sh rfl))))))))) r e
def X_shared_ranks (p0 : (List Int)) : Option Nat := ((some p0).bind fun a22 => X_check_scores a22)
theorem x_shared_ranks (p0 : (List Int)) (k : Nat) (e : X_shared_ranks p0 = some k) : C_shared_ranks [enc p0] = .er k := fn_x (F := F_shared_ranks) (mx := X_shared_ranks p0) (jx_expE (je1 x_check_scores (j_sh rfl))) k e
def M_tie_groups (p0 : (List Int)) : Option (List (Int × Int)) := (((some p0).bind fun a1 => M_check_scores a1).bind fun _ => (((some p0).bind fun a2 => oUni a2).bind fun l8 => lim l8 (oComp (fun x3 : Int => (((some p0).bind fun a9 => (some x3).bind fun b10 => some ((List.count b10 a9 : Nat) : Int)).bind fun a11 => (some (1 : Int)).bind fun b12 => some (decide (b12 < a11)))) (fun x3 : Int => ((some x3).bind fun a6 => ((some p0).bind fun a4 => (some x3).bind fun b5 => some ((List.count b5 a4 : Nat) : Int)).bind fun a7 => some (a6, a7))) l8)))
theorem m_tie_groups (p0 : (List Int)) (r : (List (Int × Int))) (e : M_tie_groups p0 = some r) : C_tie_groups [enc p0] = .ok (enc r) := fn_ret (F := F_tie_groups) (mt := M_tie_groups p0) (js_exp (jl1 (g1 m_check_scores) (j_sh rfl)) (js_last (js_ret' (j_comp (jl_ls (jl1 o_sortSet (j_var rfl))) (fun _ => rfl) (fun x3 => (jt (j2 o_gt (jm1 o_count (j_var rfl) (j_var rfl)) (j_c rfl)))) (fun x3 => (jl2 o_pair (j_sh rfl) (jm1 o_count (j_var rfl) (j_var rfl)))))))) r e
def X_tie_groups (p0 : (List Int)) : Option Nat := ((some p0).bind fun a13 => X_check_scores a13)
theorem x_tie_groups (p0 : (List Int)) (k : Nat) (e : X_tie_groups p0 = some k) : C_tie_groups [enc p0] = .er k := fn_x (F := F_tie_groups) (mx := X_tie_groups p0) (jx_expE (je1 x_check_scores (j_sh rfl))) k e
def M_plain_agreement (p0 : (List Int)) (p1 : (List Int)) : Option (Int × Int) := (((some p0).bind fun a1 => (some p1).bind fun a2 => M_check_same a1 a2).bind fun _ => ((((some p0).bind fun a3 => some ((a3.length : Nat) : Int)).bind fun a4 => (some (1 : Int)).bind fun b5 => some (decide (a4 = b5))).bind fun b6 => if b6 = true then none else (((some p0).bind fun a7 => (some p1).bind fun a8 => M_outcomes a7 a8).bind fun v9 : (List Int) => ((((some v9).bind fun a10 => (some (0 : Int)).bind fun b11 => atI a10 b11).bind fun a14 => ((some v9).bind fun a12 => (some (1 : Int)).bind fun b13 => atI a12 b13).bind fun b15 => some (a14 - b15)).bind fun a24 => ((((some p0).bind fun a16 => some ((a16.length : Nat) : Int)).bind fun a20 => (((some p0).bind fun a17 => some ((a17.length : Nat) : Int)).bind fun a18 => (some (1 : Int)).bind fun b19 => some (a18 - b19)).bind fun b21 => oMul a20 b21).bind fun a22 => (some (2 : Int)).bind fun b23 => oDiv a22 b23).bind fun a25 => M_lowest a24 a25))))
theorem m_plain_agreement (p0 : (List Int)) (p1 : (List Int)) (r : (Int × Int)) (e : M_plain_agreement p0 p1 = some r) : C_plain_agreement [enc p0, enc p1] = .ok (enc r) := fn_ret (F := F_plain_agreement) (mt := M_plain_agreement p0 p1) (js_exp (jl2 (g2 m_check_same) (j_sh rfl) (j_sh rfl)) (js_if (jt (j2 (o_eq (by decide)) (jl1 o_len (j_var rfl)) (j_c rfl))) js_ex (js_nilS (js_set (jl2 (g2 m_outcomes) (j_sh rfl) (j_sh rfl)) (fun v9 => (js_last (js_ret' (jl2 (g2 m_lowest) (j2 o_sub (j2 o_ix (j_var rfl) (j_c rfl)) (j2 o_ix (j_var rfl) (j_c rfl))) (j2 o_div (j2 o_mul (jl1 o_len (j_var rfl)) (j2 o_sub (jl1 o_len (j_var rfl)) (j_c rfl))) (j_c rfl)))))))))) r e
def X_plain_agreement (p0 : (List Int)) (p1 : (List Int)) : Option Nat := ((((some p0).bind fun a26 => (some p1).bind fun a27 => X_check_same a26 a27)).or (((some p0).bind fun a28 => (some p1).bind fun a29 => M_check_same a28 a29).bind fun _ => ((((some p0).bind fun a33 => some ((a33.length : Nat) : Int)).bind fun a34 => (some (1 : Int)).bind fun b35 => some (decide (a34 = b35))).bind fun b36 => if b36 = true then (some 4) else none)))
theorem x_plain_agreement (p0 : (List Int)) (p1 : (List Int)) (k : Nat) (e : X_plain_agreement p0 p1 = some k) : C_plain_agreement [enc p0, enc p1] = .er k := fn_x (F := F_plain_agreement) (mx := X_plain_agreement p0 p1) (jx_or (jx_expE (je2 x_check_same (j_sh rfl) (j_sh rfl))) (jx_exp (jl2 (g2 m_check_same) (j_sh rfl) (j_sh rfl)) (jx_if (jt (j2 (o_eq (by decide)) (jl1 o_len (j_var rfl)) (j_c rfl))) jx_ex jx_no))) k e
def M_untied_agreement (p0 : (List Int)) (p1 : (List Int)) : Option (Int × Int) := (((some p0).bind fun a1 => (some p1).bind fun a2 => M_check_same a1 a2).bind fun _ => (((some p0).bind fun a3 => (some p1).bind fun a4 => M_outcomes a3 a4).bind fun v5 : (List Int) => (((((some v5).bind fun a6 => (some (0 : Int)).bind fun b7 => atI a6 b7).bind fun a10 => ((some v5).bind fun a8 => (some (1 : Int)).bind fun b9 => atI a8 b9).bind fun b11 => some (a10 + b11)).bind fun a12 => (some (0 : Int)).bind fun b13 => some (decide (a12 = b13))).bind fun b14 => if b14 = true then none else ((((some v5).bind fun a15 => (some (0 : Int)).bind fun b16 => atI a15 b16).bind fun a19 => ((some v5).bind fun a17 => (some (1 : Int)).bind fun b18 => atI a17 b18).bind fun b20 => some (a19 - b20)).bind fun a27 => (((some v5).bind fun a21 => (some (0 : Int)).bind fun b22 => atI a21 b22).bind fun a25 => ((some v5).bind fun a23 => (some (1 : Int)).bind fun b24 => atI a23 b24).bind fun b26 => some (a25 + b26)).bind fun a28 => M_lowest a27 a28))))
theorem m_untied_agreement (p0 : (List Int)) (p1 : (List Int)) (r : (Int × Int)) (e : M_untied_agreement p0 p1 = some r) : C_untied_agreement [enc p0, enc p1] = .ok (enc r) := fn_ret (F := F_untied_agreement) (mt := M_untied_agreement p0 p1) (js_exp (jl2 (g2 m_check_same) (j_sh rfl) (j_sh rfl)) (js_set (jl2 (g2 m_outcomes) (j_sh rfl) (j_sh rfl)) (fun v5 => (js_if (jt (j2 (o_eq (by decide)) (j2 o_add (j2 o_ix (j_var rfl) (j_c rfl)) (j2 o_ix (j_var rfl) (j_c rfl))) (j_c rfl))) js_ex (js_nilS (js_last (js_ret' (jl2 (g2 m_lowest) (j2 o_sub (j2 o_ix (j_var rfl) (j_c rfl)) (j2 o_ix (j_var rfl) (j_c rfl))) (j2 o_add (j2 o_ix (j_var rfl) (j_c rfl)) (j2 o_ix (j_var rfl) (j_c rfl))))))))))) r e
def X_untied_agreement (p0 : (List Int)) (p1 : (List Int)) : Option Nat := ((((some p0).bind fun a29 => (some p1).bind fun a30 => X_check_same a29 a30)).or (((some p0).bind fun a31 => (some p1).bind fun a32 => M_check_same a31 a32).bind fun _ => (((some p0).bind fun a33 => (some p1).bind fun a34 => M_outcomes a33 a34).bind fun v35 => (((((some v35).bind fun a36 => (some (0 : Int)).bind fun b37 => atI a36 b37).bind fun a40 => ((some v35).bind fun a38 => (some (1 : Int)).bind fun b39 => atI a38 b39).bind fun b41 => some (a40 + b41)).bind fun a42 => (some (0 : Int)).bind fun b43 => some (decide (a42 = b43))).bind fun b44 => if b44 = true then (some 4) else none))))
theorem x_untied_agreement (p0 : (List Int)) (p1 : (List Int)) (k : Nat) (e : X_untied_agreement p0 p1 = some k) : C_untied_agreement [enc p0, enc p1] = .er k := fn_x (F := F_untied_agreement) (mx := X_untied_agreement p0 p1) (jx_or (jx_expE (je2 x_check_same (j_sh rfl) (j_sh rfl))) (jx_exp (jl2 (g2 m_check_same) (j_sh rfl) (j_sh rfl)) (jx_set (jl2 (g2 m_outcomes) (j_sh rfl) (j_sh rfl)) (fun v35 => (jx_if (jt (j2 (o_eq (by decide)) (j2 o_add (j2 o_ix (j_var rfl) (j_c rfl)) (j2 o_ix (j_var rfl) (j_c rfl))) (j_c rfl))) jx_ex jx_no))))) k e
def M_dense_ranks (p0 : (List Int)) : Option (List Int) := (((some p0).bind fun a1 => M_check_scores a1).bind fun _ => ((some p0).bind fun l10 => lim l10 (oMap (fun x2 : Int => ((some (1 : Int)).bind fun a8 => (((some p0).bind fun l4 => lim l4 (oComp (fun x3 : Int => ((some x3).bind fun a5 => (some x2).bind fun b6 => some (decide (a5 < b6)))) (fun x3 : Int => (some x3)) l4)).bind fun a7 => oUnL a7).bind fun b9 => some (a8 + b9))) l10)))
theorem m_dense_ranks (p0 : (List Int)) (r : (List Int)) (e : M_dense_ranks p0 = some r) : C_dense_ranks [enc p0] = .ok (enc r) := fn_ret (F := F_dense_ranks) (mt := M_dense_ranks p0) (js_exp (jl1 (g1 m_check_scores) (j_sh rfl)) (js_last (js_ret' (j_compA (jl_ls (j_var rfl)) (fun _ => rfl) (fun x2 => (j2 o_add (j_c rfl) (jl1 o_lenSet (j_comp (jl_ls (j_var rfl)) (fun _ => rfl) (fun x3 => (jt (j2 o_lt (j_var rfl) (j_var rfl)))) (fun x3 => (j_sh rfl)))))))))) r e
def X_dense_ranks (p0 : (List Int)) : Option Nat := ((some p0).bind fun a11 => X_check_scores a11)
theorem x_dense_ranks (p0 : (List Int)) (k : Nat) (e : X_dense_ranks p0 = some k) : C_dense_ranks [enc p0] = .er k := fn_x (F := F_dense_ranks) (mx := X_dense_ranks p0) (jx_expE (je1 x_check_scores (j_sh rfl))) k e
def M_first_ranks (p0 : (List Int)) : Option (List Int) := (((some p0).bind fun a1 => M_check_scores a1).bind fun _ => (((((some p0).bind fun a2 => some (enumL 0 a2)).bind fun l6 => lim l6 (oMap (fun x3 : (Int × Int) => ((some x3.2).bind fun a4 => (some x3.1).bind fun a5 => some (a4, a5))) l6)).bind fun a7 => some (sortP a7)).bind fun v8 : (List (Int × Int)) => (((some p0).bind fun a9 => some (enumL 0 a9)).bind fun l17 => lim l17 (oMap (fun x10 : (Int × Int) => (((some v8).bind fun a13 => ((some x10.2).bind fun a11 => (some x10.1).bind fun a12 => some (a11, a12)).bind fun b14 => oIdx a13 b14).bind fun a15 => (some (1 : Int)).bind fun b16 => some (a15 + b16))) l17))))
theorem m_first_ranks (p0 : (List Int)) (r : (List Int)) (e : M_first_ranks p0 = some r) : C_first_ranks [enc p0] = .ok (enc r) := fn_ret (F := F_first_ranks) (mt := M_first_ranks p0) (js_exp (jl1 (g1 m_check_scores) (j_sh rfl)) (js_set (jl1 o_sortP (j_compA (ji1 o_enum (j_var rfl)) (fun _ => rfl) (fun x3 => (jl2 o_pair (j_sh rfl) (j_sh rfl))))) (fun v8 => (js_last (js_ret' (j_compA (ji1 o_enum (j_var rfl)) (fun _ => rfl) (fun x10 => (j2 o_add (jm1 (o_index (by decide)) (j_var rfl) (jl2 o_pair (j_sh rfl) (j_sh rfl))) (j_c rfl))))))))) r e
def X_first_ranks (p0 : (List Int)) : Option Nat := ((some p0).bind fun a18 => X_check_scores a18)
theorem x_first_ranks (p0 : (List Int)) (k : Nat) (e : X_first_ranks p0 = some k) : C_first_ranks [enc p0] = .er k := fn_x (F := F_first_ranks) (mx := X_first_ranks p0) (jx_expE (je1 x_check_scores (j_sh rfl))) k e
def M_turned_over (p0 : (List Int)) : Option (List Int) := (((some p0).bind fun a1 => M_check_ranking a1).bind fun _ => ((some p0).bind fun l8 => lim l8 (oMap (fun x2 : Int => ((((some p0).bind fun a3 => some ((a3.length : Nat) : Int)).bind fun a4 => (some (1 : Int)).bind fun b5 => some (a4 + b5)).bind fun a6 => (some x2).bind fun b7 => some (a6 - b7))) l8)))
theorem m_turned_over (p0 : (List Int)) (r : (List Int)) (e : M_turned_over p0 = some r) : C_turned_over [enc p0] = .ok (enc r) := fn_ret (F := F_turned_over) (mt := M_turned_over p0) (js_exp (jl1 (g1 m_check_ranking) (j_sh rfl)) (js_last (js_ret' (j_compA (jl_ls (j_var rfl)) (fun _ => rfl) (fun x2 => (j2 o_sub (j2 o_add (jl1 o_len (j_var rfl)) (j_c rfl)) (j_var rfl))))))) r e
def X_turned_over (p0 : (List Int)) : Option Nat := ((some p0).bind fun a9 => X_check_ranking a9)
theorem x_turned_over (p0 : (List Int)) (k : Nat) (e : X_turned_over p0 = some k) : C_turned_over [enc p0] = .er k := fn_x (F := F_turned_over) (mx := X_turned_over p0) (jx_expE (je1 x_check_ranking (j_sh rfl))) k e
def M_backward (p0 : (List Int)) : Option (List Int) := (((some p0).bind fun a1 => M_check_ranking a1).bind fun _ => ((some p0).bind fun a2 => some (List.reverse a2)))
theorem m_backward (p0 : (List Int)) (r : (List Int)) (e : M_backward p0 = some r) : C_backward [enc p0] = .ok (enc r) := fn_ret (F := F_backward) (mt := M_backward p0) (js_exp (jl1 (g1 m_check_ranking) (j_sh rfl)) (js_last (js_ret' (j1 o_rev (j_var rfl))))) r e
def X_backward (p0 : (List Int)) : Option Nat := ((some p0).bind fun a3 => X_check_ranking a3)
theorem x_backward (p0 : (List Int)) (k : Nat) (e : X_backward p0 = some k) : C_backward [enc p0] = .er k := fn_x (F := F_backward) (mx := X_backward p0) (jx_expE (je1 x_check_ranking (j_sh rfl))) k e
def M_inverse (p0 : (List Int)) : Option (List Int) := (((some p0).bind fun a1 => M_check_ranking a1).bind fun _ => (((some (1 : Int)).bind fun a5 => (((some p0).bind fun a2 => some ((a2.length : Nat) : Int)).bind fun a3 => (some (1 : Int)).bind fun b4 => some (a3 + b4)).bind fun a6 => oR2 a5 a6).bind fun l12 => lim l12 (oMap (fun x7 : Int => (((some p0).bind fun a8 => (some x7).bind fun b9 => oIdx a8 b9).bind fun a10 => (some (1 : Int)).bind fun b11 => some (a10 + b11))) l12)))
theorem m_inverse (p0 : (List Int)) (r : (List Int)) (e : M_inverse p0 = some r) : C_inverse [enc p0] = .ok (enc r) := fn_ret (F := F_inverse) (mt := M_inverse p0) (js_exp (jl1 (g1 m_check_ranking) (j_sh rfl)) (js_last (js_ret' (j_compA (ji2 o_rng2 (j_c rfl) (j2 o_add (jl1 o_len (j_var rfl)) (j_c rfl))) (fun _ => rfl) (fun x7 => (j2 o_add (jm1 (o_index (by decide)) (j_var rfl) (j_var rfl)) (j_c rfl))))))) r e
def X_inverse (p0 : (List Int)) : Option Nat := ((some p0).bind fun a13 => X_check_ranking a13)
theorem x_inverse (p0 : (List Int)) (k : Nat) (e : X_inverse p0 = some k) : C_inverse [enc p0] = .er k := fn_x (F := F_inverse) (mx := X_inverse p0) (jx_expE (je1 x_check_ranking (j_sh rfl))) k e
def M_led (p0 : (List Int)) (p1 : (List Int)) : Option (List Int) := (((some p0).bind fun a1 => (some p1).bind fun a2 => M_check_both a1 a2).bind fun _ => ((some p0).bind fun l8 => lim l8 (oMap (fun x3 : Int => ((some p1).bind fun a6 => ((some x3).bind fun a4 => (some (1 : Int)).bind fun b5 => some (a4 - b5)).bind fun b7 => atI a6 b7)) l8)))
theorem m_led (p0 : (List Int)) (p1 : (List Int)) (r : (List Int)) (e : M_led p0 p1 = some r) : C_led [enc p0, enc p1] = .ok (enc r) := fn_ret (F := F_led) (mt := M_led p0 p1) (js_exp (jl2 (g2 m_check_both) (j_sh rfl) (j_sh rfl)) (js_last (js_ret' (j_compA (jl_ls (j_var rfl)) (fun _ => rfl) (fun x3 => (j2 o_ix (j_var rfl) (j2 o_sub (j_var rfl) (j_c rfl)))))))) r e
def X_led (p0 : (List Int)) (p1 : (List Int)) : Option Nat := ((some p0).bind fun a9 => (some p1).bind fun a10 => X_check_both a9 a10)
theorem x_led (p0 : (List Int)) (p1 : (List Int)) (k : Nat) (e : X_led p0 p1 = some k) : C_led [enc p0, enc p1] = .er k := fn_x (F := F_led) (mx := X_led p0 p1) (jx_expE (je2 x_check_both (j_sh rfl) (j_sh rfl))) k e
def M_renamed (p0 : (List Int)) (p1 : (List Int)) : Option (List Int) := (((some p0).bind fun a1 => (some p1).bind fun a2 => M_check_both a1 a2).bind fun _ => ((((some (0 : Int)).bind fun a3 => some [a3]).bind fun a5 => ((some p0).bind fun a4 => some ((a4.length : Nat) : Int)).bind fun b6 => oRep a5 b6).bind fun v7 : (List Int) => (((some p0).bind fun a10 => (some p1).bind fun a11 => some (List.zip a10 a11)).bind fun l13 => (oFold (fun (s8 : (List Int)) (x12 : (Int × Int)) => (oSetI s8 (some x12.1) ((some x12.2).bind fun a15 => (some (1 : Int)).bind fun b16 => some (a15 - b16)) fun v14 => (some v14))) l13 v7).bind fun s8 : (List Int) => (some s8))))
theorem m_renamed (p0 : (List Int)) (p1 : (List Int)) (r : (List Int)) (e : M_renamed p0 p1 = some r) : C_renamed [enc p0, enc p1] = .ok (enc r) := fn_ret (F := F_renamed) (mt := M_renamed p0 p1) (js_exp (jl2 (g2 m_check_both) (j_sh rfl) (j_sh rfl)) (js_own (j2 o_rep (jl1 o_lst1 (j_c rfl)) (jl1 o_len (j_var rfl))) (fun v7 => (js_forN (en0 := (fun s8 : (List Int) => [some (.sh (enc p0)), some (.sh (enc p1)), some (.ow (List.map enc s8)), none, none])) (enb := (fun (s8 : (List Int)) (x12 : (Int × Int)) => [some (.sh (enc p0)), some (.sh (enc p1)), some (.ow (List.map enc s8)), some (.sh (enc x12.1)), some (.sh (enc x12.2))])) (ji2 o_zip (j_sh rfl) (j_sh rfl)) rfl (fun _ _ => rfl) (fun s8 x12 => (js_last (js_setI rfl (j_sh rfl) (j2 o_sub (j_var rfl) (j_c rfl)) (fun v14 => (js_nil rfl rfl))))) (fun s8 => (js_last (js_frz rfl (js_ret' (j_sh rfl))))))))) r e
def X_renamed (p0 : (List Int)) (p1 : (List Int)) : Option Nat := ((some p0).bind fun a17 => (some p1).bind fun a18 => X_check_both a17 a18)
theorem x_renamed (p0 : (List Int)) (p1 : (List Int)) (k : Nat) (e : X_renamed p0 p1 = some k) : C_renamed [enc p0, enc p1] = .er k := fn_x (F := F_renamed) (mx := X_renamed p0 p1) (jx_expE (je2 x_check_both (j_sh rfl) (j_sh rfl))) k e
def M_difference (p0 : (List Int)) (p1 : (List Int)) : Option (List Int) := (((some p0).bind fun a1 => (some p1).bind fun a2 => M_check_both a1 a2).bind fun _ => ((some p0).bind fun a3 => (some p1).bind fun a4 => M_seen a3 a4))
theorem m_difference (p0 : (List Int)) (p1 : (List Int)) (r : (List Int)) (e : M_difference p0 p1 = some r) : C_difference [enc p0, enc p1] = .ok (enc r) := fn_ret (F := F_difference) (mt := M_difference p0 p1) (js_exp (jl2 (g2 m_check_both) (j_sh rfl) (j_sh rfl)) (js_last (js_ret' (jl2 (g2 m_seen) (j_sh rfl) (j_sh rfl))))) r e
def X_difference (p0 : (List Int)) (p1 : (List Int)) : Option Nat := ((some p0).bind fun a5 => (some p1).bind fun a6 => X_check_both a5 a6)
theorem x_difference (p0 : (List Int)) (p1 : (List Int)) (k : Nat) (e : X_difference p0 p1 = some k) : C_difference [enc p0, enc p1] = .er k := fn_x (F := F_difference) (mx := X_difference p0 p1) (jx_expE (je2 x_check_both (j_sh rfl) (j_sh rfl))) k e
def M_without_thing (p0 : (List Int)) (p1 : Int) : Option (List Int) := (((some p0).bind fun a1 => M_check_ranking a1).bind fun _ => (((((some p1).bind fun a7 => (some (0 : Int)).bind fun a8 => (((some p0).bind fun a4 => some ((a4.length : Nat) : Int)).bind fun a5 => (some (1 : Int)).bind fun b6 => some (a5 - b6)).bind fun a9 => M_is_int a7 a8 a9).bind fun a3 => some (!a3)).bind fun a2 => if a2 = true then some true else (((some p0).bind fun a10 => some ((a10.length : Nat) : Int)).bind fun a11 => (some (1 : Int)).bind fun b12 => some (decide (a11 = b12)))).bind fun b13 => if b13 = true then none else (((some p0).bind fun a14 => (some p1).bind fun b15 => atI a14 b15).bind fun v16 : Int => ((((some p0).bind fun a18 => (some none).bind fun b19 => ((some p1).bind fun k17 => some (some k17)).bind fun c20 => some (cutD a18 b19 c20)).bind fun a27 => ((some p0).bind fun a24 => (((some p1).bind fun a21 => (some (1 : Int)).bind fun b22 => some (a21 + b22)).bind fun k23 => some (some k23)).bind fun b25 => (some none).bind fun c26 => some (cutD a24 b25 c26)).bind fun b28 => oCat a27 b28).bind fun l35 => lim l35 (oMap (fun x29 : Int => (((some x29).bind fun a30 => (some v16).bind fun b31 => some (decide (b31 < a30))).bind fun a34 => if a34 = true then ((some x29).bind fun a32 => (some (1 : Int)).bind fun b33 => some (a32 - b33)) else (some x29))) l35)))))
theorem m_without_thing (p0 : (List Int)) (p1 : Int) (r : (List Int)) (e : M_without_thing p0 p1 = some r) : C_without_thing [enc p0, enc p1] = .ok (enc r) := fn_ret (F := F_without_thing) (mt := M_without_thing p0 p1) (js_exp (jl1 (g1 m_check_ranking) (j_sh rfl)) (js_if (jt_or (jt_not (jt (jl3 (g3 m_is_int) (j_sh rfl) (j_c rfl) (j2 o_sub (jl1 o_len (j_var rfl)) (j_c rfl))))) (jt (j2 (o_eq (by decide)) (jl1 o_len (j_var rfl)) (j_c rfl)))) js_ex (js_nilS (js_set (j2 o_ix (j_var rfl) (j_var rfl)) (fun v16 => (js_last (js_ret' (j_compA (jl_ls (j2 o_cat (j_sl (j_var rfl) jq_no (jq_part (j_var rfl))) (j_sl (j_var rfl) (jq_part (j2 o_add (j_var rfl) (j_c rfl))) jq_no))) (fun _ => rfl) (fun x29 => (j_if (jt (j2 o_gt (j_var rfl) (j_var rfl))) (j2 o_sub (j_var rfl) (j_c rfl)) (j_sh rfl))))))))))) r e
def X_without_thing (p0 : (List Int)) (p1 : Int) : Option Nat := ((((some p0).bind fun a36 => X_check_ranking a36)).or (((some p0).bind fun a37 => M_check_ranking a37).bind fun _ => (((((some p1).bind fun a46 => (some (0 : Int)).bind fun a47 => (((some p0).bind fun a43 => some ((a43.length : Nat) : Int)).bind fun a44 => (some (1 : Int)).bind fun b45 => some (a44 - b45)).bind fun a48 => M_is_int a46 a47 a48).bind fun a42 => some (!a42)).bind fun a41 => if a41 = true then some true else (((some p0).bind fun a49 => some ((a49.length : Nat) : Int)).bind fun a50 => (some (1 : Int)).bind fun b51 => some (decide (a50 = b51)))).bind fun b52 => if b52 = true then (some 2) else none)))
theorem x_without_thing (p0 : (List Int)) (p1 : Int) (k : Nat) (e : X_without_thing p0 p1 = some k) : C_without_thing [enc p0, enc p1] = .er k := fn_x (F := F_without_thing) (mx := X_without_thing p0 p1) (jx_or (jx_expE (je1 x_check_ranking (j_sh rfl))) (jx_exp (jl1 (g1 m_check_ranking) (j_sh rfl)) (jx_if (jt_or (jt_not (jt (jl3 (g3 m_is_int) (j_sh rfl) (j_c rfl) (j2 o_sub (jl1 o_len (j_var rfl)) (j_c rfl))))) (jt (j2 (o_eq (by decide)) (jl1 o_len (j_var rfl)) (j_c rfl)))) jx_ex jx_no))) k e
def M_joined (p0 : (List Int)) (p1 : (List Int)) : Option (List Int) := (((some p0).bind fun a1 => M_check_ranking a1).bind fun _ => (((some p1).bind fun a2 => M_check_ranking a2).bind fun _ => (((some p0).bind fun a8 => ((some p1).bind fun l7 => lim l7 (oMap (fun x3 : Int => (((some p0).bind fun a4 => some ((a4.length : Nat) : Int)).bind fun a5 => (some x3).bind fun b6 => some (a5 + b6))) l7)).bind fun b9 => oCat a8 b9).bind fun v10 : (List Int) => ((((some v10).bind fun a12 => M_is_ranking a12).bind fun a11 => some (!a11)).bind fun b13 => if b13 = true then none else (some v10)))))
theorem m_joined (p0 : (List Int)) (p1 : (List Int)) (r : (List Int)) (e : M_joined p0 p1 = some r) : C_joined [enc p0, enc p1] = .ok (enc r) := fn_ret (F := F_joined) (mt := M_joined p0 p1) (js_exp (jl1 (g1 m_check_ranking) (j_sh rfl)) (js_exp (jl1 (g1 m_check_ranking) (j_sh rfl)) (js_set (j2 o_cat (j_var rfl) (j_compA (jl_ls (j_var rfl)) (fun _ => rfl) (fun x3 => (j2 o_add (jl1 o_len (j_var rfl)) (j_var rfl))))) (fun v10 => (js_if (jt_not (jt (jl1 (g1 m_is_ranking) (j_sh rfl)))) js_ex (js_nilS (js_last (js_ret' (j_sh rfl))))))))) r e
def X_joined (p0 : (List Int)) (p1 : (List Int)) : Option Nat := ((((some p0).bind fun a14 => X_check_ranking a14)).or (((some p0).bind fun a15 => M_check_ranking a15).bind fun _ => ((((some p1).bind fun a16 => X_check_ranking a16)).or (((some p1).bind fun a17 => M_check_ranking a17).bind fun _ => (((some p0).bind fun a23 => ((some p1).bind fun l22 => lim l22 (oMap (fun x18 : Int => (((some p0).bind fun a19 => some ((a19.length : Nat) : Int)).bind fun a20 => (some x18).bind fun b21 => some (a20 + b21))) l22)).bind fun b24 => oCat a23 b24).bind fun v25 => ((((some v25).bind fun a27 => M_is_ranking a27).bind fun a26 => some (!a26)).bind fun b28 => if b28 = true then (some 0) else none))))))
theorem x_joined (p0 : (List Int)) (p1 : (List Int)) (k : Nat) (e : X_joined p0 p1 = some k) : C_joined [enc p0, enc p1] = .er k := fn_x (F := F_joined) (mx := X_joined p0 p1) (jx_or (jx_expE (je1 x_check_ranking (j_sh rfl))) (jx_exp (jl1 (g1 m_check_ranking) (j_sh rfl)) (jx_or (jx_expE (je1 x_check_ranking (j_sh rfl))) (jx_exp (jl1 (g1 m_check_ranking) (j_sh rfl)) (jx_set (j2 o_cat (j_var rfl) (j_compA (jl_ls (j_var rfl)) (fun _ => rfl) (fun x18 => (j2 o_add (jl1 o_len (j_var rfl)) (j_var rfl))))) (fun v25 => (jx_if (jt_not (jt (jl1 (g1 m_is_ranking) (j_sh rfl)))) jx_ex jx_no))))))) k e
def M_exchanged (p0 : (List Int)) (p1 : Int) : Option (List Int) := ((some p0).bind fun l12 => lim l12 (oMap (fun x1 : Int => (((some x1).bind fun a2 => (some p1).bind fun b3 => some (decide (a2 = b3))).bind fun a11 => if a11 = true then ((some p1).bind fun a4 => (some (1 : Int)).bind fun b5 => some (a4 + b5)) else (((some x1).bind fun a8 => ((some p1).bind fun a6 => (some (1 : Int)).bind fun b7 => some (a6 + b7)).bind fun b9 => some (decide (a8 = b9))).bind fun a10 => if a10 = true then (some p1) else (some x1)))) l12))
theorem m_exchanged (p0 : (List Int)) (p1 : Int) (r : (List Int)) (e : M_exchanged p0 p1 = some r) : C_exchanged [enc p0, enc p1] = .ok (enc r) := fn_ret (F := F_exchanged) (mt := M_exchanged p0 p1) (js_last (js_ret' (j_compA (jl_ls (j_var rfl)) (fun _ => rfl) (fun x1 => (j_if (jt (j2 (o_eq (by decide)) (j_var rfl) (j_var rfl))) (j2 o_add (j_var rfl) (j_c rfl)) (j_if (jt (j2 (o_eq (by decide)) (j_var rfl) (j2 o_add (j_var rfl) (j_c rfl)))) (j_sh rfl) (j_sh rfl))))))) r e
def M__law_exchanged (p0 : (List Int)) (p1 : Int) : Option (List Int) := ((some p0).bind fun l12 => lim l12 (oMap (fun x1 : Int => (((some x1).bind fun a2 => (some p1).bind fun b3 => some (decide (a2 = b3))).bind fun a11 => if a11 = true then ((some p1).bind fun a4 => (some (1 : Int)).bind fun b5 => some (a4 + b5)) else (((some x1).bind fun a8 => ((some p1).bind fun a6 => (some (1 : Int)).bind fun b7 => some (a6 + b7)).bind fun b9 => some (decide (a8 = b9))).bind fun a10 => if a10 = true then (some p1) else (some x1)))) l12))
theorem m__law_exchanged (p0 : (List Int)) (p1 : Int) (r : (List Int)) (e : M__law_exchanged p0 p1 = some r) : C__law_exchanged [enc p0, enc p1] = .ok (enc r) := fn_ret (F := F__law_exchanged) (mt := M__law_exchanged p0 p1) (js_last (js_ret' (j_compA (jl_ls (j_var rfl)) (fun _ => rfl) (fun x1 => (j_if (jt (j2 (o_eq (by decide)) (j_var rfl) (j_var rfl))) (j2 o_add (j_var rfl) (j_c rfl)) (j_if (jt (j2 (o_eq (by decide)) (j_var rfl) (j2 o_add (j_var rfl) (j_c rfl)))) (j_sh rfl) (j_sh rfl))))))) r e
def M_check_text (p0 : Int) : Option Unit := ((((some p0).bind fun a2 => some (isiB "int" "str")).bind fun a1 => some (!a1)).bind fun b3 => if b3 = true then none else (some ()))
theorem m_check_text (p0 : Int) (r : Unit) (e : M_check_text p0 = some r) : C_check_text [enc p0] = .ok (enc r) := fn_nil (F := F_check_text) (mt := M_check_text p0) (js_last (js_if (jt_not (jt (j1 (fun a r e => o_isiI a _ r e) (j_var rfl)))) js_ex (js_nilS (js_nil rfl trivial)))) r e
def X_check_text (p0 : Int) : Option Nat := ((((some p0).bind fun a5 => some (isiB "int" "str")).bind fun a4 => some (!a4)).bind fun b6 => if b6 = true then (some 3) else none)
theorem x_check_text (p0 : Int) (k : Nat) (e : X_check_text p0 = some k) : C_check_text [enc p0] = .er k := fn_x (F := F_check_text) (mx := X_check_text p0) (jx_last (jx_if (jt_not (jt (j1 (fun a r e => o_isiI a _ r e) (j_var rfl)))) jx_ex jx_no)) k e
def M__wall (p0 : Int) : Option Unit := ((oWhile (fun s1 : Unit => (some true)) (fun s1 : Unit => (some ())) 1000 ()).bind fun s1 : Unit => (some ()))
theorem m__wall (p0 : Int) (r : Unit) (e : M__wall p0 = some r) : C__wall [enc p0] = .ok (enc r) := fn_nil (F := F__wall) (mt := M__wall p0) (js_last (js_while (en0 := (fun s1 : Unit => [some (.sh (enc p0))])) rfl (fun s1 => (jt (j_c rfl))) (fun s1 => (js_nil rfl rfl)) (fun s1 => (js_nil rfl trivial)))) r e
end AG

namespace K07
open PySem L2 DL AG
open DL.Enc (enc)
def M__law_call (p0 : Int) (p1 : Int) (p2 : Int) (p3 : Int) (p4 : Int) : Option ((List Int) ⊕ Tx) := ((some ()).bind fun v1 : Unit => ((some ()).bind fun v2 : Unit => (oTry ((((some p0).bind fun a3 => (some (0 : Int)).bind fun b4 => some (decide (a3 = b4))).bind fun a12 => if a12 = true then ((some p1).bind fun a5 => (some p2).bind fun a6 => (some p3).bind fun a7 => M_first_with a5 a6 a7) else ((some p1).bind fun a8 => (some p2).bind fun a9 => (some p3).bind fun a10 => (some p4).bind fun a11 => M_order_at a8 a9 a10 a11)).bind fun v13 : (List Int) => (some v13)) (((some p0).bind fun a21 => (some (0 : Int)).bind fun b22 => some (decide (a21 = b22))).bind fun b23 => if b23 = true then ((some p1).bind fun a14 => (some p2).bind fun a15 => (some p3).bind fun a16 => X_first_with a14 a15 a16) else ((some p1).bind fun a17 => (some p2).bind fun a18 => (some p3).bind fun a19 => (some p4).bind fun a20 => X_order_at a17 a18 a19 a20)))))
theorem m__law_call (p0 : Int) (p1 : Int) (p2 : Int) (p3 : Int) (p4 : Int) (r : ((List Int) ⊕ Tx)) (e : M__law_call p0 p1 p2 p3 p4 = some r) : C__law_call [enc p0, enc p1, enc p2, enc p3, enc p4] = .ok (enc r) := fn_ret (F := F__law_call) (mt := M__law_call p0 p1 p2 p3 p4) (js_set (j_c rfl) (fun v1 => (js_set (j_c rfl) (fun v2 => (js_last (js_tryL (js_tryR (fa := fSh 5) (js_last (js_set (j_if (jt (j2 (o_eq (by decide)) (j_var rfl) (j_c rfl))) (jl3 (g3 m_first_with) (j_sh rfl) (j_sh rfl) (j_sh rfl)) (jl4 (g4 m_order_at) (j_sh rfl) (j_sh rfl) (j_sh rfl) (j_sh rfl))) (fun v13 => (js_nil rfl ⟨rfl, r_sh rfl⟩)))) (jx_last (jx_setE (je_if (jt (j2 (o_eq (by decide)) (j_var rfl) (j_c rfl))) (je3 x_first_with (j_sh rfl) (j_sh rfl) (j_sh rfl)) (je4 x_order_at (j_sh rfl) (j_sh rfl) (j_sh rfl) (j_sh rfl))))) (by show 7 < 8; decide) (by show 6 < 8; decide) (by decide)))))))) r e
abbrev Q_5 (u2 : Int) (u3 : (List Int)) (u4 : (List ((Int × Int) × (List (List Int))))) (u5 : (List (List Int))) (u8 : Int) (u9 : Int) (u10 : (List (List Int))) (u11 : Int) (u12 : (List Int)) (u13 : Int) : Prop := (∃ v126 : Int, (((some u13).bind fun a122 => ((some u13).bind fun a120 => (some (1 : Int)).bind fun b121 => some (a120 - b121)).bind fun b123 => oMul a122 b123).bind fun a124 => (some (2 : Int)).bind fun b125 => oDiv a124 b125) = some v126 ∧
  (∃ v134 : (List Int), ((((some v126).bind fun a127 => (some (1 : Int)).bind fun b128 => some (a127 + b128)).bind fun a129 => oR1 a129).bind fun l133 => lim l133 (oMap (fun x130 : Int => ((some u13).bind fun a131 => (some x130).bind fun a132 => M_count_with a131 a132)) l133)) = some v134 ∧
  (∃ v135 : Int, (some (1 : Int)) = some v135 ∧
  (∃ s136 : Int, (((some (2 : Int)).bind fun a140 => ((some u13).bind fun a138 => (some (1 : Int)).bind fun b139 => some (a138 + b139)).bind fun a141 => oR2 a140 a141).bind fun l143 => (oFold (fun (s137 : Int) (x142 : Int) => (((some s137).bind fun a144 => (some x142).bind fun b145 => oMul a144 b145).bind fun v146 : Int => (some v146))) l143 v135).bind fun s137 : Int => (some s137)) = some s136 ∧
  (((((some v134).bind fun a147 => some (List.sum a147)).bind fun a148 => (some s136).bind fun b149 => some (decide (a148 = b149))).bind fun a162 => if a162 = true then (((some v134).bind fun a151 => ((some v134).bind fun a150 => some (List.reverse a150)).bind fun b152 => some (decide (a151 = b152))).bind fun a161 => if a161 = true then (((some u13).bind fun a157 => ((some (200 : Int)).bind fun a155 => ((some v126).bind fun a153 => (some (1 : Int)).bind fun b154 => some (a153 + b154)).bind fun a156 => some (if a156 < a155 then a156 else a155)).bind fun a158 => M_count_with a157 a158).bind fun a159 => (some (0 : Int)).bind fun b160 => some (decide (a159 = b160))) else some false) else some false) = some true)))))
theorem s_5 (ad an : Nat) (u2 : Int) (u3 : (List Int)) (u4 : (List ((Int × Int) × (List (List Int))))) (u5 : (List (List Int))) (u8 : Int) (u9 : Int) (u10 : (List (List Int))) (u11 : Int) (u12 : (List Int)) (u13 : Int) (h : Q_5 u2 u3 u4 u5 u8 u9 u10 u11 u12 u13) : KW (wSeq (ls (sSet 14 (ap2 dFdiv (ap2 dMul (fVar 13) (ap2 dSub (fVar 13) (fC (.int 1)))) (fC (.int 2))))) (wSeq (ls (sSet 6 (fComp (apI dRng (fCons (ap2 dAdd (fVar 14) (fC (.int 1))) fNil)) (.nm 16) tTrue (apL (callX 2 C_count_with) (fCons (fSh 13) (fCons (fSh 16) fNil))) [16]))) (wSeq (ls (sSet 15 (fC (.int 1)))) (wSeq (ls (sFor (apI dRng (fCons (fC (.int 2)) (fCons (ap2 dAdd (fVar 13) (fC (.int 1))) fNil))) (.nm 16) [16] (sSet 15 (ap2 dMul (fVar 15) (fVar 16))))) (ls (sRet (fAnd (ap2 dEq (apL dSum (fCons (fVar 6) fNil)) (fVar 15)) (fAnd (ap2 dEq (fVar 6) (ap1 dRev (fVar 6))) (ap2 dEq (apL (callX 2 C_count_with) (fCons (fSh 13) (fCons (apL dMin (fCons (fC (.int 200)) (fCons (ap2 dAdd (fVar 14) (fC (.int 1))) fNil))) fNil))) (fC (.int 0))))))))))) [none, some (.dr ad an), some (.sh (enc u2)), some (.sh (enc u3)), some (.mo (.dk (dkE u4))), some (.sh (enc u5)), none, none, some (.sh (enc u8)), some (.sh (enc u9)), some (.sh (enc u10)), some (.sh (enc u11)), some (.sh (enc u12)), some (.sh (enc u13)), none, none, none] := by
  unfold Q_5 at h
  obtain ⟨v126, ev126, h⟩ := h
  refine kw_set (j2 o_div (j2 o_mul (j_var rfl) (j2 o_sub (j_var rfl) (j_c rfl))) (j_c rfl)) ev126 ?_
  change KW _ [none, some (.dr ad an), some (.sh (enc u2)), some (.sh (enc u3)), some (.mo (.dk (dkE u4))), some (.sh (enc u5)), none, none, some (.sh (enc u8)), some (.sh (enc u9)), some (.sh (enc u10)), some (.sh (enc u11)), some (.sh (enc u12)), some (.sh (enc u13)), some (.sh (enc v126)), none, none]
  obtain ⟨v134, ev134, h⟩ := h
  refine kw_set (j_compA (ji1 o_rng1 (j2 o_add (j_var rfl) (j_c rfl))) (fun _ => rfl) (fun x130 => (jl2 (g2 m_count_with) (j_sh rfl) (j_sh rfl)))) ev134 ?_
  change KW _ [none, some (.dr ad an), some (.sh (enc u2)), some (.sh (enc u3)), some (.mo (.dk (dkE u4))), some (.sh (enc u5)), some (.sh (enc v134)), none, some (.sh (enc u8)), some (.sh (enc u9)), some (.sh (enc u10)), some (.sh (enc u11)), some (.sh (enc u12)), some (.sh (enc u13)), some (.sh (enc v126)), none, none]
  obtain ⟨v135, ev135, h⟩ := h
  refine kw_set (j_c rfl) ev135 ?_
  change KW _ [none, some (.dr ad an), some (.sh (enc u2)), some (.sh (enc u3)), some (.mo (.dk (dkE u4))), some (.sh (enc u5)), some (.sh (enc v134)), none, some (.sh (enc u8)), some (.sh (enc u9)), some (.sh (enc u10)), some (.sh (enc u11)), some (.sh (enc u12)), some (.sh (enc u13)), some (.sh (enc v126)), some (.sh (enc v135)), none]
  obtain ⟨s136, es136, h⟩ := h
  refine kw_lsN (en := fun s136 : Int => [none, some (.dr ad an), some (.sh (enc u2)), some (.sh (enc u3)), some (.mo (.dk (dkE u4))), some (.sh (enc u5)), some (.sh (enc v134)), none, some (.sh (enc u8)), some (.sh (enc u9)), some (.sh (enc u10)), some (.sh (enc u11)), some (.sh (enc u12)), some (.sh (enc u13)), some (.sh (enc v126)), some (.sh (enc s136)), none]) (js_last (js_forN (en0 := (fun s137 : Int => [none, some (.dr ad an), some (.sh (enc u2)), some (.sh (enc u3)), some (.mo (.dk (dkE u4))), some (.sh (enc u5)), some (.sh (enc v134)), none, some (.sh (enc u8)), some (.sh (enc u9)), some (.sh (enc u10)), some (.sh (enc u11)), some (.sh (enc u12)), some (.sh (enc u13)), some (.sh (enc v126)), some (.sh (enc s137)), none])) (enb := (fun (s137 : Int) (x142 : Int) => [none, some (.dr ad an), some (.sh (enc u2)), some (.sh (enc u3)), some (.mo (.dk (dkE u4))), some (.sh (enc u5)), some (.sh (enc v134)), none, some (.sh (enc u8)), some (.sh (enc u9)), some (.sh (enc u10)), some (.sh (enc u11)), some (.sh (enc u12)), some (.sh (enc u13)), some (.sh (enc v126)), some (.sh (enc s137)), some (.sh (enc x142))])) (ji2 o_rng2 (j_c rfl) (j2 o_add (j_var rfl) (j_c rfl))) rfl (fun _ _ => rfl) (fun s137 x142 => (js_last (js_set (j2 o_mul (j_var rfl) (j_var rfl)) (fun v146 => (js_nil rfl rfl))))) (fun s137 => (js_nil rfl rfl)))) es136 ?_
  change KW _ [none, some (.dr ad an), some (.sh (enc u2)), some (.sh (enc u3)), some (.mo (.dk (dkE u4))), some (.sh (enc u5)), some (.sh (enc v134)), none, some (.sh (enc u8)), some (.sh (enc u9)), some (.sh (enc u10)), some (.sh (enc u11)), some (.sh (enc u12)), some (.sh (enc u13)), some (.sh (enc v126)), some (.sh (enc s136)), none]
  exact kw_ret (j_and (j2 (o_eq (by decide)) (jl1 o_sum (j_var rfl)) (j_var rfl)) (j_and (j2 (o_eq (by decide)) (j_var rfl) (j1 o_rev (j_var rfl))) (j2 (o_eq (by decide)) (jl2 (g2 m_count_with) (j_sh rfl) (jl2 o_min2 (j_c rfl) (j2 o_add (j_var rfl) (j_c rfl)))) (j_c rfl)))) h
abbrev Q_4 (u2 : Int) (u3 : (List Int)) (u4 : (List ((Int × Int) × (List (List Int))))) (u5 : (List (List Int))) (u8 : Int) (u9 : Int) (u10 : (List (List Int))) (u11 : Int) : Prop := ((((some (1 : Int)).bind fun a83 => (some u2).bind fun a84 => (some u8).bind fun a85 => (some u9).bind fun a86 => (some u11).bind fun a87 => M__law_call a83 a84 a85 a86 a87).bind fun a95 => (((some u11).bind fun a89 => ((some u10).bind fun a88 => some ((a88.length : Nat) : Int)).bind fun b90 => some (decide (a89 < b90))).bind fun a93 => if a93 = true then (((some u10).bind fun a91 => (some u11).bind fun b92 => atI a91 b92).bind fun x94 => some (Sum.inl x94 : ((List Int) ⊕ Tx))) else ((some (⟨"number", by decide +kernel⟩ : Tx)).bind fun x94 => some (Sum.inr x94 : ((List Int) ⊕ Tx)))).bind fun b96 => some (!decide (a95 = b96))) = some false ∧
  (∃ v108 : (List Int), (((some (16 : Int)).bind fun a97 => oR1 a97).bind fun l107 => lim l107 (oMap (fun x98 : Int => (((some u5).bind fun l100 => lim l100 (oComp (fun x99 : (List Int) => ((((some u3).bind fun a101 => (some x99).bind fun a102 => M__law_against a101 a102).bind fun a103 => some ((a103.length : Nat) : Int)).bind fun a104 => (some x98).bind fun b105 => some (decide (a104 = b105)))) (fun x99 : (List Int) => (some x99)) l100)).bind fun a106 => some ((a106.length : Nat) : Int))) l107)) = some v108 ∧
  (((((some (16 : Int)).bind fun a109 => oR1 a109).bind fun l113 => lim l113 (oMap (fun x110 : Int => ((some u2).bind fun a111 => (some x110).bind fun a112 => M_count_with a111 a112)) l113)).bind fun a114 => (some v108).bind fun b115 => some (!decide (a114 = b115))) = some false ∧
  (∃ w116, (some (1 : Int)) = some w116 ∧ (∃ w117, (some (11 : Int)) = some w117 ∧ ((0 < w117 ∧ w117 < 1073741824) ∧ ∀ r118 : Int, 0 ≤ r118 → r118 < w117 → (∃ z119, some (w116 + r118) = some z119 ∧ Q_5 (u2) (u3) (u4) (u5) (u8) (u9) (u10) (u11) (v108) z119)))))))
theorem s_4 (ad an : Nat) (u2 : Int) (u3 : (List Int)) (u4 : (List ((Int × Int) × (List (List Int))))) (u5 : (List (List Int))) (u8 : Int) (u9 : Int) (u10 : (List (List Int))) (u11 : Int) (h : Q_4 u2 u3 u4 u5 u8 u9 u10 u11) : KW (wSeq (ls (sIf (tVal (ap2 dNe (apL (callX 5 C__law_call) (fCons (fC (.int 1)) (fCons (fSh 2) (fCons (fSh 8) (fCons (fSh 9) (fCons (fSh 11) fNil)))))) (fIf (tVal (ap2 dLt (fVar 11) (apL dLen (fCons (fVar 10) fNil)))) (ap2 dIx (fVar 10) (fVar 11)) (fC (.str "number"))))) (sRet (fC (.bool false))) sNil)) (wSeq (ls (sSet 12 (fComp (apI dRng (fCons (fC (.int 16)) fNil)) (.nm 16) tTrue (apL dLen (fCons (fComp (iLs (fVar 5)) (.nm 6) (tVal (ap2 dEq (apL dLen (fCons (apL (callX 2 C__law_against) (fCons (fSh 3) (fCons (fSh 6) fNil))) fNil)) (fVar 16))) (fSh 6) [6]) fNil)) [16]))) (wSeq (ls (sIf (tVal (ap2 dNe (fComp (apI dRng (fCons (fC (.int 16)) fNil)) (.nm 16) tTrue (apL (callX 2 C_count_with) (fCons (fSh 2) (fCons (fSh 16) fNil))) [16]) (fVar 12))) (sRet (fC (.bool false))) sNil)) (wSeq (wSet 13 (wOp dAddI (lf (fC (.int 1))) (wDraw 1 (lf (fC (.int 11)))))) (wSeq (ls (sSet 14 (ap2 dFdiv (ap2 dMul (fVar 13) (ap2 dSub (fVar 13) (fC (.int 1)))) (fC (.int 2))))) (wSeq (ls (sSet 6 (fComp (apI dRng (fCons (ap2 dAdd (fVar 14) (fC (.int 1))) fNil)) (.nm 16) tTrue (apL (callX 2 C_count_with) (fCons (fSh 13) (fCons (fSh 16) fNil))) [16]))) (wSeq (ls (sSet 15 (fC (.int 1)))) (wSeq (ls (sFor (apI dRng (fCons (fC (.int 2)) (fCons (ap2 dAdd (fVar 13) (fC (.int 1))) fNil))) (.nm 16) [16] (sSet 15 (ap2 dMul (fVar 15) (fVar 16))))) (ls (sRet (fAnd (ap2 dEq (apL dSum (fCons (fVar 6) fNil)) (fVar 15)) (fAnd (ap2 dEq (fVar 6) (ap1 dRev (fVar 6))) (ap2 dEq (apL (callX 2 C_count_with) (fCons (fSh 13) (fCons (apL dMin (fCons (fC (.int 200)) (fCons (ap2 dAdd (fVar 14) (fC (.int 1))) fNil))) fNil))) (fC (.int 0))))))))))))))) [none, some (.dr ad an), some (.sh (enc u2)), some (.sh (enc u3)), some (.mo (.dk (dkE u4))), some (.sh (enc u5)), none, none, some (.sh (enc u8)), some (.sh (enc u9)), some (.sh (enc u10)), some (.sh (enc u11)), none, none, none, none, none] := by
  unfold Q_4 at h
  obtain ⟨e0, h⟩ := h
  refine kw_if (jt (j2 (o_ne (by decide)) (jl5 (g5 m__law_call) (j_c rfl) (j_sh rfl) (j_sh rfl) (j_sh rfl) (j_sh rfl)) (j_if (jt (j2 o_lt (j_var rfl) (jl1 o_len (j_var rfl)))) (j_inl (j2 o_ix (j_var rfl) (j_var rfl))) (j_inr (j_c rfl))))) e0 ?_
  obtain ⟨v108, ev108, h⟩ := h
  refine kw_set (j_compA (ji1 o_rng1 (j_c rfl)) (fun _ => rfl) (fun x98 => (jl1 o_len (j_comp (jl_ls (j_var rfl)) (fun _ => rfl) (fun x99 => (jt (j2 (o_eq (by decide)) (jl1 o_len (jl2 (g2 m__law_against) (j_sh rfl) (j_sh rfl))) (j_var rfl)))) (fun x99 => (j_sh rfl)))))) ev108 ?_
  change KW _ [none, some (.dr ad an), some (.sh (enc u2)), some (.sh (enc u3)), some (.mo (.dk (dkE u4))), some (.sh (enc u5)), none, none, some (.sh (enc u8)), some (.sh (enc u9)), some (.sh (enc u10)), some (.sh (enc u11)), some (.sh (enc v108)), none, none, none, none]
  obtain ⟨e0, h⟩ := h
  refine kw_if (jt (j2 (o_ne (by decide)) (j_compA (ji1 o_rng1 (j_c rfl)) (fun _ => rfl) (fun x110 => (jl2 (g2 m_count_with) (j_sh rfl) (j_sh rfl)))) (j_var rfl))) e0 ?_
  exact kw_wset (p := fun v163 => Q_5 (u2) (u3) (u4) (u5) (u8) (u9) (u10) (u11) (v108) v163) (wq_op o_addI (wq_lf (j_c rfl)) (wq_draw ⟨_, _, rfl⟩ (wq_lf (j_c rfl)))) (fun v163 h => s_5 ad an (u2) (u3) (u4) (u5) (u8) (u9) (u10) (u11) (v108) v163 h) h
abbrev Q_3 (u2 : Int) (u3 : (List Int)) (u4 : (List ((Int × Int) × (List (List Int))))) (u5 : (List (List Int))) (u8 : Int) (u9 : Int) : Prop := (∃ v50 : (List (List Int)), (((some u8).bind fun a46 => (some u9).bind fun a47 => some (a46, a47)).bind fun a48 => (some ([] : (List (List Int)))).bind fun b49 => some ((getP u4 a48).getD b49)) = some v50 ∧
  (((((some u2).bind fun a52 => (some u8).bind fun a53 => (some u9).bind fun a54 => M_orders_with a52 a53 a54).bind fun a55 => (some v50).bind fun b56 => some (!decide (a55 = b56))).bind fun a51 => if a51 = true then some true else ((((some u2).bind fun a58 => (some u8).bind fun a59 => (some u9).bind fun a60 => M_can_be a58 a59 a60).bind fun a63 => ((some v50).bind fun a61 => (some ([] : (List (List Int)))).bind fun b62 => some (!decide (a61 = b62))).bind fun a64 => M__law_true a63 a64).bind fun a57 => some (!a57))) = some false ∧
  ((((some (0 : Int)).bind fun a65 => (some u2).bind fun a66 => (some u8).bind fun a67 => (some u9).bind fun a68 => (some (0 : Int)).bind fun a69 => M__law_call a65 a66 a67 a68 a69).bind fun a76 => (((some v50).bind fun a70 => (some ([] : (List (List Int)))).bind fun b71 => some (!decide (a70 = b71))).bind fun a74 => if a74 = true then (((some v50).bind fun a72 => (some (0 : Int)).bind fun b73 => atI a72 b73).bind fun x75 => some (Sum.inl x75 : ((List Int) ⊕ Tx))) else ((some (⟨"none", by decide +kernel⟩ : Tx)).bind fun x75 => some (Sum.inr x75 : ((List Int) ⊕ Tx)))).bind fun b77 => some (!decide (a76 = b77))) = some false ∧
  (∃ w81, (((some v50).bind fun a78 => some ((a78.length : Nat) : Int)).bind fun a79 => (some (1 : Int)).bind fun b80 => some (a79 + b80)) = some w81 ∧ ((0 < w81 ∧ w81 < 1073741824) ∧ ∀ r82 : Int, 0 ≤ r82 → r82 < w81 → Q_4 (u2) (u3) (u4) (u5) (u8) (u9) (v50) r82)))))
theorem s_3 (ad an : Nat) (u2 : Int) (u3 : (List Int)) (u4 : (List ((Int × Int) × (List (List Int))))) (u5 : (List (List Int))) (u8 : Int) (u9 : Int) (h : Q_3 u2 u3 u4 u5 u8 u9) : KW (wSeq (ls (sSet 10 (fDGet 4 (apL dTup (fCons (fSh 8) (fCons (fSh 9) fNil))) (apL dLst fNil)))) (wSeq (ls (sIf (tOrr (tVal (ap2 dNe (apL (callX 3 C_orders_with) (fCons (fSh 2) (fCons (fSh 8) (fCons (fSh 9) fNil)))) (fVar 10))) (tNt (tVal (apL (callX 2 C__law_true) (fCons (apL (callX 3 C_can_be) (fCons (fSh 2) (fCons (fSh 8) (fCons (fSh 9) fNil)))) (fCons (ap2 dNe (fVar 10) (apL dLst fNil)) fNil)))))) (sRet (fC (.bool false))) sNil)) (wSeq (ls (sIf (tVal (ap2 dNe (apL (callX 5 C__law_call) (fCons (fC (.int 0)) (fCons (fSh 2) (fCons (fSh 8) (fCons (fSh 9) (fCons (fC (.int 0)) fNil)))))) (fIf (tVal (ap2 dNe (fVar 10) (apL dLst fNil))) (ap2 dIx (fVar 10) (fC (.int 0))) (fC (.str "none"))))) (sRet (fC (.bool false))) sNil)) (wSeq (wSet 11 (wDraw 1 (lf (ap2 dAdd (apL dLen (fCons (fVar 10) fNil)) (fC (.int 1)))))) (wSeq (ls (sIf (tVal (ap2 dNe (apL (callX 5 C__law_call) (fCons (fC (.int 1)) (fCons (fSh 2) (fCons (fSh 8) (fCons (fSh 9) (fCons (fSh 11) fNil)))))) (fIf (tVal (ap2 dLt (fVar 11) (apL dLen (fCons (fVar 10) fNil)))) (ap2 dIx (fVar 10) (fVar 11)) (fC (.str "number"))))) (sRet (fC (.bool false))) sNil)) (wSeq (ls (sSet 12 (fComp (apI dRng (fCons (fC (.int 16)) fNil)) (.nm 16) tTrue (apL dLen (fCons (fComp (iLs (fVar 5)) (.nm 6) (tVal (ap2 dEq (apL dLen (fCons (apL (callX 2 C__law_against) (fCons (fSh 3) (fCons (fSh 6) fNil))) fNil)) (fVar 16))) (fSh 6) [6]) fNil)) [16]))) (wSeq (ls (sIf (tVal (ap2 dNe (fComp (apI dRng (fCons (fC (.int 16)) fNil)) (.nm 16) tTrue (apL (callX 2 C_count_with) (fCons (fSh 2) (fCons (fSh 16) fNil))) [16]) (fVar 12))) (sRet (fC (.bool false))) sNil)) (wSeq (wSet 13 (wOp dAddI (lf (fC (.int 1))) (wDraw 1 (lf (fC (.int 11)))))) (wSeq (ls (sSet 14 (ap2 dFdiv (ap2 dMul (fVar 13) (ap2 dSub (fVar 13) (fC (.int 1)))) (fC (.int 2))))) (wSeq (ls (sSet 6 (fComp (apI dRng (fCons (ap2 dAdd (fVar 14) (fC (.int 1))) fNil)) (.nm 16) tTrue (apL (callX 2 C_count_with) (fCons (fSh 13) (fCons (fSh 16) fNil))) [16]))) (wSeq (ls (sSet 15 (fC (.int 1)))) (wSeq (ls (sFor (apI dRng (fCons (fC (.int 2)) (fCons (ap2 dAdd (fVar 13) (fC (.int 1))) fNil))) (.nm 16) [16] (sSet 15 (ap2 dMul (fVar 15) (fVar 16))))) (ls (sRet (fAnd (ap2 dEq (apL dSum (fCons (fVar 6) fNil)) (fVar 15)) (fAnd (ap2 dEq (fVar 6) (ap1 dRev (fVar 6))) (ap2 dEq (apL (callX 2 C_count_with) (fCons (fSh 13) (fCons (apL dMin (fCons (fC (.int 200)) (fCons (ap2 dAdd (fVar 14) (fC (.int 1))) fNil))) fNil))) (fC (.int 0))))))))))))))))))) [none, some (.dr ad an), some (.sh (enc u2)), some (.sh (enc u3)), some (.mo (.dk (dkE u4))), some (.sh (enc u5)), none, none, some (.sh (enc u8)), some (.sh (enc u9)), none, none, none, none, none, none, none] := by
  unfold Q_3 at h
  obtain ⟨v50, ev50, h⟩ := h
  refine kw_set (j_dget rfl (jl2 o_pair (j_sh rfl) (j_sh rfl)) (jl0 o_lst0)) ev50 ?_
  change KW _ [none, some (.dr ad an), some (.sh (enc u2)), some (.sh (enc u3)), some (.mo (.dk (dkE u4))), some (.sh (enc u5)), none, none, some (.sh (enc u8)), some (.sh (enc u9)), some (.sh (enc v50)), none, none, none, none, none, none]
  obtain ⟨e0, h⟩ := h
  refine kw_if (jt_or (jt (j2 (o_ne (by decide)) (jl3 (g3 m_orders_with) (j_sh rfl) (j_sh rfl) (j_sh rfl)) (j_var rfl))) (jt_not (jt (jl2 (g2 m__law_true) (jl3 (g3 m_can_be) (j_sh rfl) (j_sh rfl) (j_sh rfl)) (j2 (o_ne (by decide)) (j_var rfl) (jl0 o_lst0)))))) e0 ?_
  obtain ⟨e0, h⟩ := h
  refine kw_if (jt (j2 (o_ne (by decide)) (jl5 (g5 m__law_call) (j_c rfl) (j_sh rfl) (j_sh rfl) (j_sh rfl) (j_c rfl)) (j_if (jt (j2 (o_ne (by decide)) (j_var rfl) (jl0 o_lst0))) (j_inl (j2 o_ix (j_var rfl) (j_c rfl))) (j_inr (j_c rfl))))) e0 ?_
  exact kw_wset (p := fun v164 => Q_4 (u2) (u3) (u4) (u5) (u8) (u9) (v50) v164) (wq_draw ⟨_, _, rfl⟩ (wq_lf (j2 o_add (jl1 o_len (j_var rfl)) (j_c rfl)))) (fun v164 h => s_4 ad an (u2) (u3) (u4) (u5) (u8) (u9) (v50) v164 h) h
abbrev Q_2 (u2 : Int) (u3 : (List Int)) (u4 : (List ((Int × Int) × (List (List Int))))) (u5 : (List (List Int))) (u8 : Int) (u9 : Int) : Prop := (∃ w165, (some (4 : Int)) = some w165 ∧ ((0 < w165 ∧ w165 < 1073741824) ∧ ∀ r166 : Int, 0 ≤ r166 → r166 < w165 → (∃ w167, (some (0 : Int)) = some w167 ∧ (∃ z168, some (decide (r166 = w167)) = some z168 ∧ if z168 = true then (∃ w169, (some (12 : Int)) = some w169 ∧ ((0 < w169 ∧ w169 < 1073741824) ∧ ∀ r170 : Int, 0 ≤ r170 → r170 < w169 → (∃ w171, (some (40 : Int)) = some w171 ∧ ((0 < w171 ∧ w171 < 1073741824) ∧ ∀ r172 : Int, 0 ≤ r172 → r172 < w171 → Q_3 (u2) (u3) (u4) (u5) r170 r172)))) else Q_3 (u2) (u3) (u4) (u5) (u8) (u9)))))
theorem s_2 (ad an : Nat) (u2 : Int) (u3 : (List Int)) (u4 : (List ((Int × Int) × (List (List Int))))) (u5 : (List (List Int))) (u8 : Int) (u9 : Int) (h : Q_2 u2 u3 u4 u5 u8 u9) : KW (wSeq (wIfS (wVal (wOp dEq (wDraw 1 (lf (fC (.int 4)))) (lf (fC (.int 0))))) (wPar [8, 9] (wCons (wDraw 1 (lf (fC (.int 12)))) (wCons (wDraw 1 (lf (fC (.int 40)))) wNil))) wSkip) (wSeq (ls (sSet 10 (fDGet 4 (apL dTup (fCons (fSh 8) (fCons (fSh 9) fNil))) (apL dLst fNil)))) (wSeq (ls (sIf (tOrr (tVal (ap2 dNe (apL (callX 3 C_orders_with) (fCons (fSh 2) (fCons (fSh 8) (fCons (fSh 9) fNil)))) (fVar 10))) (tNt (tVal (apL (callX 2 C__law_true) (fCons (apL (callX 3 C_can_be) (fCons (fSh 2) (fCons (fSh 8) (fCons (fSh 9) fNil)))) (fCons (ap2 dNe (fVar 10) (apL dLst fNil)) fNil)))))) (sRet (fC (.bool false))) sNil)) (wSeq (ls (sIf (tVal (ap2 dNe (apL (callX 5 C__law_call) (fCons (fC (.int 0)) (fCons (fSh 2) (fCons (fSh 8) (fCons (fSh 9) (fCons (fC (.int 0)) fNil)))))) (fIf (tVal (ap2 dNe (fVar 10) (apL dLst fNil))) (ap2 dIx (fVar 10) (fC (.int 0))) (fC (.str "none"))))) (sRet (fC (.bool false))) sNil)) (wSeq (wSet 11 (wDraw 1 (lf (ap2 dAdd (apL dLen (fCons (fVar 10) fNil)) (fC (.int 1)))))) (wSeq (ls (sIf (tVal (ap2 dNe (apL (callX 5 C__law_call) (fCons (fC (.int 1)) (fCons (fSh 2) (fCons (fSh 8) (fCons (fSh 9) (fCons (fSh 11) fNil)))))) (fIf (tVal (ap2 dLt (fVar 11) (apL dLen (fCons (fVar 10) fNil)))) (ap2 dIx (fVar 10) (fVar 11)) (fC (.str "number"))))) (sRet (fC (.bool false))) sNil)) (wSeq (ls (sSet 12 (fComp (apI dRng (fCons (fC (.int 16)) fNil)) (.nm 16) tTrue (apL dLen (fCons (fComp (iLs (fVar 5)) (.nm 6) (tVal (ap2 dEq (apL dLen (fCons (apL (callX 2 C__law_against) (fCons (fSh 3) (fCons (fSh 6) fNil))) fNil)) (fVar 16))) (fSh 6) [6]) fNil)) [16]))) (wSeq (ls (sIf (tVal (ap2 dNe (fComp (apI dRng (fCons (fC (.int 16)) fNil)) (.nm 16) tTrue (apL (callX 2 C_count_with) (fCons (fSh 2) (fCons (fSh 16) fNil))) [16]) (fVar 12))) (sRet (fC (.bool false))) sNil)) (wSeq (wSet 13 (wOp dAddI (lf (fC (.int 1))) (wDraw 1 (lf (fC (.int 11)))))) (wSeq (ls (sSet 14 (ap2 dFdiv (ap2 dMul (fVar 13) (ap2 dSub (fVar 13) (fC (.int 1)))) (fC (.int 2))))) (wSeq (ls (sSet 6 (fComp (apI dRng (fCons (ap2 dAdd (fVar 14) (fC (.int 1))) fNil)) (.nm 16) tTrue (apL (callX 2 C_count_with) (fCons (fSh 13) (fCons (fSh 16) fNil))) [16]))) (wSeq (ls (sSet 15 (fC (.int 1)))) (wSeq (ls (sFor (apI dRng (fCons (fC (.int 2)) (fCons (ap2 dAdd (fVar 13) (fC (.int 1))) fNil))) (.nm 16) [16] (sSet 15 (ap2 dMul (fVar 15) (fVar 16))))) (ls (sRet (fAnd (ap2 dEq (apL dSum (fCons (fVar 6) fNil)) (fVar 15)) (fAnd (ap2 dEq (fVar 6) (ap1 dRev (fVar 6))) (ap2 dEq (apL (callX 2 C_count_with) (fCons (fSh 13) (fCons (apL dMin (fCons (fC (.int 200)) (fCons (ap2 dAdd (fVar 14) (fC (.int 1))) fNil))) fNil))) (fC (.int 0)))))))))))))))))))) [none, some (.dr ad an), some (.sh (enc u2)), some (.sh (enc u3)), some (.mo (.dk (dkE u4))), some (.sh (enc u5)), none, none, some (.sh (enc u8)), some (.sh (enc u9)), none, none, none, none, none, none, none] := by
  unfold Q_2 at h
  refine kw_wif (pa := (∃ w169, (some (12 : Int)) = some w169 ∧ ((0 < w169 ∧ w169 < 1073741824) ∧ ∀ r170 : Int, 0 ≤ r170 → r170 < w169 → (∃ w171, (some (40 : Int)) = some w171 ∧ ((0 < w171 ∧ w171 < 1073741824) ∧ ∀ r172 : Int, 0 ≤ r172 → r172 < w171 → Q_3 (u2) (u3) (u4) (u5) r170 r172))))) (pb := Q_3 (u2) (u3) (u4) (u5) (u8) (u9)) (wq_op (o_eq (by decide)) (wq_draw ⟨_, _, rfl⟩ (wq_lf (j_c rfl))) (wq_lf (j_c rfl))) (fun h => ?_) (fun h => ?_) h
  · exact kw_wpar2 (p := fun v173 v174 => Q_3 (u2) (u3) (u4) (u5) v173 v174) (wq_draw ⟨_, _, rfl⟩ (wq_lf (j_c rfl))) (wq_draw ⟨_, _, rfl⟩ (wq_lf (j_c rfl))) (fun v173 v174 h => s_3 ad an (u2) (u3) (u4) (u5) v173 v174 h) h
  · exact kw_skip (s_3 ad an (u2) (u3) (u4) (u5) (u8) (u9) h)
abbrev Q_1 (u2 : Int) : Prop := (∃ v9 : (List Int), ((some (1 : Int)).bind fun a7 => ((some u2).bind fun a5 => (some (1 : Int)).bind fun b6 => some (a5 + b6)).bind fun b8 => oR2 a7 b8) = some v9 ∧
  (∃ v11 : (List (List Int)), ((some u2).bind fun a10 => M__law_all a10) = some v11 ∧
  (∃ s12 : (List ((Int × Int) × (List (List Int)))), ((some v11).bind fun l15 => (oFold (fun (s13 : (List ((Int × Int) × (List (List Int))))) (x14 : (List Int)) => (((((some v9).bind fun a16 => (some x14).bind fun a17 => M__law_against a16 a17).bind fun a18 => some ((a18.length : Nat) : Int)).bind fun a21 => ((some v9).bind fun a19 => (some x14).bind fun a20 => M__law_squares a19 a20).bind fun a22 => some (a21, a22)).bind fun v23 : (Int × Int) => (oPut s13 (some v23) (((some v23).bind fun a25 => (some ([] : (List (List Int)))).bind fun b26 => some ((getP s13 a25).getD b26)).bind fun a28 => ((some x14).bind fun a27 => some [a27]).bind fun b29 => oCat a28 b29) fun v24 => (some v24)))) l15 ([] : (List ((Int × Int) × (List (List Int)))))).bind fun s13 : (List ((Int × Int) × (List (List Int)))) => (some s13)) = some s12 ∧
  ((((some u2).bind fun a30 => M_value_table a30).bind fun a42 => ((some (sortP (List.map (fun q => q.1) s12))).bind fun l41 => lim l41 (oMap (fun x31 : (Int × Int) => (((some x31).bind fun a32 => (some (0 : Int)).bind fun b33 => (if b33 = 0 then some a32.1 else none)).bind fun a38 => ((some x31).bind fun a34 => (some (1 : Int)).bind fun b35 => (if b35 = 1 then some a34.2 else none)).bind fun a39 => (((some x31).bind fun a36 => getP s12 a36).bind fun a37 => some ((a37.length : Nat) : Int)).bind fun a40 => some (Tr.mk a38 a39 a40))) l41)).bind fun b43 => some (!decide (a42 = b43))) = some false ∧
  (∃ w44, (some (sortP (List.map (fun q => q.1) s12))) = some w44 ∧ ((w44 ≠ [] ∧ w44.length < 1073741824) ∧ ∀ x45 ∈ w44, Q_2 (u2) (v9) (s12) (v11) x45.1 x45.2))))))
theorem s_1 (ad an : Nat) (u2 : Int) (h : Q_1 u2) : KW (wSeq (ls (sSet 3 (ap2 dRange (fC (.int 1)) (ap2 dAdd (fVar 2) (fC (.int 1)))))) (wSeq (ls (sDNew 4)) (wSeq (ls (sSet 5 (apL (callX 1 C__law_all) (fCons (fSh 2) fNil)))) (wSeq (ls (sFor (iLs (fSh 5)) (.nm 6) [6, 7] (sSeq (sSet 7 (apL dTup (fCons (apL dLen (fCons (apL (callX 2 C__law_against) (fCons (fSh 3) (fCons (fSh 6) fNil))) fNil)) (fCons (apL (callX 2 C__law_squares) (fCons (fSh 3) (fCons (fSh 6) fNil))) fNil)))) (sDPut 4 (fSh 7) (ap2 dAdd (fDGet 4 (fSh 7) (apL dLst fNil)) (apL dLst (fCons (fSh 6) fNil))))))) (wSeq (ls (sIf (tVal (ap2 dNe (apL (callX 1 C_value_table) (fCons (fSh 2) fNil)) (fComp (iLs (fDSort 4)) (.nm 7) tTrue (apL dTup (fCons (ap2 dIx (fVar 7) (fC (.int 0))) (fCons (ap2 dIx (fVar 7) (fC (.int 1))) (fCons (apL dLen (fCons (fDIx 4 (fSh 7)) fNil)) fNil)))) [7]))) (sRet (fC (.bool false))) sNil)) (wSeq (wAsg (.tp [8, 9]) (wPick 1 (lf (fDSort 4)))) (wSeq (wIfS (wVal (wOp dEq (wDraw 1 (lf (fC (.int 4)))) (lf (fC (.int 0))))) (wPar [8, 9] (wCons (wDraw 1 (lf (fC (.int 12)))) (wCons (wDraw 1 (lf (fC (.int 40)))) wNil))) wSkip) (wSeq (ls (sSet 10 (fDGet 4 (apL dTup (fCons (fSh 8) (fCons (fSh 9) fNil))) (apL dLst fNil)))) (wSeq (ls (sIf (tOrr (tVal (ap2 dNe (apL (callX 3 C_orders_with) (fCons (fSh 2) (fCons (fSh 8) (fCons (fSh 9) fNil)))) (fVar 10))) (tNt (tVal (apL (callX 2 C__law_true) (fCons (apL (callX 3 C_can_be) (fCons (fSh 2) (fCons (fSh 8) (fCons (fSh 9) fNil)))) (fCons (ap2 dNe (fVar 10) (apL dLst fNil)) fNil)))))) (sRet (fC (.bool false))) sNil)) (wSeq (ls (sIf (tVal (ap2 dNe (apL (callX 5 C__law_call) (fCons (fC (.int 0)) (fCons (fSh 2) (fCons (fSh 8) (fCons (fSh 9) (fCons (fC (.int 0)) fNil)))))) (fIf (tVal (ap2 dNe (fVar 10) (apL dLst fNil))) (ap2 dIx (fVar 10) (fC (.int 0))) (fC (.str "none"))))) (sRet (fC (.bool false))) sNil)) (wSeq (wSet 11 (wDraw 1 (lf (ap2 dAdd (apL dLen (fCons (fVar 10) fNil)) (fC (.int 1)))))) (wSeq (ls (sIf (tVal (ap2 dNe (apL (callX 5 C__law_call) (fCons (fC (.int 1)) (fCons (fSh 2) (fCons (fSh 8) (fCons (fSh 9) (fCons (fSh 11) fNil)))))) (fIf (tVal (ap2 dLt (fVar 11) (apL dLen (fCons (fVar 10) fNil)))) (ap2 dIx (fVar 10) (fVar 11)) (fC (.str "number"))))) (sRet (fC (.bool false))) sNil)) (wSeq (ls (sSet 12 (fComp (apI dRng (fCons (fC (.int 16)) fNil)) (.nm 16) tTrue (apL dLen (fCons (fComp (iLs (fVar 5)) (.nm 6) (tVal (ap2 dEq (apL dLen (fCons (apL (callX 2 C__law_against) (fCons (fSh 3) (fCons (fSh 6) fNil))) fNil)) (fVar 16))) (fSh 6) [6]) fNil)) [16]))) (wSeq (ls (sIf (tVal (ap2 dNe (fComp (apI dRng (fCons (fC (.int 16)) fNil)) (.nm 16) tTrue (apL (callX 2 C_count_with) (fCons (fSh 2) (fCons (fSh 16) fNil))) [16]) (fVar 12))) (sRet (fC (.bool false))) sNil)) (wSeq (wSet 13 (wOp dAddI (lf (fC (.int 1))) (wDraw 1 (lf (fC (.int 11)))))) (wSeq (ls (sSet 14 (ap2 dFdiv (ap2 dMul (fVar 13) (ap2 dSub (fVar 13) (fC (.int 1)))) (fC (.int 2))))) (wSeq (ls (sSet 6 (fComp (apI dRng (fCons (ap2 dAdd (fVar 14) (fC (.int 1))) fNil)) (.nm 16) tTrue (apL (callX 2 C_count_with) (fCons (fSh 13) (fCons (fSh 16) fNil))) [16]))) (wSeq (ls (sSet 15 (fC (.int 1)))) (wSeq (ls (sFor (apI dRng (fCons (fC (.int 2)) (fCons (ap2 dAdd (fVar 13) (fC (.int 1))) fNil))) (.nm 16) [16] (sSet 15 (ap2 dMul (fVar 15) (fVar 16))))) (ls (sRet (fAnd (ap2 dEq (apL dSum (fCons (fVar 6) fNil)) (fVar 15)) (fAnd (ap2 dEq (fVar 6) (ap1 dRev (fVar 6))) (ap2 dEq (apL (callX 2 C_count_with) (fCons (fSh 13) (fCons (apL dMin (fCons (fC (.int 200)) (fCons (ap2 dAdd (fVar 14) (fC (.int 1))) fNil))) fNil))) (fC (.int 0)))))))))))))))))))))))))) [none, some (.dr ad an), some (.sh (enc u2)), none, none, none, none, none, none, none, none, none, none, none, none, none, none] := by
  unfold Q_1 at h
  obtain ⟨v9, ev9, h⟩ := h
  refine kw_set (j2 o_range (j_c rfl) (j2 o_add (j_var rfl) (j_c rfl))) ev9 ?_
  change KW _ [none, some (.dr ad an), some (.sh (enc u2)), some (.sh (enc v9)), none, none, none, none, none, none, none, none, none, none, none, none, none]
  refine kw_dnew (α := (List (List Int))) ?_
  change KW _ [none, some (.dr ad an), some (.sh (enc u2)), some (.sh (enc v9)), some (.mo (.dk (dkE ([] : (List ((Int × Int) × (List (List Int)))))))), none, none, none, none, none, none, none, none, none, none, none, none]
  obtain ⟨v11, ev11, h⟩ := h
  refine kw_set (jl1 (g1 m__law_all) (j_sh rfl)) ev11 ?_
  change KW _ [none, some (.dr ad an), some (.sh (enc u2)), some (.sh (enc v9)), some (.mo (.dk (dkE ([] : (List ((Int × Int) × (List (List Int)))))))), some (.sh (enc v11)), none, none, none, none, none, none, none, none, none, none, none]
  obtain ⟨s12, es12, h⟩ := h
  refine kw_lsN (en := fun s12 : (List ((Int × Int) × (List (List Int)))) => [none, some (.dr ad an), some (.sh (enc u2)), some (.sh (enc v9)), some (.mo (.dk (dkE s12))), some (.sh (enc v11)), none, none, none, none, none, none, none, none, none, none, none]) (js_last (js_forN (en0 := (fun s13 : (List ((Int × Int) × (List (List Int)))) => [none, some (.dr ad an), some (.sh (enc u2)), some (.sh (enc v9)), some (.mo (.dk (dkE s13))), some (.sh (enc v11)), none, none, none, none, none, none, none, none, none, none, none])) (enb := (fun (s13 : (List ((Int × Int) × (List (List Int))))) (x14 : (List Int)) => [none, some (.dr ad an), some (.sh (enc u2)), some (.sh (enc v9)), some (.mo (.dk (dkE s13))), some (.sh (enc v11)), some (.sh (enc x14)), none, none, none, none, none, none, none, none, none, none])) (jl_ls (j_sh rfl)) rfl (fun _ _ => rfl) (fun s13 x14 => (js_set (jl2 o_pair (jl1 o_len (jl2 (g2 m__law_against) (j_sh rfl) (j_sh rfl))) (jl2 (g2 m__law_squares) (j_sh rfl) (j_sh rfl))) (fun v23 => (js_last (js_dput rfl (j_sh rfl) (j2 o_cat (j_dget rfl (j_sh rfl) (jl0 o_lst0)) (jl1 o_lst1 (j_sh rfl))) (fun v24 => (js_nil rfl rfl))))))) (fun s13 => (js_nil rfl rfl)))) es12 ?_
  change KW _ [none, some (.dr ad an), some (.sh (enc u2)), some (.sh (enc v9)), some (.mo (.dk (dkE s12))), some (.sh (enc v11)), none, none, none, none, none, none, none, none, none, none, none]
  obtain ⟨e0, h⟩ := h
  refine kw_if (jt (j2 (o_ne (by decide)) (jl1 (g1 m_value_table) (j_sh rfl)) (j_compA (jl_ls (j_dsort rfl)) (fun _ => rfl) (fun x31 => (jl3 o_tr (j2 o_ix0 (j_var rfl) (j_c rfl)) (j2 o_ix1 (j_var rfl) (j_c rfl)) (jl1 o_len (j_dix rfl (j_sh rfl)))))))) e0 ?_
  exact kw_wasgP (p := fun v175 v176 => Q_2 (u2) (v9) (s12) (v11) v175 v176) (wq_pick ⟨_, _, rfl⟩ (wq_lf (j_dsort rfl))) (fun v175 v176 h => s_2 ad an (u2) (v9) (s12) (v11) v175 v176 h) h
def Q_law : Prop := (∃ w1, (some (1 : Int)) = some w1 ∧ (∃ w2, (some (5 : Int)) = some w2 ∧ ((0 < w2 ∧ w2 < 1073741824) ∧ ∀ r3 : Int, 0 ≤ r3 → r3 < w2 → (∃ z4, some (w1 + r3) = some z4 ∧ Q_1 z4))))
theorem law_ok_of (h : Q_law) : lawOk 17 1 W_law := by
  refine law_ofK (p := Q_law) (fun ad an h => ?_) h
  exact kw_wset (p := fun v177 => Q_1 v177) (wq_op o_addI (wq_lf (j_c rfl)) (wq_draw ⟨_, _, rfl⟩ (wq_lf (j_c rfl)))) (fun v177 h => s_1 ad an v177 h) h
end K07

/-! finite laws are decidable -/
namespace DL
open PySem L2
instance decTO {σ τ : Type} [DecidableEq σ] [DecidableEq τ] : DecidableEq (TO σ τ)
  | .nx a, .nx b => if h : a = b then isTrue (by rw [h]) else isFalse fun e => h (by injection e)
  | .rt a, .rt b => if h : a = b then isTrue (by rw [h]) else isFalse fun e => h (by injection e)
  | .nx _, .rt _ => isFalse fun e => by cases e
  | .rt _, .nx _ => isFalse fun e => by cases e
instance decEx {α : Type} (m : Option α) (p : α → Prop) [∀ a, Decidable (p a)] : Decidable (∃ v, m = some v ∧ p v) := match m with
  | none => isFalse fun ⟨_, e, _⟩ => by cases e
  | some a => if h : p a then isTrue ⟨a, rfl, h⟩ else isFalse fun ⟨v, e, q⟩ => h (Option.some.inj e ▸ q)
instance decExN {σ τ : Type} (m : Option (TO σ τ)) (p : σ → Prop) [∀ a, Decidable (p a)] : Decidable (∃ v, m = some (TO.nx v) ∧ p v) := match m with
  | none => isFalse fun ⟨_, e, _⟩ => by cases e
  | some (.rt r) => isFalse fun ⟨_, e, _⟩ => by cases e
  | some (.nx a) => if h : p a then isTrue ⟨a, rfl, h⟩ else isFalse fun ⟨v, e, q⟩ => h (by injection e with e; injection e with e; subst e; exact q)
instance decAll (n : Int) (p : Int → Prop) [∀ a, Decidable (p a)] : Decidable (∀ r : Int, 0 ≤ r → r < n → p r) :=
  if h : ∀ k ∈ List.range n.toNat, p (k : Nat) then isTrue fun r h0 h1 => by
    have := h r.toNat (List.mem_range.mpr (by omega))
    rwa [show ((r.toNat : Nat) : Int) = r by omega] at this
  else isFalse fun q => h fun k hk => q k (by omega) (by have := List.mem_range.mp hk; omega)
end DL

namespace DL
open PySem L2
/-! ### plain facts -/
theorem oMap_some {α β : Type} {f : α → Option β} {g : α → β} : ∀ {l : List α}, (∀ x ∈ l, f x = some (g x)) → oMap f l = some (l.map g)
  | [], _ => rfl
  | x :: l, h => by
    unfold oMap
    rw [h x (by simp), oMap_some (fun y hy => h y (List.mem_cons_of_mem _ hy))]
    rfl
theorem oComp_some {α β : Type} {t : α → Option Bool} {p : α → Bool} {f : α → Option β} {g : α → β} : ∀ {l : List α}, (∀ x ∈ l, t x = some (p x)) → (∀ x ∈ l, p x = true → f x = some (g x)) → oComp t f l = some ((l.filter p).map g)
  | [], _, _ => rfl
  | x :: l, h, h2 => by
    unfold oComp
    rw [h x (by simp), oComp_some (fun y hy => h y (List.mem_cons_of_mem _ hy)) (fun y hy => h2 y (List.mem_cons_of_mem _ hy))]
    by_cases q : p x = true
    · simp [q, h2 x (by simp) q]
    · simp [q]
theorem oFold_some {σ α : Type} {f : σ → α → Option σ} {g : σ → α → σ} (inv : σ → Prop) : ∀ {l : List α} {s : σ}, inv s → (∀ s x, inv s → x ∈ l → f s x = some (g s x) ∧ inv (g s x)) → oFold f l s = some (l.foldl g s) ∧ inv (l.foldl g s)
  | [], s, hs, _ => ⟨rfl, hs⟩
  | x :: l, s, hs, h => by
    obtain ⟨e, i⟩ := h s x hs (by simp)
    unfold oFold
    rw [e]
    exact oFold_some inv i (fun s y hs hy => h s y hs (List.mem_cons_of_mem _ hy))
theorem lim_le {α β : Type} {l : List α} {m : Option β} (h : l.length ≤ 10000) : lim l m = m := if_pos (Nat.le_trans h (by decide))
theorem oR2_eq {i j : Int} (h0 : 0 ≤ i) (h1 : i ≤ 10000) (h2 : j.natAbs ≤ 10000) : oR2 i j = some (rg i (j - i).toNat) := if_pos ⟨by omega, by omega, h0⟩
theorem oR1_eq {i : Int} (h1 : i.natAbs ≤ 10000) : oR1 i = some (rg 0 i.toNat) := if_pos (by omega)
theorem oCat_eq {α : Type} {a b : List α} (h : a.length + b.length ≤ 10000) : oCat a b = some (a ++ b) := if_pos (Nat.le_trans h (by decide))
theorem rg_len : ∀ (n : Nat) (i : Int), (rg i n).length = n
  | 0, _ => rfl
  | n + 1, i => by unfold rg; simp [rg_len n]
theorem mem_rg {x : Int} : ∀ {n : Nat} {i : Int}, x ∈ rg i n ↔ i ≤ x ∧ x < i + n
  | 0, i => by simp only [rg, List.not_mem_nil, false_iff]; omega
  | n + 1, i => by
    unfold rg
    rw [List.mem_cons, mem_rg]
    omega
theorem rg_nodup : ∀ (n : Nat) (i : Int), (rg i n).Nodup
  | 0, _ => List.nodup_nil
  | n + 1, i => by
    unfold rg
    rw [List.nodup_cons]
    exact ⟨fun h => by have := mem_rg.mp h; omega, rg_nodup n _⟩
theorem rg_sorted : ∀ (n : Nat) (i : Int), (rg i n).Pairwise (· ≤ ·)
  | 0, _ => List.Pairwise.nil
  | n + 1, i => by
    unfold rg
    rw [List.pairwise_cons]
    exact ⟨fun y h => by have := mem_rg.mp h; omega, rg_sorted n _⟩
theorem rg_get : ∀ (n : Nat) (i : Int) (k : Nat), k < n → (rg i n)[k]? = some (i + (k : Int))
  | 0, _, _, h => by omega
  | n + 1, i, 0, _ => by simp [rg]
  | n + 1, i, k + 1, h => by
    unfold rg
    rw [List.getElem?_cons_succ, rg_get n (i + 1) k (by omega)]
    congr 1
    omega
theorem intR_rg (n : Int) : intR n = rg 1 n.toNat := by
  apply List.ext_getElem?
  intro k
  unfold intR
  rw [List.getElem?_map]
  by_cases h : k < n.toNat
  · rw [List.getElem?_range h, rg_get _ _ _ h]
    rfl
  · rw [List.getElem?_eq_none (by simpa using h), List.getElem?_eq_none (by rw [rg_len]; omega)]
    rfl
/-- a ranking of n things -/
def Rk (n : Nat) (l : List Int) : Prop := l.Perm (rg 1 n)
theorem Rk.of {n : Int} {l : List Int} (h : l.Perm (intR n)) : Rk n.toNat l := by rw [intR_rg] at h; exact h
section
variable {n : Nat} {l : List Int}
theorem Rk.len (h : Rk n l) : l.length = n := h.length_eq.trans (rg_len n 1)
theorem Rk.mem (h : Rk n l) {x : Int} : x ∈ l ↔ 1 ≤ x ∧ x ≤ n := by
  rw [h.mem_iff, mem_rg]
  omega
theorem Rk.nodup (h : Rk n l) : l.Nodup := h.nodup_iff.mpr (rg_nodup n 1)
theorem Rk.sort (h : Rk n l) : sortI l = rg 1 n := sorted_unique ((sortI_perm _).trans h) (sortI_sorted _) (rg_sorted n 1)
theorem Rk.id (n : Nat) : Rk n (rg 1 n) := List.Perm.refl _
theorem Rk.get (h : Rk n l) {k : Nat} (hk : k < n) : 1 ≤ l[k]'(by rw [h.len]; exact hk) ∧ l[k]'(by rw [h.len]; exact hk) ≤ n := h.mem.mp (List.getElem_mem _)
end
theorem atI_nat {α : Type} {l : List α} {i : Int} (h0 : 0 ≤ i) (h : i.toNat < l.length) : atI l i = some l[i.toNat] := by
  unfold atI
  have : ixN l.length i = some i.toNat := by
    have e : ((i.toNat : Nat) : Int) = i := by omega
    have := ixN_nat h
    rwa [e] at this
  rw [this]
  exact List.getElem?_eq_getElem h
theorem oIdx_mem {α : Type} [DecidableEq α] {l : List α} {a : α} (h : a ∈ l) : oIdx l a = some ((l.idxOf a : Nat) : Int) := if_pos h
theorem get_idx {α : Type} [DecidableEq α] {l : List α} (h : l.Nodup) {k : Nat} (hk : k < l.length) : l.idxOf l[k] = k := by
  have hm : l[k] ∈ l := List.getElem_mem hk
  have := List.getElem_idxOf (x := l[k]) (xs := l) (List.idxOf_lt_length_iff.mpr hm)
  exact (List.getElem_inj h).mp this
theorem idx_lt {α : Type} [DecidableEq α] {l : List α} {x : α} (h : x ∈ l) : l.idxOf x < l.length := List.idxOf_lt_length_iff.mpr h
theorem idx_get {α : Type} [DecidableEq α] {l : List α} {x : α} (h : x ∈ l) : l[l.idxOf x]'(idx_lt h) = x := List.getElem_idxOf (idx_lt h)
/-- one ranking seen from another -/
def sn (a b : List Int) : List Int := (rg 1 a.length).map fun x => b.getD (a.idxOf x) 0
theorem sn_len (a b : List Int) : (sn a b).length = a.length := by unfold sn; rw [List.length_map, rg_len]
/-- scattering -/
def sc (ps : List (Int × Int)) (s : List Int) : List Int := ps.foldl (fun s p => s.set (p.1 - 1).toNat p.2) s
theorem sc_len : ∀ (ps : List (Int × Int)) (s : List Int), (sc ps s).length = s.length
  | [], _ => rfl
  | p :: ps, s => by
    show (sc ps _).length = _
    rw [sc_len ps, List.length_set]
theorem sc_out : ∀ (ps : List (Int × Int)) (s : List Int) (j : Nat), (∀ p ∈ ps, (p.1 - 1).toNat ≠ j) → (sc ps s)[j]? = s[j]?
  | [], _, _, _ => rfl
  | p :: ps, s, j, h => by
    show (sc ps _)[j]? = _
    rw [sc_out ps _ j (fun q hq => h q (List.mem_cons_of_mem _ hq)), List.getElem?_set_ne (h p (by simp))]
theorem sc_in : ∀ (ps : List (Int × Int)) (s : List Int) (p : Int × Int), p ∈ ps → (ps.map fun q => (q.1 - 1).toNat).Nodup → (p.1 - 1).toNat < s.length → (sc ps s)[(p.1 - 1).toNat]? = some p.2
  | q :: ps, s, p, hm, hn, hl => by
    show (sc ps _)[_]? = _
    rw [List.map_cons, List.nodup_cons] at hn
    rcases List.mem_cons.mp hm with e | hm
    · subst e
      rw [sc_out ps _ _ (fun r hr he => hn.1 (by rw [← he]; exact List.mem_map_of_mem (f := fun q : Int × Int => (q.1 - 1).toNat) hr)), List.getElem?_set_self hl]
    · exact sc_in ps _ p hm hn.2 (by rwa [List.length_set])
theorem sc_seen {n : Nat} {a b : List Int} (ha : Rk n a) (hb : b.length = n) : sc (a.zip b) (List.replicate n 0) = sn a b := by
  have la := ha.len
  apply List.ext_getElem?
  intro j
  by_cases hj : j < n
  · have hm : (1 + (j : Int)) ∈ a := ha.mem.mpr (by omega)
    have hi := idx_lt hm
    have e1 : a[a.idxOf (1 + (j : Int))] = 1 + (j : Int) := idx_get hm
    have hz : a.idxOf (1 + (j : Int)) < (a.zip b).length := by rw [List.length_zip]; omega
    have hib : a.idxOf (1 + (j : Int)) < b.length := by omega
    have hp : (1 + (j : Int), b[a.idxOf (1 + (j : Int))]) ∈ a.zip b := by
      have := List.getElem_mem hz
      rw [List.getElem_zip, e1] at this
      exact this
    have nd : ((a.zip b).map fun q => (q.1 - 1).toNat).Nodup := by
      have : (a.zip b).map (fun q => (q.1 - 1).toNat) = a.map fun x => (x - 1).toNat := by
        rw [show (fun q : Int × Int => (q.1 - 1).toNat) = (fun x : Int => (x - 1).toNat) ∘ Prod.fst from rfl, ← List.map_map, List.map_fst_zip (by omega)]
      rw [this]
      refine List.Pairwise.of_map (S := fun x y : Int => x ≠ y) (fun k : Nat => (k : Int) + 1) (fun x y h e => h (by rw [e])) ?_
      rw [List.map_map]
      have : a.map ((fun k : Nat => (k : Int) + 1) ∘ fun x : Int => (x - 1).toNat) = a := by
        conv => rhs; rw [← List.map_id a]
        apply List.map_congr_left
        intro x hx
        have := ha.mem.mp hx
        simp only [Function.comp, id]
        omega
      rw [this]
      exact ha.nodup
    have := sc_in (a.zip b) (List.replicate n 0) _ hp nd (by simp; omega)
    have ej : ((1 + (j : Int)) - 1).toNat = j := by omega
    simp only [ej] at this
    rw [this]
    unfold sn
    rw [List.getElem?_map, la, rg_get _ _ _ hj]
    simp [List.getD_eq_getElem?_getD, hib]
  · rw [List.getElem?_eq_none (by rw [sc_len, List.length_replicate]; omega), List.getElem?_eq_none (by rw [sn_len]; omega)]
end DL

namespace DL
open PySem L2
section
variable {n : Nat} {a b l : List Int}
theorem map_idx {β : Type} (h : Rk n a) (f : Nat → β) : a.map (fun x => f (a.idxOf x)) = (List.range n).map f := by
  have la := h.len
  apply List.ext_getElem
  · simp [la]
  · intro i h1 h2
    have hi : i < a.length := by simpa using h1
    rw [List.getElem_map, List.getElem_map, List.getElem_range, get_idx h.nodup hi]
theorem range_getD (hb : b.length = n) : (List.range n).map (fun i => b.getD i 0) = b := by
  apply List.ext_getElem
  · simp [hb]
  · intro i h1 h2
    simp [List.getD_eq_getElem?_getD, h2]
theorem sn_perm (h : Rk n a) (hb : b.length = n) : (sn a b).Perm b := by
  unfold sn
  rw [h.len]
  have := (h.map fun x => b.getD (a.idxOf x) 0).symm
  rwa [map_idx h (fun i => b.getD i 0), range_getD hb] at this
theorem Rk.sn (h : Rk n a) (h' : Rk n b) : Rk n (sn a b) := (sn_perm h h'.len).trans h'
theorem zip_perm (h : Rk n a) (hb : b.length = n) : (a.zip b).Perm ((rg 1 n).zip (DL.sn a b)) := by
  have e1 : a.zip b = a.map fun x => (x, b.getD (a.idxOf x) 0) := by
    apply List.ext_getElem
    · simp [h.len, hb]
    · intro i h1 h2
      have hi : i < a.length := by simpa using h2
      have hib : i < b.length := by rw [hb, ← h.len]; exact hi
      rw [List.getElem_zip, List.getElem_map, get_idx h.nodup hi]
      simp [List.getD_eq_getElem?_getD, hib]
  have e2 : (rg 1 n).zip (DL.sn a b) = (rg 1 n).map fun x => (x, b.getD (a.idxOf x) 0) := by
    unfold DL.sn
    rw [h.len]
    generalize rg 1 n = r
    induction r with
    | nil => rfl
    | cons x r ih => rw [List.map_cons, List.zip_cons_cons, ih, List.map_cons]
  rw [e1, e2]
  exact h.map _
theorem rg_idx {x : Int} (h : x ∈ rg 1 n) : (rg 1 n).idxOf x = (x - 1).toNat := by
  have hx := mem_rg.mp h
  have hk : (x - 1).toNat < (rg 1 n).length := by rw [rg_len]; omega
  have e : (rg 1 n)[(x - 1).toNat] = x := by
    have := rg_get n 1 (x - 1).toNat (by omega)
    rw [List.getElem?_eq_getElem hk] at this
    have := Option.some.inj this
    omega
  have := get_idx (rg_nodup n 1) hk
  rwa [e] at this
theorem sn_id (hb : b.length = n) : sn (rg 1 n) b = b := by
  unfold sn
  rw [rg_len]
  apply List.ext_getElem?
  intro i
  rw [List.getElem?_map]
  by_cases h : i < n
  · have hm : (1 + (i : Int)) ∈ rg 1 n := mem_rg.mpr (by omega)
    rw [rg_get _ _ _ h, Option.map_some, rg_idx hm, show (1 + (i : Int) - 1).toNat = i by omega]
    simp [List.getD_eq_getElem?_getD, hb ▸ h]
  · rw [List.getElem?_eq_none (by rw [rg_len]; omega), List.getElem?_eq_none (by omega)]
    rfl
theorem sn_self (h : Rk n a) : sn a a = rg 1 n := by
  unfold sn
  rw [h.len]
  conv => rhs; rw [← List.map_id (rg 1 n)]
  apply List.map_congr_left
  intro x hx
  have hm : x ∈ a := h.mem_iff.mpr hx
  have hi := idx_lt hm
  have := idx_get hm
  simp [List.getD_eq_getElem?_getD, hi, this]
end
/-! all orders of a list, by first things -/
def sel {α : Type} : List α → List (α × List α)
  | [] => []
  | x :: l => (x, l) :: (sel l).map fun p => (p.1, x :: p.2)
def pL {α : Type} : Nat → List α → List (List α)
  | 0, _ => [[]]
  | n + 1, l => (sel l).flatMap fun p => (pL n p.2).map (p.1 :: ·)
theorem sel_mem {α : Type} {x : α} : ∀ {l : List α}, x ∈ l → ∃ r, (x, r) ∈ sel l ∧ l.Perm (x :: r)
  | y :: l, h => by
    rcases List.mem_cons.mp h with e | h
    · subst e
      exact ⟨l, by simp [sel], List.Perm.refl _⟩
    · obtain ⟨r, h1, h2⟩ := sel_mem h
      exact ⟨y :: r, by unfold sel; exact List.mem_cons_of_mem _ (List.mem_map.mpr ⟨(x, r), h1, rfl⟩), (h2.cons y).trans (List.Perm.swap x y r)⟩
theorem mem_pL {α : Type} : ∀ {n : Nat} {l l' : List α}, l.length = n → l'.Perm l → l' ∈ pL n l
  | 0, l, l', h, p => by
    have : l' = [] := List.eq_nil_of_length_eq_zero (by rw [p.length_eq, h])
    subst this
    simp [pL]
  | n + 1, l, [], h, p => by
    have := p.length_eq
    simp at this
    omega
  | n + 1, l, x :: t, h, p => by
    obtain ⟨r, h1, h2⟩ := sel_mem (p.mem_iff.mp (by simp : x ∈ x :: t))
    have q : t.Perm r := (List.perm_cons x).mp (p.trans h2)
    have hr : r.length = n := by
      have := h2.length_eq
      simp at this
      omega
    unfold pL
    exact List.mem_flatMap.mpr ⟨(x, r), h1, List.mem_map.mpr ⟨t, mem_pL hr q, rfl⟩⟩
theorem Rk.pL {n : Nat} {l : List Int} (h : Rk n l) : l ∈ pL n (rg 1 n) := mem_pL (rg_len n 1) h
theorem Rk.all {n : Nat} {l : List Int} (h : Rk n l) {c : List Int → Bool} (hc : (DL.pL n (rg 1 n)).all c = true) : c l = true := List.all_eq_true.mp hc l h.pL
/-- the number of an order -/
def rkI : Int → List Int → Int
  | s, [] => s
  | s, x :: r => rkI (s * ((r.length : Int) + 1) + ((r.filter fun y => decide (y < x)).length : Int)) r
/-! order of lists -/
theorem lex_irr : ∀ x : List Int, lexI x x = false
  | [] => rfl
  | a :: x => by simp [lexI, lex_irr x]
theorem lex_trans : ∀ x y z : List Int, lexI x y = true → lexI y z = true → lexI x z = true
  | [], [], _, h, _ => by simp [lexI] at h
  | [], _ :: _, [], _, h => by simp [lexI] at h
  | [], _ :: _, _ :: _, _, _ => rfl
  | _ :: _, [], _, h, _ => by simp [lexI] at h
  | _ :: _, _ :: _, [], _, h => by simp [lexI] at h
  | a :: x, b :: y, c :: z, h1, h2 => by
    unfold lexI at h1 h2 ⊢
    by_cases e1 : a = b
    · subst e1
      rw [if_pos rfl] at h1
      by_cases e2 : a = c
      · subst e2
        rw [if_pos rfl] at h2 ⊢
        exact lex_trans x y z h1 h2
      · rw [if_neg e2] at h2 ⊢
        exact h2
    · rw [if_neg e1] at h1
      have h1 := of_decide_eq_true h1
      by_cases e2 : b = c
      · subst e2
        rw [if_neg e1]
        exact decide_eq_true h1
      · rw [if_neg e2] at h2
        have h2 := of_decide_eq_true h2
        rw [if_neg (by omega)]
        exact decide_eq_true (by omega)
def upB : List (List Int) → Bool
  | x :: y :: r => lexI x y && upB (y :: r)
  | _ => true
theorem up_pair : ∀ l : List (List Int), upB l = true → l.Pairwise fun x y => lexI x y = true
  | [], _ => List.Pairwise.nil
  | [x], _ => by simp
  | x :: y :: r, h => by
    unfold upB at h
    rw [Bool.and_eq_true] at h
    have ih := up_pair (y :: r) h.2
    rw [List.pairwise_cons]
    refine ⟨fun z hz => ?_, ih⟩
    rcases List.mem_cons.mp hz with e | hz
    · rw [e]; exact h.1
    · exact lex_trans x y z h.1 ((List.pairwise_cons.mp ih).1 z hz)
end DL

namespace AG
open PySem L2 DL
theorem q_is_int (v lo hi : Int) : M_is_int v lo hi = some (decide (lo ≤ v) && decide (v ≤ hi)) := by
  have h1 : isiB "int" "int" = true := by decide
  have h2 : isiB "int" "bool" = false := by decide
  simp [M_is_int, h1, h2]
theorem bind_id {α : Type} (m : Option α) : (m.bind fun x => some x) = m := by cases m <;> rfl
theorem isiB_list : isiB "list" "list" = true := by decide
section
variable {n : Nat} {l one other : List Int}
theorem q_is_ranking (h : Rk n l) (h1 : 1 ≤ n) (h7 : n ≤ 7) : M_is_ranking l = some true := by
  have hl := h.len
  have e1 : oMap (fun x : Int => M_is_int x 1 (n : Int)) l = some (l.map fun _ => true) := by
    refine oMap_some fun x hx => ?_
    have := h.mem.mp hx
    simp only [q_is_int]
    congr 1
    simp
    omega
  have e2 : (1 : Int) ≤ (n : Int) ∧ (n : Int) ≤ 7 := by omega
  unfold M_is_ranking
  rw [Option.bind_some (a := l), isiB_list]
  simp only [Option.bind_some, hl, e1, lim_le (show l.length ≤ 10000 by omega), h.sort, oR2_eq (show (0 : Int) ≤ 1 by omega) (show (1 : Int) ≤ 10000 by omega) (show ((n : Int) + 1).natAbs ≤ 10000 by omega)]
  have e3 : ((n : Int) + 1 - 1).toNat = n := by omega
  simp [e2, e3]
theorem q_check_ranking (h : Rk n l) (h1 : 1 ≤ n) (h7 : n ≤ 7) : M_check_ranking l = some () := by
  simp [M_check_ranking, q_is_ranking h h1 h7]
theorem q_check_both (h : Rk n one) (h' : Rk n other) (h1 : 1 ≤ n) (h7 : n ≤ 7) : M_check_both one other = some () := by
  simp [M_check_both, q_check_ranking h h1 h7, q_check_ranking h' h1 h7, h.len, h'.len]
theorem q_check_size (h1 : 1 ≤ n) (h6 : n ≤ 6) : M_check_size (n : Int) = some () := by
  have e2 : (1 : Int) ≤ (n : Int) ∧ (n : Int) ≤ 6 := by omega
  simp [M_check_size, q_is_int, e2]
theorem q_seen (h : Rk n one) (hb : other.length = n) (h7 : n ≤ 7) : M_seen one other = some (sn one other) := by
  have hl := h.len
  have e0 : oRep [(0 : Int)] (n : Int) = some (List.replicate n 0) := by
    unfold oRep
    rw [if_pos ⟨by omega, by simp⟩]
    simp
  have e1 := (oFold_some (f := fun (s6 : (List Int)) (x9 : (Int × Int)) => (oSetI s6 (some x9.2) (some (x9.1 - 1)) fun v11 => (some v11))) (g := fun s p => s.set (p.1 - 1).toNat p.2) (fun s => s.length = n) (l := one.zip other) (s := List.replicate n 0) (by simp) (fun s x hs hx => by
    have hm := h.mem.mp (List.of_mem_zip hx).1
    refine ⟨?_, by rw [List.length_set]; exact hs⟩
    have e : ixN s.length (x.1 - 1) = some (x.1 - 1).toNat := by
      have q : (((x.1 - 1).toNat : Nat) : Int) = x.1 - 1 := by omega
      have := ixN_nat (n := s.length) (k := (x.1 - 1).toNat) (by omega)
      rwa [q] at this
    simp only [oSetI, Option.bind_some, e])).1
  unfold M_seen
  simp only [Option.bind_some, hl, e0, e1]
  exact congrArg some (sc_seen h hb)
theorem q_seen_from (h : Rk n one) (h' : Rk n other) (h1 : 1 ≤ n) (h7 : n ≤ 7) : M_seen_from one other = some (sn one other) := by
  simp [M_seen_from, q_check_both h h' h1 h7, q_seen h h'.len h7]
theorem q_rng (n : Nat) (h : n ≤ 7) : oR2 1 ((n : Int) + 1) = some (rg 1 n) := by
  rw [oR2_eq (by omega) (by omega) (by omega), show ((n : Int) + 1 - 1).toNat = n by omega]
theorem q_rng0 (n : Nat) (h : n ≤ 7) : oR2 0 (n : Int) = some (rg 0 n) := by
  rw [oR2_eq (by omega) (by omega) (by omega), show ((n : Int) - 0).toNat = n by omega]
theorem q_law_seen (h : Rk n one) (hb : other.length = n) (h7 : n ≤ 7) : M__law_seen one other = some (sn one other) := by
  have hl := h.len
  have e1 : oMap (fun x6 : Int => (oIdx one x6).bind fun b10 => atI other b10) (rg 1 n) = some ((rg 1 n).map fun x => other.getD (one.idxOf x) 0) := by
    refine oMap_some fun x hx => ?_
    have hm : x ∈ one := h.mem_iff.mpr hx
    have hi := idx_lt hm
    simp only [Option.bind_some, oIdx_mem hm]
    rw [atI_nat (by omega) (by simp; omega)]
    have : one.idxOf x < other.length := by omega
    simp [List.getD_eq_getElem?_getD, this]
  unfold M__law_seen
  simp only [Option.bind_some, hl, q_rng n h7, e1, lim_le (show (rg 1 n).length ≤ 10000 by rw [rg_len]; omega), sn]
/-- where each rank lies -/
def pls (l : List Int) : List Int := (rg 1 l.length).map fun x => ((l.idxOf x : Nat) : Int)
theorem q_places (h : Rk n l) (h7 : n ≤ 7) : oMap (fun x7 : Int => oIdx l x7) (rg 1 n) = some (pls l) := by
  unfold pls
  rw [h.len]
  exact oMap_some fun x hx => oIdx_mem (h.mem_iff.mpr hx)
theorem q_things_in_order (h : Rk n l) (h1 : 1 ≤ n) (h7 : n ≤ 7) : M_things_in_order l = some (pls l) := by
  unfold M_things_in_order
  simp only [Option.bind_some, q_check_ranking h h1 h7, h.len, q_rng n h7, q_places h h7, lim_le (show (rg 1 n).length ≤ 10000 by rw [rg_len]; omega)]
theorem pls_perm (h : Rk n l) : (pls l).Perm (rg 0 n) := by
  unfold pls
  rw [h.len]
  have := (h.map fun x => ((l.idxOf x : Nat) : Int)).symm
  rw [map_idx h (fun i => ((i : Nat) : Int))] at this
  have e : (List.range n).map (fun i => ((i : Nat) : Int)) = rg 0 n := by
    apply List.ext_getElem?
    intro i
    rw [List.getElem?_map]
    by_cases hi : i < n
    · rw [List.getElem?_range hi, rg_get _ _ _ hi]; simp
    · rw [List.getElem?_eq_none (by simpa using hi), List.getElem?_eq_none (by rw [rg_len]; omega)]; rfl
  rwa [e] at this
theorem pls_idx (h : Rk n l) {k : Nat} (hk : k < n) : ((pls l).idxOf (k : Int) : Nat) = ((l.getD k 0) - 1).toNat := by
  have hl : k < l.length := by rw [h.len]; exact hk
  have hg := h.get hk
  have e : l.getD k 0 = l[k] := by simp [List.getD_eq_getElem?_getD, hl]
  have len : (pls l).length = n := by rw [(pls_perm h).length_eq, rg_len]
  have hj : (l[k] - 1).toNat < (pls l).length := by rw [len]; omega
  have e2 : (pls l)[(l[k] - 1).toNat] = (k : Int) := by
    have q : (pls l)[(l[k] - 1).toNat]? = some (k : Int) := by
      unfold pls
      rw [List.getElem?_map, rg_get l.length 1 (l[k] - 1).toNat (by rw [h.len]; omega), show (1 : Int) + (((l[k] - 1).toNat : Nat) : Int) = l[k] by omega, Option.map_some, get_idx h.nodup hl]
    rw [List.getElem?_eq_getElem hj] at q
    exact Option.some.inj q
  have nd : (pls l).Nodup := (pls_perm h).nodup_iff.mpr (rg_nodup n 0)
  have := get_idx nd hj
  rw [e2] at this
  rw [e]
  exact this
theorem q_ranking_of (h : Rk n l) (h1 : 1 ≤ n) (h7 : n ≤ 7) : M_ranking_of (pls l) = some l := by
  have pp := pls_perm h
  have hl : (pls l).length = n := by rw [pp.length_eq, rg_len]
  have e1 : oMap (fun x : Int => M_is_int x 0 6) (pls l) = some ((pls l).map fun _ => true) := by
    refine oMap_some fun x hx => ?_
    have := mem_rg.mp (pp.mem_iff.mp hx)
    rw [q_is_int]
    congr 1
    simp
    omega
  have e2 : (1 : Int) ≤ (n : Int) ∧ (n : Int) ≤ 7 := by omega
  have e3 : oMap (fun x : Int => (oIdx (pls l) x).bind fun a30 => some (a30 + 1)) (rg 0 n) = some l := by
    have e : oMap (fun x : Int => (oIdx (pls l) x).bind fun a30 => some (a30 + 1)) (rg 0 n) = some ((rg 0 n).map fun x => l.getD x.toNat 0) := by
      refine oMap_some fun x hx => ?_
      have hm := mem_rg.mp hx
      rw [oIdx_mem (pp.mem_iff.mpr hx)]
      have q := pls_idx h (k := x.toNat) (by omega)
      have ex : ((x.toNat : Nat) : Int) = x := by omega
      rw [ex] at q
      rw [q]
      have hg := h.get (k := x.toNat) (by omega)
      have hk : x.toNat < l.length := by rw [h.len]; omega
      simp only [Option.bind_some, List.getD_eq_getElem?_getD, List.getElem?_eq_getElem hk, Option.getD_some]
      congr 1
      omega
    rw [e]
    congr 1
    apply List.ext_getElem?
    intro i
    rw [List.getElem?_map]
    by_cases hi : i < n
    · have : i < l.length := by rw [h.len]; exact hi
      rw [rg_get _ _ _ hi]
      simp [List.getD_eq_getElem?_getD, this]
    · rw [List.getElem?_eq_none (by rw [rg_len]; omega), List.getElem?_eq_none (by rw [h.len]; omega)]; rfl
  have e4 : sortI (pls l) = rg 0 n := sorted_unique ((sortI_perm _).trans pp) (sortI_sorted _) (rg_sorted n 0)
  unfold M_ranking_of
  rw [Option.bind_some (a := pls l), isiB_list]
  simp only [Option.bind_some, hl, e1, lim_le (show (pls l).length ≤ 10000 by omega), e4, q_rng0 n h7, oR1_eq (show ((n : Int)).natAbs ≤ 10000 by omega), Int.toNat_natCast, lim_le (show (rg 0 n).length ≤ 10000 by rw [rg_len]; omega), e3]
  simp [e2]
theorem q_rank_aux (p : List Int) (hp : p.length ≤ 7) : ∀ (suf pre : List Int) (s : Int), p = pre ++ suf → 0 ≤ s → s + 1 ≤ 8 ^ pre.length → oFold (fun (s3 : Int) (x5 : (Int × Int)) => ((lim (cutD p (some (x5.1 + 1)) none) (oComp (fun x13 : Int => some (decide (x13 < x5.2))) (fun x13 : Int => (some x13)) (cutD p (some (x5.1 + 1)) none))).bind fun a17 => ((oMul s3 ((p.length : Int) - x5.1)).bind fun a24 => some (a24 + ((a17.length : Nat) : Int)))))  (enumL (pre.length : Int) suf) s = some (rkI s suf)
  | [], pre, s, _, _, _ => rfl
  | x :: suf, pre, s, e, h0, h8 => by
    have hlen : p.length = pre.length + suf.length + 1 := by rw [e]; simp; omega
    have hcut : cutD p (some ((pre.length : Int) + 1)) none = suf := by
      have q := HT.sIx_nat p.length 0 (pre.length + 1)
      unfold cutD
      rw [show ((pre.length : Int) + 1) = ((pre.length + 1 : Nat) : Int) by omega, HT.sIx_nat, HT.sIx_none, Nat.min_eq_left (by omega), e]
      rw [show pre ++ x :: suf = (pre ++ [x]) ++ suf by simp, List.drop_left' (by simp), List.take_of_length_le (by simp; omega)]
    have hc : oComp (fun x13 : Int => some (decide (x13 < x))) (fun x13 : Int => (some x13)) suf = some (suf.filter fun y => decide (y < x)) := by
      rw [oComp_some (g := fun y => y) (fun y _ => rfl) (fun y _ _ => rfl)]
      simp
    have h8' : (8 : Int) ^ pre.length ≤ 8 ^ 7 := by
      have := Nat.pow_le_pow_right (n := 8) (by omega) (show pre.length ≤ 7 by omega)
      exact_mod_cast this
    have hf : (suf.filter fun y => decide (y < x)).length ≤ suf.length := List.length_filter_le _ _
    have hs : s.natAbs ≤ 1000000000 := by
      have : (8 : Int) ^ 7 = 2097152 := by decide
      omega
    unfold enumL oFold
    dsimp only
    rw [hcut, lim_le (by omega), hc]
    simp only [Option.bind_some]
    rw [show oMul s ((p.length : Int) - (pre.length : Int)) = some (s * ((p.length : Int) - (pre.length : Int))) from if_pos hs]
    simp only [Option.bind_some]
    have ek : (p.length : Int) - (pre.length : Int) = (suf.length : Int) + 1 := by omega
    rw [ek]
    have ih := q_rank_aux p hp suf (pre ++ [x]) (s * ((suf.length : Int) + 1) + ((suf.filter fun y => decide (y < x)).length : Int)) (by rw [e]; simp) (by
      have : 0 ≤ s * ((suf.length : Int) + 1) := Int.mul_nonneg h0 (by omega)
      omega) (by
      rw [List.length_append, List.length_singleton, Int.pow_succ]
      have : s * ((suf.length : Int) + 1) ≤ s * 7 := Int.mul_le_mul_of_nonneg_left (by omega) h0
      omega)
    rw [show (((pre ++ [x]).length : Nat) : Int) = (pre.length : Int) + 1 by simp] at ih
    exact ih
theorem q_rank_of_ranking (h : Rk n l) (h1 : 1 ≤ n) (h7 : n ≤ 7) : M_rank_of_ranking l = some (rkI 0 l) := by
  unfold M_rank_of_ranking
  have := q_rank_aux l (by rw [h.len]; exact h7) l [] 0 rfl (by omega) (by decide)
  simp only [List.length_nil, Int.natCast_zero] at this
  simp only [Option.bind_some, q_check_ranking h h1 h7, Option.bind_assoc, bind_id]
  exact this
end
end AG

namespace DL
open PySem L2
/-! ### counting pairs -/
def pc {α : Type} (p : α → α → Bool) : List α → Nat
  | [] => 0
  | x :: l => l.countP (p x) + pc p l
theorem pc_perm {α : Type} {p : α → α → Bool} (sy : ∀ x y, p x y = p y x) {l l' : List α} (h : l.Perm l') : pc p l = pc p l' := by
  induction h with
  | nil => rfl
  | cons x h ih => simp only [pc, h.countP_eq, ih]
  | swap x y l => simp only [pc, List.countP_cons, sy x y]; omega
  | trans _ _ h1 h2 => rw [h1, h2]
theorem pc_map {α β : Type} (f : α → β) (p : β → β → Bool) : ∀ l : List α, pc p (l.map f) = pc (fun a b => p (f a) (f b)) l
  | [] => rfl
  | x :: l => by
    simp only [List.map_cons, pc, pc_map f p l, List.countP_map]
    rfl
theorem pc_congr {α : Type} {p q : α → α → Bool} : ∀ {l : List α}, l.Pairwise (fun a b => p a b = q a b) → pc p l = pc q l
  | [], _ => rfl
  | x :: l, h => by
    rw [List.pairwise_cons] at h
    simp only [pc, pc_congr h.2]
    congr 1
    exact List.countP_congr fun y hy => by rw [h.1 y hy]
/-- two things that two rankings order otherwise -/
def ds (p q : Int × Int) : Bool := decide ((p.1 - q.1) * (p.2 - q.2) < 0)
theorem ds_sy (p q : Int × Int) : ds p q = ds q p := by
  unfold ds
  rw [show (p.1 - q.1) * (p.2 - q.2) = (q.1 - p.1) * (q.2 - p.2) by
    rw [show p.1 - q.1 = -(q.1 - p.1) by omega, show p.2 - q.2 = -(q.2 - p.2) by omega, Int.neg_mul_neg]]
theorem mul_neg_iff {a b : Int} (ha : a ≠ 0) (hb : b ≠ 0) : a * b < 0 ↔ (decide (a < 0) ≠ decide (b < 0)) := by
  rcases Int.lt_or_gt_of_ne ha with h | h <;> rcases Int.lt_or_gt_of_ne hb with h' | h'
  · have := Int.mul_pos_of_neg_of_neg h h'
    simp [h, h']; omega
  · have := Int.mul_neg_of_neg_of_pos h h'
    simp [h, this]; omega
  · have := Int.mul_neg_of_pos_of_neg h h'
    simp [h', this]; omega
  · have := Int.mul_pos h h'
    simp; constructor
    · intro; omega
    · intro q; omega
theorem ds_lt {p q : Int × Int} (h1 : p.1 ≠ q.1) (h2 : p.2 ≠ q.2) : ds p q = !decide (decide (p.1 < q.1) = decide (p.2 < q.2)) := by
  unfold ds
  have := mul_neg_iff (a := p.1 - q.1) (b := p.2 - q.2) (by omega) (by omega)
  rw [Bool.eq_iff_iff, decide_eq_true_iff, this]
  have e1 : decide (p.1 - q.1 < 0) = decide (p.1 < q.1) := by rw [decide_eq_decide]; omega
  have e2 : decide (p.2 - q.2 < 0) = decide (p.2 < q.2) := by rw [decide_eq_decide]; omega
  rw [e1, e2]
  simp
/-- the pairs of places that are against -/
def agG (off : Int) : List (Int × Int) → List (Int × Int)
  | [] => []
  | x :: l => ((enumL (off + 1) l).filter fun q => ds x q.2).map (fun q => (off, q.1)) ++ agG (off + 1) l
def ag (one other : List Int) : List (Int × Int) := agG 0 (one.zip other)
theorem enumL_map {α β : Type} (f : α → β) : ∀ (l : List α) (o : Int), enumL o (l.map f) = (enumL o l).map fun q => (q.1, f q.2)
  | [], _ => rfl
  | x :: l, o => by simp [enumL, enumL_map f l]
theorem enumL_snd {α : Type} : ∀ (l : List α) (o : Int), (enumL o l).map Prod.snd = l
  | [], _ => rfl
  | x :: l, o => by simp [enumL, enumL_snd l]
theorem enumL_len {α : Type} (l : List α) (o : Int) : (enumL o l).length = l.length := by
  conv => rhs; rw [← enumL_snd l o]
  rw [List.length_map]
theorem agG_len : ∀ (l : List (Int × Int)) (o : Int), (agG o l).length = pc ds l
  | [], _ => rfl
  | x :: l, o => by
    unfold agG pc
    rw [List.length_append, List.length_map, agG_len l, ← List.countP_eq_length_filter]
    congr 1
    conv => rhs; rw [← enumL_snd l (o + 1)]
    rw [List.countP_map]
    rfl
theorem oFold_filter {α β : Type} {t : α → Option Bool} {p : α → Bool} {f : α → β} : ∀ {l : List α} {s : List β}, (∀ x ∈ l, t x = some (p x)) → s.length + l.length ≤ 10000 → oFold (fun s x => (t x).bind fun b => if b = true then oApp s (some (f x)) (fun v => some v) else some s) l s = some (s ++ (l.filter p).map f)
  | [], s, _, _ => by simp [oFold]
  | x :: l, s, h, hl => by
    rw [List.length_cons] at hl
    unfold oFold
    rw [h x (by simp)]
    simp only [Option.bind_some]
    by_cases q : p x = true
    · rw [if_pos q]
      have : oApp s (some (f x)) (fun v => some v) = some (s ++ [f x]) := by
        unfold oApp
        rw [Option.bind_some, if_pos (show s.length < LIM by unfold LIM; omega)]
      rw [this, Option.bind_some, oFold_filter (fun y hy => h y (List.mem_cons_of_mem _ hy)) (by rw [List.length_append, List.length_singleton]; omega), List.filter_cons_of_pos q]
      simp
    · rw [if_neg q, Option.bind_some, oFold_filter (fun y hy => h y (List.mem_cons_of_mem _ hy)) (by omega), List.filter_cons_of_neg q]
theorem oFold_congr {σ α : Type} {f g : σ → α → Option σ} : ∀ {l : List α} {s : σ}, (∀ s x, x ∈ l → f s x = g s x) → oFold f l s = oFold g l s
  | [], _, _ => rfl
  | x :: l, s, h => by
    unfold oFold
    rw [h s x (by simp)]
    cases g s x with
    | none => rfl
    | some s' => exact oFold_congr fun s y hy => h s y (List.mem_cons_of_mem _ hy)
theorem oFold_enum {σ α : Type} {f : σ → Int → Option σ} {g : σ → Int × α → Option σ} : ∀ {l : List α} {o : Int} {s : σ}, (∀ s q, q ∈ enumL o l → f s q.1 = g s q) → oFold f (rg o l.length) s = oFold g (enumL o l) s
  | [], _, _, _ => rfl
  | x :: l, o, s, h => by
    unfold enumL
    rw [List.length_cons]
    unfold rg oFold
    rw [h s (o, x) (by simp [enumL])]
    cases g s (o, x) with
    | none => rfl
    | some s' => exact oFold_enum fun s q hq => h s q (by unfold enumL; exact List.mem_cons_of_mem _ hq)
theorem enumL_get2 {α : Type} {l : List α} {o : Int} {q : Int × α} (h : q ∈ enumL o l) : ∃ k : Nat, k < l.length ∧ q.1 = o + k ∧ l[k]? = some q.2 := by
  induction l generalizing o with
  | nil => simp [enumL] at h
  | cons x l ih =>
    unfold enumL at h
    rcases List.mem_cons.mp h with e | h
    · subst e
      exact ⟨0, by simp, by simp, rfl⟩
    · obtain ⟨k, h1, h2, h3⟩ := ih h
      exact ⟨k + 1, by simpa using h1, by omega, by simpa using h3⟩
theorem atI_app {α : Type} {pre suf l : List α} (e : l = pre ++ suf) {q : Int × α} (h : q ∈ enumL (pre.length : Int) suf) : atI l q.1 = some q.2 := by
  obtain ⟨k, h1, h2, h3⟩ := enumL_get2 h
  subst e
  rw [atI_nat (by omega) (by rw [List.length_append]; omega)]
  have : q.1.toNat = pre.length + k := by omega
  rw [← List.getElem?_eq_getElem, this, List.getElem?_append_right (by omega), show pre.length + k - pre.length = k by omega, h3]
theorem all_chunks {α : Type} (p : α → Bool) (b : Nat) : ∀ (m : Nat) (l : List α), l.length ≤ b * m → (∀ j, j < m → ((l.drop (b * j)).take b).all p = true) → l.all p = true
  | 0, l, h, _ => by
    have : l = [] := List.eq_nil_of_length_eq_zero (by omega)
    rw [this]
    rfl
  | m + 1, l, h, hc => by
    have h0 := hc 0 (by omega)
    rw [Nat.mul_zero, List.drop_zero] at h0
    have ih := all_chunks p b m (l.drop b) (by rw [List.length_drop]; rw [Nat.mul_succ] at h; omega) (fun j hj => by
      have := hc (j + 1) (by omega)
      rw [List.drop_drop]
      rwa [Nat.mul_succ, Nat.add_comm] at this)
    rw [← List.take_append_drop b l, List.all_append, h0, ih]
    rfl
/-- all tables -/
def tL : Nat → List (List Int)
  | 0 => [[]]
  | n + 1 => (rg 0 (n + 1)).flatMap fun x => (tL n).map (x :: ·)
end DL

namespace DL
open PySem L2
theorem pair_loop {L : List (Int × Int)} {t : Int → Int → Option Bool} (hL : L.length ≤ 50)
    (ht : ∀ (k j : Nat) (x y : Int × Int), k < j → L[k]? = some x → L[j]? = some y → t k j = some (ds x y)) :
    ∀ (suf pre : List (Int × Int)) (s : List (Int × Int)), L = pre ++ suf → s.length + 50 * suf.length ≤ 5000 →
      oFold (fun s k => (oR2 (k + 1) (L.length : Int)).bind fun l => oFold (fun s j => (t k j).bind fun b => if b = true then oApp s (some (k, j)) (fun v => some v) else some s) l s) (rg (pre.length : Int) suf.length) s = some (s ++ agG (pre.length : Int) suf)
  | [], pre, s, _, _ => by simp [rg, oFold, agG]
  | x :: suf, pre, s, e, hs => by
    have hlen : L.length = pre.length + suf.length + 1 := by rw [e]; simp; omega
    rw [List.length_cons] at hs ⊢
    unfold rg oFold
    rw [oR2_eq (by omega) (by omega) (by omega), Option.bind_some, show ((L.length : Int) - ((pre.length : Int) + 1)).toNat = suf.length by omega]
    have hx : L[pre.length]? = some x := by rw [e, List.getElem?_append_right (by omega)]; simp
    have e1 := oFold_enum (l := suf) (o := (pre.length : Int) + 1) (s := s)
      (f := fun s j => (t pre.length j).bind fun b => if b = true then oApp s (some ((pre.length : Int), j)) (fun v => some v) else some s)
      (g := fun s q => (some (ds x q.2)).bind fun b => if b = true then oApp s (some ((pre.length : Int), q.1)) (fun v => some v) else some s)
      (fun s q hq => by
        obtain ⟨k, h1, h2, h3⟩ := enumL_get2 hq
        have hy : L[pre.length + (k + 1)]? = some q.2 := by
          rw [e, List.getElem?_append_right (by omega), show pre.length + (k + 1) - pre.length = k + 1 by omega, List.getElem?_cons_succ, h3]
        have := ht pre.length (pre.length + (k + 1)) x q.2 (by omega) hx hy
        rw [show ((pre.length + (k + 1) : Nat) : Int) = q.1 by omega] at this
        rw [this])
    rw [e1, oFold_filter (p := fun q => ds x q.2) (f := fun q : Int × (Int × Int) => ((pre.length : Int), q.1)) (fun _ _ => rfl) (by rw [enumL_len]; omega), Option.bind_some]
    have hf : (((enumL ((pre.length : Int) + 1) suf).filter fun q => ds x q.2).map fun q => ((pre.length : Int), q.1)).length ≤ suf.length := by
      rw [List.length_map]
      exact Nat.le_trans (List.length_filter_le _ _) (by rw [enumL_len]; exact Nat.le_refl _)
    have ih := pair_loop hL ht suf (pre ++ [x]) (s ++ ((enumL ((pre.length : Int) + 1) suf).filter fun q => ds x q.2).map fun q => ((pre.length : Int), q.1)) (by rw [e]; simp) (by rw [List.length_append]; omega)
    rw [show (((pre ++ [x]).length : Nat) : Int) = (pre.length : Int) + 1 by simp] at ih
    rw [ih]
    simp [agG]
end DL
namespace AG
open PySem L2 DL
theorem zip_get {one other : List Int} {k : Nat} {x : Int × Int} (h : (one.zip other)[k]? = some x) : one[k]? = some x.1 ∧ other[k]? = some x.2 := by
  rw [List.getElem?_zip_eq_some] at h
  exact h
theorem atI_get {α : Type} {l : List α} {k : Nat} {x : α} (h : l[k]? = some x) : atI l (k : Int) = some x := by
  have hk : k < l.length := by
    rcases Nat.lt_or_ge k l.length with q | q
    · exact q
    · rw [List.getElem?_eq_none q] at h; exact absurd h (by simp)
  rw [atI_nat (by omega) (by simpa using hk)]
  rw [List.getElem?_eq_getElem hk] at h
  simpa using h
section
variable {n : Nat} {l one other : List Int}
theorem Rk_ne {k j : Nat} {x y : Int} (h : Rk n l) (hk : k < j) (h1 : l[k]? = some x) (h2 : l[j]? = some y) : x ≠ y := by
  have lj : j < l.length := by
    rcases Nat.lt_or_ge j l.length with q | q
    · exact q
    · rw [List.getElem?_eq_none q] at h2; exact absurd h2 (by simp)
  have lk : k < l.length := by omega
  rw [List.getElem?_eq_getElem lk] at h1
  rw [List.getElem?_eq_getElem lj] at h2
  have := (List.pairwise_iff_getElem.mp h.nodup) k j lk lj hk
  rw [Option.some.inj h1, Option.some.inj h2] at this
  exact this
theorem q_against (h : Rk n one) (h' : Rk n other) (h7 : n ≤ 7) : M_against one other = some (ag one other) := by
  have l1 := h.len
  have l2 := h'.len
  have lz : (one.zip other).length = n := by rw [List.length_zip]; omega
  have := pair_loop (L := one.zip other) (t := fun x6 x14 => ((atI one x6).bind fun a20 => (atI one x14).bind fun b21 => some (decide (a20 < b21))).bind fun a28 => ((atI other x6).bind fun a26 => (atI other x14).bind fun b27 => some (decide (a26 < b27))).bind fun b29 => some (!decide (a28 = b29))) (by omega) (fun k j x y hk hx hy => by
    obtain ⟨x1, x2⟩ := zip_get hx
    obtain ⟨y1, y2⟩ := zip_get hy
    simp only [atI_get x1, atI_get x2, atI_get y1, atI_get y2, Option.bind_some]
    rw [ds_lt (Rk_ne h hk x1 y1) (Rk_ne h' hk x2 y2)]) (one.zip other) [] [] rfl (by simp; omega)
  unfold M_against
  simp only [Option.bind_some, bind_id, l1, lz, List.length_nil, Int.natCast_zero, List.nil_append] at this ⊢
  rw [oR1_eq (by omega), Option.bind_some, show ((n : Int)).toNat = n by omega]
  exact this
theorem q_law_against (h : Rk n one) (h' : Rk n other) (h7 : n ≤ 7) : M__law_against one other = some (ag one other) := by
  have l1 := h.len
  have l2 := h'.len
  have lz : (one.zip other).length = n := by rw [List.length_zip]; omega
  have := pair_loop (L := one.zip other) (t := fun x6 x14 => ((((atI one x6).bind fun a20 => (atI one x14).bind fun b21 => some (a20 - b21)).bind fun a28 => ((atI other x6).bind fun a26 => (atI other x14).bind fun b27 => some (a26 - b27)).bind fun b29 => oMul a28 b29).bind fun a30 => some (decide (a30 < 0)))) (by omega) (fun k j x y hk hx hy => by
    obtain ⟨x1, x2⟩ := zip_get hx
    obtain ⟨y1, y2⟩ := zip_get hy
    have m1 := h.mem.mp (List.mem_of_getElem? x1)
    have m2 := h.mem.mp (List.mem_of_getElem? y1)
    simp only [atI_get x1, atI_get x2, atI_get y1, atI_get y2, Option.bind_some]
    rw [show oMul (x.1 - y.1) (x.2 - y.2) = some ((x.1 - y.1) * (x.2 - y.2)) from if_pos (by omega)]
    rfl) (one.zip other) [] [] rfl (by simp; omega)
  unfold M__law_against
  simp only [Option.bind_some, bind_id, l1, lz, List.length_nil, Int.natCast_zero, List.nil_append] at this ⊢
  rw [oR1_eq (by omega), Option.bind_some, show ((n : Int)).toNat = n by omega]
  exact this
/-- inversions -/
def inv (s : List Int) : Nat := pc (fun a b => decide (b < a)) s
theorem pc_zip_sorted : ∀ (r s : List Int), r.Pairwise (· < ·) → r.length = s.length → pc ds (r.zip s) = inv s
  | [], [], _, _ => rfl
  | x :: r, y :: s, h, e => by
    rw [List.pairwise_cons] at h
    have ih := pc_zip_sorted r s h.2 (by simpa using e)
    show (r.zip s).countP (ds (x, y)) + pc ds (r.zip s) = s.countP (fun b => decide (b < y)) + inv s
    rw [ih]
    congr 1
    have : s = (r.zip s).map Prod.snd := by rw [List.map_snd_zip (by simp at e; omega)]
    conv => rhs; rw [this]
    rw [List.countP_map]
    refine List.countP_congr fun q hq => ?_
    have := h.1 q.1 (List.of_mem_zip hq).1
    unfold ds
    simp only [Function.comp, decide_eq_true_eq]
    constructor
    · intro z
      by_cases w : q.2 < y
      · exact w
      · have : 0 ≤ (x - q.1) * (y - q.2) := Int.mul_nonneg_of_nonpos_of_nonpos (by omega) (by omega)
        omega
    · intro z
      exact Int.mul_neg_of_neg_of_pos (by omega) (by omega)
theorem rg_lt : ∀ (n : Nat) (i : Int), (rg i n).Pairwise (· < ·)
  | 0, _ => List.Pairwise.nil
  | n + 1, i => by
    unfold rg
    rw [List.pairwise_cons]
    exact ⟨fun y h => by have := mem_rg.mp h; omega, rg_lt n _⟩
theorem ag_len (h : Rk n one) (h' : other.length = n) : (ag one other).length = inv (sn one other) := by
  unfold ag
  rw [agG_len, pc_perm ds_sy (zip_perm h h'), pc_zip_sorted _ _ (rg_lt n 1) (by rw [rg_len, sn_len, h.len])]
theorem zip_swap : ∀ (a b : List Int), b.zip a = (a.zip b).map Prod.swap
  | [], [] => rfl
  | [], _ :: _ => rfl
  | _ :: _, [] => rfl
  | x :: a, y :: b => by simp [zip_swap a b]
theorem ds_swap (p q : Int × Int) : ds p.swap q.swap = ds p q := by
  unfold ds
  rw [Int.mul_comm]
  rfl
theorem agG_map (f : Int × Int → Int × Int) (hf : ∀ p q, ds (f p) (f q) = ds p q) : ∀ (l : List (Int × Int)) (o : Int), agG o (l.map f) = agG o l
  | [], _ => rfl
  | x :: l, o => by
    simp only [List.map_cons, agG, agG_map f hf l, enumL_map, List.filter_map, List.map_map]
    congr 1
    have : (enumL (o + 1) l).filter ((fun q : Int × (Int × Int) => ds (f x) q.2) ∘ fun q => (q.1, f q.2)) = (enumL (o + 1) l).filter fun q => ds x q.2 := by
      congr 1
      funext q
      exact hf x q.2
    rw [this]
    rfl
theorem ag_comm (a b : List Int) : ag b a = ag a b := by
  unfold ag
  rw [zip_swap, agG_map Prod.swap ds_swap]
theorem q_pairs_against (h : Rk n one) (h' : Rk n other) (h1 : 1 ≤ n) (h7 : n ≤ 7) : M_pairs_against one other = some (ag one other) := by
  simp [M_pairs_against, q_check_both h h' h1 h7, q_against h h' h7]
theorem q_count_against (h : Rk n one) (h' : Rk n other) (h1 : 1 ≤ n) (h7 : n ≤ 7) : M_count_against one other = some ((inv (sn one other) : Nat) : Int) := by
  simp [M_count_against, q_check_both h h' h1 h7, q_against h h' h7, ag_len h h'.len]
theorem q_is_even (h : Rk n one) (h' : Rk n other) (h1 : 1 ≤ n) (h7 : n ≤ 7) : M_is_even one other = some (decide (((inv (sn one other) : Nat) : Int) % 2 = 0)) := by
  simp [M_is_even, q_check_both h h' h1 h7, q_against h h' h7, ag_len h h'.len, oMod]
/-- the table of an order -/
def tab : List Int → List Int
  | [] => []
  | x :: s => ((s.countP fun y => decide (y < x) : Nat) : Int) :: tab s
theorem tab_sum : ∀ s, (tab s).sum = ((inv s : Nat) : Int)
  | [] => rfl
  | x :: s => by
    simp only [tab, List.sum_cons, tab_sum s]
    show _ = ((s.countP (fun y => decide (y < x)) + inv s : Nat) : Int)
    omega
theorem tab_len : ∀ s, (tab s).length = s.length
  | [] => rfl
  | x :: s => by simp [tab, tab_len s]
theorem cut_suf {pre suf : List Int} {x : Int} {p : List Int} (e : p = pre ++ x :: suf) : cutD p (some ((pre.length : Int) + 1)) none = suf := by
  have hlen : p.length = pre.length + suf.length + 1 := by rw [e]; simp; omega
  unfold cutD
  rw [show ((pre.length : Int) + 1) = ((pre.length + 1 : Nat) : Int) by omega, HT.sIx_nat, HT.sIx_none, Nat.min_eq_left (by omega), e]
  rw [show pre ++ x :: suf = (pre ++ [x]) ++ suf by simp, List.drop_left' (by simp), List.take_of_length_le (by simp; omega)]
theorem oMap_tab {p : List Int} (hp : p.length ≤ 5000) : ∀ (suf pre : List Int), p = pre ++ suf → oMap (fun x7 : (Int × Int) => (lim (cutD p (some (x7.1 + 1)) none) (oComp (fun x14 : Int => some (decide (x14 < x7.2))) (fun x14 : Int => (some x14)) (cutD p (some (x7.1 + 1)) none))).bind fun a18 => some ((a18.length : Nat) : Int)) (enumL (pre.length : Int) suf) = some (tab suf)
  | [], pre, _ => rfl
  | x :: suf, pre, e => by
    have hl : suf.length ≤ p.length := by rw [e]; simp; omega
    unfold enumL oMap
    dsimp only
    rw [cut_suf e, lim_le (by omega), oComp_some (p := fun y => decide (y < x)) (g := fun y => y) (fun _ _ => rfl) (fun _ _ _ => rfl)]
    have ih := oMap_tab hp suf (pre ++ [x]) (by rw [e]; simp)
    rw [show (((pre ++ [x]).length : Nat) : Int) = (pre.length : Int) + 1 by simp] at ih
    rw [ih]
    simp [tab, ← List.countP_eq_length_filter]
theorem q_inversion_table (h : Rk n one) (h' : Rk n other) (h1 : 1 ≤ n) (h7 : n ≤ 7) : M_inversion_table one other = some (tab (sn one other)) := by
  have hl : (sn one other).length = n := by rw [sn_len, h.len]
  have := oMap_tab (p := sn one other) (by omega) (sn one other) [] rfl
  simp only [List.length_nil, Int.natCast_zero] at this
  simp only [M_inversion_table, q_check_both h h' h1 h7, q_seen h h'.len h7, Option.bind_some, lim_le (show (enumL 0 (sn one other)).length ≤ 10000 by rw [enumL_len]; omega)]
  exact this
end
end AG

namespace DL
open PySem L2
theorem sum_perm {l l' : List Int} (h : l.Perm l') : l.sum = l'.sum := by
  induction h with
  | nil => rfl
  | cons x _ ih => simp only [List.sum_cons, ih]
  | swap x y l => simp only [List.sum_cons]; omega
  | trans _ _ h1 h2 => rw [h1, h2]
theorem max_perm {l l' : List Int} (h : l.Perm l') (hl : l ≠ []) : maxI l = maxI l' := by
  have hl' : l' ≠ [] := fun e => hl (by rw [e] at h; exact List.Perm.eq_nil h)
  obtain ⟨a1, a2⟩ := maxI_spec l hl
  obtain ⟨b1, b2⟩ := maxI_spec l' hl'
  have := a2 _ (h.mem_iff.mpr b1)
  have := b2 _ (h.mem_iff.mp a1)
  omega
theorem max_eq {l : List Int} {x : Int} (h1 : x ∈ l) (h2 : ∀ y ∈ l, y ≤ x) : maxI l = x := by
  obtain ⟨a1, a2⟩ := maxI_spec l (List.ne_nil_of_mem h1)
  have := a2 _ h1
  have := h2 _ a1
  omega
def iabs (a : Int) : Int := if a < 0 then -a else a
theorem iabs_nn (a : Int) : 0 ≤ iabs a := by unfold iabs; split <;> omega
theorem iabs_sq (a : Int) : iabs a * iabs a = a * a := by unfold iabs; split <;> simp [Int.neg_mul_neg]
theorem iabs_sub (a b : Int) : iabs (a - b) = iabs (b - a) := by unfold iabs; split <;> split <;> omega
def sqZ (z : List (Int × Int)) : Int := (z.map fun p => (p.1 - p.2) * (p.1 - p.2)).sum
def gapZ (z : List (Int × Int)) : List Int := z.map fun p => iabs (p.1 - p.2)
def plZ (z : List (Int × Int)) : Int := (gapZ z).sum
def mxZ (z : List (Int × Int)) : Int := maxI (gapZ z)
def unZ (z : List (Int × Int)) : Int := ((z.countP fun p => !decide (p.1 = p.2) : Nat) : Int)
theorem sqZ_perm {z z' : List (Int × Int)} (h : z.Perm z') : sqZ z = sqZ z' := sum_perm (h.map _)
theorem plZ_perm {z z' : List (Int × Int)} (h : z.Perm z') : plZ z = plZ z' := sum_perm (h.map _)
theorem mxZ_perm {z z' : List (Int × Int)} (h : z.Perm z') (hz : z ≠ []) : mxZ z = mxZ z' := max_perm (h.map _) (by simpa [gapZ] using hz)
theorem unZ_perm {z z' : List (Int × Int)} (h : z.Perm z') : unZ z = unZ z' := by unfold unZ; rw [h.countP_eq]
end DL
namespace AG
open PySem L2 DL
theorem zip_ne {n : Nat} {a b : List Int} (h : Rk n a) (h' : b.length = n) (h1 : 1 ≤ n) : a.zip b ≠ [] := by
  intro e
  have := congrArg List.length e
  rw [List.length_zip, h.len, h'] at this
  simp at this
  omega
section
variable {n : Nat} {l one other : List Int}
theorem zip_mem {x : Int × Int} (h : Rk n one) (h' : Rk n other) (hx : x ∈ one.zip other) : (1 ≤ x.1 ∧ x.1 ≤ n) ∧ (1 ≤ x.2 ∧ x.2 ≤ n) := ⟨h.mem.mp (List.of_mem_zip hx).1, h'.mem.mp (List.of_mem_zip hx).2⟩
theorem zip_len (h : Rk n one) (h' : Rk n other) : (one.zip other).length = n := by rw [List.length_zip, h.len, h'.len]; omega
theorem map_sq (h : Rk n one) (h' : Rk n other) (h7 : n ≤ 7) : lim (one.zip other) (oMap (fun x5 : (Int × Int) => oMul (x5.1 - x5.2) (x5.1 - x5.2)) (one.zip other)) = some ((one.zip other).map fun p => (p.1 - p.2) * (p.1 - p.2)) := by
  rw [lim_le (by rw [zip_len h h']; omega)]
  exact oMap_some fun x hx => if_pos (by have := zip_mem h h' hx; omega)
theorem map_gap (h : Rk n one) (h' : Rk n other) (h7 : n ≤ 7) : lim (one.zip other) (oMap (fun x5 : (Int × Int) => some (if x5.1 - x5.2 < 0 then -(x5.1 - x5.2) else x5.1 - x5.2)) (one.zip other)) = some (gapZ (one.zip other)) := by
  rw [lim_le (by rw [zip_len h h']; omega)]
  exact oMap_some fun x hx => rfl
theorem q_square_sum (h : Rk n one) (h' : Rk n other) (h1 : 1 ≤ n) (h7 : n ≤ 7) : M_square_sum one other = some (sqZ (one.zip other)) := by
  simp only [M_square_sum, q_check_both h h' h1 h7, Option.bind_some, map_sq h h' h7]
  rfl
theorem q_plain_sum (h : Rk n one) (h' : Rk n other) (h1 : 1 ≤ n) (h7 : n ≤ 7) : M_plain_sum one other = some (plZ (one.zip other)) := by
  simp only [M_plain_sum, q_check_both h h' h1 h7, Option.bind_some, map_gap h h' h7]
  rfl
theorem gap_ne (h : Rk n one) (h' : other.length = n) (h1 : 1 ≤ n) : gapZ (one.zip other) ≠ [] := by simpa [gapZ] using zip_ne h h' h1
theorem q_greatest_difference (h : Rk n one) (h' : Rk n other) (h1 : 1 ≤ n) (h7 : n ≤ 7) : M_greatest_difference one other = some (mxZ (one.zip other)) := by
  simp only [M_greatest_difference, q_check_both h h' h1 h7, Option.bind_some, map_gap h h' h7]
  exact if_pos (gap_ne h h'.len h1)
theorem q_count_unlike (h : Rk n one) (h' : Rk n other) (h1 : 1 ≤ n) (h7 : n ≤ 7) : M_count_unlike one other = some (unZ (one.zip other)) := by
  simp only [M_count_unlike, q_check_both h h' h1 h7, Option.bind_some, lim_le (show (one.zip other).length ≤ 10000 by rw [zip_len h h']; omega)]
  rw [oComp_some (p := fun p : Int × Int => !decide (p.1 = p.2)) (g := fun _ => (1 : Int)) (fun _ _ => rfl) (fun _ _ _ => rfl)]
  simp [unZ, List.countP_eq_length_filter]
/-- cycles, longest rising part -/
def cy (s : List Int) : Int := match M_cycles_of s with
  | some l => ((l.length : Nat) : Int)
  | none => 0
def lr (s : List Int) : Int := match M_longest_rising s with
  | some l => l
  | none => 0
def okS (s : List Int) : Prop := (M_cycles_of s).isSome = true ∧ (M_longest_rising s).isSome = true
theorem q_cycles_of {s : List Int} (h : (M_cycles_of s).isSome = true) : ∃ l, M_cycles_of s = some l ∧ ((l.length : Nat) : Int) = cy s := by
  obtain ⟨l, hl⟩ := Option.isSome_iff_exists.mp h
  exact ⟨l, hl, by unfold cy; rw [hl]⟩
theorem q_longest {s : List Int} (h : (M_longest_rising s).isSome = true) : M_longest_rising s = some (lr s) := by
  obtain ⟨l, hl⟩ := Option.isSome_iff_exists.mp h
  unfold lr
  rw [hl]
theorem q_exchanges (h : Rk n one) (h' : Rk n other) (h7 : n ≤ 7) (hs : (M_cycles_of (sn one other)).isSome = true) : M_exchanges one other = some ((n : Int) - cy (sn one other)) := by
  obtain ⟨l, e1, e2⟩ := q_cycles_of hs
  simp only [M_exchanges, q_seen h h'.len h7, Option.bind_some, e1, e2, h.len]
theorem q_count_exchanges (h : Rk n one) (h' : Rk n other) (h1 : 1 ≤ n) (h7 : n ≤ 7) (hs : (M_cycles_of (sn one other)).isSome = true) : M_count_exchanges one other = some ((n : Int) - cy (sn one other)) := by
  simp only [M_count_exchanges, q_check_both h h' h1 h7, q_exchanges h h' h7 hs, Option.bind_some]
theorem q_count_moves (h : Rk n one) (h' : Rk n other) (h1 : 1 ≤ n) (h7 : n ≤ 7) (hs : (M_longest_rising (sn one other)).isSome = true) : M_count_moves one other = some ((n : Int) - lr (sn one other)) := by
  simp only [M_count_moves, q_check_both h h' h1 h7, q_seen h h'.len h7, q_longest hs, Option.bind_some, h.len]
/-- all measures of an order -/
def meas (s : List Int) : List Int :=
  let z := (rg 1 s.length).zip s
  [((inv s : Nat) : Int), sqZ z, plZ z, mxZ z, unZ z, (s.length : Int) - cy s, (s.length : Int) - lr s]
theorem meas_zip (h : Rk n one) (h' : Rk n other) (h1 : 1 ≤ n) : meas (sn one other) = [((pc ds (one.zip other) : Nat) : Int), sqZ (one.zip other), plZ (one.zip other), mxZ (one.zip other), unZ (one.zip other), (n : Int) - cy (sn one other), (n : Int) - lr (sn one other)] := by
  have zp := zip_perm h h'.len
  have hl : (sn one other).length = n := by rw [sn_len, h.len]
  unfold meas
  simp only [hl]
  rw [← sqZ_perm zp, ← plZ_perm zp, ← mxZ_perm zp (zip_ne h h'.len h1), ← unZ_perm zp, ← ag_len h h'.len]
  unfold ag
  rw [agG_len]
theorem q_all_measures (h : Rk n one) (h' : Rk n other) (h1 : 1 ≤ n) (h7 : n ≤ 7) (hs : okS (sn one other)) : M_all_measures one other = some (Tp.mk (meas (sn one other))) := by
  rw [meas_zip h h' h1]
  simp only [M_all_measures, q_check_both h h' h1 h7, q_against h h' h7, q_square_sum h h' h1 h7, q_plain_sum h h' h1 h7, q_greatest_difference h h' h1 h7, q_count_unlike h h' h1 h7, q_exchanges h h' h7 hs.1, q_count_moves h h' h1 h7 hs.2, Option.bind_some]
  unfold ag
  rw [agG_len, oCat_eq (by simp)]
  rfl
end
end AG

namespace DL
open PySem L2
/-! sums over pairs -/
def pw {α : Type} (w : α → α → Int) : List α → Int
  | [] => 0
  | x :: l => (l.map (w x)).sum + pw w l
theorem pw_perm {α : Type} {w : α → α → Int} (sy : ∀ x y, w x y = w y x) {l l' : List α} (h : l.Perm l') : pw w l = pw w l' := by
  induction h with
  | nil => rfl
  | cons x h ih => simp only [pw, sum_perm (h.map (w x)), ih]
  | swap x y l => simp only [pw, List.map_cons, List.sum_cons, sy x y]; omega
  | trans _ _ h1 h2 => rw [h1, h2]
def wd (f : Int × Int → Int) (p q : Int × Int) : Int := if ds p q = true then iabs (f p - f q) else 0
theorem wd_sy (f : Int × Int → Int) (p q : Int × Int) : wd f p q = wd f q p := by
  unfold wd
  rw [ds_sy p q, iabs_sub]
theorem sum_filter {α : Type} (p : α → Bool) (g : α → Int) : ∀ l : List α, ((l.filter p).map g).sum = (l.map fun x => if p x = true then g x else 0).sum
  | [] => rfl
  | x :: l => by
    by_cases h : p x = true
    · rw [List.filter_cons_of_pos h, List.map_cons, List.map_cons, List.sum_cons, List.sum_cons, sum_filter p g l, if_pos h]
    · rw [List.filter_cons_of_neg h, List.map_cons, List.sum_cons, sum_filter p g l, if_neg h]; omega
end DL
namespace AG
open PySem L2 DL
section
variable {n : Nat} {l one other : List Int}
theorem ag_sum {L : List (Int × Int)} {g : Int × Int → Int} {f : Int × Int → Int} (hg : ∀ (k j : Nat) (x y : Int × Int), L[k]? = some x → L[j]? = some y → g ((k : Int), (j : Int)) = iabs (f x - f y)) : ∀ (suf pre : List (Int × Int)), L = pre ++ suf → ((agG (pre.length : Int) suf).map g).sum = pw (wd f) suf
  | [], pre, _ => rfl
  | x :: suf, pre, e => by
    have ih := ag_sum hg suf (pre ++ [x]) (by rw [e]; simp)
    rw [show (((pre ++ [x]).length : Nat) : Int) = (pre.length : Int) + 1 by simp] at ih
    unfold agG pw
    rw [List.map_append, List.sum_append, ih, List.map_map]
    congr 1
    have hx : L[pre.length]? = some x := by rw [e, List.getElem?_append_right (by omega)]; simp
    rw [sum_filter]
    have e2 : suf.map (wd f x) = (enumL ((pre.length : Int) + 1) suf).map fun q => wd f x q.2 := by
      conv => lhs; rw [← enumL_snd suf ((pre.length : Int) + 1)]
      rw [List.map_map]
      rfl
    rw [e2]
    congr 1
    apply List.map_congr_left
    intro q hq
    obtain ⟨k, h1, h2, h3⟩ := enumL_get2 hq
    have hy : L[pre.length + (k + 1)]? = some q.2 := by
      rw [e, List.getElem?_append_right (by omega), show pre.length + (k + 1) - pre.length = k + 1 by omega, List.getElem?_cons_succ, h3]
    have := hg pre.length (pre.length + (k + 1)) x q.2 hx hy
    rw [show ((pre.length + (k + 1) : Nat) : Int) = q.1 by omega] at this
    unfold wd
    by_cases d : ds x q.2 = true
    · rw [if_pos d, if_pos d]; exact this
    · rw [if_neg d, if_neg d]
theorem ag_mem_lt : ∀ (L : List (Int × Int)) (o : Int), ∀ q ∈ agG o L, o ≤ q.1 ∧ q.1 < o + L.length ∧ o ≤ q.2 ∧ q.2 < o + L.length
  | [], o, q, hq => absurd hq (by simp [agG])
  | x :: L, o, q, hq => by
    unfold agG at hq
    rw [List.length_cons]
    rcases List.mem_append.mp hq with hq | hq
    · obtain ⟨z, hz, e⟩ := List.mem_map.mp hq
      obtain ⟨k, h1, h2, h3⟩ := enumL_get2 (List.mem_filter.mp hz).1
      rw [← e]
      dsimp only
      omega
    · have := ag_mem_lt L (o + 1) q hq
      omega
theorem agG_le (h : Rk n one) (h' : Rk n other) : (ag one other).length ≤ n * n := by
  rw [ag_len h h'.len]
  have : ∀ s : List Int, inv s ≤ s.length * s.length := by
    intro s
    induction s with
    | nil => exact Nat.le_refl _
    | cons x s ih =>
      show s.countP (fun b => decide (b < x)) + inv s ≤ _
      have hc : s.countP (fun b => decide (b < x)) ≤ s.length := List.countP_le_length
      rw [List.length_cons, Nat.add_mul, Nat.mul_add]
      omega
  have h2 := this (sn one other)
  rw [sn_len, h.len] at h2
  exact h2
def fS0 (l : List Int) (k : Int) : Int := l.getD k.toNat 0
theorem dist_map (h : Rk n one) (h' : Rk n other) (h7 : n ≤ 7) : lim (ag one other) (oMap (fun x5 : (Int × Int) => ((atI one x5.1).bind fun a10 => (atI one x5.2).bind fun b11 => some (if a10 - b11 < 0 then -(a10 - b11) else a10 - b11))) (ag one other)) = some ((ag one other).map fun q => iabs (fS0 one q.1 - fS0 one q.2)) := by
  have := agG_le h h'
  have h49 : n * n ≤ 7 * 7 := Nat.mul_le_mul h7 h7
  rw [lim_le (by omega)]
  refine oMap_some fun q hq => ?_
  have b := ag_mem_lt (one.zip other) 0 q hq
  have zl := zip_len h h'
  have l1 := h.len
  rw [zl] at b
  rw [atI_nat (by omega) (by omega), atI_nat (by omega) (by omega)]
  simp only [Option.bind_some, fS0, List.getD_eq_getElem?_getD]
  rw [List.getElem?_eq_getElem (show q.1.toNat < one.length by omega), List.getElem?_eq_getElem (show q.2.toNat < one.length by omega)]
  rfl
theorem dist_sum (h : Rk n one) (h' : Rk n other) : ((ag one other).map fun q => iabs (fS0 one q.1 - fS0 one q.2)).sum = pw (wd Prod.fst) (one.zip other) := by
  have := ag_sum (L := one.zip other) (g := fun q => iabs (fS0 one q.1 - fS0 one q.2)) (f := Prod.fst) (fun k j x y hx hy => by
    have x1 := (zip_get hx).1
    have y1 := (zip_get hy).1
    simp [fS0, List.getD_eq_getElem?_getD, x1, y1]) (one.zip other) [] rfl
  exact this
theorem q_distance_sum (h : Rk n one) (h' : Rk n other) (h1 : 1 ≤ n) (h7 : n ≤ 7) : M_distance_sum one other = some (pw (wd Prod.fst) (one.zip other)) := by
  have := dist_map h h' h7
  simp only [M_distance_sum, q_check_both h h' h1 h7, q_against h h' h7, Option.bind_some, Option.bind_assoc] at this ⊢
  rw [this, Option.bind_some, dist_sum h h']
theorem pw_swap : ∀ z : List (Int × Int), pw (wd Prod.fst) (z.map Prod.swap) = pw (wd Prod.snd) z
  | [] => rfl
  | x :: z => by
    simp only [List.map_cons, pw, pw_swap z, List.map_map]
    congr 2
    apply List.map_congr_left
    intro q _
    unfold wd
    simp only [Function.comp, ds_swap]
    rfl
/-! inversions, squares -/
theorem inv_loop {p : List Int} (hp : p.length ≤ 5000) : ∀ (suf pre : List Int) (s : Int), p = pre ++ suf → oFold (fun (s2 : Int) (x4 : (Int × Int)) => ((lim (cutD p (some (x4.1 + 1)) none) (oComp (fun x13 : Int => some (decide (x13 < x4.2))) (fun x13 : Int => (some x13)) (cutD p (some (x4.1 + 1)) none))).bind fun a17 => some (s2 + ((a17.length : Nat) : Int)))) (enumL (pre.length : Int) suf) s = some (s + ((inv suf : Nat) : Int))
  | [], pre, s, _ => by simp [enumL, oFold, inv, pc]
  | x :: suf, pre, s, e => by
    have hl : suf.length ≤ p.length := by rw [e]; simp; omega
    unfold enumL oFold
    dsimp only
    rw [cut_suf e, lim_le (by omega), oComp_some (p := fun y => decide (y < x)) (g := fun y => y) (fun _ _ => rfl) (fun _ _ _ => rfl)]
    have ih := inv_loop hp suf (pre ++ [x]) (s + ((suf.countP (fun y => decide (y < x)) : Nat) : Int)) (by rw [e]; simp)
    rw [show (((pre ++ [x]).length : Nat) : Int) = (pre.length : Int) + 1 by simp] at ih
    simp only [Option.bind_some, List.map_id', ← List.countP_eq_length_filter]
    rw [ih]
    have : inv (x :: suf) = suf.countP (fun y => decide (y < x)) + inv suf := rfl
    rw [this]
    congr 1
    omega
theorem q_inversions {s : List Int} (h : s.length ≤ 5000) : M_inversions s = some ((inv s : Nat) : Int) := by
  have := inv_loop (p := s) h s [] 0 rfl
  simp only [List.length_nil, Int.natCast_zero, Int.zero_add] at this
  simp only [M_inversions, Option.bind_some, Option.bind_assoc, bind_id]
  exact this
theorem sq_map {p : List Int} : ∀ (suf : List Int) (o : Int), (∀ x ∈ suf, -1000 ≤ x ∧ x ≤ 1000) → 0 ≤ o → o + suf.length ≤ 5000 → oMap (fun x2 : (Int × Int) => oMul (x2.2 - x2.1 - 1) (x2.2 - x2.1 - 1)) (enumL o suf) = some (((rg (o + 1) suf.length).zip suf).map fun p => (p.1 - p.2) * (p.1 - p.2))
  | [], o, _, _, _ => rfl
  | x :: suf, o, hx, h0, hb => by
    rw [List.length_cons] at hb ⊢
    have := hx x (by simp)
    unfold enumL oMap
    dsimp only
    rw [show oMul (x - o - 1) (x - o - 1) = some ((x - o - 1) * (x - o - 1)) from if_pos (by omega), sq_map (p := p) suf (o + 1) (fun y hy => hx y (List.mem_cons_of_mem _ hy)) (by omega) (by omega)]
    have er : rg (o + 1) (suf.length + 1) = (o + 1) :: rg (o + 1 + 1) suf.length := rfl
    rw [er]
    simp only [Option.bind_some, List.zip_cons_cons, List.map_cons]
    rw [show (x - o - 1) * (x - o - 1) = (o + 1 - x) * (o + 1 - x) by rw [show x - o - 1 = -(o + 1 - x) by omega, Int.neg_mul_neg]]
theorem q_squares_of {s : List Int} (h : Rk n s) (h7 : n ≤ 7) : M_squares_of s = some (sqZ ((rg 1 n).zip s)) := by
  have hl := h.len
  have := sq_map (p := []) s 0 (fun x hx => by have := h.mem.mp hx; omega) (by omega) (by omega)
  simp only [M_squares_of, Option.bind_some, lim_le (show (enumL 0 s).length ≤ 10000 by rw [enumL_len]; omega)]
  rw [this, Option.bind_some, hl]
  rfl
/-! all rankings -/
theorem all5 : ∀ n : Nat, 1 ≤ n → n ≤ 5 → M__law_all (n : Int) = some (pL n (rg 1 n)) ∧ M_all_rankings (n : Int) = some (pL n (rg 1 n)) ∧ (pL n (rg 1 n)).length ≤ 1000 ∧ (pL n (rg 1 n)).all (fun l => decide (sortI l = rg 1 n)) = true
  | 1, _, _ => ⟨by decide +kernel, by decide +kernel, by decide +kernel, by decide +kernel⟩
  | 2, _, _ => ⟨by decide +kernel, by decide +kernel, by decide +kernel, by decide +kernel⟩
  | 3, _, _ => ⟨by decide +kernel, by decide +kernel, by decide +kernel, by decide +kernel⟩
  | 4, _, _ => ⟨by decide +kernel, by decide +kernel, by decide +kernel, by decide +kernel⟩
  | 5, _, _ => ⟨by decide +kernel, by decide +kernel, by decide +kernel, by decide +kernel⟩
  | 0, h, _ => by omega
  | n + 6, _, h => by omega
theorem pL_rk (h1 : 1 ≤ n) (h5 : n ≤ 5) {s : List Int} (hs : s ∈ pL n (rg 1 n)) : Rk n s := by
  have := of_decide_eq_true (List.all_eq_true.mp (all5 n h1 h5).2.2.2 s hs)
  exact (sortI_perm _).symm.trans (by rw [this])
theorem q_law_squares (h : Rk n one) (h' : Rk n other) (h7 : n ≤ 7) : M__law_squares one other = some (sqZ (one.zip other)) := by
  simp only [M__law_squares, Option.bind_some, map_sq h h' h7]
  rfl
theorem q_check_many {m : Int} (h0 : 0 ≤ m) (h : m ≤ 50) : M_check_many m = some () := by
  simp [M_check_many, q_is_int, h0, h]
/-- square sums of the orders with so many inversions -/
def sqs (n : Nat) (m : Int) : List Int := ((pL n (rg 1 n)).filter fun s => decide (((inv s : Nat) : Int) = m)).map fun s => sqZ ((rg 1 n).zip s)
theorem q_sqs (h1 : 1 ≤ n) (h5 : n ≤ 5) (m : Int) : oComp (fun x4 : (List Int) => (M_inversions x4).bind fun a8 => some (decide (a8 = m))) (fun x4 : (List Int) => M_squares_of x4) (pL n (rg 1 n)) = some (sqs n m) := by
  refine oComp_some (fun s hs => ?_) (fun s hs _ => q_squares_of (pL_rk h1 h5 hs) (by omega))
  rw [q_inversions (by rw [(pL_rk h1 h5 hs).len]; omega)]
  rfl
def optMin (l : List Int) : Option Int := if l = [] then none else some (minI l)
def optMax (l : List Int) : Option Int := if l = [] then none else some (maxI l)
theorem q_least_squares (h1 : 1 ≤ n) (h5 : n ≤ 5) {m : Int} (h0 : 0 ≤ m) (h50 : m ≤ 50) : M_least_squares (n : Int) m = some (optMin (sqs n m)) := by
  obtain ⟨a1, a2, a3, a4⟩ := all5 n h1 h5
  have := q_sqs h1 h5 m
  simp only [M_least_squares, q_check_size h1 (show n ≤ 6 by omega), q_check_many h0 h50, Option.bind_some, a2, lim_le (show (pL n (rg 1 n)).length ≤ 10000 by omega), this]
  by_cases e : sqs n m = []
  · simp [e, optMin]
  · simp [e, optMin, oMin]
theorem q_greatest_squares (h1 : 1 ≤ n) (h5 : n ≤ 5) {m : Int} (h0 : 0 ≤ m) (h50 : m ≤ 50) : M_greatest_squares (n : Int) m = some (optMax (sqs n m)) := by
  obtain ⟨a1, a2, a3, a4⟩ := all5 n h1 h5
  have := q_sqs h1 h5 m
  simp only [M_greatest_squares, q_check_size h1 (show n ≤ 6 by omega), q_check_many h0 h50, Option.bind_some, a2, lim_le (show (pL n (rg 1 n)).length ≤ 10000 by omega), this]
  by_cases e : sqs n m = []
  · simp [e, optMax]
  · simp [e, optMax, oMax]
end
end AG

namespace DL
open PySem L2
variable {α : Type}
def agP (p : α → α → Bool) (off : Int) : List α → List (Int × Int)
  | [] => []
  | x :: l => ((enumL (off + 1) l).filter fun q => p x q.2).map (fun q => (off, q.1)) ++ agP p (off + 1) l
theorem agP_len (p : α → α → Bool) : ∀ (l : List α) (o : Int), (agP p o l).length = pc p l
  | [], _ => rfl
  | x :: l, o => by
    unfold agP pc
    rw [List.length_append, List.length_map, agP_len p l, ← List.countP_eq_length_filter]
    congr 1
    conv => rhs; rw [← enumL_snd l (o + 1)]
    rw [List.countP_map]
    rfl
theorem pair_loopP {L : List α} {p : α → α → Bool} {t : Int → Int → Option Bool} (hL : L.length ≤ 50)
    (ht : ∀ (k j : Nat) (x y : α), k < j → L[k]? = some x → L[j]? = some y → t k j = some (p x y)) :
    ∀ (suf pre : List α) (s : List (Int × Int)), L = pre ++ suf → s.length + 50 * suf.length ≤ 5000 →
      oFold (fun s k => (oR2 (k + 1) (L.length : Int)).bind fun l => oFold (fun s j => (t k j).bind fun b => if b = true then oApp s (some (k, j)) (fun v => some v) else some s) l s) (rg (pre.length : Int) suf.length) s = some (s ++ agP p (pre.length : Int) suf)
  | [], pre, s, _, _ => by simp [rg, oFold, agP]
  | x :: suf, pre, s, e, hs => by
    have hlen : L.length = pre.length + suf.length + 1 := by rw [e]; simp; omega
    rw [List.length_cons] at hs ⊢
    unfold rg oFold
    rw [oR2_eq (by omega) (by omega) (by omega), Option.bind_some, show ((L.length : Int) - ((pre.length : Int) + 1)).toNat = suf.length by omega]
    have hx : L[pre.length]? = some x := by rw [e, List.getElem?_append_right (by omega)]; simp
    have e1 := oFold_enum (l := suf) (o := (pre.length : Int) + 1) (s := s)
      (f := fun s j => (t pre.length j).bind fun b => if b = true then oApp s (some ((pre.length : Int), j)) (fun v => some v) else some s)
      (g := fun s q => (some (p x q.2)).bind fun b => if b = true then oApp s (some ((pre.length : Int), q.1)) (fun v => some v) else some s)
      (fun s q hq => by
        obtain ⟨k, h1, h2, h3⟩ := enumL_get2 hq
        have hy : L[pre.length + (k + 1)]? = some q.2 := by
          rw [e, List.getElem?_append_right (by omega), show pre.length + (k + 1) - pre.length = k + 1 by omega, List.getElem?_cons_succ, h3]
        have := ht pre.length (pre.length + (k + 1)) x q.2 (by omega) hx hy
        rw [show ((pre.length + (k + 1) : Nat) : Int) = q.1 by omega] at this
        rw [this])
    rw [e1, oFold_filter (p := fun q => p x q.2) (f := fun q : Int × α => ((pre.length : Int), q.1)) (fun _ _ => rfl) (by rw [enumL_len]; omega), Option.bind_some]
    have hf : (((enumL ((pre.length : Int) + 1) suf).filter fun q => p x q.2).map fun q => ((pre.length : Int), q.1)).length ≤ suf.length := by
      rw [List.length_map]
      exact Nat.le_trans (List.length_filter_le _ _) (by rw [enumL_len]; exact Nat.le_refl _)
    have ih := pair_loopP hL ht suf (pre ++ [x]) (s ++ ((enumL ((pre.length : Int) + 1) suf).filter fun q => p x q.2).map fun q => ((pre.length : Int), q.1)) (by rw [e]; simp) (by rw [List.length_append]; omega)
    rw [show (((pre ++ [x]).length : Nat) : Int) = (pre.length : Int) + 1 by simp] at ih
    rw [ih]
    simp [agP]
/-- is there a pair -/
def anyP (p : α → α → Bool) : List α → Bool
  | [] => false
  | x :: l => l.any (p x) || anyP p l
theorem anyP_pc (p : α → α → Bool) : ∀ l : List α, anyP p l = !decide (pc p l = 0)
  | [] => rfl
  | x :: l => by
    unfold anyP pc
    rw [anyP_pc p l]
    have : l.any (p x) = !decide (l.countP (p x) = 0) := by
      rw [Bool.eq_iff_iff, List.any_eq_true]
      simp [List.countP_eq_zero]
    rw [this]
    by_cases a : l.countP (p x) = 0 <;> by_cases b : pc p l = 0 <;> simp [a, b]
theorem oFor_enum {σ τ : Type} {f : σ → Int → Option (TO σ τ)} {g : σ → Int × α → Option (TO σ τ)} : ∀ {l : List α} {o : Int} {s : σ}, (∀ s q, q ∈ enumL o l → f s q.1 = g s q) → oFor f (rg o l.length) s = oFor g (enumL o l) s
  | [], _, _, _ => rfl
  | x :: l, o, s, h => by
    rw [List.length_cons]
    show oFor f (o :: rg (o + 1) l.length) s = oFor g ((o, x) :: enumL (o + 1) l) s
    unfold oFor
    rw [h s (o, x) (by simp [enumL])]
    cases g s (o, x) with
    | none => rfl
    | some z =>
      cases z with
      | rt r => rfl
      | nx s' => exact oFor_enum fun s q hq => h s q (by unfold enumL; exact List.mem_cons_of_mem _ hq)
theorem oFor_any {τ : Type} {p : α → Bool} {r : τ} : ∀ {l : List α} {f : Unit → α → Option (TO Unit τ)}, (∀ x ∈ l, f () x = if p x = true then some (.rt r) else some (.nx ())) → oFor f l () = if l.any p = true then some (.rt r) else some (.nx ())
  | [], _, _ => rfl
  | x :: l, f, h => by
    unfold oFor
    rw [h x (by simp)]
    by_cases q : p x = true
    · simp [q]
    · have ih := oFor_any (l := l) (f := f) (fun y hy => h y (List.mem_cons_of_mem _ hy))
      simp only [q, List.any_cons]
      simp [ih]
theorem any_loop {τ : Type} {L : List α} {p : α → α → Bool} {r : τ} {t : Int → Int → Option Bool} (hL : L.length ≤ 50)
    (ht : ∀ (k j : Nat) (x y : α), k < j → L[k]? = some x → L[j]? = some y → t k j = some (p x y)) :
    ∀ (suf pre : List α), L = pre ++ suf →
      oFor (fun (_ : Unit) k => (oR2 (k + 1) (L.length : Int)).bind fun l => (oFor (fun (_ : Unit) j => (t k j).bind fun b => if b = true then some (TO.rt r) else some (TO.nx ())) l ()).bind (oGo (fun _ : Unit => some (TO.nx ())) (fun r => TO.rt r))) (rg (pre.length : Int) suf.length) () = if anyP p suf = true then some (TO.rt r) else some (TO.nx ())
  | [], pre, _ => rfl
  | x :: suf, pre, e => by
    have hlen : L.length = pre.length + suf.length + 1 := by rw [e]; simp; omega
    rw [List.length_cons]
    unfold rg oFor
    rw [oR2_eq (by omega) (by omega) (by omega), Option.bind_some, show ((L.length : Int) - ((pre.length : Int) + 1)).toNat = suf.length by omega]
    have hx : L[pre.length]? = some x := by rw [e, List.getElem?_append_right (by omega)]; simp
    have e1 := oFor_enum (τ := τ) (σ := Unit) (l := suf) (o := (pre.length : Int) + 1) (s := ())
      (f := fun _ j => (t pre.length j).bind fun b => if b = true then some (TO.rt r) else some (TO.nx ()))
      (g := fun _ q => if p x q.2 = true then some (TO.rt r) else some (TO.nx ()))
      (fun s q hq => by
        obtain ⟨k, h1, h2, h3⟩ := enumL_get2 hq
        have hy : L[pre.length + (k + 1)]? = some q.2 := by
          rw [e, List.getElem?_append_right (by omega), show pre.length + (k + 1) - pre.length = k + 1 by omega, List.getElem?_cons_succ, h3]
        have := ht pre.length (pre.length + (k + 1)) x q.2 (by omega) hx hy
        rw [show ((pre.length + (k + 1) : Nat) : Int) = q.1 by omega] at this
        rw [this]
        rfl)
    rw [e1, oFor_any (p := fun q : Int × α => p x q.2) (r := r) (fun _ _ => rfl)]
    have ea : (enumL ((pre.length : Int) + 1) suf).any (fun q => p x q.2) = suf.any (p x) := by
      conv => rhs; rw [← enumL_snd suf ((pre.length : Int) + 1)]
      rw [List.any_map]
      rfl
    rw [ea]
    have ih := any_loop (r := r) hL ht suf (pre ++ [x]) (by rw [e]; simp)
    rw [show (((pre ++ [x]).length : Nat) : Int) = (pre.length : Int) + 1 by simp] at ih
    unfold anyP
    by_cases q : suf.any (p x) = true
    · simp [q, oGo]
    · simp only [q, Bool.false_or]
      rw [← ih]
      rfl
theorem oFor_all {τ : Type} {f : Unit → α → Option (TO Unit τ)} : ∀ {l : List α}, (∀ x ∈ l, f () x = some (.nx ())) → oFor f l () = some (.nx ())
  | [], _ => rfl
  | x :: l, h => by
    unfold oFor
    rw [h x (by simp)]
    exact oFor_all fun y hy => h y (List.mem_cons_of_mem _ hy)
end DL
namespace AG
open PySem L2 DL
/-- pairs that two rankings order otherwise -/
def dd (a b : List Int) : Nat := pc ds (a.zip b)
theorem dd_len {a b : List Int} : (ag a b).length = dd a b := by unfold ag dd; rw [agG_len]
def e12 (t : Int × Int × Int) : Int × Int := (t.1, t.2.1)
def e13 (t : Int × Int × Int) : Int × Int := (t.1, t.2.2)
def e23 (t : Int × Int × Int) : Int × Int := (t.2.1, t.2.2)
/-- against both -/
def bt (p q : Int × Int × Int) : Bool := !ds (e13 p) (e13 q) && ds (e12 p) (e12 q)
def D3 (p q : Int × Int × Int) : Prop := p.1 ≠ q.1 ∧ p.2.1 ≠ q.2.1 ∧ p.2.2 ≠ q.2.2
theorem bt_lt {p q : Int × Int × Int} (h : D3 p q) : bt p q = (decide (decide (p.1 < q.1) = decide (p.2.2 < q.2.2)) && !decide (decide (p.1 < q.1) = decide (p.2.1 < q.2.1))) := by
  unfold bt
  rw [ds_lt (p := e13 p) (q := e13 q) h.1 h.2.2, ds_lt (p := e12 p) (q := e12 q) h.1 h.2.1, Bool.not_not]
  rfl
theorem bt_sum {p q : Int × Int × Int} (h : D3 p q) : (if ds (e12 p) (e12 q) = true then 1 else 0) + (if ds (e23 p) (e23 q) = true then 1 else 0) = (if ds (e13 p) (e13 q) = true then 1 else 0) + 2 * (if bt p q = true then 1 else 0 : Nat) := by
  unfold bt
  rw [ds_lt (p := e13 p) (q := e13 q) h.1 h.2.2, ds_lt (p := e12 p) (q := e12 q) h.1 h.2.1, ds_lt (p := e23 p) (q := e23 q) h.2.1 h.2.2]
  unfold e12 e13 e23
  dsimp only
  by_cases a : p.1 < q.1 <;> by_cases b : p.2.1 < q.2.1 <;> by_cases c : p.2.2 < q.2.2 <;> simp [a, b, c]
theorem countP_sum {α : Type} (p : α → Bool) : ∀ l : List α, l.countP p = (l.map fun x => if p x = true then 1 else 0).sum
  | [] => rfl
  | x :: l => by
    rw [List.countP_cons, List.map_cons, List.sum_cons, countP_sum p l]
    omega
theorem sum_add {α : Type} (f g : α → Nat) : ∀ l : List α, (l.map f).sum + (l.map g).sum = (l.map fun x => f x + g x).sum
  | [] => rfl
  | x :: l => by
    have := sum_add f g l
    simp only [List.map_cons, List.sum_cons]
    omega
theorem sum_two {α : Type} (f : α → Nat) : ∀ l : List α, 2 * (l.map f).sum = (l.map fun x => 2 * f x).sum
  | [] => rfl
  | x :: l => by
    have := sum_two f l
    simp only [List.map_cons, List.sum_cons]
    omega
theorem pc_bt : ∀ {l : List (Int × Int × Int)}, l.Pairwise D3 → pc (fun p q => ds (e12 p) (e12 q)) l + pc (fun p q => ds (e23 p) (e23 q)) l = pc (fun p q => ds (e13 p) (e13 q)) l + 2 * pc bt l
  | [], _ => rfl
  | x :: l, h => by
    rw [List.pairwise_cons] at h
    have ih := pc_bt h.2
    unfold pc
    have e : l.countP (fun q => ds (e12 x) (e12 q)) + l.countP (fun q => ds (e23 x) (e23 q)) = l.countP (fun q => ds (e13 x) (e13 q)) + 2 * l.countP (bt x) := by
      rw [countP_sum, countP_sum, countP_sum, countP_sum, sum_add, sum_two, sum_add]
      congr 1
      apply List.map_congr_left
      intro q hq
      exact bt_sum (h.1 q hq)
    omega
/-- the three ranks of each thing -/
def zz (a m b : List Int) : List (Int × Int × Int) := a.zip (m.zip b)
section
variable {n : Nat} {a m b : List Int}
theorem zz_get {k : Nat} {x : Int × Int × Int} (h : (zz a m b)[k]? = some x) : a[k]? = some x.1 ∧ m[k]? = some x.2.1 ∧ b[k]? = some x.2.2 := by
  unfold zz at h
  rw [List.getElem?_zip_eq_some, List.getElem?_zip_eq_some] at h
  exact h
theorem zz_len (ha : Rk n a) (hm : Rk n m) (hb : Rk n b) : (zz a m b).length = n := by
  unfold zz
  rw [List.length_zip, List.length_zip, ha.len, hm.len, hb.len]
  omega
theorem zz_D3 (ha : Rk n a) (hm : Rk n m) (hb : Rk n b) : (zz a m b).Pairwise D3 := by
  rw [List.pairwise_iff_getElem]
  intro i j hi hj hij
  have h1 := zz_get (List.getElem?_eq_getElem hi)
  have h2 := zz_get (List.getElem?_eq_getElem hj)
  exact ⟨Rk_ne ha hij h1.1 h2.1, Rk_ne hm hij h1.2.1 h2.2.1, Rk_ne hb hij h1.2.2 h2.2.2⟩
theorem zz12 (ha : Rk n a) (hm : Rk n m) (hb : Rk n b) : (zz a m b).map e12 = a.zip m := by
  unfold zz e12
  have : m = (m.zip b).map Prod.fst := by rw [List.map_fst_zip (by rw [hm.len, hb.len]; omega)]
  conv => rhs; rw [this, List.zip_map_right]
  rfl
theorem zz13 (ha : Rk n a) (hm : Rk n m) (hb : Rk n b) : (zz a m b).map e13 = a.zip b := by
  unfold zz e13
  have : b = (m.zip b).map Prod.snd := by rw [List.map_snd_zip (by rw [hm.len, hb.len]; omega)]
  conv => rhs; rw [this, List.zip_map_right]
  rfl
theorem zz23 (ha : Rk n a) (hm : Rk n m) (hb : Rk n b) : (zz a m b).map e23 = m.zip b := by
  unfold zz e23
  rw [show (fun t : Int × Int × Int => (t.2.1, t.2.2)) = Prod.snd from rfl, List.map_snd_zip (by rw [List.length_zip, ha.len, hm.len, hb.len]; omega)]
def tw (a m b : List Int) : Bool := decide (dd a m + dd m b = dd a b)
theorem tw_pc (ha : Rk n a) (hm : Rk n m) (hb : Rk n b) : dd a m + dd m b = dd a b + 2 * pc bt (zz a m b) := by
  have := pc_bt (zz_D3 ha hm hb)
  rw [← pc_map e12 ds, ← pc_map e23 ds, ← pc_map e13 ds, zz12 ha hm hb, zz13 ha hm hb, zz23 ha hm hb] at this
  exact this
theorem tw_iff (ha : Rk n a) (hm : Rk n m) (hb : Rk n b) : tw a m b = decide (pc bt (zz a m b) = 0) := by
  have := tw_pc ha hm hb
  unfold tw
  rw [decide_eq_decide]
  omega
theorem q_lies_between (ha : Rk n a) (hm : Rk n m) (hb : Rk n b) (h7 : n ≤ 7) : M_lies_between a m b = some (tw a m b) := by
  have zl := zz_len ha hm hb
  have := any_loop (L := zz a m b) (p := bt) (r := false) (t := fun x4 x12 => ((atI a x4).bind fun a18 => (atI a x12).bind fun b19 => some (decide (a18 < b19))).bind fun a26 => ((atI b x4).bind fun a24 => (atI b x12).bind fun b25 => some (decide (a24 < b25))).bind fun b27 => (if decide (a26 = b27) = true then ((atI m x4).bind fun a35 => (atI m x12).bind fun b36 => some (decide (a35 < b36))).bind fun b38 => some (!decide (a26 = b38)) else some false)) (by omega) (fun k j x y hk hx hy => by
    obtain ⟨x1, x2, x3⟩ := zz_get hx
    obtain ⟨y1, y2, y3⟩ := zz_get hy
    simp only [atI_get x1, atI_get x2, atI_get x3, atI_get y1, atI_get y2, atI_get y3, Option.bind_some]
    rw [bt_lt ⟨Rk_ne ha hk x1 y1, Rk_ne hm hk x2 y2, Rk_ne hb hk x3 y3⟩]
    by_cases c : decide (x.1 < y.1) = decide (x.2.2 < y.2.2) <;> simp [c]) (zz a m b) [] rfl
  unfold M_lies_between
  simp only [Option.bind_some, Option.bind_assoc, ha.len, zl, List.length_nil, Int.natCast_zero] at this ⊢
  rw [oR1_eq (by omega), Option.bind_some, show ((n : Int)).toNat = n by omega]
  rw [this, tw_iff ha hm hb, anyP_pc]
  by_cases c : pc bt (zz a m b) = 0
  · simp [c, oGo]
  · simp [c, oGo]
theorem q_is_between (ha : Rk n a) (hm : Rk n m) (hb : Rk n b) (h1 : 1 ≤ n) (h7 : n ≤ 7) : M_is_between a m b = some (tw a m b) := by
  simp only [M_is_between, q_check_ranking ha h1 h7, q_check_both ha hm h1 h7, q_check_both ha hb h1 h7, Option.bind_some, q_lies_between ha hm hb h7]
theorem q_check_small (ha : Rk n a) (hb : Rk n b) (h1 : 1 ≤ n) (h6 : n ≤ 6) : M_check_small a b = some () := by
  have : ¬ (6 : Int) < (n : Int) := by omega
  simp [M_check_small, q_check_both ha hb h1 (show n ≤ 7 by omega), ha.len, this]
theorem all6 : ∀ n : Nat, 1 ≤ n → n ≤ 6 → M_all_rankings (n : Int) = some (pL n (rg 1 n)) ∧ (pL n (rg 1 n)).length ≤ 1000 ∧ (pL n (rg 1 n)).all (fun l => decide (sortI l = rg 1 n)) = true
  | 1, _, _ => ⟨by decide +kernel, by decide +kernel, by decide +kernel⟩
  | 2, _, _ => ⟨by decide +kernel, by decide +kernel, by decide +kernel⟩
  | 3, _, _ => ⟨by decide +kernel, by decide +kernel, by decide +kernel⟩
  | 4, _, _ => ⟨by decide +kernel, by decide +kernel, by decide +kernel⟩
  | 5, _, _ => ⟨by decide +kernel, by decide +kernel, by decide +kernel⟩
  | 6, _, _ => ⟨by decide +kernel, by decide +kernel, by decide +kernel⟩
  | 0, h, _ => by omega
  | n + 7, _, h => by omega
theorem pL_rk6 (h1 : 1 ≤ n) (h6 : n ≤ 6) {s : List Int} (hs : s ∈ pL n (rg 1 n)) : Rk n s := by
  have := of_decide_eq_true (List.all_eq_true.mp (all6 n h1 h6).2.2 s hs)
  exact (sortI_perm _).symm.trans (by rw [this])
/-- all between -/
def btw (n : Nat) (a b : List Int) : List (List Int) := (pL n (rg 1 n)).filter fun m => tw a m b
theorem btw_mem (h1 : 1 ≤ n) (h6 : n ≤ 6) {m : List Int} : m ∈ btw n a b ↔ Rk n m ∧ tw a m b = true := by
  unfold btw
  rw [List.mem_filter]
  exact ⟨fun h => ⟨pL_rk6 h1 h6 h.1, h.2⟩, fun h => ⟨h.1.pL, h.2⟩⟩
theorem q_between (ha : Rk n a) (hb : Rk n b) (h1 : 1 ≤ n) (h6 : n ≤ 6) : M_between a b = some (btw n a b) := by
  obtain ⟨a1, a2, a3⟩ := all6 n h1 h6
  simp only [M_between, q_check_small ha hb h1 h6, Option.bind_some, ha.len, a1, lim_le (show (pL n (rg 1 n)).length ≤ 10000 by omega)]
  rw [oComp_some (p := fun m => tw a m b) (g := fun m => m) (fun m hm => q_lies_between ha (pL_rk6 h1 h6 hm) hb (by omega)) (fun _ _ _ => rfl)]
  simp [btw]
theorem q_count_between (ha : Rk n a) (hb : Rk n b) (h1 : 1 ≤ n) (h6 : n ≤ 6) : M_count_between a b = some (((btw n a b).length : Nat) : Int) := by
  simp only [M_count_between, q_between ha hb h1 h6, Option.bind_some]
def gapd (a b m : List Int) : Int := iabs (((dd a m : Nat) : Int) - ((dd m b : Nat) : Int))
theorem map_gapd {l : List (List Int)} (f : List Int → List Int → Option (List (Int × Int))) (hf : ∀ {x y : List Int}, Rk n x → Rk n y → f x y = some (ag x y)) (ha : Rk n a) (hb : Rk n b) (hl : ∀ m ∈ l, Rk n m) : oMap (fun x6 : (List Int) => ((((f a x6).bind fun a9 => some ((a9.length : Nat) : Int)).bind fun a13 => ((f x6 b).bind fun a12 => some ((a12.length : Nat) : Int)).bind fun b14 => some (a13 - b14)).bind fun a15 => some (if a15 < 0 then -a15 else a15))) l = some (l.map (gapd a b)) := by
  refine oMap_some fun m hm => ?_
  rw [hf ha (hl m hm), hf (hl m hm) hb]
  simp only [Option.bind_some, dd_len]
  rfl
def hlf (n : Nat) (a b : List Int) : List (List Int) := (btw n a b).filter fun m => decide (gapd a b m = minI ((btw n a b).map (gapd a b)))
theorem zip_self {α β : Type} (g : α → β) : ∀ l : List α, l.zip (l.map g) = l.map fun x => (x, g x)
  | [] => rfl
  | x :: l => by simp [zip_self g l]
theorem self_tw (ha : Rk n a) (hb : Rk n b) : tw a a b = true := by
  have h := tw_pc ha ha hb
  have : dd a a = 0 := by
    rw [← dd_len, ag_len ha ha.len, sn_self ha]
    unfold inv
    have : ∀ l : List Int, l.Pairwise (· < ·) → pc (fun a b => decide (b < a)) l = 0 := by
      intro l
      induction l with
      | nil => intro _; rfl
      | cons x l ih =>
        intro h
        rw [List.pairwise_cons] at h
        unfold pc
        rw [ih h.2, Nat.add_zero, List.countP_eq_zero]
        intro y hy
        have := h.1 y hy
        simp
        omega
    exact this _ (rg_lt n 1)
  unfold tw
  rw [decide_eq_true_eq, this]
  omega
theorem btw_ne (ha : Rk n a) (hb : Rk n b) (h1 : 1 ≤ n) (h6 : n ≤ 6) : btw n a b ≠ [] := List.ne_nil_of_mem ((btw_mem h1 h6).mpr ⟨ha, self_tw ha hb⟩)
theorem q_halfway (ha : Rk n a) (hb : Rk n b) (h1 : 1 ≤ n) (h6 : n ≤ 6) : M_halfway a b = some (hlf n a b) := by
  have rk : ∀ m ∈ btw n a b, Rk n m := fun m hm => ((btw_mem h1 h6).mp hm).1
  have len : (btw n a b).length ≤ 1000 := Nat.le_trans (List.length_filter_le _ _) (all6 n h1 h6).2.1
  have ne : (btw n a b).map (gapd a b) ≠ [] := by simpa using btw_ne ha hb h1 h6
  have e1 := map_gapd (l := btw n a b) M_against (fun hx hy => q_against hx hy (by omega)) ha hb rk
  have e2 : oMin ((btw n a b).map (gapd a b)) = some (minI ((btw n a b).map (gapd a b))) := if_pos ne
  simp only [M_halfway, q_check_small ha hb h1 h6, q_between ha hb h1 h6, Option.bind_some, lim_le (show (btw n a b).length ≤ 10000 by omega)] at e1 ⊢
  rw [e1, Option.bind_some, e2, zip_self, lim_le (by rw [List.length_map]; omega)]
  simp only [Option.bind_some]
  rw [oComp_some (p := fun x : List Int × Int => decide (x.2 = minI ((btw n a b).map (gapd a b)))) (g := fun x => x.1) (fun _ _ => rfl) (fun _ _ _ => rfl), List.filter_map, List.map_map]
  unfold hlf
  have : ((fun x : List Int × Int => x.1) ∘ fun x => (x, gapd a b x)) = id := rfl
  rw [this, List.map_id]
  rfl
theorem q_near (ha : Rk n a) (h1 : 1 ≤ n) (h6 : n ≤ 6) {k : Int} (h0 : 0 ≤ k) (h50 : k ≤ 50) : M_near a k = some ((pL n (rg 1 n)).filter fun m => decide (((dd a m : Nat) : Int) ≤ k)) := by
  obtain ⟨a1, a2, a3⟩ := all6 n h1 h6
  simp only [M_near, q_check_small ha ha h1 h6, q_is_int, h0, h50, Option.bind_some, ha.len, a1, lim_le (show (pL n (rg 1 n)).length ≤ 10000 by omega)]
  rw [oComp_some (p := fun m => decide (((dd a m : Nat) : Int) ≤ k)) (g := fun m => m) (fun m hm => by rw [q_against ha (pL_rk6 h1 h6 hm) (by omega)]; simp only [Option.bind_some, dd_len]) (fun _ _ _ => rfl)]
  simp
end
end AG

namespace DL
open PySem L2
theorem oComp_enum {α β : Type} {t : Int → Option Bool} {f : Int → Option β} {p : α → Bool} {g : α → β} : ∀ {l : List α} {o : Int}, (∀ q ∈ enumL o l, t q.1 = some (p q.2) ∧ f q.1 = some (g q.2)) → oComp t f (rg o l.length) = some ((l.filter p).map g)
  | [], _, _ => rfl
  | x :: l, o, h => by
    rw [List.length_cons]
    unfold rg oComp
    obtain ⟨h1, h2⟩ := h (o, x) (by simp [enumL])
    dsimp only at h1 h2
    rw [h1, h2, oComp_enum (l := l) (o := o + 1) (p := p) (g := g) (fun q hq => h q (by unfold enumL; exact List.mem_cons_of_mem _ hq))]
    by_cases q : p x = true
    · simp [q]
    · simp [q]
/-- the longest rising part, by last things -/
def lisB (acc : List (Int × Int)) (x : Int) : Int := 1 + maxI (0 :: ((acc.filter fun p => decide (p.1 < x)).map Prod.snd))
def lisG : List (Int × Int) → List Int → List (Int × Int)
  | acc, [] => acc
  | acc, x :: l => lisG (acc ++ [(x, lisB acc x)]) l
def Upw (v : List Int) : Prop := v.Pairwise (· < ·)
def lisI (pre : List Int) (acc : List (Int × Int)) : Prop :=
  acc.map Prod.fst = pre ∧ (∀ q ∈ acc, ∃ v, (v ++ [q.1]).Sublist pre ∧ Upw (v ++ [q.1]) ∧ ((v.length : Nat) : Int) + 1 = q.2) ∧
  (∀ v x, (v ++ [x]).Sublist pre → Upw (v ++ [x]) → ∃ q ∈ acc, q.1 = x ∧ ((v.length : Nat) : Int) + 1 ≤ q.2)
theorem ris_snoc {v : List Int} {x : Int} : Upw (v ++ [x]) ↔ Upw v ∧ ∀ y ∈ v, y < x := by
  unfold Upw
  rw [List.pairwise_append]
  simp
theorem sub_snoc {v pre : List Int} {x : Int} (h : v.Sublist (pre ++ [x])) : v.Sublist pre ∨ ∃ w, v = w ++ [x] ∧ w.Sublist pre := by
  obtain ⟨a, b, e, h1, h2⟩ := List.sublist_append_iff.mp h
  cases h2 with
  | cons _ h2 =>
    have : b = [] := List.sublist_nil.mp h2
    left
    rw [e, this, List.append_nil]
    exact h1
  | cons_cons _ h2 =>
    rename_i b'
    have : b' = [] := List.sublist_nil.mp h2
    right
    exact ⟨a, by rw [e, this], h1⟩
theorem lis_step {pre : List Int} {acc : List (Int × Int)} {x : Int} (h : lisI pre acc) : lisI (pre ++ [x]) (acc ++ [(x, lisB acc x)]) := by
  obtain ⟨h1, h2, h3⟩ := h
  obtain ⟨m1, m2⟩ := maxI_spec (0 :: ((acc.filter fun p => decide (p.1 < x)).map Prod.snd)) (by simp)
  refine ⟨by simp [h1], fun q hq => ?_, fun v y hs hr => ?_⟩
  · rcases List.mem_append.mp hq with hq | hq
    · obtain ⟨v, a, b, c⟩ := h2 q hq
      exact ⟨v, a.trans (List.sublist_append_left _ _), b, c⟩
    · rw [List.mem_singleton] at hq
      subst hq
      rcases List.mem_cons.mp m1 with e | e
      · exact ⟨[], by simp, by simp [Upw], by unfold lisB; rw [e]; rfl⟩
      · obtain ⟨q, hq, e⟩ := List.mem_map.mp e
        rw [List.mem_filter, decide_eq_true_eq] at hq
        obtain ⟨v, a, b, c⟩ := h2 q hq.1
        refine ⟨v ++ [q.1], a.append (List.Sublist.refl _), ris_snoc.mpr ⟨b, fun y hy => ?_⟩, ?_⟩
        · rcases List.mem_append.mp hy with hy | hy
          · have := (ris_snoc.mp b).2 y hy
            have := hq.2
            dsimp only at *
            omega
          · rw [List.mem_singleton] at hy
            rw [hy]
            exact hq.2
        · unfold lisB
          rw [← e, List.length_append, List.length_singleton]
          omega
  · rcases sub_snoc hs with hs | ⟨w, e, hw⟩
    · obtain ⟨q, a, b, c⟩ := h3 v y hs hr
      exact ⟨q, List.mem_append_left _ a, b, c⟩
    · obtain ⟨rfl, e⟩ := List.append_inj' e rfl
      have e : y = x := by simpa using e
      subst e
      refine ⟨(y, lisB acc y), by simp, rfl, ?_⟩
      obtain ⟨r1, r2⟩ := ris_snoc.mp hr
      show _ ≤ 1 + maxI _
      rcases List.eq_nil_or_concat v with e | ⟨u, z, e⟩
      · subst e
        have := m2 0 (by simp)
        simp only [List.length_nil]
        omega
      · rw [List.concat_eq_append] at e
        subst e
        obtain ⟨q, a, b, c⟩ := h3 u z hw r1
        have := m2 q.2 (List.mem_cons_of_mem _ (List.mem_map.mpr ⟨q, List.mem_filter.mpr ⟨a, by rw [b]; exact decide_eq_true (r2 z (by simp))⟩, rfl⟩))
        rw [List.length_append, List.length_singleton]
        omega
theorem lis_all : ∀ (suf pre : List Int) (acc : List (Int × Int)), lisI pre acc → lisI (pre ++ suf) (lisG acc suf)
  | [], pre, acc, h => by simpa [lisG] using h
  | x :: suf, pre, acc, h => by
    have := lis_all suf (pre ++ [x]) (acc ++ [(x, lisB acc x)]) (lis_step h)
    rw [List.append_assoc] at this
    exact this
theorem lis_spec {s : List Int} (hs : s ≠ []) : (∃ v, v.Sublist s ∧ Upw v ∧ ((v.length : Nat) : Int) = maxI ((lisG [] s).map Prod.snd)) ∧ ∀ v, v.Sublist s → Upw v → ((v.length : Nat) : Int) ≤ maxI ((lisG [] s).map Prod.snd) := by
  obtain ⟨h1, h2, h3⟩ := lis_all s [] [] ⟨rfl, by simp, fun v x h => by simp at h⟩
  rw [List.nil_append] at h1 h2 h3
  have hne : (lisG [] s).map Prod.snd ≠ [] := by
    intro e
    have := congrArg List.length e
    rw [List.length_map] at this
    have q := congrArg List.length h1
    rw [List.length_map] at q
    rw [q] at this
    exact hs (List.eq_nil_of_length_eq_zero this)
  obtain ⟨m1, m2⟩ := maxI_spec _ hne
  constructor
  · obtain ⟨q, hq, e⟩ := List.mem_map.mp m1
    obtain ⟨v, a, b, c⟩ := h2 q hq
    exact ⟨v ++ [q.1], a, b, by rw [← e, List.length_append, List.length_singleton]; omega⟩
  · intro v hv hr
    rcases List.eq_nil_or_concat v with e | ⟨u, z, e⟩
    · subst e
      obtain ⟨q, hq, e⟩ := List.mem_map.mp m1
      obtain ⟨v, a, b, c⟩ := h2 q hq
      simp
      omega
    · rw [List.concat_eq_append] at e
      subst e
      obtain ⟨q, a, b, c⟩ := h3 u z hv hr
      have := m2 q.2 (List.mem_map.mpr ⟨q, a, rfl⟩)
      rw [List.length_append, List.length_singleton]
      omega
end DL
namespace AG
open PySem L2 DL
theorem lis_loop {p : List Int} (hp : p.length ≤ 50) : ∀ (suf pre : List Int) (acc : List (Int × Int)), p = pre ++ suf → acc.map Prod.fst = pre → oFold (fun (s2 : (List Int)) (x5 : (Int × Int)) => (oApp s2 ((((oR1 x5.1).bind fun l13 => lim l13 (oComp (fun x10 : Int => ((atI p x10).bind fun a16 => some (decide (a16 < x5.2)))) (fun x10 : Int => atI s2 x10) l13)).bind fun b19 => oCat [0] b19).bind fun a20 => (oMax a20).bind fun b22 => some (1 + b22)) fun v7 => (some v7))) (enumL (pre.length : Int) suf) (acc.map Prod.snd) = some ((lisG acc suf).map Prod.snd)
  | [], pre, acc, _, _ => rfl
  | x :: suf, pre, acc, e, ha => by
    have hl : acc.length = pre.length := by rw [← ha, List.length_map]
    have hp' : pre.length + suf.length + 1 ≤ 50 := by rw [e] at hp; simp at hp; omega
    have hc : oComp (fun x10 : Int => ((atI p x10).bind fun a16 => some (decide (a16 < x)))) (fun x10 : Int => atI (acc.map Prod.snd) x10) (rg 0 pre.length) = some ((acc.filter fun p => decide (p.1 < x)).map Prod.snd) := by
      rw [← hl]
      refine oComp_enum (p := fun q : Int × Int => decide (q.1 < x)) (g := Prod.snd) fun q hq => ?_
      obtain ⟨k, k1, k2, k3⟩ := enumL_get2 hq
      have e1 : q.1 = (k : Int) := by omega
      have g1 : p[k]? = some q.2.1 := by
        rw [e, List.getElem?_append_left (by omega), ← ha, List.getElem?_map, k3]
        rfl
      have g2 : (acc.map Prod.snd)[k]? = some q.2.2 := by rw [List.getElem?_map, k3]; rfl
      rw [e1, atI_get g1, atI_get g2]
      exact ⟨rfl, rfl⟩
    have hf : ((acc.filter fun p => decide (p.1 < x)).map Prod.snd).length ≤ 50 := by
      rw [List.length_map]
      exact Nat.le_trans (List.length_filter_le _ _) (by omega)
    unfold enumL oFold
    dsimp only
    rw [oR1_eq (by omega), Option.bind_some, show ((pre.length : Int)).toNat = pre.length by omega, lim_le (by rw [rg_len]; omega), hc, Option.bind_some, oCat_eq (by simp only [List.length_singleton]; omega), Option.bind_some, show oMax ([0] ++ (acc.filter fun p => decide (p.1 < x)).map Prod.snd) = some (maxI (0 :: (acc.filter fun p => decide (p.1 < x)).map Prod.snd)) from if_pos (by simp), Option.bind_some]
    have : oApp (acc.map Prod.snd) (some (1 + maxI (0 :: (acc.filter fun p => decide (p.1 < x)).map Prod.snd))) (fun v7 => some v7) = some ((acc ++ [(x, lisB acc x)]).map Prod.snd) := by
      unfold oApp
      rw [Option.bind_some, if_pos (by rw [List.length_map]; unfold LIM; omega)]
      simp [lisB]
    rw [this, Option.bind_some]
    have ih := lis_loop hp suf (pre ++ [x]) (acc ++ [(x, lisB acc x)]) (by rw [e]; simp) (by simp [ha])
    rw [show (((pre ++ [x]).length : Nat) : Int) = (pre.length : Int) + 1 by simp] at ih
    exact ih
theorem lisG_len : ∀ (suf : List Int) (acc : List (Int × Int)), (lisG acc suf).length = acc.length + suf.length
  | [], acc => rfl
  | x :: suf, acc => by
    show (lisG _ suf).length = _
    rw [lisG_len suf]
    simp
    omega
theorem q_lis {s : List Int} (h : s.length ≤ 50) (hs : s ≠ []) : M_longest_rising s = some (maxI ((lisG [] s).map Prod.snd)) := by
  have := lis_loop (p := s) h s [] [] rfl rfl
  simp only [List.map_nil, List.length_nil, Int.natCast_zero] at this
  simp only [M_longest_rising, Option.bind_some, Option.bind_assoc] at this ⊢
  rw [this, Option.bind_some]
  refine if_pos fun e => hs ?_
  have q := congrArg List.length e
  rw [List.length_map, lisG_len] at q
  simp at q
  exact q
theorem lr_eq {s : List Int} (h : s.length ≤ 50) (hs : s ≠ []) : (M_longest_rising s).isSome = true ∧ lr s = maxI ((lisG [] s).map Prod.snd) := by
  unfold lr
  rw [q_lis h hs]
  exact ⟨rfl, rfl⟩
end AG

namespace AG
open PySem L2 DL
theorem rk_ne {n : Nat} {s : List Int} (h : Rk n s) (h1 : 1 ≤ n) : s ≠ [] := fun e => by
  have := h.len
  rw [e] at this
  simp at this
  omega
theorem lr_spec {n : Nat} {s : List Int} (h : Rk n s) (h1 : 1 ≤ n) (h7 : n ≤ 7) : (∃ v, v.Sublist s ∧ Upw v ∧ ((v.length : Nat) : Int) = lr s) ∧ ∀ v, v.Sublist s → Upw v → ((v.length : Nat) : Int) ≤ lr s := by
  rw [(lr_eq (s := s) (by rw [h.len]; omega) (rk_ne h h1)).2]
  exact lis_spec (rk_ne h h1)
/-! all rising parts -/
def lastOk (x : Int) (p : List Int) : Bool := decide (p = []) || decide (p.getLastD 0 < x)
def prt : List (List Int) → List Int → List (List Int)
  | ps, [] => ps
  | ps, x :: l => prt (ps ++ (ps.filter (lastOk x)).map (· ++ [x])) l
theorem atI_last {p : List Int} (h : p ≠ []) : atI p (-1) = some (p.getLastD 0) := by
  rcases List.eq_nil_or_concat p with e | ⟨u, z, e⟩
  · exact absurd e h
  · rw [List.concat_eq_append] at e
    subst e
    have hl : (u ++ [z]).length = u.length + 1 := by simp
    unfold atI
    have : ixN (u ++ [z]).length (-1) = some u.length := by
      unfold ixN
      rw [hl]
      simp
      omega
    rw [this]
    simp
theorem prt_mem : ∀ (suf pre : List Int) (ps : List (List Int)), (∀ v, v ∈ ps ↔ v.Sublist pre ∧ Upw v) → ∀ v, v ∈ prt ps suf ↔ v.Sublist (pre ++ suf) ∧ Upw v
  | [], pre, ps, h, v => by simpa [prt] using h v
  | x :: suf, pre, ps, h, v => by
    have := prt_mem suf (pre ++ [x]) (ps ++ (ps.filter (lastOk x)).map (· ++ [x])) (fun u => ?_) v
    · rw [List.append_assoc] at this
      exact this
    · rw [List.mem_append, h u, List.mem_map]
      constructor
      · rintro (⟨a, b⟩ | ⟨w, hw, e⟩)
        · exact ⟨a.trans (List.sublist_append_left _ _), b⟩
        · rw [List.mem_filter, h w] at hw
          obtain ⟨⟨a, b⟩, c⟩ := hw
          subst e
          refine ⟨a.append (List.Sublist.refl _), ris_snoc.mpr ⟨b, fun y hy => ?_⟩⟩
          unfold lastOk at c
          rw [Bool.or_eq_true, decide_eq_true_eq, decide_eq_true_eq] at c
          rcases c with c | c
          · rw [c] at hy; exact absurd hy (by simp)
          · rcases List.eq_nil_or_concat w with e | ⟨t, z, e⟩
            · rw [e] at hy; exact absurd hy (by simp)
            · rw [List.concat_eq_append] at e
              subst e
              simp at c
              rcases List.mem_append.mp hy with hy | hy
              · have := (ris_snoc.mp b).2 y hy
                omega
              · rw [List.mem_singleton] at hy
                omega
      · rintro ⟨a, b⟩
        rcases sub_snoc a with a | ⟨w, e, hw⟩
        · exact Or.inl ⟨a, b⟩
        · subst e
          obtain ⟨b1, b2⟩ := ris_snoc.mp b
          refine Or.inr ⟨w, List.mem_filter.mpr ⟨(h w).mpr ⟨hw, b1⟩, ?_⟩, rfl⟩
          unfold lastOk
          rw [Bool.or_eq_true, decide_eq_true_eq, decide_eq_true_eq]
          rcases List.eq_nil_or_concat w with e | ⟨t, z, e⟩
          · exact Or.inl e
          · rw [List.concat_eq_append] at e
            subst e
            right
            simp
            exact b2 z (by simp)
theorem prt_len : ∀ (suf : List Int) (ps : List (List Int)), (prt ps suf).length ≤ ps.length * 2 ^ suf.length
  | [], ps => by simp [prt]
  | x :: suf, ps => by
    have := prt_len suf (ps ++ (ps.filter (lastOk x)).map (· ++ [x]))
    have h2 : (ps ++ (ps.filter (lastOk x)).map (· ++ [x])).length ≤ ps.length * 2 := by
      rw [List.length_append, List.length_map]
      have := List.length_filter_le (lastOk x) ps
      omega
    show (prt _ suf).length ≤ _
    rw [List.length_cons, Nat.pow_succ]
    calc _ ≤ _ := this
      _ ≤ ps.length * 2 * 2 ^ suf.length := Nat.mul_le_mul_right _ h2
      _ = _ := by rw [Nat.mul_assoc, Nat.mul_comm 2]
theorem prt_max : ∀ (suf : List Int) (ps : List (List Int)) (m : Nat), (∀ p ∈ ps, p.length ≤ m) → ∀ p ∈ prt ps suf, p.length ≤ m + suf.length
  | [], ps, m, h, p, hp => h p hp
  | x :: suf, ps, m, h, p, hp => by
    have := prt_max suf (ps ++ (ps.filter (lastOk x)).map (· ++ [x])) (m + 1) (fun q hq => by
      rcases List.mem_append.mp hq with hq | hq
      · have := h q hq; omega
      · obtain ⟨w, hw, e⟩ := List.mem_map.mp hq
        have := h w (List.mem_filter.mp hw).1
        rw [← e]
        simp
        omega) p hp
    rw [List.length_cons]
    omega
theorem prt_loop : ∀ (suf : List Int) (ps : List (List Int)) (m : Nat), (∀ p ∈ ps, p.length ≤ m) → m + suf.length ≤ 50 → ps.length * 2 ^ suf.length ≤ 5000 → oFold (fun (s3 : (List (List Int))) (x8 : Int) => ((lim s3 (oComp (fun x10 : (List Int) => if decide (x10 = []) = true then some true else (atI x10 (-1)).bind fun a21 => some (decide (a21 < x8))) (fun x10 : (List Int) => oCat x10 [x8]) s3)).bind fun b24 => oCat s3 b24)) suf ps = some (prt ps suf)
  | [], ps, m, _, _, _ => rfl
  | x :: suf, ps, m, hm, hb, hp => by
    rw [List.length_cons] at hb hp
    rw [Nat.pow_succ] at hp
    have h1 : ps.length * 2 ≤ 5000 := by
      have : 1 ≤ 2 ^ suf.length := Nat.one_le_two_pow
      calc ps.length * 2 ≤ ps.length * 2 * 2 ^ suf.length := Nat.le_mul_of_pos_right _ this
        _ = ps.length * (2 ^ suf.length * 2) := by rw [Nat.mul_assoc, Nat.mul_comm 2]
        _ ≤ _ := hp
    have hc : oComp (fun x10 : (List Int) => if decide (x10 = []) = true then some true else (atI x10 (-1)).bind fun a21 => some (decide (a21 < x))) (fun x10 : (List Int) => oCat x10 [x]) ps = some ((ps.filter (lastOk x)).map (· ++ [x])) := by
      refine oComp_some (fun p hp => ?_) (fun p hp _ => oCat_eq (by have := hm p hp; simp; omega))
      unfold lastOk
      by_cases e : p = []
      · simp [e]
      · rw [if_neg (by simp [e]), atI_last e]
        simp [e]
    have hf := List.length_filter_le (lastOk x) ps
    unfold oFold
    rw [lim_le (by omega), hc, Option.bind_some, oCat_eq (by rw [List.length_map]; omega), Option.bind_some]
    refine prt_loop suf _ (m + 1) (fun q hq => ?_) (by omega) ?_
    · rcases List.mem_append.mp hq with hq | hq
      · have := hm q hq; omega
      · obtain ⟨w, hw, e⟩ := List.mem_map.mp hq
        have := hm w (List.mem_filter.mp hw).1
        rw [← e]
        simp
        omega
    · have h2 : (ps ++ (ps.filter (lastOk x)).map (· ++ [x])).length ≤ ps.length * 2 := by
        rw [List.length_append, List.length_map]
        omega
      calc _ ≤ ps.length * 2 * 2 ^ suf.length := Nat.mul_le_mul_right _ h2
        _ = ps.length * (2 ^ suf.length * 2) := by rw [Nat.mul_assoc, Nat.mul_comm 2]
        _ ≤ _ := hp
theorem prt_spec {s : List Int} : ∀ v, v ∈ prt [[]] s ↔ v.Sublist s ∧ Upw v := by
  have := prt_mem s [] [[]] (fun v => by
    simp
    intro e
    subst e
    simp [Upw])
  simpa using this
theorem q_law_rising {n : Nat} {s : List Int} (h : Rk n s) (h1 : 1 ≤ n) (h7 : n ≤ 7) : M__law_rising s = some (lr s) := by
  have hl := h.len
  have e1 := prt_loop s [[]] 0 (by simp) (by omega) (by
    have : 2 ^ s.length ≤ 2 ^ 7 := Nat.pow_le_pow_right (by omega) (by omega)
    simp
    omega)
  have e2 : (prt [[]] s).length ≤ 128 := by
    have := prt_len s [[]]
    have : 2 ^ s.length ≤ 2 ^ 7 := Nat.pow_le_pow_right (by omega) (by omega)
    simp at *
    omega
  have e3 : oMap (fun x4 : (List Int) => some ((x4.length : Nat) : Int)) (prt [[]] s) = some ((prt [[]] s).map fun p => ((p.length : Nat) : Int)) := oMap_some fun _ _ => rfl
  obtain ⟨⟨v, v1, v2, v3⟩, s2⟩ := lr_spec h h1 h7
  have e4 : maxI ((prt [[]] s).map fun p => ((p.length : Nat) : Int)) = lr s := by
    refine max_eq (List.mem_map.mpr ⟨v, prt_spec v |>.mpr ⟨v1, v2⟩, v3⟩) fun y hy => ?_
    obtain ⟨w, hw, e⟩ := List.mem_map.mp hy
    obtain ⟨w1, w2⟩ := (prt_spec w).mp hw
    rw [← e]
    exact s2 w w1 w2
  unfold M__law_rising
  simp only [Option.bind_some] at e1 ⊢
  simp only [bind_id]
  rw [e1, Option.bind_some, lim_le (by omega), e3, Option.bind_some, ← e4]
  refine if_pos fun e => ?_
  have : v ∈ prt [[]] s := (prt_spec v).mpr ⟨v1, v2⟩
  rw [List.map_eq_nil_iff] at e
  rw [e] at this
  exact absurd this (by simp)
/-! things that keep their order -/
def Con (Z : List (Int × Int)) (P : Int × Int → Bool) : Prop := ∀ p ∈ Z, ∀ q ∈ Z, P p = true → P q = true → ds p q = false
theorem countP_mem : ∀ {s v : List Int}, s.Nodup → v.Sublist s → s.countP (fun x => decide (x ∈ v)) = v.length := by
  intro s v hs hv
  have nv : v.Nodup := hs.sublist hv
  have : (s.filter fun x => decide (x ∈ v)).Perm v := by
    rw [List.perm_ext_iff_of_nodup (hs.sublist List.filter_sublist) nv]
    intro a
    rw [List.mem_filter, decide_eq_true_eq]
    exact ⟨fun h => h.2, fun h => ⟨hv.subset h, h⟩⟩
  rw [List.countP_eq_length_filter, this.length_eq]
theorem sub_filter : ∀ {s v : List Int}, s.Nodup → v.Sublist s → s.filter (fun x => decide (x ∈ v)) = v := by
  intro s v hs hv
  induction hv with
  | slnil => rfl
  | cons a h ih =>
    rw [List.nodup_cons] at hs
    rw [List.filter_cons_of_neg (by simp; exact fun q => hs.1 (h.subset q)), ih hs.2]
  | cons_cons a h ih =>
    rw [List.nodup_cons] at hs
    rw [List.filter_cons_of_pos (by simp)]
    congr 1
    conv => rhs; rw [← ih hs.2]
    apply List.filter_congr
    intro x hx
    have : x ≠ a := fun e => hs.1 (e ▸ hx)
    simp [this]
theorem pw_all {α : Type} {R : α → α → Prop} (sy : ∀ x y, R x y → R y x) : ∀ {l : List α}, (∀ x ∈ l, R x x) → l.Pairwise R → ∀ x ∈ l, ∀ y ∈ l, R x y
  | [], _, _, x, hx, _, _ => absurd hx (by simp)
  | z :: l, hr, h, x, hx, y, hy => by
    rw [List.pairwise_cons] at h
    rcases List.mem_cons.mp hx with e | hx
    · rcases List.mem_cons.mp hy with e' | hy
      · rw [e, e']; exact hr z (by simp)
      · rw [e]; exact h.1 y hy
    · rcases List.mem_cons.mp hy with e' | hy
      · rw [e']; exact sy _ _ (h.1 x hx)
      · exact pw_all sy (fun x hx => hr x (List.mem_cons_of_mem _ hx)) h.2 x hx y hy
theorem zip_fst_sorted {n : Nat} {s : List Int} (h : s.length = n) : ((rg 1 n).zip s).Pairwise fun p q => p.1 < q.1 := by
  have := rg_lt n 1
  rw [← List.map_fst_zip (l₁ := rg 1 n) (l₂ := s) (by rw [rg_len]; omega)] at this
  exact List.pairwise_map.mp this
theorem lr_P {n : Nat} {one other : List Int} (h : Rk n one) (h' : Rk n other) (h1 : 1 ≤ n) (h7 : n ≤ 7) : (∃ P, Con (one.zip other) P ∧ (((one.zip other).countP P : Nat) : Int) = lr (sn one other)) ∧ ∀ P, Con (one.zip other) P → (((one.zip other).countP P : Nat) : Int) ≤ lr (sn one other) := by
  have ks := h.sn h'
  have hl := ks.len
  have zp := zip_perm h h'.len
  have zs : ((rg 1 n).zip (sn one other)).map Prod.snd = sn one other := List.map_snd_zip (by rw [rg_len]; omega)
  have zf := zip_fst_sorted hl
  have cm : ∀ P, Con (one.zip other) P ↔ Con ((rg 1 n).zip (sn one other)) P := fun P => by
    unfold Con
    constructor
    · exact fun x p hp q hq => x p (zp.mem_iff.mpr hp) q (zp.mem_iff.mpr hq)
    · exact fun x p hp q hq => x p (zp.mem_iff.mp hp) q (zp.mem_iff.mp hq)
  obtain ⟨⟨v, v1, v2, v3⟩, s2⟩ := lr_spec ks h1 h7
  constructor
  · refine ⟨fun p => decide (p.2 ∈ v), (cm _).mpr ?_, ?_⟩
    · have e := sub_filter ks.nodup v1
      unfold Upw at v2
      rw [← e, List.pairwise_filter, ← zs, List.pairwise_map] at v2
      have both := zf.and v2
      intro p hp q hq
      refine pw_all (R := fun p q : Int × Int => decide (p.2 ∈ v) = true → decide (q.2 ∈ v) = true → ds p q = false) (fun p q hpq a b => by rw [ds_sy]; exact hpq b a) (fun p _ _ _ => by simp [ds]) (both.imp fun {p q} hh a b => ?_) p hp q hq
      obtain ⟨x1, x2⟩ := hh
      have x2 := x2 a b
      unfold ds
      rw [decide_eq_false_iff_not]
      have : 0 < (p.1 - q.1) * (p.2 - q.2) := Int.mul_pos_of_neg_of_neg (by omega) (by omega)
      omega
    · rw [← v3, zp.countP_eq]
      have : ((rg 1 n).zip (sn one other)).countP (fun p => decide (p.2 ∈ v)) = (sn one other).countP fun x => decide (x ∈ v) := by
        conv => rhs; rw [← zs]
        rw [List.countP_map]
        rfl
      rw [this, countP_mem ks.nodup v1]
  · intro P hP
    rw [cm] at hP
    have sb : ((((rg 1 n).zip (sn one other)).filter P).map Prod.snd).Sublist (sn one other) := by
      conv => rhs; rw [← zs]
      exact List.filter_sublist.map _
    have nz : ((rg 1 n).zip (sn one other)).Pairwise fun p q => p.2 ≠ q.2 := by
      have := ks.nodup
      rw [← zs] at this
      exact List.pairwise_map.mp this
    have rs : Upw ((((rg 1 n).zip (sn one other)).filter P).map Prod.snd) := by
      unfold Upw
      rw [List.pairwise_map, List.pairwise_filter]
      have := zf.and nz
      refine List.Pairwise.imp_of_mem (fun {p q} hp hq hh a b => ?_) this
      have d := hP p hp q hq a b
      unfold ds at d
      rw [decide_eq_false_iff_not] at d
      have x1 := hh.1
      have x2 := hh.2
      by_cases w : p.2 < q.2
      · exact w
      · exact absurd (Int.mul_neg_of_neg_of_pos (show p.1 - q.1 < 0 by omega) (show 0 < p.2 - q.2 by omega)) d
    have := s2 _ sb rs
    rw [List.length_map, ← List.countP_eq_length_filter] at this
    rw [zp.countP_eq]
    exact this
theorem lr_comm {n : Nat} {one other : List Int} (h : Rk n one) (h' : Rk n other) (h1 : 1 ≤ n) (h7 : n ≤ 7) : lr (sn other one) = lr (sn one other) := by
  have key : ∀ {one other : List Int}, Rk n one → Rk n other → lr (sn one other) ≤ lr (sn other one) := by
    intro one other h h'
    obtain ⟨⟨P, p1, p2⟩, _⟩ := lr_P h h' h1 h7
    obtain ⟨_, q⟩ := lr_P h' h h1 h7
    rw [← p2]
    have := q (fun p => P p.swap) (fun p hp q hq a b => by
      rw [zip_swap] at hp hq
      obtain ⟨p', hp', e⟩ := List.mem_map.mp hp
      obtain ⟨q', hq', e'⟩ := List.mem_map.mp hq
      subst e e'
      rw [ds_swap]
      exact p1 p' hp' q' hq' (by simpa using a) (by simpa using b))
    rw [zip_swap, List.countP_map] at this
    have e : ((fun p : Int × Int => P p.swap) ∘ Prod.swap) = P := by funext p; simp
    rw [e] at this
    exact this
  exact Int.le_antisymm (key h' h) (key h h')
end AG

namespace AG
open PySem L2 DL
/-- the entry at x, from 1 on -/
def fS (s : List Int) (x : Int) : Int := s.getD (x - 1).toNat 0
def itS (f : Int → Int) : Nat → Int → Int
  | 0, x => x
  | k + 1, x => f (itS f k x)
def ordS (f : Int → Int) (x : Int) : Nat := match (List.range 7).find? fun k => decide (itS f (k + 1) x = x) with
  | some k => k + 1
  | none => 0
def cyW (s : List Int) : Nat := ((rg 1 s.length).map fun x => 420 / ordS (fS s) x).sum
section
variable {n : Nat} {s t a b p one other : List Int}
theorem fS_mem (h : Rk n s) {x : Int} (hx : 1 ≤ x ∧ x ≤ n) : 1 ≤ fS s x ∧ fS s x ≤ n := by
  unfold fS
  have hk : (x - 1).toNat < s.length := by rw [h.len]; omega
  rw [List.getD_eq_getElem?_getD, List.getElem?_eq_getElem hk]
  exact h.mem.mp (List.getElem_mem hk)
theorem fS_map (h : s.length = n) : (rg 1 n).map (fS s) = s := by
  apply List.ext_getElem?
  intro i
  rw [List.getElem?_map]
  by_cases hi : i < n
  · rw [rg_get _ _ _ hi]
    simp only [Option.map_some, fS]
    rw [show (1 + (i : Int) - 1).toNat = i by omega, List.getD_eq_getElem?_getD, List.getElem?_eq_getElem (by omega)]
    rfl
  · rw [List.getElem?_eq_none (by rw [rg_len]; omega), List.getElem?_eq_none (by omega)]
    rfl
theorem fS_inj (h : Rk n s) {x y : Int} (hx : 1 ≤ x ∧ x ≤ n) (hy : 1 ≤ y ∧ y ≤ n) (e : fS s x = fS s y) : x = y := by
  unfold fS at e
  have kx : (x - 1).toNat < s.length := by rw [h.len]; omega
  have ky : (y - 1).toNat < s.length := by rw [h.len]; omega
  rw [List.getD_eq_getElem?_getD, List.getElem?_eq_getElem kx, List.getD_eq_getElem?_getD, List.getElem?_eq_getElem ky] at e
  have := (List.getElem_inj h.nodup).mp e
  omega
theorem sn_zip (h : Rk n a) (hb : b.length = n) {q : Int × Int} (hq : q ∈ a.zip b) : fS (sn a b) q.1 = q.2 := by
  have hz := (zip_perm h hb).mem_iff.mp hq
  obtain ⟨k, hk, e⟩ := List.getElem_of_mem hz
  have hs : (sn a b).length = n := by rw [sn_len, h.len]
  have hk' : k < n := by rw [List.length_zip, rg_len] at hk; omega
  rw [List.getElem_zip] at e
  have e1 : q.1 = 1 + (k : Int) := by
    rw [← e]
    have := rg_get n 1 k hk'
    rw [List.getElem?_eq_getElem (by rw [rg_len]; exact hk')] at this
    exact Option.some.inj this
  rw [← e]
  unfold fS
  rw [← e] at e1
  simp only at e1
  simp only [e1]
  rw [show (1 + (k : Int) - 1).toNat = k by omega, List.getD_eq_getElem?_getD, List.getElem?_eq_getElem (by omega)]
  rfl
theorem zip_of (h : Rk n a) (hb : b.length = n) {x : Int} (hx : 1 ≤ x ∧ x ≤ n) : ∃ q ∈ a.zip b, q.1 = x := by
  obtain ⟨k, hk, e⟩ := List.getElem_of_mem (h.mem.mpr hx)
  have hz : k < (a.zip b).length := by rw [List.length_zip, hb]; have := h.len; omega
  exact ⟨(a.zip b)[k], List.getElem_mem hz, by rw [List.getElem_zip]; exact e⟩
theorem itS_mem (h : Rk n s) {x : Int} (hx : 1 ≤ x ∧ x ≤ n) : ∀ k, 1 ≤ itS (fS s) k x ∧ itS (fS s) k x ≤ n
  | 0 => hx
  | k + 1 => fS_mem h (itS_mem h hx k)
theorem itS_conj (h : Rk n s) (hc : ∀ x : Int, 1 ≤ x ∧ x ≤ n → fS t (fS p x) = fS p (fS s x)) {x : Int} (hx : 1 ≤ x ∧ x ≤ n) : ∀ k, itS (fS t) k (fS p x) = fS p (itS (fS s) k x)
  | 0 => rfl
  | k + 1 => by
    show fS t (itS (fS t) k (fS p x)) = fS p (fS s _)
    rw [itS_conj h hc hx k, hc _ (itS_mem h hx k)]
theorem ord_congr {f g : Int → Int} {x y : Int} (h : ∀ k, (itS f (k + 1) x = x) ↔ (itS g (k + 1) y = y)) : ordS f x = ordS g y := by
  unfold ordS
  have : (fun k => decide (itS f (k + 1) x = x)) = fun k => decide (itS g (k + 1) y = y) := by
    funext k
    rw [decide_eq_decide]
    exact h k
  rw [this]
theorem sumN_perm {l l' : List Nat} (h : l.Perm l') : l.sum = l'.sum := by
  induction h with
  | nil => rfl
  | cons x _ ih => simp only [List.sum_cons, ih]
  | swap x y l => simp only [List.sum_cons]; omega
  | trans _ _ h1 h2 => rw [h1, h2]
theorem cyW_conj (h : Rk n s) (ht : Rk n t) (hp : Rk n p) (hc : ∀ x : Int, 1 ≤ x ∧ x ≤ n → fS t (fS p x) = fS p (fS s x)) : cyW t = cyW s := by
  unfold cyW
  rw [h.len, ht.len]
  have e1 : ((rg 1 n).map fun x => 420 / ordS (fS t) x).sum = (p.map fun x => 420 / ordS (fS t) x).sum := sumN_perm (hp.symm.map _)
  rw [e1]
  conv => lhs; rw [← fS_map hp.len]
  rw [List.map_map]
  congr 1
  apply List.map_congr_left
  intro x hx
  have hx := mem_rg.mp hx
  have hx : 1 ≤ x ∧ x ≤ n := by omega
  simp only [Function.comp]
  congr 1
  refine ord_congr fun k => ?_
  rw [itS_conj h hc hx]
  constructor
  · exact fun e => fS_inj hp (itS_mem h hx _) hx e
  · exact fun e => by rw [e]
theorem itS_comm (f : Int → Int) (x : Int) : ∀ k, itS f k (f x) = f (itS f k x)
  | 0 => rfl
  | k + 1 => by show f (itS f k (f x)) = f (f (itS f k x)); rw [itS_comm f x k]
theorem itS_inv (h : Rk n s) (hi : ∀ x : Int, 1 ≤ x ∧ x ≤ n → fS t (fS s x) = x) {x : Int} (hx : 1 ≤ x ∧ x ≤ n) : ∀ k, itS (fS t) k (itS (fS s) k x) = x
  | 0 => rfl
  | k + 1 => by
    show fS t (itS (fS t) k (fS s (itS (fS s) k x))) = x
    rw [← itS_comm (fS t), hi _ (itS_mem h hx k), itS_inv h hi hx k]
theorem cyW_inv (h : Rk n s) (ht : Rk n t) (hi : ∀ x : Int, 1 ≤ x ∧ x ≤ n → fS t (fS s x) = x) (hj : ∀ x : Int, 1 ≤ x ∧ x ≤ n → fS s (fS t x) = x) : cyW t = cyW s := by
  unfold cyW
  rw [h.len, ht.len]
  congr 1
  apply List.map_congr_left
  intro x hx
  have hx := mem_rg.mp hx
  have hx : 1 ≤ x ∧ x ≤ n := by omega
  congr 1
  refine ord_congr fun k => ?_
  constructor
  · intro e
    have := itS_inv ht hj hx (k + 1)
    rw [e] at this
    exact this
  · intro e
    have := itS_inv h hi hx (k + 1)
    rw [e] at this
    exact this
theorem sn_inv (h : Rk n one) (h' : Rk n other) {x : Int} (hx : 1 ≤ x ∧ x ≤ n) : fS (sn other one) (fS (sn one other) x) = x := by
  obtain ⟨q, hq, e⟩ := zip_of h h'.len hx
  have h2 : q.swap ∈ other.zip one := by rw [zip_swap]; exact List.mem_map.mpr ⟨q, hq, rfl⟩
  rw [← e, sn_zip h h'.len hq]
  have := sn_zip h' h.len h2
  simpa using this
theorem cyW_comm (h : Rk n one) (h' : Rk n other) : cyW (sn other one) = cyW (sn one other) := cyW_inv (h.sn h') (h'.sn h) (fun x hx => sn_inv h h' hx) (fun x hx => sn_inv h' h hx)
def cyOk (s : List Int) : Bool := match M_cycles_of s with
  | some l => decide (420 * l.length = cyW s)
  | none => false
theorem cyOk_some (h : cyOk s = true) : (M_cycles_of s).isSome = true ∧ 420 * cy s = ((cyW s : Nat) : Int) := by
  unfold cyOk at h
  unfold cy
  cases e : M_cycles_of s with
  | none => rw [e] at h; exact absurd h (by simp)
  | some l =>
    rw [e] at h
    have := of_decide_eq_true h
    refine ⟨rfl, ?_⟩
    dsimp only
    omega
end
end AG

namespace DL
open PySem L2
variable {α : Type}
/-- all ordered pairs -/
def sqP (c : α → α → Bool) (Z : List α) (off : Int) : List α → List (Int × Int)
  | [] => []
  | x :: l => ((enumL 0 Z).filter fun q => c x q.2).map (fun q => (off, q.1)) ++ sqP c Z (off + 1) l
def sqC (c : α → α → Bool) (Z l : List α) : Nat := (l.map fun x => Z.countP (c x)).sum
theorem sqP_len (c : α → α → Bool) (Z : List α) : ∀ (l : List α) (o : Int), (sqP c Z o l).length = sqC c Z l
  | [], _ => rfl
  | x :: l, o => by
    unfold sqP sqC
    rw [List.length_append, List.length_map, sqP_len c Z l, List.map_cons, List.sum_cons, ← List.countP_eq_length_filter]
    unfold sqC
    congr 1
    conv => rhs; rw [← enumL_snd Z 0]
    rw [List.countP_map]
    rfl
theorem sq_loop {L : List α} {c : α → α → Bool} {t : Int → Int → Option Bool} (hL : L.length ≤ 50)
    (ht : ∀ (k j : Nat) (x y : α), L[k]? = some x → L[j]? = some y → t k j = some (c x y)) :
    ∀ (suf pre : List α) (s : List (Int × Int)), L = pre ++ suf → s.length + 50 * suf.length ≤ 5000 →
      oFold (fun s k => (oR1 (L.length : Int)).bind fun l => oFold (fun s j => (t k j).bind fun b => if b = true then oApp s (some (k, j)) (fun v => some v) else some s) l s) (rg (pre.length : Int) suf.length) s = some (s ++ sqP c L (pre.length : Int) suf)
  | [], pre, s, _, _ => by simp [rg, oFold, sqP]
  | x :: suf, pre, s, e, hs => by
    have hlen : L.length = pre.length + suf.length + 1 := by rw [e]; simp; omega
    rw [List.length_cons] at hs ⊢
    unfold rg oFold
    have r1 : oR1 (L.length : Int) = some (rg 0 L.length) := by rw [oR1_eq (by omega), show ((L.length : Int)).toNat = L.length by omega]
    rw [r1, Option.bind_some]
    have hx : L[pre.length]? = some x := by rw [e, List.getElem?_append_right (by omega)]; simp
    have e1 := oFold_enum (l := L) (o := 0) (s := s)
      (f := fun s j => (t pre.length j).bind fun b => if b = true then oApp s (some ((pre.length : Int), j)) (fun v => some v) else some s)
      (g := fun s q => (some (c x q.2)).bind fun b => if b = true then oApp s (some ((pre.length : Int), q.1)) (fun v => some v) else some s)
      (fun s q hq => by
        obtain ⟨k, h1, h2, h3⟩ := enumL_get2 hq
        have := ht pre.length k x q.2 hx h3
        rw [show ((k : Nat) : Int) = q.1 by omega] at this
        rw [this])
    rw [e1, oFold_filter (p := fun q => c x q.2) (f := fun q : Int × α => ((pre.length : Int), q.1)) (fun _ _ => rfl) (by rw [enumL_len]; omega), Option.bind_some]
    have hf : (((enumL 0 L).filter fun q => c x q.2).map fun q => ((pre.length : Int), q.1)).length ≤ 50 := by
      rw [List.length_map]
      exact Nat.le_trans (List.length_filter_le _ _) (by rw [enumL_len]; exact hL)
    have ih := sq_loop hL ht suf (pre ++ [x]) (s ++ ((enumL 0 L).filter fun q => c x q.2).map fun q => ((pre.length : Int), q.1)) (by rw [e]; simp) (by rw [List.length_append]; omega)
    rw [show (((pre ++ [x]).length : Nat) : Int) = (pre.length : Int) + 1 by simp, r1] at ih
    rw [ih]
    simp [sqP]
theorem sqC_perm {c : α → α → Bool} {Z Z' : List α} (h : Z.Perm Z') : sqC c Z Z = sqC c Z' Z' := by
  unfold sqC
  rw [AG.sumN_perm (h.map _)]
  congr 1
  apply List.map_congr_left
  intro x _
  exact h.countP_eq _
end DL
namespace AG
open PySem L2 DL
def cc (p q : Int × Int) : Bool := decide (p.1 < q.1) && decide (p.2 < q.2)
section
variable {n : Nat} {a m b s one other : List Int}
theorem agreed_loop (ha : Rk n a) (hb : Rk n b) (h7 : n ≤ 7) : oFold (fun (s4 : (List (Int × Int))) (x8 : Int) => ((oR1 (n : Int)).bind fun l14 => (oFold (fun (s10 : (List (Int × Int))) (x13 : Int) => ((((atI a x8).bind fun a20 => (atI a x13).bind fun b21 => some (decide (a20 < b21))).bind fun a15 => if a15 = true then ((atI b x8).bind fun a26 => (atI b x13).bind fun b27 => some (decide (a26 < b27))) else some false).bind fun b28 => if b28 = true then (oApp s10 (some (x8, x13)) fun v29 => (some v29)) else (some s10))) l14 s4))) (rg 0 n) [] = some (sqP cc (a.zip b) 0 (a.zip b)) := by
  have zl := zip_len ha hb
  have := sq_loop (L := a.zip b) (c := cc) (t := fun x8 x13 => ((atI a x8).bind fun a20 => (atI a x13).bind fun b21 => some (decide (a20 < b21))).bind fun a15 => if a15 = true then ((atI b x8).bind fun a26 => (atI b x13).bind fun b27 => some (decide (a26 < b27))) else some false) (by omega) (fun k j x y hx hy => by
    obtain ⟨x1, x2⟩ := zip_get hx
    obtain ⟨y1, y2⟩ := zip_get hy
    simp only [atI_get x1, atI_get x2, atI_get y1, atI_get y2, Option.bind_some]
    unfold cc
    by_cases w : x.1 < y.1 <;> simp [w]) (a.zip b) [] [] rfl (by rw [List.length_nil, zl]; omega)
  simp only [zl, List.length_nil, Int.natCast_zero, List.nil_append] at this
  exact this
theorem q_agreed_pairs (ha : Rk n a) (hb : Rk n b) (h1 : 1 ≤ n) (h7 : n ≤ 7) : M_agreed_pairs a b = some (sqP cc (a.zip b) 0 (a.zip b)) := by
  have := agreed_loop ha hb h7
  simp only [M_agreed_pairs, q_check_both ha hb h1 h7, Option.bind_some, Option.bind_assoc, bind_id, ha.len] at this ⊢
  rw [oR1_eq (by omega), show ((n : Int)).toNat = n by omega] at this ⊢
  exact this
theorem agreed_len (ha : Rk n a) (hb : Rk n b) : (sqP cc (a.zip b) 0 (a.zip b)).length = sqC cc ((rg 1 n).zip (sn a b)) ((rg 1 n).zip (sn a b)) := by
  rw [sqP_len, sqC_perm (zip_perm ha hb.len)]
/-! another ranking of the same things -/
def via (one m : List Int) : List Int := one.map (fS m)
theorem via_rk (h : Rk n one) (hm : Rk n m) : Rk n (via one m) := by
  have := h.map (fS m)
  rw [fS_map hm.len] at this
  exact this.trans hm
theorem via_zip (h : Rk n one) (hm : Rk n m) : (one.zip (via one m)).Perm ((rg 1 n).zip m) := by
  unfold via
  rw [zip_self]
  have := h.map fun x => (x, fS m x)
  have e : (rg 1 n).map (fun x => (x, fS m x)) = (rg 1 n).zip m := by
    rw [← zip_self, fS_map hm.len]
  rw [e] at this
  exact this
theorem via_zip2 (h : Rk n one) (hm : Rk n m) (hb : Rk n b) : ((via one m).zip b).Perm (m.zip (sn one b)) := by
  unfold via
  have e : (one.map (fS m)).zip b = (one.zip b).map fun p => (fS m p.1, p.2) := by
    rw [List.zip_map_left]
    rfl
  have e2 : m.zip (sn one b) = ((rg 1 n).zip (sn one b)).map fun p => (fS m p.1, p.2) := by
    conv => lhs; rw [← fS_map hm.len, List.zip_map_left]
    rfl
  rw [e, e2]
  exact (zip_perm h hb.len).map _
theorem dd_perm {a b c d : List Int} (h : (a.zip b).Perm (c.zip d)) : dd a b = dd c d := pc_perm ds_sy h
theorem dd_id (hs : Rk n s) : dd (rg 1 n) s = inv s := pc_zip_sorted _ _ (rg_lt n 1) (by rw [rg_len, hs.len])
theorem dd_sn (h : Rk n one) (h' : Rk n other) : dd one other = inv (sn one other) := by
  rw [dd_perm (zip_perm h h'.len), dd_id (h.sn h')]
theorem dd_comm : dd b a = dd a b := by
  rw [← dd_len, ← dd_len, ag_comm]
end
end AG

namespace K07
open PySem L2 DL AG
def KN1 : List ((Int × Int) × List (List Int)) := [((0, 0), [[1]])]
def KN2 : List ((Int × Int) × List (List Int)) := [((0, 0), [[1, 2]]), ((1, 2), [[2, 1]])]
def KN3 : List ((Int × Int) × List (List Int)) := [((0, 0), [[1, 2, 3]]), ((1, 2), [[1, 3, 2], [2, 1, 3]]), ((2, 6), [[2, 3, 1], [3, 1, 2]]), ((3, 8), [[3, 2, 1]])]
def KN4 : List ((Int × Int) × List (List Int)) := [((0, 0), [[1, 2, 3, 4]]), ((1, 2), [[1, 2, 4, 3], [1, 3, 2, 4], [2, 1, 3, 4]]), ((2, 6), [[1, 3, 4, 2], [1, 4, 2, 3], [2, 3, 1, 4], [3, 1, 2, 4]]), ((3, 8), [[1, 4, 3, 2], [3, 2, 1, 4]]), ((2, 4), [[2, 1, 4, 3]]), ((3, 12), [[2, 3, 4, 1], [4, 1, 2, 3]]), ((3, 10), [[2, 4, 1, 3], [3, 1, 4, 2]]), ((4, 14), [[2, 4, 3, 1], [3, 2, 4, 1], [4, 1, 3, 2], [4, 2, 1, 3]]), ((4, 16), [[3, 4, 1, 2]]), ((5, 18), [[3, 4, 2, 1], [4, 2, 3, 1], [4, 3, 1, 2]]), ((6, 20), [[4, 3, 2, 1]])]
def KN5 : List ((Int × Int) × List (List Int)) := [((0, 0), [[1, 2, 3, 4, 5]]), ((1, 2), [[1, 2, 3, 5, 4], [1, 2, 4, 3, 5], [1, 3, 2, 4, 5], [2, 1, 3, 4, 5]]), ((2, 6), [[1, 2, 4, 5, 3], [1, 2, 5, 3, 4], [1, 3, 4, 2, 5], [1, 4, 2, 3, 5], [2, 3, 1, 4, 5], [3, 1, 2, 4, 5]]), ((3, 8), [[1, 2, 5, 4, 3], [1, 4, 3, 2, 5], [2, 1, 4, 5, 3], [2, 1, 5, 3, 4], [2, 3, 1, 5, 4], [3, 1, 2, 5, 4], [3, 2, 1, 4, 5]]), ((2, 4), [[1, 3, 2, 5, 4], [2, 1, 3, 5, 4], [2, 1, 4, 3, 5]]), ((3, 12), [[1, 3, 4, 5, 2], [1, 5, 2, 3, 4], [2, 3, 4, 1, 5], [4, 1, 2, 3, 5]]), ((3, 10), [[1, 3, 5, 2, 4], [1, 4, 2, 5, 3], [2, 4, 1, 3, 5], [3, 1, 4, 2, 5]]), ((4, 14), [[1, 3, 5, 4, 2], [1, 4, 3, 5, 2], [1, 5, 2, 4, 3], [1, 5, 3, 2, 4], [2, 4, 1, 5, 3], [2, 4, 3, 1, 5], [3, 1, 5, 2, 4], [3, 2, 4, 1, 5], [4, 1, 3, 2, 5], [4, 2, 1, 3, 5]]), ((4, 16), [[1, 4, 5, 2, 3], [2, 3, 5, 1, 4], [2, 5, 1, 3, 4], [3, 1, 4, 5, 2], [3, 4, 1, 2, 5], [4, 1, 2, 5, 3]]), ((5, 18), [[1, 4, 5, 3, 2], [1, 5, 3, 4, 2], [1, 5, 4, 2, 3], [2, 5, 1, 4, 3], [3, 1, 5, 4, 2], [3, 2, 5, 1, 4], [3, 4, 2, 1, 5], [4, 2, 1, 5, 3], [4, 2, 3, 1, 5], [4, 3, 1, 2, 5]]), ((6, 20), [[1, 5, 4, 3, 2], [4, 3, 2, 1, 5]]), ((4, 10), [[2, 1, 5, 4, 3], [3, 2, 1, 5, 4]]), ((4, 20), [[2, 3, 4, 5, 1], [5, 1, 2, 3, 4]]), ((5, 22), [[2, 3, 5, 4, 1], [2, 4, 3, 5, 1], [2, 4, 5, 1, 3], [3, 2, 4, 5, 1], [3, 4, 1, 5, 2], [3, 5, 1, 2, 4], [4, 1, 5, 2, 3], [5, 1, 2, 4, 3], [5, 1, 3, 2, 4], [5, 2, 1, 3, 4]]), ((6, 26), [[2, 4, 5, 3, 1], [2, 5, 3, 4, 1], [3, 4, 2, 5, 1], [3, 5, 1, 4, 2], [4, 2, 3, 5, 1], [4, 2, 5, 1, 3], [5, 1, 3, 4, 2], [5, 1, 4, 2, 3], [5, 2, 3, 1, 4], [5, 3, 1, 2, 4]]), ((5, 20), [[2, 5, 3, 1, 4], [4, 1, 3, 5, 2]]), ((6, 24), [[2, 5, 4, 1, 3], [3, 2, 5, 4, 1], [3, 5, 2, 1, 4], [4, 1, 5, 3, 2], [4, 3, 1, 5, 2], [5, 2, 1, 4, 3]]), ((7, 28), [[2, 5, 4, 3, 1], [4, 3, 2, 5, 1], [5, 1, 4, 3, 2], [5, 3, 2, 1, 4]]), ((6, 30), [[3, 4, 5, 1, 2], [4, 5, 1, 2, 3]]), ((7, 32), [[3, 4, 5, 2, 1], [3, 5, 4, 1, 2], [4, 3, 5, 1, 2], [4, 5, 1, 3, 2], [4, 5, 2, 1, 3], [5, 2, 3, 4, 1], [5, 4, 1, 2, 3]]), ((7, 30), [[3, 5, 2, 4, 1], [4, 2, 5, 3, 1], [5, 2, 4, 1, 3], [5, 3, 1, 4, 2]]), ((8, 34), [[3, 5, 4, 2, 1], [4, 3, 5, 2, 1], [5, 2, 4, 3, 1], [5, 3, 2, 4, 1], [5, 4, 1, 3, 2], [5, 4, 2, 1, 3]]), ((8, 36), [[4, 5, 2, 3, 1], [4, 5, 3, 1, 2], [5, 3, 4, 1, 2]]), ((9, 38), [[4, 5, 3, 2, 1], [5, 3, 4, 2, 1], [5, 4, 2, 3, 1], [5, 4, 3, 1, 2]]), ((10, 40), [[5, 4, 3, 2, 1]])]
def KN : Nat → List ((Int × Int) × List (List Int))
  | 1 => KN1
  | 2 => KN2
  | 3 => KN3
  | 4 => KN4
  | 5 => KN5
  | _ => []
def iq (n : Nat) (s : List Int) : Int × Int := (((inv s : Nat) : Int), sqZ ((rg 1 n).zip s))
def owL (n : Nat) (k : Int × Int) : List (List Int) := (pL n (rg 1 n)).filter fun s => decide (iq n s = k)
theorem q_orders_with {n : Nat} (h1 : 1 ≤ n) (h5 : n ≤ 5) {a b : Int} (a0 : 0 ≤ a) (a50 : a ≤ 50) (b0 : 0 ≤ b) (b500 : b ≤ 500) : M_orders_with (n : Int) a b = some (owL n (a, b)) := by
  obtain ⟨_, a2, a3, _⟩ := all5 n h1 h5
  have e : oComp (fun x13 : (List Int) => (((M_inversions x13).bind fun a17 => (M_squares_of x13).bind fun a18 => some (a17, a18)).bind fun a21 => some (decide (a21 = (a, b))))) (fun x13 : (List Int) => (some x13)) (pL n (rg 1 n)) = some (owL n (a, b)) := by
    rw [oComp_some (p := fun s => decide (iq n s = (a, b))) (g := fun s => s) (fun s hs => ?_) (fun _ _ _ => rfl)]
    · simp [owL]
    · have r := pL_rk h1 h5 hs
      rw [q_inversions (by rw [r.len]; omega), q_squares_of r (by omega)]
      rfl
  simp only [M_orders_with, Option.bind_some, q_check_size h1 (show n ≤ 6 by omega), q_is_int, a0, a50, b0, b500, a2, lim_le (show (pL n (rg 1 n)).length ≤ 10000 by omega)]
  simpa using e
def ckN (n : Nat) : Bool := (KN n).all (fun p => decide (p.2 = owL n p.1) && decide (p.2 ≠ []) && decide (0 ≤ p.1.1 ∧ p.1.1 ≤ 50 ∧ 0 ≤ p.1.2 ∧ p.1.2 ≤ 500)) && (pL n (rg 1 n)).all (fun s => (KN n).any fun p => decide (p.1 = iq n s))
theorem ck : ∀ n : Nat, 1 ≤ n → n ≤ 5 → ckN n = true
  | 1, _, _ => by decide +kernel
  | 2, _, _ => by decide +kernel
  | 3, _, _ => by decide +kernel
  | 4, _, _ => by decide +kernel
  | 5, _, _ => by decide +kernel
  | 0, h, _ => by omega
  | n + 6, _, h => by omega
theorem kn_get {n : Nat} (h1 : 1 ≤ n) (h5 : n ≤ 5) (k : Int × Int) : (getP (KN n) k).getD [] = owL n k := by
  have c := ck n h1 h5
  unfold ckN at c
  simp only [Bool.and_eq_true, List.all_eq_true, decide_eq_true_eq] at c
  obtain ⟨c1, c2⟩ := c
  unfold getP
  cases e : (KN n).find? fun p => decide (p.1 = k) with
  | some p =>
    have hm := List.mem_of_find?_eq_some e
    have hk : p.1 = k := by simpa using List.find?_some e
    show p.2 = _
    rw [(c1 p hm).1.1, hk]
  | none =>
    show [] = owL n k
    symm
    unfold owL
    rw [List.filter_eq_nil_iff]
    intro s hs hq
    have := c2 s hs
    rw [List.any_eq_true] at this
    obtain ⟨p, hp, hp2⟩ := this
    have h3 := List.find?_eq_none.mp e p hp
    simp only [decide_eq_true_eq] at hp2 hq h3
    exact h3 (hp2.trans hq)
/-- the law's known orders -/
theorem kn_fold : ∀ n : Nat, 1 ≤ n → n ≤ 5 → (oFold (fun (s13 : (List ((Int × Int) × (List (List Int))))) (x14 : (List Int)) => (((((some (rg 1 n)).bind fun a16 => (some x14).bind fun a17 => M__law_against a16 a17).bind fun a18 => some ((a18.length : Nat) : Int)).bind fun a21 => ((some (rg 1 n)).bind fun a19 => (some x14).bind fun a20 => M__law_squares a19 a20).bind fun a22 => some (a21, a22)).bind fun v23 : (Int × Int) => (oPut s13 (some v23) (((some v23).bind fun a25 => (some ([] : (List (List Int)))).bind fun b26 => some ((getP s13 a25).getD b26)).bind fun a28 => ((some x14).bind fun a27 => some [a27]).bind fun b29 => oCat a28 b29) fun v24 => (some v24)))) (pL n (rg 1 n)) ([] : (List ((Int × Int) × (List (List Int)))))) = some (KN n)
  | 1, _, _ => by decide +kernel
  | 2, _, _ => by decide +kernel
  | 3, _, _ => by decide +kernel
  | 4, _, _ => by decide +kernel
  | 5, _, _ => by decide +kernel
  | 0, h, _ => by omega
  | n + 6, _, h => by omega
theorem kn_table : ∀ n : Nat, 1 ≤ n → n ≤ 5 → (((some (n : Int)).bind fun a30 => M_value_table a30).bind fun a42 => ((some (sortP (List.map (fun q => q.1) (KN n)))).bind fun l41 => lim l41 (oMap (fun x31 : (Int × Int) => (((some x31).bind fun a32 => (some (0 : Int)).bind fun b33 => (if b33 = 0 then some a32.1 else none)).bind fun a38 => ((some x31).bind fun a34 => (some (1 : Int)).bind fun b35 => (if b35 = 1 then some a34.2 else none)).bind fun a39 => (((some x31).bind fun a36 => getP (KN n) a36).bind fun a37 => some ((a37.length : Nat) : Int)).bind fun a40 => some (Tr.mk a38 a39 a40))) l41)).bind fun b43 => some (!decide (a42 = b43))) = some false ∧ KN n ≠ [] ∧ (KN n).length ≤ 1000
  | 1, _, _ => by decide +kernel
  | 2, _, _ => by decide +kernel
  | 3, _, _ => by decide +kernel
  | 4, _, _ => by decide +kernel
  | 5, _, _ => by decide +kernel
  | 0, h, _ => by omega
  | n + 6, _, h => by omega
/-- as many by numbers -/
def cnt (n : Nat) : List Int := (rg 0 16).map fun k => (((pL n (rg 1 n)).filter fun s => decide (((inv s : Nat) : Int) = k)).length : Nat)
theorem kn_cnt : ∀ n : Nat, 1 ≤ n → n ≤ 5 → oMap (fun x110 : Int => M_count_with (n : Int) x110) (rg 0 16) = some (cnt n)
  | 1, _, _ => by decide +kernel
  | 2, _, _ => by decide +kernel
  | 3, _, _ => by decide +kernel
  | 4, _, _ => by decide +kernel
  | 5, _, _ => by decide +kernel
  | 0, h, _ => by omega
  | n + 6, _, h => by omega
theorem g1 : Q_5 0 [] [] [] 0 0 [] 0 [] 1 := by decide +kernel
theorem g2 : Q_5 0 [] [] [] 0 0 [] 0 [] 2 := by decide +kernel
theorem g3 : Q_5 0 [] [] [] 0 0 [] 0 [] 3 := by decide +kernel
theorem g4 : Q_5 0 [] [] [] 0 0 [] 0 [] 4 := by decide +kernel
theorem g5 : Q_5 0 [] [] [] 0 0 [] 0 [] 5 := by decide +kernel
theorem g6 : Q_5 0 [] [] [] 0 0 [] 0 [] 6 := by decide +kernel
theorem g7 : Q_5 0 [] [] [] 0 0 [] 0 [] 7 := by decide +kernel
theorem g8 : Q_5 0 [] [] [] 0 0 [] 0 [] 8 := by decide +kernel
theorem g9 : Q_5 0 [] [] [] 0 0 [] 0 [] 9 := by decide +kernel
theorem g10 : Q_5 0 [] [] [] 0 0 [] 0 [] 10 := by decide +kernel
theorem g11 : Q_5 0 [] [] [] 0 0 [] 0 [] 11 := by decide +kernel
theorem q5 (u2 : Int) (u3 : (List Int)) (u4 : (List ((Int × Int) × (List (List Int))))) (u5 : (List (List Int))) (u8 : Int) (u9 : Int) (u10 : (List (List Int))) (u11 : Int) (u12 : (List Int)) (r : Int) (h0 : 0 ≤ r) (h1 : r < 11) : Q_5 u2 u3 u4 u5 u8 u9 u10 u11 u12 (1 + r) := by
  obtain e | e | e | e | e | e | e | e | e | e | e : r = 0 ∨ r = 1 ∨ r = 2 ∨ r = 3 ∨ r = 4 ∨ r = 5 ∨ r = 6 ∨ r = 7 ∨ r = 8 ∨ r = 9 ∨ r = 10 := by omega
  · subst e; exact g1
  · subst e; exact g2
  · subst e; exact g3
  · subst e; exact g4
  · subst e; exact g5
  · subst e; exact g6
  · subst e; exact g7
  · subst e; exact g8
  · subst e; exact g9
  · subst e; exact g10
  · subst e; exact g11
section
variable {n : Nat} {a b : Int}
theorem q_call0 (h1 : 1 ≤ n) (h5 : n ≤ 5) (a0 : 0 ≤ a) (a50 : a ≤ 50) (b0 : 0 ≤ b) (b500 : b ≤ 500) : M__law_call 0 (n : Int) a b 0 = some (match owL n (a, b) with | [] => .inr (tNm 4) | x :: _ => .inl x) := by
  have q := q_orders_with h1 h5 a0 a50 b0 b500
  have xs : X_orders_with (n : Int) a b = none := by
    have xc : X_check_size (n : Int) = none := by
      simp [X_check_size, q_is_int]
      omega
    simp only [X_orders_with, Option.bind_some, xc, q_check_size h1 (show n ≤ 6 by omega), q_is_int, a0, a50, b0, b500]
    simp
  simp only [M__law_call, M_first_with, X_first_with, Option.bind_some, q, xs]
  cases e : owL n (a, b) with
  | nil => simp [oTry]
  | cons x l => simp [oTry, atI, ixN]
theorem q_call1 (h1 : 1 ≤ n) (h5 : n ≤ 5) (a0 : 0 ≤ a) (a50 : a ≤ 50) (b0 : 0 ≤ b) (b500 : b ≤ 500) {r : Int} (r0 : 0 ≤ r) : M__law_call 1 (n : Int) a b r = some (match (owL n (a, b))[r.toNat]? with | none => .inr (tNm 2) | some x => .inl x) := by
  have q := q_orders_with h1 h5 a0 a50 b0 b500
  have xs : X_orders_with (n : Int) a b = none := by
    have xc : X_check_size (n : Int) = none := by
      simp [X_check_size, q_is_int]
      omega
    simp only [X_orders_with, Option.bind_some, xc, q_check_size h1 (show n ≤ 6 by omega), q_is_int, a0, a50, b0, b500]
    simp
  simp only [M__law_call, M_order_at, X_order_at, Option.bind_some, q, xs, q_is_int, r0]
  by_cases h : r.toNat < (owL n (a, b)).length
  · have hr : r ≤ ((owL n (a, b)).length : Int) - 1 := by omega
    rw [DL.atI_nat r0 h, List.getElem?_eq_getElem h]
    simp [oTry, hr]
  · have hr : ¬ r ≤ ((owL n (a, b)).length : Int) - 1 := by omega
    rw [List.getElem?_eq_none (by omega)]
    simp [oTry, hr]
theorem q4 (h1 : 1 ≤ n) (h5 : n ≤ 5) (a0 : 0 ≤ a) (a50 : a ≤ 50) (b0 : 0 ≤ b) (b500 : b ≤ 500) {r : Int} (r0 : 0 ≤ r) (r1 : r < ((owL n (a, b)).length : Int) + 1) : Q_4 (n : Int) (rg 1 n) (KN n) (pL n (rg 1 n)) a b (owL n (a, b)) r := by
  obtain ⟨f1, f2, f3, f4⟩ := all5 n h1 h5
  refine ⟨?_, cnt n, ?_, ?_, 1, rfl, 11, rfl, ⟨by decide, by decide⟩, fun z z0 z1 => ⟨1 + z, rfl, q5 _ _ _ _ _ _ _ _ _ z z0 z1⟩⟩
  · simp only [Option.bind_some, q_call1 h1 h5 a0 a50 b0 b500 r0]
    by_cases h : r.toNat < (owL n (a, b)).length
    · have hr : r < ((owL n (a, b)).length : Int) := by omega
      rw [DL.atI_nat r0 h, List.getElem?_eq_getElem h]
      simp [hr]
    · have hr : ¬ r < ((owL n (a, b)).length : Int) := by omega
      rw [List.getElem?_eq_none (by omega)]
      simp [hr]
      rfl
  · simp only [Option.bind_some, oR1_eq (show ((16 : Int)).natAbs ≤ 10000 by decide), lim_le (show (rg 0 (16 : Int).toNat).length ≤ 10000 by decide)]
    rw [oMap_some (g := fun k => (((((pL n (rg 1 n)).filter fun s => decide (((inv s : Nat) : Int) = k)).length : Nat)) : Int)) (fun k hk => ?_)]
    · rfl
    · rw [lim_le (by omega), oComp_some (p := fun s => decide (((inv s : Nat) : Int) = k)) (g := fun s => s) (fun s hs => ?_) (fun _ _ _ => rfl)]
      · simp
      · have r := pL_rk h1 h5 hs
        rw [q_law_against (Rk.id n) r (by omega), Option.bind_some, Option.bind_some, ag_len (Rk.id n) r.len, sn_id r.len]
  · simp only [Option.bind_some, oR1_eq (show ((16 : Int)).natAbs ≤ 10000 by decide), lim_le (show (rg 0 (16 : Int).toNat).length ≤ 10000 by decide)]
    rw [show rg 0 (16 : Int).toNat = rg 0 16 from rfl, kn_cnt n h1 h5]
    simp
theorem q3 (h1 : 1 ≤ n) (h5 : n ≤ 5) (a0 : 0 ≤ a) (a50 : a ≤ 50) (b0 : 0 ≤ b) (b500 : b ≤ 500) : Q_3 (n : Int) (rg 1 n) (KN n) (pL n (rg 1 n)) a b := by
  refine ⟨owL n (a, b), ?_, ?_, ?_, ((owL n (a, b)).length : Int) + 1, rfl, ⟨by omega, ?_⟩, fun r r0 r1 => q4 h1 h5 a0 a50 b0 b500 r0 r1⟩
  · simp only [Option.bind_some, kn_get h1 h5]
  · simp only [Option.bind_some, q_orders_with h1 h5 a0 a50 b0 b500, M_can_be]
    simp [M__law_true, isiB]
  · simp only [Option.bind_some, q_call0 h1 h5 a0 a50 b0 b500]
    cases e : owL n (a, b) with
    | nil => simp; rfl
    | cons x l => simp [atI, ixN]
  · have h2 : (owL n (a, b)).length ≤ (pL n (rg 1 n)).length := List.length_filter_le _ _
    have := (all5 n h1 h5).2.2.1
    omega
end
theorem p_law : Q_law := by
  refine ⟨1, rfl, 5, rfl, ⟨by decide, by decide⟩, fun r h0 h1 => ⟨1 + r, rfl, ?_⟩⟩
  obtain ⟨n, hn⟩ : ∃ n : Nat, 1 + r = (n : Int) := ⟨(1 + r).toNat, by omega⟩
  rw [hn]
  have hn1 : 1 ≤ n := by omega
  have hn5 : n ≤ 5 := by omega
  obtain ⟨f1, f2, f3, f4⟩ := all5 n hn1 hn5
  obtain ⟨t1, t2, t3⟩ := kn_table n hn1 hn5
  refine ⟨rg 1 n, ?_, pL n (rg 1 n), f1, KN n, ?_, t1, sortP ((KN n).map fun q => q.1), rfl, ⟨fun e => ?_, ?_⟩, fun x hx => ?_⟩
  · simp only [Option.bind_some, q_rng n (by omega)]
  · simp only [Option.bind_some]
    have := kn_fold n hn1 hn5
    simp only [Option.bind_some] at this
    rw [this]
    rfl
  · have := (sortP_perm ((KN n).map fun q => q.1)).length_eq
    rw [e] at this
    simp at this
    exact t2 (by simpa using this.symm)
  · rw [(sortP_perm ((KN n).map fun q => q.1)).length_eq, List.length_map]
    omega
  · have hx' := (sortP_perm _).mem_iff.mp hx
    obtain ⟨p, hp, rfl⟩ := List.mem_map.mp hx'
    have c := ck n hn1 hn5
    unfold ckN at c
    simp only [Bool.and_eq_true, List.all_eq_true, decide_eq_true_eq] at c
    obtain ⟨b1, b2, b3, b4⟩ := (c.1 p hp).2
    refine ⟨4, rfl, ⟨by decide, by decide⟩, fun z z0 z1 => ⟨0, rfl, _, rfl, ?_⟩⟩
    by_cases hz : z = 0
    · rw [if_pos (by simpa using hz)]
      exact ⟨12, rfl, ⟨by decide, by decide⟩, fun a a0 a1 => ⟨40, rfl, ⟨by decide, by decide⟩, fun b b0 b1 => q3 hn1 hn5 a0 (by omega) b0 (by omega)⟩⟩
    · rw [if_neg (by simpa using hz)]
      exact q3 hn1 hn5 b1 b2 b3 b4
theorem law_ok : lawOk 17 1 W_law := law_ok_of p_law
end K07

open PySem PySem.W PyProof.Rows
set_option maxHeartbeats 0 in
theorem PySem.Challenge.cw_agreeranks_k07_whole_tables_holds : PySem.Challenge.rw_agreeranks_k07_whole_tables.Holds := by
  w_on; o_law; k_head; (case hw => w_witness2)
  k_fill
  refine L2.walk_of (l := PySem.Challenge.rw_agreeranks_k07_whole_tables) (n := 63) (k := 14) (x := "script") (CX := fun _ => L2.CX0) (sp := fun w => DL.spLaw _) rfl (by decide) rfl ⟨rfl, by decide, by decide⟩ (fun w h Y => PySem.W.kIn_of Y) ?F (fun _ _ a ns hl _ hS => ⟨a, ns, rfl, hS, hl, fun _ => rfl⟩) (fun _ _ _ _ _ h => h)
  case F =>
    intro w mg fa h KX G hmg
    refine' K07.law_end K07.law_ok hmg ⟨(PySem.W.mg_none_of KX G ?z_len), (PySem.W.mg_none_of KX G ?z_max), (PySem.W.mg_none_of KX G ?z_min), (PySem.W.mg_none_of KX G ?z_sum), (PySem.W.mg_none_of KX G ?z_sorted), (PySem.W.mg_none_of KX G ?z_list), (PySem.W.mg_none_of KX G ?z_isinstance), (PySem.W.mg_none_of KX G ?z_range), (PySem.W.mg_none_of KX G ?z_zip), (PySem.W.mg_none_of KX G ?z_enumerate), (PySem.W.mg_none_of KX G ?z_int), (PySem.W.mg_none_of KX G ?z_bool), (DL.top_int KX G ?z_MOST_SMALL), (DL.top_exc KX G ?ea_BadNumber ?ee_BadNumber ?ek_BadNumber ?eb_BadNumber ?et_BadNumber), (DL.top_exc KX G ?ea_NotFound ?ee_NotFound ?ek_NotFound ?eb_NotFound ?et_NotFound), ?xt, (PySem.W.mg_none_of KX G ?z_ValueError), (DL.top_fun KX G ?a__law_start ?l__law_start ?c__law_start ?k__law_start), (DL.top_fun KX G ?a__law_draw ?l__law_draw ?c__law_draw ?k__law_draw), (DL.top_fun KX G ?a__law_pick ?l__law_pick ?c__law_pick ?k__law_pick), (DL.top_fun KX G ?a__law_error ?l__law_error ?c__law_error ?k__law_error), (DL.top_fun KX G ?a_is_int ?l_is_int ?c_is_int ?k_is_int), (DL.top_fun KX G ?a_check_size ?l_check_size ?c_check_size ?k_check_size), (DL.top_fun KX G ?a_orders ?l_orders ?c_orders ?k_orders), (DL.top_fun KX G ?a_all_rankings ?l_all_rankings ?c_all_rankings ?k_all_rankings), (DL.top_fun KX G ?a_inversions ?l_inversions ?c_inversions ?k_inversions), (DL.top_fun KX G ?a_squares_of ?l_squares_of ?c_squares_of ?k_squares_of), (DL.top_fun KX G ?a_count_with ?l_count_with ?c_count_with ?k_count_with), (DL.top_fun KX G ?a_value_table ?l_value_table ?c_value_table ?k_value_table), (DL.top_fun KX G ?a_orders_with ?l_orders_with ?c_orders_with ?k_orders_with), (DL.top_fun KX G ?a_can_be ?l_can_be ?c_can_be ?k_can_be), (DL.top_fun KX G ?a_first_with ?l_first_with ?c_first_with ?k_first_with), (DL.top_fun KX G ?a_order_at ?l_order_at ?c_order_at ?k_order_at), (DL.top_fun KX G ?a__law_true ?l__law_true ?c__law_true ?k__law_true), (DL.top_fun KX G ?a__law_against ?l__law_against ?c__law_against ?k__law_against), (DL.top_fun KX G ?a__law_squares ?l__law_squares ?c__law_squares ?k__law_squares), (DL.top_fun KX G ?a__law_all ?l__law_all ?c__law_all ?k__law_all), (DL.top_fun KX G ?a__law_call ?l__law_call ?c__law_call ?k__law_call), (DL.top_fun KX G ?a_law ?l_law ?c_law ?k_law)⟩
    (case z_len => k_is)
    (case z_max => k_is)
    (case z_min => k_is)
    (case z_sum => k_is)
    (case z_sorted => k_is)
    (case z_list => k_is)
    (case z_isinstance => k_is)
    (case z_range => k_is)
    (case z_zip => k_is)
    (case z_enumerate => k_is)
    (case z_int => k_is)
    (case z_bool => k_is)
    (case z_MOST_SMALL => k_is)
    (case ea_BadNumber => k_is); (case ee_BadNumber => k_exc); (case ek_BadNumber => k_is); (case eb_BadNumber => k_is); (case et_BadNumber => k_is)
    (case ea_NotFound => k_is); (case ee_NotFound => k_exc); (case ek_NotFound => k_is); (case eb_NotFound => k_is); (case et_NotFound => k_is)
    (case xt =>
      refine' DL.top_xt (DL.xc1 KX G (x := "BadRanking") ?xa0 ?xg0 ?xk0 ?xs0 ?xd0 ?xh0 ?xm0 ?xn0 ?xt0 ?xy0) (DL.xc1 KX G (x := "BadScores") ?xa1 ?xg1 ?xk1 ?xs1 ?xd1 ?xh1 ?xm1 ?xn1 ?xt1 ?xy1) (DL.xc1 KX G (x := "BadNumber") ?xa2 ?xg2 ?xk2 ?xs2 ?xd2 ?xh2 ?xm2 ?xn2 ?xt2 ?xy2) (DL.xc1 KX G (x := "BadText") ?xa3 ?xg3 ?xk3 ?xs3 ?xd3 ?xh3 ?xm3 ?xn3 ?xt3 ?xy3) (DL.xc1 KX G (x := "NotFound") ?xa4 ?xg4 ?xk4 ?xs4 ?xd4 ?xh4 ?xm4 ?xn4 ?xt4 ?xy4) (DL.xc1 KX G (x := "RankError") ?xa5 ?xg5 ?xk5 ?xs5 ?xd5 ?xh5 ?xm5 ?xn5 ?xt5 ?xy5) ?s00 ?s01 ?s02 ?s03 ?s04 ?s10 ?s11 ?s12 ?s13 ?s14 ?s20 ?s21 ?s22 ?s23 ?s24 ?s30 ?s31 ?s32 ?s33 ?s34 ?s40 ?s41 ?s42 ?s43 ?s44 ?r0 ?r1 ?r2 ?r3 ?r4 ?v0 ?v1 ?v2 ?v3 ?v4 (by decide +kernel)
      (case xa0 => k_is)
      (case xa1 => k_is)
      (case xa2 => k_is)
      (case xa3 => k_is)
      (case xa4 => k_is)
      (case xa5 => k_is)
      (case xg0 => k_is); (case xk0 => k_is); (case xs0 => k_is); (case xd0 => k_is); (case xh0 => k_is); (case xm0 => k_is); (case xn0 => k_is); (case xt0 => k_is); (case xy0 => k_is)
      (case xg1 => k_is); (case xk1 => k_is); (case xs1 => k_is); (case xd1 => k_is); (case xh1 => k_is); (case xm1 => k_is); (case xn1 => k_is); (case xt1 => k_is); (case xy1 => k_is)
      (case xg2 => k_is); (case xk2 => k_is); (case xs2 => k_is); (case xd2 => k_is); (case xh2 => k_is); (case xm2 => k_is); (case xn2 => k_is); (case xt2 => k_is); (case xy2 => k_is)
      (case xg3 => k_is); (case xk3 => k_is); (case xs3 => k_is); (case xd3 => k_is); (case xh3 => k_is); (case xm3 => k_is); (case xn3 => k_is); (case xt3 => k_is); (case xy3 => k_is)
      (case xg4 => k_is); (case xk4 => k_is); (case xs4 => k_is); (case xd4 => k_is); (case xh4 => k_is); (case xm4 => k_is); (case xn4 => k_is); (case xt4 => k_is); (case xy4 => k_is)
      (case xg5 => k_is); (case xk5 => k_is); (case xs5 => k_is); (case xd5 => k_is); (case xh5 => k_is); (case xm5 => k_is); (case xn5 => k_is); (case xt5 => k_is); (case xy5 => k_is)
      (case s00 => k_is); (case s01 => k_is); (case s02 => k_is); (case s03 => k_is); (case s04 => k_is); (case s10 => k_is); (case s11 => k_is); (case s12 => k_is); (case s13 => k_is); (case s14 => k_is); (case s20 => k_is); (case s21 => k_is); (case s22 => k_is); (case s23 => k_is); (case s24 => k_is); (case s30 => k_is); (case s31 => k_is); (case s32 => k_is); (case s33 => k_is); (case s34 => k_is); (case s40 => k_is); (case s41 => k_is); (case s42 => k_is); (case s43 => k_is); (case s44 => k_is)
      (case r0 => k_is); (case r1 => k_is); (case r2 => k_is); (case r3 => k_is); (case r4 => k_is); (case v0 => k_is); (case v1 => k_is); (case v2 => k_is); (case v3 => k_is); (case v4 => k_is))
    (case z_ValueError => k_is)
    (case a__law_start => k_is); (case l__law_start => k_is); (case c__law_start => k_is); (case k__law_start => k_is)
    (case a__law_draw => k_is); (case l__law_draw => k_is); (case c__law_draw => k_is); (case k__law_draw => k_is)
    (case a__law_pick => k_is); (case l__law_pick => k_is); (case c__law_pick => k_is); (case k__law_pick => k_is)
    (case a__law_error => k_is); (case l__law_error => k_is); (case c__law_error => k_is); (case k__law_error => k_is)
    (case a_is_int => k_is); (case l_is_int => k_is); (case c_is_int => k_is); (case k_is_int => k_is)
    (case a_check_size => k_is); (case l_check_size => k_is); (case c_check_size => k_is); (case k_check_size => k_is)
    (case a_orders => k_is); (case l_orders => k_is); (case c_orders => k_is); (case k_orders => k_is)
    (case a_all_rankings => k_is); (case l_all_rankings => k_is); (case c_all_rankings => k_is); (case k_all_rankings => k_is)
    (case a_inversions => k_is); (case l_inversions => k_is); (case c_inversions => k_is); (case k_inversions => k_is)
    (case a_squares_of => k_is); (case l_squares_of => k_is); (case c_squares_of => k_is); (case k_squares_of => k_is)
    (case a_count_with => k_is); (case l_count_with => k_is); (case c_count_with => k_is); (case k_count_with => k_is)
    (case a_value_table => k_is); (case l_value_table => k_is); (case c_value_table => k_is); (case k_value_table => k_is)
    (case a_orders_with => k_is); (case l_orders_with => k_is); (case c_orders_with => k_is); (case k_orders_with => k_is)
    (case a_can_be => k_is); (case l_can_be => k_is); (case c_can_be => k_is); (case k_can_be => k_is)
    (case a_first_with => k_is); (case l_first_with => k_is); (case c_first_with => k_is); (case k_first_with => k_is)
    (case a_order_at => k_is); (case l_order_at => k_is); (case c_order_at => k_is); (case k_order_at => k_is)
    (case a__law_true => k_is); (case l__law_true => k_is); (case c__law_true => k_is); (case k__law_true => k_is)
    (case a__law_against => k_is); (case l__law_against => k_is); (case c__law_against => k_is); (case k__law_against => k_is)
    (case a__law_squares => k_is); (case l__law_squares => k_is); (case c__law_squares => k_is); (case k__law_squares => k_is)
    (case a__law_all => k_is); (case l__law_all => k_is); (case c__law_all => k_is); (case k__law_all => k_is)
    (case a__law_call => k_is); (case l__law_call => k_is); (case c__law_call => k_is); (case k__law_call => k_is)
    (case a_law => k_is); (case l_law => k_is); (case c_law => k_is); (case k_law => k_is)
