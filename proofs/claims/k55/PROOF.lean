import PyProof.Rows.All
import HandS.ForMost
import HandS.Wide
import HandS.WordsExc
import HandS.CallSlots
import HandS.IsInst
import HandS.Deep
import HandS.SortInts
import HandS.TupAny
import HandS.NoneIn
import HandS.Style
import HandS.Conv
import HandS.More
import KE.SortData
import KE.DataCmp
import KE.DataMinMax
import KE.KDictZip
import HandS.Flow
import HandS.Dict
import KE.KRevSl
import HandS.TupMul
import HandS.ListItems
import HandS.Defaults
import HandS.Head0
import HandS.Head1
import HandS.Head2
import HandS.HeadEnd
import HandS.HeadHook1
import HandS.HeadHook2
import KE.KStateDown
import PySem.Challenge.RW_leafpages_k55_whole_mirrored
set_option Elab.async false
set_option linter.all false
set_option maxRecDepth 100000
/-! L3, part 1: values, cells, the relation to HandS's heap. -/
namespace L3
open PySem PySem.Spec PyProof.Rows L2

/-- a value: tuples and frozen lists by value, live cells by address -/
inductive Val where
  | non | bl (b : Bool) | int (i : Int) | str (s : Str)
  | tup (xs : List Val) | fl (xs : List Val) | sc (ns : List Int) | ref (a : Addr)
  | fd (ks : List Key) (vs : List Val)
  | wd (ks : List Key) (vs : List Val)
  deriving Inhabited

/-- what a live cell holds -/
inductive Cell where
  | lst (xs : List Val)
  | dic (kvs : List (Key × Val))
  deriving Inhabited

abbrev Hq := Addr → Option Cell
def up (h : Hq) (a : Addr) (c : Cell) : Hq := fun b => if b = a then some c else h b
def er (h : Hq) (a : Addr) : Hq := fun b => if b = a then none else h b
theorem up_same {h : Hq} {a : Addr} {c : Cell} : up h a c a = some c := if_pos rfl
theorem up_ne {h : Hq} {a b : Addr} {c : Cell} (n : b ≠ a) : up h a c b = h b := if_neg n
theorem er_same {h : Hq} {a : Addr} : er h a a = none := if_pos rfl
theorem er_ne {h : Hq} {a b : Addr} (n : b ≠ a) : er h a b = h b := if_neg n
theorem er_up {h : Hq} {a : Addr} {c : Cell} (n : h a = none) : er (up h a c) a = h := by
  funext b; unfold er up; by_cases e : b = a
  · rw [if_pos e, e, n]
  · rw [if_neg e, if_neg e]
theorem er_up' {h : Hq} {a : Addr} {c : Cell} : er (up h a c) a = er h a := by
  funext b; unfold er up; by_cases e : b = a
  · rw [if_pos e, if_pos e]
  · rw [if_neg e, if_neg e, if_neg e]
theorem up_up {h : Hq} {a : Addr} {c d : Cell} : up (up h a c) a d = up h a d := by
  funext b; unfold up; split <;> rfl
theorem up_id {h : Hq} {a : Addr} {c : Cell} (e : h a = some c) : up h a c = h := by
  funext b; unfold up; split
  · rename_i q; rw [q, e]
  · rfl
theorem up_comm {h : Hq} {a b : Addr} {c d : Cell} (n : a ≠ b) : up (up h a c) b d = up (up h b d) a c := by
  funext x; unfold up
  by_cases e : x = a <;> by_cases e2 : x = b
  · exact absurd (e.symm.trans e2) n
  · rw [if_neg e2, if_pos e, if_pos e]
  · rw [if_pos e2, if_neg e, if_pos e2]
  · rw [if_neg e2, if_neg e, if_neg e, if_neg e2]
theorem er_comm_up {h : Hq} {a b : Addr} {c : Cell} (n : a ≠ b) : er (up h a c) b = up (er h b) a c := by
  funext x
  show (if x = b then none else (if x = a then some c else h x)) = (if x = a then some c else (if x = b then none else h x))
  by_cases e : x = a <;> by_cases e2 : x = b
  · exact absurd (e.symm.trans e2) n
  · simp [e, n]
  · simp [e2, Ne.symm n]
  · simp [e, e2]
theorem ne_of_live {h : Hq} {a b : Addr} {c : Cell} (x : h a = some c) (y : h b = none) : a ≠ b := by
  intro e; rw [e, y] at x; cases x
theorem ne_of_live' {h : Hq} {a b : Addr} {c : Cell} (x : h a = some c) (y : h b = none) : b ≠ a := fun e => ne_of_live x y e.symm

/-- the module's own objects -/
class Mo where
  K : PySem.W.Frag
/-! ### the relation of values -/
variable [Mo]
mutual
/-- v, over the live cells h and the abstract heap H, is the value V -/
def RV (h : Hq) (H : Hp) : Val → V → Prop
  | .non, x => x = .non
  | .bl b, x => x = .bl b
  | .int i, x => x = .int i
  | .str s, x => x = .str s
  | .tup xs, x => ∃ a vs, x = .ref a ∧ h a = none ∧ H a = some (.tup vs) ∧ RVs h H xs vs
  | .fl xs, x => ∃ a vs, x = .ref a ∧ h a = none ∧ H a = some (.lst vs) ∧ RVs h H xs vs
  | .sc ns, x => ∃ a, x = .ref a ∧ ((h a = none ∧ ∃ o, H a = some (.frz o (.lst (ns.map V.int)))) ∨ ∀ H', SqL Mo.K H' a (ns.map V.int))
  | .ref a, x => x = .ref a
  | .fd ks ws, x => ∃ a kvs, x = .ref a ∧ h a = none ∧ H a = some (.dK kvs) ∧ kvs.map (·.1) = ks ∧ RVs h H ws (kvs.map (·.2))
  | .wd ks ws, x => ∃ a kvs, x = .ref a ∧ h a = none ∧ (∃ o, H a = some (.frz o (.dK kvs))) ∧ kvs.map (·.1) = ks ∧ RVs h H ws (kvs.map (·.2))
def RVs (h : Hq) (H : Hp) : List Val → List V → Prop
  | [], ys => ys = []
  | v :: vs, ys => ∃ y r, ys = y :: r ∧ RV h H v y ∧ RVs h H vs r
end

/-- what is no live cell stays -/
def Stab (h : Hq) (H : Hp) (h' : Hq) (H' : Hp) : Prop := ∀ a o, H a = some o → h a = none → H' a = some o ∧ h' a = none
theorem Stab.refl {h : Hq} {H : Hp} : Stab h H h H := fun _ _ e n => ⟨e, n⟩
theorem Stab.trans {h h1 h2 : Hq} {H H1 H2 : Hp} (a : Stab h H h1 H1) (b : Stab h1 H1 h2 H2) : Stab h H h2 H2 := fun c o e n => let ⟨e1, n1⟩ := a c o e n; b c o e1 n1

section
variable {h h' : Hq} {H H' : Hp}
mutual
theorem RV.keep (k : Stab h H h' H') : ∀ {v : Val} {x : V}, RV h H v x → RV h' H' v x
  | .non, _, r => r
  | .bl _, _, r => r
  | .int _, _, r => r
  | .str _, _, r => r
  | .ref _, _, r => r
  | .fd ks ws, _, r => by
    obtain ⟨a, kvs, e, n, ho, q1, q2⟩ := r
    obtain ⟨ho', n'⟩ := k a _ ho n
    exact ⟨a, kvs, e, n', ho', q1, RVs.keep k q2⟩
  | .wd ks ws, _, r => by
    obtain ⟨a, kvs, e, n, ⟨o, ho⟩, q1, q2⟩ := r
    obtain ⟨ho', n'⟩ := k a _ ho n
    exact ⟨a, kvs, e, n', ⟨o, ho'⟩, q1, RVs.keep k q2⟩
  | .tup xs, _, r => by
    obtain ⟨a, vs, e, n, ho, q⟩ := r
    obtain ⟨ho', n'⟩ := k a _ ho n
    exact ⟨a, vs, e, n', ho', RVs.keep k q⟩
  | .fl xs, _, r => by
    obtain ⟨a, vs, e, n, ho, q⟩ := r
    obtain ⟨ho', n'⟩ := k a _ ho n
    exact ⟨a, vs, e, n', ho', RVs.keep k q⟩
  | .sc ns, _, r => by
    obtain ⟨a, e, q⟩ := r
    rcases q with ⟨n, o, ho⟩ | q
    · obtain ⟨ho', n'⟩ := k a _ ho n
      exact ⟨a, e, .inl ⟨n', o, ho'⟩⟩
    · exact ⟨a, e, .inr q⟩
theorem RVs.keep (k : Stab h H h' H') : ∀ {vs : List Val} {xs : List V}, RVs h H vs xs → RVs h' H' vs xs
  | [], _, r => r
  | v :: vs, _, r => by
    obtain ⟨y, t, e, r1, r2⟩ := r
    exact ⟨y, t, e, RV.keep k r1, RVs.keep k r2⟩
end
end

section
variable {h : Hq} {H : Hp}
theorem RVs.nil : RVs h H [] [] := rfl
theorem RVs.cons {v : Val} {x : V} {vs : List Val} {xs : List V} (r : RV h H v x) (t : RVs h H vs xs) : RVs h H (v :: vs) (x :: xs) := ⟨x, xs, rfl, r, t⟩
theorem RVs.length : ∀ {vs : List Val} {xs : List V}, RVs h H vs xs → vs.length = xs.length
  | [], _, r => by cases r; rfl
  | _ :: _, _, ⟨_, _, e, _, t⟩ => by subst e; rw [List.length_cons, List.length_cons, RVs.length t]
theorem RVs.app : ∀ {vs ws : List Val} {xs ys : List V}, RVs h H vs xs → RVs h H ws ys → RVs h H (vs ++ ws) (xs ++ ys)
  | [], _, _, _, r, s => by cases r; exact s
  | _ :: _, _, _, _, ⟨_, _, e, r, t⟩, s => by subst e; exact .cons r (RVs.app t s)
theorem RVs.get : ∀ {vs : List Val} {xs : List V} {i : Nat} {v : Val}, RVs h H vs xs → vs[i]? = some v → ∃ x, xs[i]? = some x ∧ RV h H v x
  | [], _, _, _, _, e => by simp at e
  | _ :: _, _, 0, _, ⟨_, _, q, r, t⟩, e => by subst q; simp at e; subst e; exact ⟨_, rfl, r⟩
  | _ :: _, _, i + 1, v, ⟨_, _, q, r, t⟩, e => by
    subst q
    obtain ⟨x, h1, h2⟩ := RVs.get (i := i) (v := v) t (by simpa using e)
    exact ⟨x, by simpa using h1, h2⟩
theorem RVs.get' : ∀ {vs : List Val} {xs : List V} {i : Nat} {x : V}, RVs h H vs xs → xs[i]? = some x → ∃ v, vs[i]? = some v ∧ RV h H v x
  | [], _, _, _, r, e => by cases r; simp at e
  | v :: _, _, 0, _, ⟨_, _, q, r, t⟩, e => by subst q; simp at e; subst e; exact ⟨_, rfl, r⟩
  | _ :: _, _, i + 1, x, ⟨_, _, q, r, t⟩, e => by
    subst q
    obtain ⟨v, h1, h2⟩ := RVs.get' (i := i) (x := x) t (by simpa using e)
    exact ⟨v, by simpa using h1, h2⟩
theorem RVs.set : ∀ {vs : List Val} {xs : List V} (i : Nat) {v : Val} {x : V}, RVs h H vs xs → RV h H v x → RVs h H (vs.set i v) (xs.set i x)
  | [], _, _, _, _, r, _ => by cases r; exact rfl
  | _ :: _, _, 0, _, _, ⟨_, _, q, r, t⟩, s => by subst q; exact .cons s t
  | _ :: _, _, i + 1, _, _, ⟨_, _, q, r, t⟩, s => by subst q; exact .cons r (RVs.set i t s)
theorem RVs.take : ∀ {vs : List Val} {xs : List V} (n : Nat), RVs h H vs xs → RVs h H (vs.take n) (xs.take n)
  | _, _, 0, _ => rfl
  | [], _, _ + 1, r => by cases r; exact rfl
  | _ :: _, _, n + 1, ⟨_, _, q, r, t⟩ => by subst q; exact .cons r (RVs.take n t)
theorem RVs.drop : ∀ {vs : List Val} {xs : List V} (n : Nat), RVs h H vs xs → RVs h H (vs.drop n) (xs.drop n)
  | _, _, 0, r => r
  | [], _, _ + 1, r => by cases r; exact rfl
  | _ :: _, _, n + 1, ⟨_, _, q, r, t⟩ => by subst q; exact RVs.drop n t
theorem RVs.dropLast : ∀ {vs : List Val} {xs : List V}, RVs h H vs xs → RVs h H vs.dropLast xs.dropLast := fun {vs xs} r => by
  rw [List.dropLast_eq_take, List.dropLast_eq_take, r.length]; exact r.take _
theorem RVs.eraseIdx : ∀ {vs : List Val} {xs : List V} (i : Nat), RVs h H vs xs → RVs h H (vs.eraseIdx i) (xs.eraseIdx i)
  | [], _, _, r => by cases r; exact rfl
  | _ :: _, _, 0, ⟨_, _, q, _, t⟩ => by subst q; exact t
  | _ :: _, _, i + 1, ⟨_, _, q, r, t⟩ => by subst q; exact .cons r (RVs.eraseIdx i t)
theorem RVs.reverse : ∀ {vs : List Val} {xs : List V}, RVs h H vs xs → RVs h H vs.reverse xs.reverse
  | [], _, r => by cases r; exact rfl
  | _ :: _, _, ⟨_, _, q, r, t⟩ => by
    subst q
    rw [List.reverse_cons, List.reverse_cons]
    exact RVs.app (RVs.reverse t) (.cons r .nil)
theorem RVs.ints : ∀ {ns : List Int} {xs : List V}, RVs h H (ns.map Val.int) xs → xs = ns.map V.int
  | [], _, r => r
  | _ :: _, _, ⟨_, _, q, r, t⟩ => by
    rw [q, show _ = V.int _ from r, RVs.ints t]; rfl
theorem RVs.bls : ∀ {ns : List Bool} {xs : List V}, RVs h H (ns.map Val.bl) xs → xs = ns.map V.bl
  | [], _, r => r
  | _ :: _, _, ⟨_, _, q, r, t⟩ => by
    rw [q, show _ = V.bl _ from r, RVs.bls t]; rfl
theorem RVs.strs : ∀ {ns : List Str} {xs : List V}, RVs h H (ns.map Val.str) xs → xs = ns.map V.str
  | [], _, r => r
  | _ :: _, _, ⟨_, _, q, r, t⟩ => by
    rw [q, show _ = V.str _ from r, RVs.strs t]; rfl
end

/-! ### cells -/
def RKV (h : Hq) (H : Hp) (ps : List (Key × Val)) (ys : List (Key × V)) : Prop := ys.map (·.1) = ps.map (·.1) ∧ RVs h H (ps.map (·.2)) (ys.map (·.2))
/-- what stands at a live cell's address -/
def RC (h : Hq) (H : Hp) (a : Addr) : Cell → Prop
  | .lst xs => ∃ vs, H a = some (.lst vs) ∧ RVs h H xs vs
  | .dic kvs => ∃ vs, H a = some (.dK vs) ∧ RKV h H kvs vs
/-- the live cells are held -/
def RH (h : Hq) (H : Hp) : Prop := ∀ a c, h a = some c → RC h H a c
/-- the names -/
abbrev Env3 := List (Option Val)
def RE (h : Hq) (H : Hp) (ρ : Env3) (σ : L2.St) : Prop := ρ.length = σ.length ∧ ∀ (i : Nat) (v : Val), ρ[i]? = some (some v) → ∃ x, σ[i]? = some (some x) ∧ RV h H v x

section
variable {h h' : Hq} {H H' : Hp} {a : Addr}
theorem RKV.keep (k : Stab h H h' H') {vs : List (Key × Val)} {xs : List (Key × V)} (r : RKV h H vs xs) : RKV h' H' vs xs := ⟨r.1, RVs.keep k r.2⟩
theorem RKV.nil : RKV h H [] [] := ⟨rfl, rfl⟩
theorem RKV.cons {k : Key} {v : Val} {y : V} {vs : List (Key × Val)} {xs : List (Key × V)} (r : RV h H v y) (t : RKV h H vs xs) : RKV h H ((k, v) :: vs) ((k, y) :: xs) := ⟨by rw [List.map_cons, List.map_cons, t.1], .cons r t.2⟩
theorem RKV.un {k : Key} {v : Val} {vs : List (Key × Val)} {xs : List (Key × V)} (r : RKV h H ((k, v) :: vs) xs) : ∃ y t, xs = (k, y) :: t ∧ RV h H v y ∧ RKV h H vs t := by
  obtain ⟨r1, y, t, e, q1, q2⟩ := r
  cases xs with
  | nil => cases r1
  | cons p xs =>
    obtain ⟨j, z⟩ := p
    rw [List.map_cons, List.map_cons, List.cons.injEq] at r1
    rw [List.map_cons, List.cons.injEq] at e
    obtain ⟨e1, e2⟩ := r1
    obtain ⟨e3, e4⟩ := e
    dsimp only at e1 e3
    subst e1 e3 e4
    exact ⟨_, _, rfl, q1, e2, q2⟩
theorem RKV.app {vs ws : List (Key × Val)} {xs ys : List (Key × V)} (r : RKV h H vs xs) (t : RKV h H ws ys) : RKV h H (vs ++ ws) (xs ++ ys) := ⟨by rw [List.map_append, List.map_append, r.1, t.1], by rw [List.map_append, List.map_append]; exact r.2.app t.2⟩
theorem RKV.length {vs : List (Key × Val)} {xs : List (Key × V)} (r : RKV h H vs xs) : vs.length = xs.length := by
  have := congrArg List.length r.1
  rw [List.length_map, List.length_map] at this
  exact this.symm
theorem RE.keep (k : Stab h H h' H') {ρ : Env3} {σ : L2.St} (r : RE h H ρ σ) : RE h' H' ρ σ := ⟨r.1, fun i v e => let ⟨x, e1, r1⟩ := r.2 i v e; ⟨x, e1, RV.keep k r1⟩⟩
theorem RC.some {c : Cell} (r : RC h H a c) : ∃ o, H a = some o := by
  cases c with
  | lst xs => obtain ⟨vs, e, _⟩ := r; exact ⟨_, e⟩
  | dic xs => obtain ⟨vs, e, _⟩ := r; exact ⟨_, e⟩
theorem RH.free (r : RH h H) (n : H a = none) : h a = none := by
  cases e : h a with
  | none => rfl
  | some c => obtain ⟨o, q⟩ := (r a c e).some; rw [n] at q; cases q
theorem RC.keep (k : Stab h H h' H') {c : Cell} (e : H' a = H a) (r : RC h H a c) : RC h' H' a c := by
  cases c with
  | lst xs => obtain ⟨vs, q, t⟩ := r; exact ⟨vs, e.trans q, RVs.keep k t⟩
  | dic xs => obtain ⟨vs, q, t⟩ := r; exact ⟨vs, e.trans q, RKV.keep k t⟩
/-- a new object that is no cell (a tuple, a frozen list) -/
theorem Stab.alloc {o : HO} (n : H a = none) : Stab h H h (upd H a o) := fun b u e m => ⟨by rw [upd_ne (ne_of_none e n)]; exact e, m⟩
theorem RH.alloc {o : HO} (r : RH h H) (n : H a = none) : RH h (upd H a o) := fun b c e => by
  have k := Stab.alloc (h := h) (o := o) n
  obtain ⟨u, q⟩ := (r b c e).some
  exact (r b c e).keep k (upd_ne (ne_of_none q n))
/-- a new cell -/
theorem Stab.cell {o : HO} {c : Cell} (n : H a = none) : Stab h H (up h a c) (upd H a o) := fun b u e m => by
  have hb := ne_of_none e n
  exact ⟨by rw [upd_ne hb]; exact e, by rw [up_ne hb]; exact m⟩
/-- a cell's write -/
theorem Stab.write {o : HO} {c d : Cell} (l : h a = some c) : Stab h H (up h a d) (upd H a o) := fun b u e m => by
  have hb : b ≠ a := ne_of_live' l m
  exact ⟨by rw [upd_ne hb]; exact e, by rw [up_ne hb]; exact m⟩
theorem RH.put {o : HO} {d : Cell} (r : RH h H) (k : Stab h H (up h a d) (upd H a o)) (new : RC (up h a d) (upd H a o) a d) : RH (up h a d) (upd H a o) := fun b c e => by
  by_cases hb : b = a
  · subst hb; rw [up_same] at e; cases e; exact new
  · rw [up_ne hb] at e
    exact (r b c e).keep k (upd_ne hb)
/-- a cell is given up (frozen, or forgotten) -/
theorem Stab.er : Stab h H (er h a) H := fun b u e m => ⟨e, by
  by_cases hb : b = a
  · rw [hb]; exact er_same
  · rw [er_ne hb]; exact m⟩
theorem RH.er (r : RH h H) : RH (L3.er h a) H := fun b c e => by
  by_cases hb : b = a
  · subst hb; rw [er_same] at e; cases e
  · rw [er_ne hb] at e
    exact (r b c e).keep Stab.er rfl
end
end L3

set_option Elab.async false
set_option linter.all false
set_option maxRecDepth 100000
/-! L3, part 2: the small language, its weakest preconditions, their monotony. -/
namespace L3
open PySem PySem.Spec PyProof.Rows L2
open PySem.W (alike dataLt AllAlike Sortable dataLe)

inductive BOp where | add | sub | mul | fdiv | mod | pow | shl | shr | band deriving DecidableEq
inductive COp where | eq | ne | lt | le | gt | ge | is | isnot | isin | notin deriving DecidableEq
/-- the built-in kinds that isinstance is asked for -/
inductive Ty where | int | bool | str | list | tuple | dict deriving DecidableEq
inductive Bl where
  | len | abs | max | min | sum | any | all | sorted | list | tuple | int | str | isi (ts : List Ty)
  deriving DecidableEq
inductive Mt where
  | append | extend | pop | insert | reverse | clear | index | count
  | dget | dupd
  deriving DecidableEq
/-- more operations, of one value and of two -/
inductive O1 where | lrange | rev | dictP | maxV | itemsS | lenSet deriving DecidableEq
inductive O2 where | dictZ | tmul deriving DecidableEq
/-- targets: a name; some names at once -/
inductive Tg where | name (i : Nat) | names (is : List Nat) deriving DecidableEq

mutual
inductive Ex where
  | var (i : Nat) | int (i : Int) | bl (b : Bool) | non | str (s : Str)
  | con (x : Str) (v : Val)
  | bin (o : BOp) (fz : Bool) (a b : Ex)
  | neg (a : Ex) | not (a : Ex)
  | cmp (o : COp) (a b : Ex) | chain (o p : COp) (a b c : Ex)
  | bop (isAnd : Bool) (es : Exs)
  | ite (t a b : Ex)
  | tup (es : Exs) | lst (fz : Bool) (es : Exs)
  | idx (a i : Ex)
  | slc (fz : Bool) (a lo hi : Ex)
  | call (f : Nat) (es : Exs)
  | blt (b : Bl) (fz : Bool) (es : Exs)
  | mth (m : Mt) (o : Ex) (es : Exs)
  | comp (fz : Bool) (elt : Ex) (tg : Tg) (it : Itx) (cond : Ex) (own : List Nat)
  | dic0 (fz : Bool) | dic1 (fz : Bool) (k v : Ex) | dic2 (fz : Bool) (k v k2 v2 : Ex)
  | op1 (o : O1) (fz : Bool) (a : Ex) | op2 (o : O2) (fz : Bool) (a b : Ex)
  | frz (a : Ex) | frzD (a : Ex)
  | nop
inductive Exs where | nil | cons (e : Ex) (es : Exs)
/-- what is walked -/
inductive Itx where
  | seq (e : Ex) | keys (e : Ex) | range1 (a : Ex) | range2 (a b : Ex) | range3 (a b c : Ex) | enum (e : Ex) | zip (a b : Ex) | rev (e : Ex)
end
mutual
inductive Sm where
  | asg (tg : Tg) (e : Ex)
  | asgI (o i e : Ex)
  | ex (e : Ex)
  | ret (e : Ex) | retN
  | ite (t : Ex) (a b : Sms)
  | for (tg : Tg) (it : Itx) (b : Sms)
  | whl (t : Ex) (b : Sms)
  | pass
  | never
  | kill (i : Nat)
  | fzv (i : Nat)
inductive Sms where | nil | cons (s : Sm) (r : Sms)
end

abbrev QV := Val → Hq → Prop
abbrev QE := Nat → Hq → Prop
abbrev CT := Nat → List Val → Hq → QV → QE → Prop

/-! ### what the operations do -/
/-- a list, live or frozen -/
def lv (h : Hq) : Val → Option (List Val)
  | .fl xs => some xs
  | .ref a => (match h a with | some (.lst xs) => some xs | _ => none)
  | _ => none
/-- a list, the script's one too -/
def ls (h : Hq) : Val → Option (List Val)
  | .sc ns => some (ns.map .int)
  | v => lv h v
/-- .. or a tuple -/
def sq (h : Hq) : Val → Option (List Val)
  | .tup xs => some xs
  | v => ls h v
theorem lv_fl (h : Hq) (xs : List Val) : lv h (.fl xs) = some xs := rfl
theorem lv_ref {h : Hq} {a : Addr} {xs : List Val} (e : h a = some (.lst xs)) : lv h (.ref a) = some xs := by simp [lv, e]
theorem ls_fl (h : Hq) (xs : List Val) : ls h (.fl xs) = some xs := rfl
theorem ls_sc (h : Hq) (ns : List Int) : ls h (.sc ns) = some (ns.map .int) := rfl
theorem ls_ref {h : Hq} {a : Addr} {xs : List Val} (e : h a = some (.lst xs)) : ls h (.ref a) = some xs := lv_ref e
theorem sq_tup (h : Hq) (xs : List Val) : sq h (.tup xs) = some xs := rfl
theorem sq_fl (h : Hq) (xs : List Val) : sq h (.fl xs) = some xs := rfl
theorem sq_sc (h : Hq) (ns : List Int) : sq h (.sc ns) = some (ns.map .int) := rfl
theorem sq_ref {h : Hq} {a : Addr} {xs : List Val} (e : h a = some (.lst xs)) : sq h (.ref a) = some xs := lv_ref e

/-! ### dicts -/
def keyOf : Val → Option Key | .int i => some (.inl i) | .str s => some (.inr s) | _ => none
abbrev KVs := List (Key × Val)
def dg (kvs : KVs) (k : Key) : Option Val := (kvs.find? fun kv => decide (kv.1 = k)).map (·.2)
def dp (kvs : KVs) (k : Key) (v : Val) : KVs := if kvs.any (fun kv => decide (kv.1 = k)) then kvs.map (fun kv => if kv.1 = k then (kv.1, v) else kv) else kvs ++ [(k, v)]
def dmerge (kvs more : KVs) : KVs := more.foldl (fun acc kv => dp acc kv.1 kv.2) kvs
def fdOf (kvs : KVs) : Val := .fd (kvs.map (·.1)) (kvs.map (·.2))
def wdOf (kvs : KVs) : Val := .wd (kvs.map (·.1)) (kvs.map (·.2))
def keyV : Key → Val | .inl i => .int i | .inr s => .str s
/-- a dict, frozen or live -/
def dr (h : Hq) : Val → Option KVs
  | .fd ks vs => some (ks.zip vs)
  | .wd ks vs => some (ks.zip vs)
  | .ref a => (match h a with | some (.dic kvs) => some kvs | _ => none)
  | _ => none
theorem zip_map (kvs : KVs) : (kvs.map (·.1)).zip (kvs.map (·.2)) = kvs := by
  induction kvs with
  | nil => rfl
  | cons p r ih => simp only [List.map_cons, List.zip_cons_cons, ih]
theorem dr_wd (h : Hq) (kvs : KVs) : dr h (wdOf kvs) = some kvs := by simp only [wdOf, dr, zip_map]
theorem dr_fd (h : Hq) (kvs : KVs) : dr h (fdOf kvs) = some kvs := by simp only [fdOf, dr, zip_map]
theorem dr_ref {h : Hq} {a : Addr} {kvs : KVs} (e : h a = some (.dic kvs)) : dr h (.ref a) = some kvs := by simp [dr, e]
theorem dr_lst {h : Hq} {a : Addr} {xs : List Val} (e : h a = some (.lst xs)) : dr h (.ref a) = none := by simp [dr, e]
def dicAt (h : Hq) (v : Val) : Option (Addr × KVs) := match v with
  | .ref a => (match h a with | some (.dic kvs) => some (a, kvs) | _ => none)
  | _ => none

/-- with what is there -/
def optW {α : Type} (o : Option α) (Q : α → Prop) : Prop := match o with
  | some a => Q a
  | none => False
theorem optW_some {α : Type} (a : α) (Q : α → Prop) : optW (some a) Q = Q a := rfl
theorem optW_none {α : Type} (Q : α → Prop) : optW none Q = False := rfl
theorem optW_mono {α : Type} {o : Option α} {Q Q' : α → Prop} (k : ∀ a, Q a → Q' a) (w : optW o Q) : optW o Q' := by
  cases o with
  | none => exact w
  | some a => exact k a w
theorem optW_ex {α : Type} {o : Option α} {Q : α → Prop} (w : optW o Q) : ∃ a, o = some a ∧ Q a := by
  cases o with
  | none => exact w.elim
  | some a => exact ⟨a, rfl, w⟩
/-- a new dict -/
def alcD (fz : Bool) (kvs : KVs) (h : Hq) (Q : QV) : Prop := if fz = true then Q (fdOf kvs) h else ∀ p, h p = none → Q (.ref p) (up h p (.dic kvs))
/-- a new list: frozen at once, or live -/
def alc (fz : Bool) (xs : List Val) (h : Hq) (Q : QV) : Prop := if fz = true then Q (.fl xs) h else ∀ p, h p = none → Q (.ref p) (up h p (.lst xs))


/-- what an operation ends with: a value, or a new list -/
inductive Out where
  | v (x : Val) (h : Hq)
  | al (fz : Bool) (xs : List Val) (h : Hq)
  | ad (fz : Bool) (kvs : KVs) (h : Hq)
def Out.w (Q : QV) : Out → Prop
  | .v x h => Q x h
  | .al fz xs h => alc fz xs h Q
  | .ad fz xs h => alcD fz xs h Q
/-- .. what it asks, and its end -/
abbrev Pr := Option (Prop × Out)
def prW (p : Pr) (Q : QV) : Prop := optW p fun q => q.1 ∧ q.2.w Q
theorem prW_some (c : Prop) (o : Out) (Q : QV) : prW (some (c, o)) Q = (c ∧ o.w Q) := rfl
theorem prW_none (Q : QV) : prW none Q = False := rfl
def binR (o : BOp) (fz : Bool) (x y : Val) (h : Hq) : Pr :=
  match o with
  | .add => (match x, y with
    | .int i, .int j => some (True, .v (.int (i + j)) h)
    | .str a, .str b => some (a.length + b.length ≤ 1000000, .v (.str (a ++ b)) h)
    | .tup a, .tup b => some (a.length + b.length ≤ 1000000, .v (.tup (a ++ b)) h)
    | x, y => (match lv h x, lv h y with | some xs, some ys => some (xs.length + ys.length ≤ 1000000, .al fz (xs ++ ys) h) | _, _ => none))
  | .sub => (match x, y with | .int i, .int j => some (True, .v (.int (i - j)) h) | _, _ => none)
  | .mul => (match x, y with
    | .int i, .int j => some ((-18446744073709551616 < i ∧ i < 18446744073709551616) ∨ (-18446744073709551616 < j ∧ j < 18446744073709551616) ∨ CMulW i j, .v (.int (i * j)) h)
    | x, .int j => (lv h x).map fun xs => ((-4611686018427387904 ≤ j ∧ j < 4611686018427387904) ∧ xs.length * j.toNat ≤ 1000000, .al fz (List.replicate j.toNat xs).flatten h)
    | _, _ => none)
  | .fdiv => (match x, y with | .int i, .int j => some (0 < j ∧ j < 2 ^ 250, .v (.int (i / j)) h) | _, _ => none)
  | .mod => (match x, y with | .int i, .int j => some (0 < j, .v (.int (i % j)) h) | _, _ => none)
  | .pow => (match x, y with | .int i, .int j => some (0 ≤ j ∧ j ≤ 1000000 ∧ -18446744073709551616 < i ∧ i < 18446744073709551616, .v (.int (i ^ j.toNat)) h) | _, _ => none)
  | .shl => (match x, y with | .int i, .int j => some (0 ≤ j ∧ j ≤ 1000000 ∧ -18446744073709551616 < i ∧ i < 18446744073709551616, .v (.int (i * 2 ^ j.toNat)) h) | _, _ => none)
  | .shr => (match x, y with | .int i, .int j => some (0 ≤ j, .v (.int (i / 2 ^ j.toNat)) h) | _, _ => none)
  | .band => (match x, y with | .int i, .int j => some (True, .v (.int (Builtin.bitAnd i j)) h) | _, _ => none)

mutual
/-- data without live cells -/
def pd : Val → Option PyData
  | .non => some .none
  | .bl b => some (.bool b)
  | .int i => some (.int i)
  | .str s => some (.str s)
  | .tup xs => (pds xs).map PyData.tuple
  | .fl xs => (pds xs).map PyData.list
  | .sc ns => some (.list (ns.map PyData.int))
  | .ref _ => none
  | .fd _ _ => none
  | .wd _ _ => none
def pds : List Val → Option (List PyData)
  | [] => some []
  | v :: vs => (match pd v, pds vs with | some d, some ds => some (d :: ds) | _, _ => none)
end
def mapO {α β : Type} (f : α → Option β) : List α → Option (List β)
  | [] => some []
  | x :: xs => (match f x, mapO f xs with | some y, some ys => some (y :: ys) | _, _ => none)
/-- .. with live lists of data, two deep -/
def dt1 (h : Hq) : Val → Option PyData
  | .ref a => (match h a with | some (.lst xs) => (mapO pd xs).map PyData.list | _ => none)
  | v => pd v
def dt (h : Hq) : Val → Option PyData
  | .ref a => (match h a with | some (.lst xs) => (mapO (dt1 h) xs).map PyData.list | _ => none)
  | v => pd v
/-- .. deep -/
def dtN : Nat → Hq → Val → Option PyData
  | 0, _, v => pd v
  | n + 1, h, v => match pd v with
    | some d => some d
    | none => match v with
      | .tup xs => (mapO (dtN n h) xs).map PyData.tuple
      | .fl xs => (mapO (dtN n h) xs).map PyData.list
      | .ref a => (match h a with | some (.lst xs) => (mapO (dtN n h) xs).map PyData.list | _ => none)
      | _ => none
def eqR (neg : Bool) (x y : Val) (h : Hq) : Pr :=
  match dt h x, dt h y with
  | some d, some e => some (SeqAt.shaped d = true ∧ SeqAt.shaped e = true, .v (.bl (if neg then !PyData.eqv d e else PyData.eqv d e)) h)
  | _, _ => match dtN 6 h x, dtN 6 h y with
  | some d, some e => some (SeqAt.shaped d = true ∧ SeqAt.shaped e = true, .v (.bl (if neg then !PyData.eqv d e else PyData.eqv d e)) h)
  | _, _ => match ls h x, ls h y with
  | some xs, some ys => if (xs.isEmpty != ys.isEmpty) = true then some (True, .v (.bl neg) h) else none
  | _, _ => match dr h x, dr h y with
  | some ks, some js => if (ks.isEmpty || js.isEmpty) = true then some (True, .v (.bl (if neg then !(ks.isEmpty && js.isEmpty) else (ks.isEmpty && js.isEmpty))) h) else none
  | _, _ => none
def isN : Val → Bool | .non => true | _ => false
/-- flat values -/
def flt : Val → Bool | .non => true | .bl _ => true | .int _ => true | .str _ => true | _ => false
def flV : Val → V | .non => .non | .bl b => .bl b | .int i => .int i | .str s => .str s | _ => .non
def inR (neg : Bool) (x y : Val) (h : Hq) : Pr :=
  match dr h y with
  | some kvs => (keyOf x).map fun k => (True, .v (.bl (if neg then !(dg kvs k).isSome else (dg kvs k).isSome)) h)
  | none => match sq h y with
  | some ys => if (flt x && ys.all flt) = true then some (True, .v (.bl (if neg then !(ys.any fun z => eqV (flV z) (flV x)) else (ys.any fun z => eqV (flV z) (flV x)))) h) else
    (match dt h x, dt h y with
    | some d, some (.list ds) => some (SeqAt.shaped d = true ∧ SeqAt.shaped (.list ds) = true, .v (.bl (if neg then !(ds.any fun z => PyData.eqv z d) else (ds.any fun z => PyData.eqv z d))) h)
    | _, _ => none)
  | none => none
/-- the order of data: what is asked, and the two -/
def ordR (f : PyData → PyData → Bool) (x y : Val) (h : Hq) : Pr :=
  match dt h x, dt h y with
  | some d, some e => some (alike d e = true ∧ d ≠ .none ∧ SeqAt.shaped d = true ∧ SeqAt.shaped e = true, .v (.bl (f d e)) h)
  | _, _ => none
/-- x is the truth b -/
def isBV (x : Val) (b : Bool) : Bool := match x with
  | .bl a => decide (a = b)
  | _ => false
def cmpR (o : COp) (x y : Val) (h : Hq) : Pr :=
  match o with
  | .eq => (match x, y with
    | .int i, .int j => some (True, .v (.bl (decide (i = j))) h)
    | .str i, .str j => some (True, .v (.bl (decide (i = j))) h)
    | x, y => eqR false x y h)
  | .ne => (match x, y with
    | .int i, .int j => some (True, .v (.bl (!decide (i = j))) h)
    | .str i, .str j => some (True, .v (.bl (!decide (i = j))) h)
    | x, y => eqR true x y h)
  | .lt => (match x, y with | .int i, .int j => some (True, .v (.bl (decide (i < j))) h) | x, y => ordR (fun d e => dataLt d e) x y h)
  | .le => (match x, y with | .int i, .int j => some (True, .v (.bl (decide (i ≤ j))) h) | x, y => ordR (fun d e => !dataLt e d) x y h)
  | .gt => (match x, y with | .int i, .int j => some (True, .v (.bl (decide (j < i))) h) | x, y => ordR (fun d e => dataLt e d) x y h)
  | .ge => (match x, y with | .int i, .int j => some (True, .v (.bl (decide (j ≤ i))) h) | x, y => ordR (fun d e => !dataLt d e) x y h)
  | .is => (match y with | .non => some (True, .v (.bl (isN x)) h) | .bl b => some (True, .v (.bl (isBV x b)) h) | _ => none)
  | .isnot => (match y with | .non => some (True, .v (.bl (!isN x)) h) | .bl b => some (True, .v (.bl (!isBV x b)) h) | _ => none)
  | .isin => inR false x y h
  | .notin => inR true x y h
def truR (x : Val) (h : Hq) : Option Bool :=
  match x with
  | .non => some false
  | .bl b => some b
  | .int i => some (i != 0)
  | v => (sq h v).map fun xs => !xs.isEmpty
def truW (x : Val) (h : Hq) (Q : Bool → Prop) : Prop := optW (truR x h) Q
def idxR (x y : Val) (h : Hq) : Pr :=
  match dr h x with
  | some kvs => (keyOf y).bind fun k => (dg kvs k).map fun v => (True, .v v h)
  | none => match y with
  | .int i => ((sq h x).bind fun xs => atI xs i).map fun v => (True, .v v h)
  | _ => none
/-- a bound of a slice: the second part says that none is written -/
def optI : Bool → Val → Option (Option Int) | true, _ => some none | false, .int i => some (some i) | _, _ => none
def isNop : Ex → Bool | .nop => true | _ => false
def cutL (xs : List Val) (lo hi : Option Int) : List Val := (xs.drop (HT.sIx xs.length 0 lo)).take (HT.sIx xs.length xs.length hi - HT.sIx xs.length 0 lo)
def slcR (fz : Bool) (x : Val) (lo hi : Option Int) (h : Hq) : Pr := match x with
  | .tup xs => some (True, .v (.tup (cutL xs lo hi)) h)
  | x => (ls h x).map fun xs => (True, .al fz (cutL xs lo hi) h)
def maxL : List Int → Int
  | [] => 0
  | [x] => x
  | x :: y :: r => max x (maxL (y :: r))
def minL : List Int → Int
  | [] => 0
  | [x] => x
  | x :: y :: r => min x (minL (y :: r))
def intOf : Val → Option Int | .int i => some i | _ => none
def blOf : Val → Option Bool | .bl i => some i | _ => none
def sortI (ns : List Int) : List Int := ns.mergeSort (fun a b => decide (a ≤ b))
/-- a value's datum, live lists in it too -/
def dtD (h : Hq) (v : Val) : PyData := (dt1 h v).getD .none
def shp (ds : List PyData) : Prop := ∀ d, d ∈ ds → SeqAt.shaped d = true
def tupI : Val → Option (List Int) | .tup xs => mapO intOf xs | _ => none
/-- the greatest of some tuples of ints -/
def bestL (l : List Int) (ls : List (List Int)) : List Int := ls.foldl (fun a y => if a < y then y else a) l
def mxD (xs : List Val) (h : Hq) : Pr :=
  match mapO tupI xs with
  | some (l :: ls) => some (True, .v (.tup ((bestL l ls).map .int)) h)
  | _ => none
def ordL (fz : Bool) (xs : List Val) (h : Hq) : Pr :=
  (mapO (dt1 h) xs).map fun ds => (AllAlike ds ∧ Sortable ds ∧ shp ds, .al fz (xs.mergeSort (dataLe false (dtD h))) h)
def keyI : Key → Option Int | .inl i => some i | _ => none
def pairOf : Val → Option (Key × Val) | .tup [k, v] => (keyOf k).map fun j => (j, v) | _ => none
/-- how many unlike ones -/
def dlen (ns : List Int) : Nat := (PyProof.Rows.firstMet (fun i => ns.getD i 0) ns.length).length
def o1R (o : O1) (fz : Bool) (x : Val) (h : Hq) : Pr :=
  match o with
  | .lrange => (match x with | .int n => some (n ≤ 1000000 ∧ -1000000 ≤ n, .al fz ((List.range n.toNat).map fun i => Val.int ((i : Nat) : Int)) h) | _ => none)
  | .rev => (match x with | .tup xs => some (True, .v (.tup xs.reverse) h) | x => (ls h x).map fun xs => (True, .al fz xs.reverse h))
  | .dictP => (match ls h x with
    | some xs => (mapO pairOf xs).map fun kvs => (kvs.length ≤ 1000000, .ad fz (dmerge [] kvs) h)
    | none => (dr h x).map fun kvs => (True, .ad fz kvs h))
  | .maxV => ((dr h x).bind fun kvs => mapO intOf (kvs.map (·.2))).map fun ns => (ns ≠ [], .v (.int (maxL ns)) h)
  | .lenSet => ((ls h x).bind (mapO intOf)).map fun ns => (ns.length ≤ 1000, .v (.int (dlen ns : Nat)) h)
  | .itemsS => (dr h x).bind fun kvs => ordL fz (kvs.map fun kv => .tup [keyV kv.1, kv.2]) h
def o2R (o : O2) (fz : Bool) (x y : Val) (h : Hq) : Pr :=
  match o with
  | .dictZ => (((ls h x).bind (mapO keyOf)).bind fun ks => (ls h y).map fun vs => (ks, vs)).map fun q => (True, .ad fz (dmerge [] (q.1.zip q.2)) h)
  | .tmul => (match x, y with
    | .tup xs, .int k => some (xs ≠ [] ∧ 1 ≤ k ∧ k ≤ 1000 ∧ xs.length ≤ 1000, .v (.tup (List.replicate k.toNat xs).flatten) h)
    | _, _ => none)
/-- its kind: None has none -/
def tyOf (h : Hq) : Val → Option (List Ty)
  | .non => some []
  | .bl _ => some [.bool, .int]
  | .int _ => some [.int]
  | .str _ => some [.str]
  | .tup _ => some [.tuple]
  | .fl _ => some [.list]
  | .fd _ _ => some [.dict]
  | .wd _ _ => none
  | .sc _ => some [.list]
  | .ref a => (match h a with | some (.lst _) => some [.list] | some (.dic _) => some [.dict] | none => none)
def bltR (b : Bl) (fz : Bool) (vs : List Val) (h : Hq) : Pr :=
  match b with
  | .len => (match vs with | [v] => (match sq h v with | some xs => some (True, .v (.int xs.length) h) | none => (dr h v).map fun kvs => (True, .v (.int kvs.length) h)) | _ => none)
  | .abs => (match vs with | [.int i] => some (True, .v (.int (if i < 0 then -i else i)) h) | _ => none)
  | .max => (match vs with
    | [.int i, .int j] => some (True, .v (.int (if j > i then j else i)) h)
    | [v] => (match (ls h v).bind (mapO intOf) with | some ns => some (ns ≠ [], .v (.int (maxL ns)) h) | none => (lv h v).bind fun xs => mxD xs h)
    | _ => none)
  | .min => (match vs with
    | [.int i, .int j] => some (True, .v (.int (if j < i then j else i)) h)
    | [v] => ((ls h v).bind (mapO intOf)).map fun ns => (ns ≠ [], .v (.int (minL ns)) h)
    | _ => none)
  | .sum => (match vs with | [v] => ((ls h v).bind (mapO intOf)).map fun ns => (True, .v (.int ns.sum) h) | _ => none)
  | .any => (match vs with | [v] => ((ls h v).bind (mapO blOf)).map fun bs => (True, .v (.bl (bs.any id)) h) | _ => none)
  | .all => (match vs with | [v] => ((ls h v).bind (mapO blOf)).map fun bs => (True, .v (.bl (bs.all id)) h) | _ => none)
  | .sorted => (match vs with
    | [v] => (match (ls h v).bind (mapO intOf) with | some ns => some (True, .al fz ((sortI ns).map .int) h) | none => (match ls h v with
      | some xs => ordL fz xs h
      | none => ((dr h v).bind fun kvs => mapO keyI (kvs.map (·.1))).map fun ks => (ks.length < 64, .al fz ((sortI ks).map .int) h)))
    | _ => none)
  | .list => (match vs with | [v] => (sq h v).map fun xs => (True, .al fz xs h) | _ => none)
  | .tuple => (match vs with | [v] => (ls h v).map fun xs => (True, .v (.tup xs) h) | _ => none)
  | .int => (match vs with | [.int i] => some (True, .v (.int i) h) | [.bl b] => some (True, .v (.int (if b then 1 else 0)) h) | _ => none)
  | .str => none
  | .isi ts => (match vs with | [v] => (tyOf h v).map fun us => (True, .v (.bl (ts.any fun t => decide (t ∈ us))) h) | _ => none)
/-- the methods of a list at a that holds xs -/
def lmR (m : Mt) (a : Addr) (xs : List Val) (vs : List Val) (h : Hq) : Pr :=
  match m with
  | .append => (match vs with | [v] => some (xs.length < 1000000, .v .non (up h a (.lst (xs ++ [v])))) | _ => none)
  | .extend => (match vs with | [v] => (lv h v).map fun ys => (xs.length + ys.length ≤ 1000000, .v .non (up h a (.lst (xs ++ ys)))) | _ => none)
  | .pop => (match vs with
    | [] => (xs[xs.length - 1]?).map fun v => (True, .v v (up h a (.lst xs.dropLast)))
    | [.int i] => (ixN xs.length i).bind fun k => (xs[k]?).map fun v => (True, .v v (up h a (.lst (xs.eraseIdx k))))
    | _ => none)
  | .reverse => (match vs with | [] => some (True, .v .non (up h a (.lst xs.reverse))) | _ => none)
  | .clear => (match vs with | [] => some (True, .v .non (up h a (.lst []))) | _ => none)
  | .insert => (match vs with | [.int i, v] => some (0 ≤ i ∧ i ≤ 1000000 ∧ xs.length < 1000000, .v .non (up h a (.lst (xs.take i.toNat ++ [v] ++ xs.drop i.toNat)))) | _ => none)
  | .index => none
  | .count => none
  | .dget => none
  | .dupd => none
def lstAt (h : Hq) (v : Val) : Option (Addr × List Val) := match v with
  | .ref a => (match h a with | some (.lst xs) => some (a, xs) | _ => none)
  | _ => none
/-- a list's index: the first place of an equal one -/
def ixR (o : Val) (vs : List Val) (h : Hq) : Pr := match vs with
  | [y] => (ls h o).bind fun xs => (xs.findIdx? fun z => eqV (flV z) (flV y)).map fun j => (flt y = true ∧ xs.all flt = true, .v (.int (j : Nat)) h)
  | _ => none
def mOk (m : Mt) (o : Val) (h : Hq) : Option Unit := match m with
  | .index => (ls h o).map fun _ => ()
  | .dget => (match o with | .wd _ _ => none | o => (dr h o).map fun _ => ())
  | .dupd => (dicAt h o).map fun _ => ()
  | _ => (lstAt h o).map fun _ => ()
/-- a dict's get -/
def dgR (o : Val) (vs : List Val) (h : Hq) : Pr := (dr h o).bind fun kvs => match vs with
  | [.non] => some (True, .v .non h)
  | [.non, d] => some (True, .v d h)
  | [y] => (keyOf y).map fun k => (True, .v ((dg kvs k).getD .non) h)
  | [y, d] => (keyOf y).map fun k => (True, .v ((dg kvs k).getD d) h)
  | _ => none
/-- a dict's update by another one -/
def duR (o : Val) (vs : List Val) (h : Hq) : Pr := (dicAt h o).bind fun q => match vs with
  | [y] => (dr h y).map fun kvs => (y ≠ .ref q.1 ∧ q.2.length + kvs.length ≤ 1000000, .v .non (up h q.1 (.dic (dmerge q.2 kvs))))
  | _ => none
def mthR (m : Mt) (o : Val) (vs : List Val) (h : Hq) : Pr := match m with
  | .dget => dgR o vs h
  | .dupd => duR o vs h
  | .index => ixR o vs h
  | m => (lstAt h o).bind fun q => lmR m q.1 q.2 vs h
def cellAt (h : Hq) (v : Val) : Option (Addr × Cell) := match v with
  | .ref a => (h a).map fun c => (a, c)
  | _ => none
def frzC : Cell → Val | .lst xs => .fl xs | .dic kvs => fdOf kvs
def cellO (h : Hq) (a : Addr) : Option Cell := h a
def isWd : Val → Bool | .wd _ _ => true | _ => false
def lockC : Cell → Val | .lst xs => .fl xs | .dic kvs => wdOf kvs
def frzW (v : Val) (h : Hq) (Q : QV) : Prop := optW (cellAt h v) fun q => Q (frzC q.2) (er h q.1)
/-- some live lists, each frozen -/
def frzAll : List Val → Hq → (List Val → Hq → Prop) → Prop
  | [], h, Q => Q [] h
  | v :: vs, h, Q => frzW v h fun x h1 => frzAll vs h1 fun xs h2 => Q (x :: xs) h2
/-- a live list of live lists, frozen altogether -/
def frzDW (v : Val) (h : Hq) (Q : QV) : Prop := optW (lstAt h v) fun q => frzAll q.2 (er h q.1) fun ys h1 => Q (.fl ys) h1

/-! ### targets, loops -/
def lk : Env3 → Nat → Option Val
  | [], _ => none
  | v :: _, 0 => v
  | _ :: r, n + 1 => lk r n
theorem lk_eq : ∀ (ρ : Env3) (i : Nat) (v : Val), lk ρ i = some v → ρ[i]? = some (some v)
  | [], _, _, h => by simp [lk] at h
  | x :: _, 0, v, h => by simp [lk] at h; simp [h]
  | _ :: r, n + 1, v, h => by simpa using lk_eq r n v (by simpa [lk] using h)
/-- some names take some values, from the left -/
def bindL3 : List Nat → List Val → Env3 → Option Env3
  | [], [], ρ => some ρ
  | i :: is, v :: vs, ρ => bindL3 is vs (ρ.set i (some v))
  | _, _, _ => none
def bindT (tg : Tg) (v : Val) (ρ : Env3) : Option Env3 :=
  match tg with
  | .name i => some (ρ.set i (some v))
  | .names is => (match v with | .tup xs => bindL3 is xs ρ | _ => none)
def wipe3 (ρ : Env3) : List Nat → Env3
  | [] => ρ
  | v :: vs => (wipe3 ρ vs).set v none
/-- what stands behind a statement -/
structure Dn where
  nx : Env3 → Hq → Prop
  rt : QV
  ex : Nat → Env3 → Hq → Prop
abbrev WS := Dn → Env3 → Hq → Prop
def lstO (h : Hq) (p : Addr) : Option (List Val) := match h p with | some (.lst xs) => some xs | _ => none
theorem lstO_some {h : Hq} {p : Addr} {xs : List Val} : lstO h p = some xs ↔ h p = some (.lst xs) := by
  unfold lstO
  split
  · rename_i ys e; rw [e]; constructor <;> (intro z; cases z; rfl)
  · rename_i e; constructor
    · intro z; cases z
    · intro z; exact absurd z (e xs)
def compW (tg : Tg) (tst : Env3 → Hq → (Bool → Hq → Prop) → Prop) (el : Env3 → Hq → QV → Prop) (keep : Hq → Prop) (p : Addr) (fin : Hq → Prop) (ρw : Env3) : List Val → Hq → Prop
  | [], h => keep h ∧ fin h
  | x :: xs, h => keep h ∧ optW (bindT tg x ρw) fun ρ1 => tst ρ1 h fun b h1 =>
      if b = true then el ρ1 h1 fun v h2 => optW (lstO h2 p) fun acc => acc.length < 1000000 ∧ compW tg tst el keep p fin ρw xs (up h2 p (.lst (acc ++ [v])))
      else compW tg tst el keep p fin ρw xs h1
def compFin (fz : Bool) (p : Addr) (Q : QV) (h : Hq) : Prop := if fz = true then optW (lstO h p) (fun acc => Q (.fl acc) (er h p)) else Q (.ref p) h
def forW (tg : Tg) (body : WS) (keep : Hq → Prop) (D : Dn) : List Val → Env3 → Hq → Prop
  | [], ρ, h => keep h ∧ D.nx ρ h
  | x :: xs, ρ, h => keep h ∧ optW (bindT tg x ρ) fun ρ1 => body { D with nx := fun ρ' h' => forW tg body keep D xs ρ' h' } ρ1 h
def whlW (tst : Env3 → Hq → (Bool → Hq → Prop) → Prop) (body : WS) (D : Dn) : Nat → Env3 → Hq → Prop
  | 0, _, _ => False
  | n + 1, ρ, h => tst ρ h fun b h1 => if b = true then body { D with nx := whlW tst body D n } ρ h1 else D.nx ρ h1

def intsFrom (lo : Int) (n : Nat) : List Val := (List.range n).map fun i => Val.int (lo + (i : Nat))
def intsStep (lo c : Int) (n : Nat) : List Val := (List.range n).map fun i => Val.int (lo + (i : Nat) * c)
def stepN (i j k : Int) : Nat := if i < j then ((j - i - 1) / k + 1).toNat else 0
def wdK : Val → Option (List Key) | .wd ks _ => some ks | _ => none
def enumL (xs : List Val) : List Val := (List.range xs.length).zipWith (fun i v => Val.tup [.int (i : Nat), v]) xs
def zipL (xs ys : List Val) : List Val := xs.zipWith (fun x y => Val.tup [x, y]) ys

section
variable (C : CT)
mutual
def wpE : Ex → Env3 → Hq → QV → QE → Prop
  | .var i => fun ρ h Q _ => optW (lk ρ i) fun v => Q v h
  | .int i => fun _ h Q _ => Q (.int i) h
  | .bl b => fun _ h Q _ => Q (.bl b) h
  | .non => fun _ h Q _ => Q .non h
  | .str s => fun _ h Q _ => Q (.str s) h
  | .con _ v => fun _ h Q _ => Q v h
  | .bin o fz a b => fun ρ h Q E => wpE a ρ h (fun x h1 => wpE b ρ h1 (fun y h2 => prW (binR o fz x y h2) Q) E) E
  | .neg a => fun ρ h Q E => wpE a ρ h (fun x h1 => optW (intOf x) fun i => Q (.int (-i)) h1) E
  | .not a => fun ρ h Q E => wpE a ρ h (fun x h1 => truW x h1 fun k => Q (.bl (!k)) h1) E
  | .cmp o a b => fun ρ h Q E => wpE a ρ h (fun x h1 => wpE b ρ h1 (fun y h2 => prW (cmpR o x y h2) Q) E) E
  | .chain o p a b c => fun ρ h Q E => wpE a ρ h (fun x h1 => wpE b ρ h1 (fun y h2 => prW (cmpR o x y h2) fun z h3 => optW (blOf z) fun k =>
      if k = true then wpE c ρ h3 (fun z h4 => prW (cmpR p y z h4) Q) E else Q (.bl false) h3) E) E
  | .bop isAnd es => fun ρ h Q E => wpB isAnd es ρ h Q E
  | .ite t a b => fun ρ h Q E => wpT t ρ h (fun k h1 => if k = true then wpE a ρ h1 Q E else wpE b ρ h1 Q E) E
  | .tup es => fun ρ h Q E => wpA es ρ h (fun vs h1 => vs.length ≤ 1000000 ∧ Q (.tup vs) h1) E
  | .lst fz es => fun ρ h Q E => wpA es ρ h (fun vs h1 => vs.length ≤ 1000000 ∧ alc fz vs h1 Q) E
  | .idx a i => fun ρ h Q E => wpE a ρ h (fun x h1 => wpE i ρ h1 (fun y h2 => prW (idxR x y h2) Q) E) E
  | .slc fz a lo hi => fun ρ h Q E => wpE a ρ h (fun x h1 => wpE lo ρ h1 (fun l h2 => optW (optI (isNop lo) l) fun l1 => wpE hi ρ h2 (fun u h3 => optW (optI (isNop hi) u) fun u1 => prW (slcR fz x l1 u1 h3) Q) E) E) E
  | .call f es => fun ρ h Q E => wpA es ρ h (fun vs h1 => C f vs h1 Q E) E
  | .blt b fz es => fun ρ h Q E => wpA es ρ h (fun vs h1 => prW (bltR b fz vs h1) Q) E
  | .mth m o es => fun ρ h Q E => wpE o ρ h (fun x h1 => optW (mOk m x h1) fun _ => wpA es ρ h1 (fun vs h2 => prW (mthR m x vs h2) Q) E) E
  | .comp fz elt tg it cond own => fun ρ h Q E => wpI it ρ h (fun items keep h1 => ∀ p, h1 p = none →
      compW tg (fun ρ1 h2 K => wpT cond ρ1 h2 K fun _ _ => False) (fun ρ1 h2 K => wpE elt ρ1 h2 K fun _ _ => False) keep p (compFin fz p Q) (wipe3 ρ own) items (up h1 p (.lst []))) E
  | .dic0 fz => fun _ h Q _ => alcD fz [] h Q
  | .op1 o fz a => fun ρ h Q E => wpE a ρ h (fun x h1 => prW (o1R o fz x h1) Q) E
  | .op2 o fz a b => fun ρ h Q E => wpE a ρ h (fun x h1 => wpE b ρ h1 (fun y h2 => prW (o2R o fz x y h2) Q) E) E
  | .dic1 fz k v => fun ρ h Q E => ∀ p, h p = none → wpE k ρ (up h p (.dic [])) (fun x h1 => wpE v ρ h1 (fun y h2 => optW (keyOf x) fun j => h2 p = some (.dic []) ∧
      if fz = true then Q (fdOf [(j, y)]) (er h2 p) else Q (.ref p) (up h2 p (.dic [(j, y)]))) E) E
  | .dic2 fz k v k2 v2 => fun ρ h Q E => ∀ p, h p = none → wpE k ρ (up h p (.dic [])) (fun x h1 => wpE v ρ h1 (fun y h2 => wpE k2 ρ h2 (fun x2 h3 => wpE v2 ρ h3 (fun y2 h4 => optW (keyOf x) fun j => optW (keyOf x2) fun j2 => h4 p = some (.dic []) ∧
      if fz = true then Q (fdOf (dmerge [] [(j, y), (j2, y2)])) (er h4 p) else Q (.ref p) (up h4 p (.dic (dmerge [] [(j, y), (j2, y2)])))) E) E) E) E
  | .frz a => fun ρ h Q E => wpE a ρ h (fun x h1 => frzW x h1 Q) E
  | .frzD a => fun ρ h Q E => wpE a ρ h (fun x h1 => frzDW x h1 Q) E
  | .nop => fun _ h Q _ => Q .non h
def wpA : Exs → Env3 → Hq → (List Val → Hq → Prop) → QE → Prop
  | .nil => fun _ h Q _ => Q [] h
  | .cons e es => fun ρ h Q E => wpE e ρ h (fun x h1 => wpA es ρ h1 (fun vs h2 => Q (x :: vs) h2) E) E
/-- a and b, a or b as a value: all but the last are truths -/
def wpB : Bool → Exs → Env3 → Hq → QV → QE → Prop
  | _, .nil => fun _ _ _ _ => False
  | _, .cons e .nil => fun ρ h Q E => wpE e ρ h Q E
  | isAnd, .cons e (.cons e2 es2) => fun ρ h Q E => wpE e ρ h (fun x h1 => optW (blOf x) fun k =>
      if k = isAnd then wpB isAnd (.cons e2 es2) ρ h1 Q E else Q (.bl k) h1) E
/-- an expression as a test -/
def wpT : Ex → Env3 → Hq → (Bool → Hq → Prop) → QE → Prop
  | .not a => fun ρ h Q E => wpT a ρ h (fun b h1 => Q (!b) h1) E
  | .bop isAnd es => fun ρ h Q E => wpTs isAnd es ρ h Q E
  | .nop => fun _ h Q _ => Q true h
  | .bl b => fun _ h Q _ => Q b h
  | .var i => fun ρ h Q _ => optW (lk ρ i) fun v => truW v h fun k => Q k h
  | .cmp o a b => fun ρ h Q E => wpE a ρ h (fun x h1 => wpE b ρ h1 (fun y h2 => prW (cmpR o x y h2) fun v h3 => optW (blOf v) fun k => Q k h3) E) E
  | .chain o p a b c => fun ρ h Q E => wpE a ρ h (fun x h1 => wpE b ρ h1 (fun y h2 => prW (cmpR o x y h2) fun z h3 => optW (blOf z) fun k =>
      if k = true then wpE c ρ h3 (fun z h4 => prW (cmpR p y z h4) fun v h5 => optW (blOf v) fun k => Q k h5) E else Q false h3) E) E
  | .call f es => fun ρ h Q E => wpA es ρ h (fun vs h1 => C f vs h1 (fun x h2 => truW x h2 fun k => Q k h2) E) E
  | .blt b fz es => fun ρ h Q E => wpA es ρ h (fun vs h1 => prW (bltR b fz vs h1) fun x h2 => truW x h2 fun k => Q k h2) E
  | _ => fun _ _ _ _ => False
def wpTs : Bool → Exs → Env3 → Hq → (Bool → Hq → Prop) → QE → Prop
  | _, .nil => fun _ _ _ _ => False
  | _, .cons e .nil => fun ρ h Q E => wpT e ρ h Q E
  | isAnd, .cons e (.cons e2 es2) => fun ρ h Q E => wpT e ρ h (fun k h1 => if k = isAnd then wpTs isAnd (.cons e2 es2) ρ h1 Q E else Q k h1) E
/-- the items, and what must stay as it is while they are walked -/
def wpI : Itx → Env3 → Hq → (List Val → (Hq → Prop) → Hq → Prop) → QE → Prop
  | .seq e => fun ρ h Q E => wpE e ρ h (fun x h1 => optW (sq h1 x) fun xs => Q xs (fun h' => sq h' x = some xs) h1) E
  | .keys e => fun ρ h Q E => wpE e ρ h (fun x h1 => optW (wdK x) fun ks => Q (ks.map keyV) (fun _ => True) h1) E
  | .range1 a => fun ρ h Q E => wpE a ρ h (fun x h1 => optW (intOf x) fun j => (-4611686018427387904 ≤ j ∧ j < 4611686018427387904) ∧ Q (intsFrom 0 j.toNat) (fun _ => True) h1) E
  | .range2 a b => fun ρ h Q E => wpE a ρ h (fun x h1 => wpE b ρ h1 (fun y h2 => optW (intOf x) fun i => optW (intOf y) fun j =>
      (-4611686018427387904 ≤ i ∧ i < 4611686018427387904 ∧ -4611686018427387904 ≤ j ∧ j < 4611686018427387904) ∧ Q (intsFrom i (j - i).toNat) (fun _ => True) h2) E) E
  | .range3 a b c => fun ρ h Q E => wpE a ρ h (fun x h1 => wpE b ρ h1 (fun y h2 => wpE c ρ h2 (fun z h3 => optW (intOf x) fun i => optW (intOf y) fun j => optW (intOf z) fun k =>
      (0 ≤ i ∧ i ≤ 1000000 ∧ 0 ≤ j ∧ j ≤ 1000000 ∧ 0 < k ∧ k ≤ 1000000) ∧ Q (intsStep i k (stepN i j k)) (fun _ => True) h3) E) E) E
  | .enum e => fun ρ h Q E => wpE e ρ h (fun x h1 => optW (lv h1 x) fun xs => Q (enumL xs) (fun h' => lv h' x = some xs) h1) E
  | .zip a b => fun ρ h Q E => wpE a ρ h (fun x h1 => wpE b ρ h1 (fun y h2 => optW (lv h2 x) fun xs => optW (lv h2 y) fun ys =>
      Q (zipL xs ys) (fun h' => lv h' x = some xs ∧ lv h' y = some ys) h2) E) E
  | .rev e => fun ρ h Q E => wpE e ρ h (fun x h1 => optW (lv h1 x) fun xs => Q xs.reverse (fun h' => lv h' x = some xs) h1) E
end
def setW (o i v : Val) (h : Hq) (Q : Hq → Prop) : Prop := match dicAt h o with
  | some q => optW (keyOf i) fun k => q.2.length < 1000000 ∧ Q (up h q.1 (.dic (dp q.2 k v)))
  | none => optW (lstAt h o) fun q => optW (intOf i) fun k => optW (ixN q.2.length k) fun j => Q (up h q.1 (.lst (q.2.set j v)))
def refOf : Val → Option Addr | .ref a => some a | _ => none
mutual
def wpS : Sm → WS
  | .asg tg e => fun D ρ h => wpE C e ρ h (fun x h1 => optW (bindT tg x ρ) fun ρ1 => D.nx ρ1 h1) fun x h' => D.ex x ρ h'
  | .asgI o i e => fun D ρ h => wpE C e ρ h (fun v h1 => wpE C o ρ h1 (fun x h2 => wpE C i ρ h2 (fun y h3 => setW x y v h3 (D.nx ρ)) fun x h' => D.ex x ρ h') fun x h' => D.ex x ρ h') fun x h' => D.ex x ρ h'
  | .ex e => fun D ρ h => wpE C e ρ h (fun _ h1 => D.nx ρ h1) fun x h' => D.ex x ρ h'
  | .ret e => fun D ρ h => wpE C e ρ h D.rt fun x h' => D.ex x ρ h'
  | .retN => fun D _ h => D.rt .non h
  | .ite t a b => fun D ρ h => wpT C t ρ h (fun k h1 => if k = true then wpSs a D ρ h1 else wpSs b D ρ h1) fun x h' => D.ex x ρ h'
  | .for tg it b => fun D ρ h => wpI C it ρ h (fun items keep h1 => forW tg (wpSs b) keep D items ρ h1) fun x h' => D.ex x ρ h'
  | .whl t b => fun D ρ h => ∃ n, whlW (fun ρ h K => wpT C t ρ h K fun x h' => D.ex x ρ h') (wpSs b) D n ρ h
  | .pass => fun D ρ h => D.nx ρ h
  | .never => fun _ _ _ => False
  | .kill i => fun D ρ h => optW ((lk ρ i).bind refOf) fun a => D.nx ρ (er h a)
  | .fzv i => fun D ρ h => optW ((lk ρ i).bind refOf) fun a => optW (cellO h a) fun c => D.nx (ρ.set i (some (lockC c))) (er h a)
def wpSs : Sms → WS
  | .nil => fun D ρ h => D.nx ρ h
  | .cons s r => fun D ρ h => wpS s { D with nx := fun ρ' h' => wpSs r D ρ' h' } ρ h
end
end

/-- a def: how many parameters, how many names, its body -/
structure Df where
  ps : Nat
  ns : Nat
  body : Sms
abbrev Fs := Nat → Option Df
/-- a call, n deep -/
def CN (F : Fs) : Nat → CT
  | 0 => fun _ _ _ _ _ => False
  | n + 1 => fun f vs h Q E => optW (F f) fun d =>
    vs.length = d.ps ∧ wpSs (CN F n) d.body { nx := fun _ h' => Q .non h', rt := Q, ex := fun x _ h' => E x h' } (vs.map some ++ List.replicate (d.ns - d.ps) none) h
end L3

set_option Elab.async false
set_option linter.all false
set_option maxRecDepth 100000
/-! L3, part 3: monotony. -/
namespace L3
open PySem PySem.Spec PyProof.Rows L2

theorem alcD_mono {fz : Bool} {xs : KVs} {h : Hq} {Q Q' : QV} (k : ∀ v h, Q v h → Q' v h) (x : alcD fz xs h Q) : alcD fz xs h Q' := by
  unfold alcD at *
  split
  · rename_i e; rw [if_pos e] at x; exact k _ _ x
  · rename_i e; rw [if_neg e] at x; exact fun p n => k _ _ (x p n)
theorem alc_mono {fz : Bool} {xs : List Val} {h : Hq} {Q Q' : QV} (k : ∀ v h, Q v h → Q' v h) (x : alc fz xs h Q) : alc fz xs h Q' := by
  unfold alc at *
  split
  · rename_i e; rw [if_pos e] at x; exact k _ _ x
  · rename_i e; rw [if_neg e] at x; exact fun p n => k _ _ (x p n)
theorem prW_mono {p : Pr} {Q Q' : QV} (k : ∀ v h, Q v h → Q' v h) (w : prW p Q) : prW p Q' :=
  optW_mono (fun ⟨c, o⟩ q => ⟨q.1, by
    cases o with
    | v x h => exact k _ _ q.2
    | al fz xs h => exact alc_mono k q.2
    | ad fz xs h => exact alcD_mono k q.2⟩) w
theorem truW_mono {x : Val} {h : Hq} {Q Q' : Bool → Prop} (k : ∀ b, Q b → Q' b) (w : truW x h Q) : truW x h Q' := optW_mono k w
theorem frzW_mono {x : Val} {h : Hq} {Q Q' : QV} (k : ∀ v h, Q v h → Q' v h) (w : frzW x h Q) : frzW x h Q' := optW_mono (fun _ q => k _ _ q) w
theorem frzAll_mono : ∀ {vs : List Val} {h : Hq} {Q Q' : List Val → Hq → Prop}, (∀ v h, Q v h → Q' v h) → frzAll vs h Q → frzAll vs h Q'
  | [], _, _, _, k, w => k _ _ w
  | v :: vs, _, _, _, k, w => frzW_mono (fun _ _ w => frzAll_mono (fun _ _ w => k _ _ w) w) w
theorem frzDW_mono {x : Val} {h : Hq} {Q Q' : QV} (k : ∀ v h, Q v h → Q' v h) (w : frzDW x h Q) : frzDW x h Q' := optW_mono (fun _ q => frzAll_mono (fun _ _ w => k _ _ w) q) w
theorem setW_mono {o i v : Val} {h : Hq} {Q Q' : Hq → Prop} (k : ∀ h, Q h → Q' h) (w : setW o i v h Q) : setW o i v h Q' := by
  unfold setW at *
  split
  · rename_i q e
    rw [e] at w
    exact optW_mono (fun _ q => ⟨q.1, k _ q.2⟩) w
  · rename_i e
    rw [e] at w
    exact optW_mono (fun _ q => optW_mono (fun _ q => optW_mono (fun _ q => k _ q) q) q) w

/-- wider wishes for tests, elements, bodies -/
theorem compW_mono {tg : Tg} {tst tst' : Env3 → Hq → (Bool → Hq → Prop) → Prop} {el el' : Env3 → Hq → QV → Prop} {keep : Hq → Prop} {p : Addr} {fin fin' : Hq → Prop} {ρw : Env3}
    (kt : ∀ ρ h Q Q', (∀ b h, Q b h → Q' b h) → tst ρ h Q → tst' ρ h Q') (ke : ∀ ρ h Q Q', (∀ b h, Q b h → Q' b h) → el ρ h Q → el' ρ h Q') (kf : ∀ h, fin h → fin' h) :
    ∀ (xs : List Val) (h : Hq), compW tg tst el keep p fin ρw xs h → compW tg tst' el' keep p fin' ρw xs h
  | [], h, w => ⟨w.1, kf _ w.2⟩
  | x :: xs, h, w => ⟨w.1, optW_mono (fun ρ1 q => kt _ _ _ _ (fun b h1 q => by
      cases b with
      | true => exact ke _ _ _ _ (fun v h2 q => optW_mono (fun acc q => ⟨q.1, compW_mono kt ke kf xs _ q.2⟩) q) q
      | false => exact compW_mono kt ke kf xs _ q) q) w.2⟩
theorem compFin_mono {fz : Bool} {p : Addr} {Q Q' : QV} (k : ∀ v h, Q v h → Q' v h) (h : Hq) (w : compFin fz p Q h) : compFin fz p Q' h := by
  cases fz with
  | true => exact optW_mono (fun _ q => k _ _ q) w
  | false => exact k _ _ w
def Dn.le (D D' : Dn) : Prop := (∀ ρ h, D.nx ρ h → D'.nx ρ h) ∧ (∀ v h, D.rt v h → D'.rt v h) ∧ ∀ x ρ h, D.ex x ρ h → D'.ex x ρ h
def MonoS (w w' : WS) : Prop := ∀ D D' ρ h, Dn.le D D' → w D ρ h → w' D' ρ h
theorem MonoS.go {b b' : WS} (kb : MonoS b b') {D D' : Dn} {ρ : Env3} {h : Hq} (w : b D ρ h) (k : Dn.le D D') : b' D' ρ h := kb D D' ρ h k w
theorem forW_mono {tg : Tg} {b b' : WS} {keep : Hq → Prop} {D D' : Dn} (kb : MonoS b b') (kd : Dn.le D D') : ∀ (xs : List Val) (ρ : Env3) (h : Hq), forW tg b keep D xs ρ h → forW tg b' keep D' xs ρ h
  | [], ρ, h, w => ⟨w.1, kd.1 _ _ w.2⟩
  | x :: xs, ρ, h, w => by
    refine ⟨w.1, optW_mono ?_ w.2⟩
    intro ρ1 q
    exact kb.go q ⟨fun ρ' h' q => forW_mono kb kd xs ρ' h' q, kd.2.1, kd.2.2⟩
theorem whlW_mono {tst tst' : Env3 → Hq → (Bool → Hq → Prop) → Prop} {b b' : WS} {D D' : Dn} (kt : ∀ ρ h Q Q', (∀ b h, Q b h → Q' b h) → tst ρ h Q → tst' ρ h Q') (kb : MonoS b b') (kd : Dn.le D D') :
    ∀ (n : Nat) (ρ : Env3) (h : Hq), whlW tst b D n ρ h → whlW tst' b' D' n ρ h
  | 0, _, _, w => w
  | n + 1, ρ, h, w => kt _ _ _ _ (fun b h1 q => by
    cases b with
    | true => exact kb.go q ⟨fun ρ' h' q => whlW_mono kt kb kd n ρ' h' q, kd.2.1, kd.2.2⟩
    | false => exact kd.1 _ _ q) w

/-- C' gives what C gives -/
def MonoC (C C' : CT) : Prop := ∀ f vs h Q Q' E E', (∀ v h, Q v h → Q' v h) → (∀ x h, E x h → E' x h) → C f vs h Q E → C' f vs h Q' E'
section
variable {C C' : CT} (kc : MonoC C C')
include kc
mutual
theorem wpE_mono : ∀ (e : Ex) (ρ : Env3) (h : Hq) (Q Q' : QV) (E E' : QE), (∀ v h, Q v h → Q' v h) → (∀ x h, E x h → E' x h) → wpE C e ρ h Q E → wpE C' e ρ h Q' E'
  | .var _, _, _, _, _, _, _, k, _, w => optW_mono (fun _ q => k _ _ q) w
  | .int _, _, _, _, _, _, _, k, _, w => k _ _ w
  | .bl _, _, _, _, _, _, _, k, _, w => k _ _ w
  | .non, _, _, _, _, _, _, k, _, w => k _ _ w
  | .str _, _, _, _, _, _, _, k, _, w => k _ _ w
  | .con _ _, _, _, _, _, _, _, k, _, w => k _ _ w
  | .nop, _, _, _, _, _, _, k, _, w => k _ _ w
  | .bin _ _ a b, _, _, _, _, _, _, k, ke, w => wpE_mono a _ _ _ _ _ _ (fun _ _ w => wpE_mono b _ _ _ _ _ _ (fun _ _ w => prW_mono k w) ke w) ke w
  | .neg a, _, _, _, _, _, _, k, ke, w => wpE_mono a _ _ _ _ _ _ (fun _ _ w => optW_mono (fun _ q => k _ _ q) w) ke w
  | .not a, _, _, _, _, _, _, k, ke, w => wpE_mono a _ _ _ _ _ _ (fun _ _ w => truW_mono (fun _ w => k _ _ w) w) ke w
  | .cmp _ a b, _, _, _, _, _, _, k, ke, w => wpE_mono a _ _ _ _ _ _ (fun _ _ w => wpE_mono b _ _ _ _ _ _ (fun _ _ w => prW_mono k w) ke w) ke w
  | .chain _ _ a b c, _, _, _, _, _, _, k, ke, w => wpE_mono a _ _ _ _ _ _ (fun _ _ w => wpE_mono b _ _ _ _ _ _ (fun _ _ w => prW_mono (fun _ _ w => optW_mono (fun t w => by
      cases t with
      | true => exact wpE_mono c _ _ _ _ _ _ (fun _ _ w => prW_mono k w) ke w
      | false => exact k _ _ w) w) w) ke w) ke w
  | .bop i es, _, _, _, _, _, _, k, ke, w => wpB_mono i es _ _ _ _ _ _ k ke w
  | .ite t a b, _, _, _, _, _, _, k, ke, w => wpT_mono t _ _ _ _ _ _ (fun c _ w => by
      cases c with
      | true => exact wpE_mono a _ _ _ _ _ _ k ke w
      | false => exact wpE_mono b _ _ _ _ _ _ k ke w) ke w
  | .tup es, _, _, _, _, _, _, k, ke, w => wpA_mono es _ _ _ _ _ _ (fun _ _ w => ⟨w.1, k _ _ w.2⟩) ke w
  | .lst _ es, _, _, _, _, _, _, k, ke, w => wpA_mono es _ _ _ _ _ _ (fun _ _ w => ⟨w.1, alc_mono k w.2⟩) ke w
  | .idx a b, _, _, _, _, _, _, k, ke, w => wpE_mono a _ _ _ _ _ _ (fun _ _ w => wpE_mono b _ _ _ _ _ _ (fun _ _ w => prW_mono k w) ke w) ke w
  | .slc _ a lo hi, _, _, _, _, _, _, k, ke, w => wpE_mono a _ _ _ _ _ _ (fun _ _ w => wpE_mono lo _ _ _ _ _ _ (fun _ _ w => optW_mono (fun _ w => wpE_mono hi _ _ _ _ _ _ (fun _ _ w => optW_mono (fun _ w => prW_mono k w) w) ke w) w) ke w) ke w
  | .call _ es, _, _, _, _, _, _, k, ke, w => wpA_mono es _ _ _ _ _ _ (fun _ _ w => kc _ _ _ _ _ _ _ k ke w) ke w
  | .blt _ _ es, _, _, _, _, _, _, k, ke, w => wpA_mono es _ _ _ _ _ _ (fun _ _ w => prW_mono k w) ke w
  | .mth _ o es, _, _, _, _, _, _, k, ke, w => wpE_mono o _ _ _ _ _ _ (fun _ _ w => optW_mono (fun _ w => wpA_mono es _ _ _ _ _ _ (fun _ _ w => prW_mono k w) ke w) w) ke w
  | .comp _ elt _ it cond _, _, _, _, _, _, _, k, ke, w => wpI_mono it _ _ _ _ _ _ (fun _ _ _ w p n => compW_mono (fun ρ h Q Q' k w => wpT_mono cond ρ h Q Q' _ _ k (fun _ _ z => z) w) (fun ρ h Q Q' k w => wpE_mono elt ρ h Q Q' _ _ k (fun _ _ z => z) w) (fun h w => compFin_mono k h w) _ _ (w p n)) ke w
  | .dic0 _, _, _, _, _, _, _, k, _, w => alcD_mono k w
  | .dic1 fz a b, _, _, _, _, _, _, k, ke, w => fun p n => wpE_mono a _ _ _ _ _ _ (fun _ _ w => wpE_mono b _ _ _ _ _ _ (fun _ _ w => optW_mono (fun _ w => ⟨w.1, by
      have w2 := w.2
      split
      · rename_i e; rw [if_pos e] at w2; exact k _ _ w2
      · rename_i e; rw [if_neg e] at w2; exact k _ _ w2⟩) w) ke w) ke (w p n)
  | .dic2 fz a b c d, _, _, _, _, _, _, k, ke, w => fun p n => wpE_mono a _ _ _ _ _ _ (fun _ _ w => wpE_mono b _ _ _ _ _ _ (fun _ _ w => wpE_mono c _ _ _ _ _ _ (fun _ _ w => wpE_mono d _ _ _ _ _ _ (fun _ _ w => optW_mono (fun _ w => optW_mono (fun _ w => ⟨w.1, by
      have w2 := w.2
      split
      · rename_i e; rw [if_pos e] at w2; exact k _ _ w2
      · rename_i e; rw [if_neg e] at w2; exact k _ _ w2⟩) w) w) ke w) ke w) ke w) ke (w p n)
  | .op1 _ _ a, _, _, _, _, _, _, k, ke, w => wpE_mono a _ _ _ _ _ _ (fun _ _ w => prW_mono k w) ke w
  | .op2 _ _ a b, _, _, _, _, _, _, k, ke, w => wpE_mono a _ _ _ _ _ _ (fun _ _ w => wpE_mono b _ _ _ _ _ _ (fun _ _ w => prW_mono k w) ke w) ke w
  | .frz a, _, _, _, _, _, _, k, ke, w => wpE_mono a _ _ _ _ _ _ (fun _ _ w => frzW_mono k w) ke w
  | .frzD a, _, _, _, _, _, _, k, ke, w => wpE_mono a _ _ _ _ _ _ (fun _ _ w => frzDW_mono k w) ke w
theorem wpA_mono : ∀ (es : Exs) (ρ : Env3) (h : Hq) (Q Q' : List Val → Hq → Prop) (E E' : QE), (∀ v h, Q v h → Q' v h) → (∀ x h, E x h → E' x h) → wpA C es ρ h Q E → wpA C' es ρ h Q' E'
  | .nil, _, _, _, _, _, _, k, _, w => k _ _ w
  | .cons e es, _, _, _, _, _, _, k, ke, w => wpE_mono e _ _ _ _ _ _ (fun _ _ w => wpA_mono es _ _ _ _ _ _ (fun _ _ w => k _ _ w) ke w) ke w
theorem wpB_mono : ∀ (i : Bool) (es : Exs) (ρ : Env3) (h : Hq) (Q Q' : QV) (E E' : QE), (∀ v h, Q v h → Q' v h) → (∀ x h, E x h → E' x h) → wpB C i es ρ h Q E → wpB C' i es ρ h Q' E'
  | _, .nil, _, _, _, _, _, _, _, _, w => w
  | _, .cons e .nil, _, _, _, _, _, _, k, ke, w => wpE_mono e _ _ _ _ _ _ k ke w
  | i, .cons e (.cons e2 es2), _, _, _, _, _, _, k, ke, w => wpE_mono e _ _ _ _ _ _ (fun _ _ w => optW_mono (fun t w => by
      split
      · rename_i q; rw [if_pos q] at w; exact wpB_mono i (.cons e2 es2) _ _ _ _ _ _ k ke w
      · rename_i q; rw [if_neg q] at w; exact k _ _ w) w) ke w
theorem wpT_mono : ∀ (e : Ex) (ρ : Env3) (h : Hq) (Q Q' : Bool → Hq → Prop) (E E' : QE), (∀ v h, Q v h → Q' v h) → (∀ x h, E x h → E' x h) → wpT C e ρ h Q E → wpT C' e ρ h Q' E'
  | .not a, _, _, _, _, _, _, k, ke, w => wpT_mono a _ _ _ _ _ _ (fun _ _ w => k _ _ w) ke w
  | .bop i es, _, _, _, _, _, _, k, ke, w => wpTs_mono i es _ _ _ _ _ _ k ke w
  | .nop, _, _, _, _, _, _, k, _, w => k _ _ w
  | .bl _, _, _, _, _, _, _, k, _, w => k _ _ w
  | .var _, _, _, _, _, _, _, k, ke, w => optW_mono (fun _ w => truW_mono (fun _ w => k _ _ w) w) w
  | .cmp _ a b, _, _, _, _, _, _, k, ke, w => wpE_mono a _ _ _ _ _ _ (fun _ _ w => wpE_mono b _ _ _ _ _ _ (fun _ _ w => prW_mono (fun _ _ w => optW_mono (fun _ w => k _ _ w) w) w) ke w) ke w
  | .chain _ _ a b c, _, _, _, _, _, _, k, ke, w => wpE_mono a _ _ _ _ _ _ (fun _ _ w => wpE_mono b _ _ _ _ _ _ (fun _ _ w => prW_mono (fun _ _ w => optW_mono (fun t w => by
      cases t with
      | true => exact wpE_mono c _ _ _ _ _ _ (fun _ _ w => prW_mono (fun _ _ w => optW_mono (fun _ w => k _ _ w) w) w) ke w
      | false => exact k _ _ w) w) w) ke w) ke w
  | .call _ es, _, _, _, _, _, _, k, ke, w => wpA_mono es _ _ _ _ _ _ (fun _ _ w => kc _ _ _ _ _ _ _ (fun _ _ w => truW_mono (fun _ w => k _ _ w) w) ke w) ke w
  | .blt _ _ es, _, _, _, _, _, _, k, ke, w => wpA_mono es _ _ _ _ _ _ (fun _ _ w => prW_mono (fun _ _ w => truW_mono (fun _ w => k _ _ w) w) w) ke w
  | .ite _ _ _, _, _, _, _, _, _, _, _, w => w
  | .int _, _, _, _, _, _, _, _, _, w => w
  | .non, _, _, _, _, _, _, _, _, w => w
  | .str _, _, _, _, _, _, _, _, _, w => w
  | .con _ _, _, _, _, _, _, _, _, _, w => w
  | .bin _ _ _ _, _, _, _, _, _, _, _, _, w => w
  | .neg _, _, _, _, _, _, _, _, _, w => w
  | .tup _, _, _, _, _, _, _, _, _, w => w
  | .lst _ _, _, _, _, _, _, _, _, _, w => w
  | .idx _ _, _, _, _, _, _, _, _, _, w => w
  | .slc _ _ _ _, _, _, _, _, _, _, _, _, w => w
  | .mth _ _ _, _, _, _, _, _, _, _, _, w => w
  | .comp _ _ _ _ _ _, _, _, _, _, _, _, _, _, w => w
  | .dic0 _, _, _, _, _, _, _, _, _, w => w
  | .op1 _ _ _, _, _, _, _, _, _, _, _, w => w
  | .op2 _ _ _ _, _, _, _, _, _, _, _, _, w => w
  | .dic1 _ _ _, _, _, _, _, _, _, _, _, w => w
  | .dic2 _ _ _ _ _, _, _, _, _, _, _, _, _, w => w
  | .frz _, _, _, _, _, _, _, _, _, w => w
  | .frzD _, _, _, _, _, _, _, _, _, w => w
theorem wpTs_mono : ∀ (i : Bool) (es : Exs) (ρ : Env3) (h : Hq) (Q Q' : Bool → Hq → Prop) (E E' : QE), (∀ v h, Q v h → Q' v h) → (∀ x h, E x h → E' x h) → wpTs C i es ρ h Q E → wpTs C' i es ρ h Q' E'
  | _, .nil, _, _, _, _, _, _, _, _, w => w
  | _, .cons e .nil, _, _, _, _, _, _, k, ke, w => wpT_mono e _ _ _ _ _ _ k ke w
  | i, .cons e (.cons e2 es2), _, _, _, _, _, _, k, ke, w => wpT_mono e _ _ _ _ _ _ (fun _ _ w => by
      split
      · rename_i q; rw [if_pos q] at w; exact wpTs_mono i (.cons e2 es2) _ _ _ _ _ _ k ke w
      · rename_i q; rw [if_neg q] at w; exact k _ _ w) ke w
theorem wpI_mono : ∀ (it : Itx) (ρ : Env3) (h : Hq) (Q Q' : List Val → (Hq → Prop) → Hq → Prop) (E E' : QE), (∀ v k h, Q v k h → Q' v k h) → (∀ x h, E x h → E' x h) → wpI C it ρ h Q E → wpI C' it ρ h Q' E'
  | .seq e, _, _, _, _, _, _, k, ke, w => wpE_mono e _ _ _ _ _ _ (fun _ _ w => optW_mono (fun _ w => k _ _ _ w) w) ke w
  | .keys e, _, _, _, _, _, _, k, ke, w => wpE_mono e _ _ _ _ _ _ (fun _ _ w => optW_mono (fun _ w => k _ _ _ w) w) ke w
  | .range1 e, _, _, _, _, _, _, k, ke, w => wpE_mono e _ _ _ _ _ _ (fun _ _ w => optW_mono (fun _ w => ⟨w.1, k _ _ _ w.2⟩) w) ke w
  | .range2 a b, _, _, _, _, _, _, k, ke, w => wpE_mono a _ _ _ _ _ _ (fun _ _ w => wpE_mono b _ _ _ _ _ _ (fun _ _ w => optW_mono (fun _ w => optW_mono (fun _ w => ⟨w.1, k _ _ _ w.2⟩) w) w) ke w) ke w
  | .range3 a b c, _, _, _, _, _, _, k, ke, w => wpE_mono a _ _ _ _ _ _ (fun _ _ w => wpE_mono b _ _ _ _ _ _ (fun _ _ w => wpE_mono c _ _ _ _ _ _ (fun _ _ w => optW_mono (fun _ w => optW_mono (fun _ w => optW_mono (fun _ w => ⟨w.1, k _ _ _ w.2⟩) w) w) w) ke w) ke w) ke w
  | .enum e, _, _, _, _, _, _, k, ke, w => wpE_mono e _ _ _ _ _ _ (fun _ _ w => optW_mono (fun _ w => k _ _ _ w) w) ke w
  | .zip a b, _, _, _, _, _, _, k, ke, w => wpE_mono a _ _ _ _ _ _ (fun _ _ w => wpE_mono b _ _ _ _ _ _ (fun _ _ w => optW_mono (fun _ w => optW_mono (fun _ w => k _ _ _ w) w) w) ke w) ke w
  | .rev e, _, _, _, _, _, _, k, ke, w => wpE_mono e _ _ _ _ _ _ (fun _ _ w => optW_mono (fun _ w => k _ _ _ w) w) ke w
end
mutual
theorem wpS_mono : ∀ (s : Sm), MonoS (wpS C s) (wpS C' s)
  | .asg _ e, _, _, _, _, k, w => wpE_mono kc e _ _ _ _ _ _ (fun _ _ w => optW_mono (fun _ w => k.1 _ _ w) w) (fun _ _ w => k.2.2 _ _ _ w) w
  | .asgI o i e, _, _, _, _, k, w => wpE_mono kc e _ _ _ _ _ _ (fun _ _ w => wpE_mono kc o _ _ _ _ _ _ (fun _ _ w => wpE_mono kc i _ _ _ _ _ _ (fun _ _ w => setW_mono (fun _ w => k.1 _ _ w) w) (fun _ _ w => k.2.2 _ _ _ w) w) (fun _ _ w => k.2.2 _ _ _ w) w) (fun _ _ w => k.2.2 _ _ _ w) w
  | .ex e, _, _, _, _, k, w => wpE_mono kc e _ _ _ _ _ _ (fun v _ w => k.1 _ _ w) (fun _ _ w => k.2.2 _ _ _ w) w
  | .ret e, _, _, _, _, k, w => wpE_mono kc e _ _ _ _ _ _ (fun v _ w => k.2.1 _ _ w) (fun _ _ w => k.2.2 _ _ _ w) w
  | .retN, _, _, _, _, k, w => k.2.1 _ _ w
  | .ite t a b, _, _, _, _, k, w => wpT_mono kc t _ _ _ _ _ _ (fun c _ w => by
      cases c with
      | true => exact wpSs_mono a _ _ _ _ k w
      | false => exact wpSs_mono b _ _ _ _ k w) (fun _ _ w => k.2.2 _ _ _ w) w
  | .for _ it b, _, _, _, _, k, w => wpI_mono kc it _ _ _ _ _ _ (fun _ _ _ w => forW_mono (wpSs_mono b) k _ _ _ w) (fun _ _ w => k.2.2 _ _ _ w) w
  | .whl t b, _, _, _, _, k, ⟨n, w⟩ => ⟨n, whlW_mono (fun _ _ _ _ kq w => wpT_mono kc t _ _ _ _ _ _ kq (fun _ _ w => k.2.2 _ _ _ w) w) (wpSs_mono b) k n _ _ w⟩
  | .pass, _, _, _, _, k, w => k.1 _ _ w
  | .never, _, _, _, _, _, w => w
  | .kill _, _, _, _, _, k, w => optW_mono (fun _ w => k.1 _ _ w) w
  | .fzv _, _, _, _, _, k, w => optW_mono (fun _ w => optW_mono (fun _ w => k.1 _ _ w) w) w
theorem wpSs_mono : ∀ (s : Sms), MonoS (wpSs C s) (wpSs C' s)
  | .nil, _, _, _, _, k, w => k.1 _ _ w
  | .cons s r, _, _, _, _, k, w => (wpS_mono s).go w ⟨fun _ _ w => (wpSs_mono r).go w k, k.2.1, k.2.2⟩
end
end
theorem CN_mono (F : Fs) : ∀ n, MonoC (CN F n) (CN F n)
  | 0 => fun _ _ _ _ _ _ _ _ _ w => w
  | n + 1 => fun f vs h Q Q' E E' k ke w => optW_mono (fun d w => ⟨w.1, (wpSs_mono (CN_mono F n) d.body).go w.2 ⟨fun _ _ w => k _ _ w, k, fun _ _ _ w => ke _ _ w⟩⟩) w
theorem CN_up (F : Fs) : ∀ n, MonoC (CN F n) (CN F (n + 1))
  | 0 => fun _ _ _ _ _ _ _ _ _ w => w.elim
  | n + 1 => fun f vs h Q Q' E E' k ke w => optW_mono (fun d w => ⟨w.1, (wpSs_mono (CN_up F n) d.body).go w.2 ⟨fun _ _ w => k _ _ w, k, fun _ _ _ w => ke _ _ w⟩⟩) w
end L3

set_option Elab.async false
set_option linter.all false
set_option maxRecDepth 100000
/-! L3, part 4: the operations keep what they say. -/
namespace L3
open PySem PySem.Spec PyProof.Rows L2

variable [Mo]
/-! ### wishes -/
def KQ (h : Hq) (H : Hp) (Q : VK) : QV := fun v h' => ∀ V H', RH h' H' → Stab h H h' H' → RV h' H' v V → Q V H'
theorem KQ.later {h h1 h' : Hq} {H H1 : Hp} {Q : VK} {v : Val} (st : Stab h H h1 H1) (k : KQ h H Q v h') : KQ h1 H1 Q v h' := fun V H' rh s r => k V H' rh (st.trans s) r
theorem KQ.here {h : Hq} {H : Hp} {Q : VK} {v : Val} {V : V} (k : KQ h H Q v h) (rh : RH h H) (r : RV h H v V) : Q V H := k V H rh .refl r

/-- a new list comes -/
theorem alc_out {h : Hq} {H : Hp} {fz : Bool} {xs : List Val} {vs : List V} {Q : VK} (rh : RH h H) (r : RVs h H xs vs) (w : alc fz xs h (KQ h H Q)) (p : Addr) (n : H p = none) : Q (.ref p) (upd H p (.lst vs)) := by
  cases fz with
  | true =>
    have k := Stab.alloc (h := h) (o := .lst vs) n
    exact (show KQ h H Q (.fl xs) h from w) _ _ (rh.alloc n) k ⟨p, vs, rfl, rh.free n, upd_same, RVs.keep k r⟩
  | false =>
    have k := Stab.cell (h := h) (o := .lst vs) (c := .lst xs) n
    exact (show ∀ p, h p = none → KQ h H Q (.ref p) (up h p (.lst xs)) from w) p (rh.free n) _ _ (rh.put k ⟨vs, upd_same, RVs.keep k r⟩) k rfl
theorem out_list {h : Hq} {H : Hp} {fz : Bool} {xs : List Val} {vs : List V} {Q : VK} (rh : RH h H) (r : RVs h H xs vs) (w : (Out.al fz xs h).w (KQ h H Q)) : ∀ p, H p = none → Q (.ref p) (upd H p (.lst vs)) := fun p n => alc_out rh r w p n
/-- a cell is written -/
theorem write_out {h : Hq} {H : Hp} {a : Addr} {c : Cell} {xs : List Val} {vs : List V} {v : Val} {V : V} {Q : VK} (rh : RH h H) (l : h a = some c) (r : RVs h H xs vs) (rv : RV h H v V) (w : KQ h H Q v (up h a (.lst xs))) : Q V (upd H a (.lst vs)) := by
  have k := Stab.write (H := H) (o := .lst vs) (d := .lst xs) l
  exact w _ _ (rh.put k ⟨vs, upd_same, RVs.keep k r⟩) k (RV.keep k rv)

section
variable {h : Hq} {H : Hp} {v : Val} {x0 : V} {xs : List Val} {K : PySem.W.Frag}
/-- a list that is read -/
theorem lv_read (rh : RH h H) (r : RV h H v x0) (e : lv h v = some xs) : ∃ a vs, x0 = .ref a ∧ H a = some (.lst vs) ∧ RVs h H xs vs := by
  cases v with
  | fl ys =>
    cases e
    obtain ⟨a, vs, e1, _, e2, q⟩ := r
    exact ⟨a, vs, e1, e2, q⟩
  | ref a =>
    have e' : (match h a with | some (.lst xs) => some xs | _ => none) = some xs := e
    split at e'
    · rename_i ys e1
      cases e'
      obtain ⟨vs, e2, q⟩ := rh a _ e1
      exact ⟨a, vs, r, e2, q⟩
    · cases e'
  | _ => cases e
theorem RVs.of_ints {ns : List Int} : RVs h H (ns.map Val.int) (ns.map V.int) := by
  induction ns with
  | nil => exact rfl
  | cons n ns ih => exact .cons (show RV h H (.int n) (.int n) from rfl) ih
theorem ls_read (kk : K = Mo.K) (rh : RH h H) (r : RV h H v x0) (e : ls h v = some xs) : ∃ a vs, x0 = .ref a ∧ SqL K H a vs ∧ RVs h H xs vs := by
  cases v with
  | sc ns =>
    cases e
    obtain ⟨a, e1, q⟩ := r
    rcases q with ⟨_, o, e2⟩ | q
    · exact ⟨a, _, e1, .inl (.inr ⟨o, e2⟩), RVs.of_ints⟩
    · exact ⟨a, _, e1, kk ▸ q H, RVs.of_ints⟩
  | ref b =>
    obtain ⟨a, vs, e1, e2, q⟩ := lv_read rh r (show lv h (.ref b) = some xs from e)
    exact ⟨a, vs, e1, SqL.of e2, q⟩
  | fl b =>
    obtain ⟨a, vs, e1, e2, q⟩ := lv_read rh r (show lv h (.fl b) = some xs from e)
    exact ⟨a, vs, e1, SqL.of e2, q⟩
  | _ => cases e
theorem sq_read (kk : K = Mo.K) (rh : RH h H) (r : RV h H v x0) (e : sq h v = some xs) : ∃ a vs, x0 = .ref a ∧ (SqL K H a vs ∨ SqT K H a vs) ∧ RVs h H xs vs := by
  cases v with
  | tup ys =>
    cases e
    obtain ⟨a, vs, e1, _, e2, q⟩ := r
    exact ⟨a, vs, e1, .inr (SqT.of e2), q⟩
  | sc b =>
    obtain ⟨a, vs, e1, e2, q⟩ := ls_read (K := K) kk rh r (show ls h (.sc b) = some xs from e)
    exact ⟨a, vs, e1, .inl e2, q⟩
  | ref b =>
    obtain ⟨a, vs, e1, e2, q⟩ := ls_read (K := K) kk rh r (show ls h (.ref b) = some xs from e)
    exact ⟨a, vs, e1, .inl e2, q⟩
  | fl b =>
    obtain ⟨a, vs, e1, e2, q⟩ := ls_read (K := K) kk rh r (show ls h (.fl b) = some xs from e)
    exact ⟨a, vs, e1, .inl e2, q⟩
  | _ => cases e
theorem lstAt_read {q : Addr × List Val} (rh : RH h H) (r : RV h H v x0) (e : lstAt h v = some q) : x0 = .ref q.1 ∧ h q.1 = some (.lst q.2) ∧ ∃ vs, H q.1 = some (.lst vs) ∧ RVs h H q.2 vs := by
  cases v with
  | ref a =>
    unfold lstAt at e
    dsimp only at e
    split at e
    · rename_i ys e1
      cases e
      obtain ⟨vs, e2, q⟩ := rh a _ e1
      exact ⟨r, e1, vs, e2, q⟩
    · cases e
  | _ => cases e
theorem RVs.ints' : ∀ {xs : List Val} {vs : List V} {ns : List Int}, RVs h H xs vs → mapO intOf xs = some ns → vs = ns.map V.int
  | [], _, _, r, e => by cases e; exact r
  | x :: xs, _, ns, ⟨y, t, q, r1, r2⟩, e => by
    subst q
    unfold mapO at e
    split at e
    · rename_i i is e1 e2
      cases e
      cases x with
      | int k => cases e1; rw [show y = V.int _ from r1, RVs.ints' r2 e2]; rfl
      | _ => cases e1
    · cases e
theorem RVs.bls' : ∀ {xs : List Val} {vs : List V} {ns : List Bool}, RVs h H xs vs → mapO blOf xs = some ns → vs = ns.map V.bl
  | [], _, _, r, e => by cases e; exact r
  | x :: xs, _, ns, ⟨y, t, q, r1, r2⟩, e => by
    subst q
    unfold mapO at e
    split at e
    · rename_i i is e1 e2
      cases e
      cases x with
      | bl k => cases e1; rw [show y = V.bl _ from r1, RVs.bls' r2 e2]; rfl
      | _ => cases e1
    · cases e
theorem flt_is (f : flt v = true) (r : RV h H v x0) : x0 = flV v ∧ flatV (flV v) = true := by
  cases v <;> first | (cases f; done) | exact ⟨r, rfl⟩
theorem flt_all : ∀ {xs : List Val} {vs : List V}, xs.all flt = true → RVs h H xs vs → vs = xs.map flV ∧ vs.all flatV = true
  | [], _, _, r => by cases r; exact ⟨rfl, rfl⟩
  | x :: xs, _, f, ⟨y, t, q, r1, r2⟩ => by
    subst q
    rw [List.all_cons, Bool.and_eq_true] at f
    obtain ⟨e1, e2⟩ := flt_is f.1 r1
    obtain ⟨e3, e4⟩ := flt_all f.2 r2
    subst e1
    exact ⟨by rw [List.map_cons, ← e3], by rw [List.all_cons, e2, e4]; rfl⟩
theorem isN_is (r : RV h H v x0) : decide (x0 = .non) = isN v := by
  cases v with
  | non => rw [show x0 = .non from r]; rfl
  | bl b => rw [show x0 = .bl b from r]; rfl
  | int b => rw [show x0 = .int b from r]; rfl
  | str b => rw [show x0 = .str b from r]; rfl
  | tup b => obtain ⟨a, _, e, _⟩ := r; rw [e]; rfl
  | fl b => obtain ⟨a, _, e, _⟩ := r; rw [e]; rfl
  | sc b => obtain ⟨a, e, _⟩ := r; rw [e]; rfl
  | ref b => rw [show x0 = .ref b from r]; rfl
  | fd ks ws => obtain ⟨a, _, e, _⟩ := r; rw [e]; rfl
  | wd ks ws => obtain ⟨a, _, e, _⟩ := r; rw [e]; rfl
end

/-! ### data -/
section
variable {h : Hq} {H : Hp} {K : PySem.W.Frag}
theorem dp_ints : ∀ ns : List Int, DpAll K H (ns.map V.int) (ns.map PyData.int)
  | [] => .nil
  | n :: ns => .cons (.int n) (dp_ints ns)
mutual
theorem pd_dp (kk : K = Mo.K) : ∀ (v : Val) (d : PyData) (V : V), pd v = some d → RV h H v V → Dp K H V d
  | .non, _, _, e, r => by cases e; cases r; exact .non
  | .bl b, _, _, e, r => by cases e; cases r; exact .bl b
  | .int b, _, _, e, r => by cases e; cases r; exact .int b
  | .str b, _, _, e, r => by cases e; cases r; exact .str b
  | .tup xs, _, _, e, r => by
    obtain ⟨a, vs, e1, _, e2, q⟩ := r
    unfold pd at e
    cases e3 : pds xs with
    | none => rw [e3] at e; cases e
    | some ds =>
      rw [e3] at e; cases e; subst e1
      exact .tup (SqT.of e2) (pds_dp kk xs ds vs e3 q)
  | .fl xs, _, _, e, r => by
    obtain ⟨a, vs, e1, _, e2, q⟩ := r
    unfold pd at e
    cases e3 : pds xs with
    | none => rw [e3] at e; cases e
    | some ds =>
      rw [e3] at e; cases e; subst e1
      exact .lst (SqL.of e2) (pds_dp kk xs ds vs e3 q)
  | .sc ns, _, _, e, r => by
    obtain ⟨a, e1, q⟩ := r
    cases e; subst e1
    rcases q with ⟨_, o, e2⟩ | q
    · exact .lst (.inl (.inr ⟨o, e2⟩)) (dp_ints ns)
    · exact .lst (kk ▸ q H) (dp_ints ns)
  | .ref a, _, _, e, r => by cases e
theorem pds_dp (kk : K = Mo.K) : ∀ (xs : List Val) (ds : List PyData) (vs : List V), pds xs = some ds → RVs h H xs vs → DpAll K H vs ds
  | [], _, _, e, r => by cases e; cases r; exact .nil
  | x :: xs, _, _, e, ⟨y, t, q, r1, r2⟩ => by
    subst q
    unfold pds at e
    split at e
    · rename_i d ds e1 e2
      cases e
      exact .cons (pd_dp kk x d y e1 r1) (pds_dp kk xs ds t e2 r2)
    · cases e
end
theorem mapO_dp {f : Val → Option PyData} (hf : ∀ v d V, f v = some d → RV h H v V → Dp K H V d) : ∀ (xs : List Val) (ds : List PyData) (vs : List V), mapO f xs = some ds → RVs h H xs vs → DpAll K H vs ds
  | [], _, _, e, r => by cases e; cases r; exact .nil
  | x :: xs, _, _, e, ⟨y, t, q, r1, r2⟩ => by
    subst q
    unfold mapO at e
    split at e
    · rename_i d ds e1 e2
      cases e
      exact .cons (hf x d y e1 r1) (mapO_dp hf xs ds t e2 r2)
    · cases e
theorem dt1_dp (kk : K = Mo.K) (rh : RH h H) (v : Val) (d : PyData) (V : V) (e : dt1 h v = some d) (r : RV h H v V) : Dp K H V d := by
  cases v with
  | ref a =>
    unfold dt1 at e
    dsimp only at e
    split at e
    · rename_i xs e1
      obtain ⟨vs, e2, q⟩ := rh a _ e1
      cases e3 : mapO pd xs with
      | none => rw [e3] at e; cases e
      | some ds =>
        rw [e3] at e; cases e
        cases (show V = .ref a from r)
        exact .lst (SqL.of e2) (mapO_dp (pd_dp kk) xs ds vs e3 q)
    · cases e
  | _ => exact pd_dp kk _ d V e r
theorem dt_dp (kk : K = Mo.K) (rh : RH h H) (v : Val) (d : PyData) (V : V) (e : dt h v = some d) (r : RV h H v V) : Dp K H V d := by
  cases v with
  | ref a =>
    unfold dt at e
    dsimp only at e
    split at e
    · rename_i xs e1
      obtain ⟨vs, e2, q⟩ := rh a _ e1
      cases e3 : mapO (dt1 h) xs with
      | none => rw [e3] at e; cases e
      | some ds =>
        rw [e3] at e; cases e
        cases (show V = .ref a from r)
        exact .lst (SqL.of e2) (mapO_dp (dt1_dp kk rh) xs ds vs e3 q)
    · cases e
  | _ => exact pd_dp kk _ d V e r
theorem dtN_dp (kk : K = Mo.K) (rh : RH h H) : ∀ (n : Nat) (v : Val) (d : PyData) (V : V), dtN n h v = some d → RV h H v V → Dp K H V d
  | 0, v, d, V, e, r => pd_dp kk v d V e r
  | n + 1, v, d, V, e, r => by
    unfold dtN at e
    split at e
    · rename_i d' e1
      cases e
      exact pd_dp kk v _ V e1 r
    · split at e
      · rename_i xs _
        obtain ⟨a, vs, e1, _, e2, q⟩ := r
        cases e3 : mapO (dtN n h) xs with
        | none => rw [e3] at e; cases e
        | some ds =>
          rw [e3] at e; cases e; subst e1
          exact .tup (SqT.of e2) (mapO_dp (dtN_dp kk rh n) xs ds vs e3 q)
      · rename_i xs _
        obtain ⟨a, vs, e1, _, e2, q⟩ := r
        cases e3 : mapO (dtN n h) xs with
        | none => rw [e3] at e; cases e
        | some ds =>
          rw [e3] at e; cases e; subst e1
          exact .lst (SqL.of e2) (mapO_dp (dtN_dp kk rh n) xs ds vs e3 q)
      · rename_i a _
        split at e
        · rename_i xs e1
          obtain ⟨vs, e2, q⟩ := rh a _ e1
          cases e3 : mapO (dtN n h) xs with
          | none => rw [e3] at e; cases e
          | some ds =>
            rw [e3] at e; cases e
            cases (show V = .ref a from r)
            exact .lst (SqL.of e2) (mapO_dp (dtN_dp kk rh n) xs ds vs e3 q)
        · cases e
      · cases e
end

/-! ### dicts -/
section
variable {h : Hq} {H : Hp}
theorem RKV.get {k : Key} : ∀ {kvs : KVs} {us : List (Key × V)}, RKV h H kvs us → (dg kvs k = none ∧ valV us k = none) ∨ ∃ v y, dg kvs k = some v ∧ valV us k = some y ∧ RV h H v y
  | [], us, r => by
    have : us = [] := List.map_eq_nil_iff.mp r.1
    subst this
    exact .inl ⟨rfl, rfl⟩
  | (j, v) :: kvs, us, r => by
    obtain ⟨y, t, rfl, r1, r2⟩ := r.un
    by_cases e : j = k
    · exact .inr ⟨v, y, by simp [dg, List.find?_cons, e], valV_pos e, r1⟩
    · rcases RKV.get (k := k) r2 with ⟨a, b⟩ | ⟨v', y', a, b, c⟩
      · exact .inl ⟨by simpa [dg, List.find?_cons, e] using a, by rw [valV_neg e]; exact b⟩
      · exact .inr ⟨v', y', by simpa [dg, List.find?_cons, e] using a, by rw [valV_neg e]; exact b, c⟩
theorem RKV.repl {k : Key} {v : Val} {y : V} (rv : RV h H v y) : ∀ {kvs : KVs} {us : List (Key × V)}, RKV h H kvs us → RKV h H (kvs.map fun kv => if kv.1 = k then (kv.1, v) else kv) (us.map fun kv => if kv.1 = k then (kv.1, y) else kv)
  | [], us, r => by
    have : us = [] := List.map_eq_nil_iff.mp r.1
    subst this
    exact .nil
  | (j, w) :: kvs, us, r => by
    obtain ⟨z, t, rfl, r1, r2⟩ := r.un
    have := RKV.repl (k := k) rv r2
    by_cases e : j = k
    · simp only [List.map_cons, if_pos e]; exact .cons rv this
    · simp only [List.map_cons, if_neg e]; exact .cons r1 this
theorem RKV.any {k : Key} {kvs : KVs} {us : List (Key × V)} (r : RKV h H kvs us) : (kvs.any fun kv => decide (kv.1 = k)) = us.any fun kv => decide (kv.1 = k) := by
  have e1 : (kvs.any fun kv => decide (kv.1 = k)) = (kvs.map (·.1)).any fun j => decide (j = k) := by rw [List.any_map]; rfl
  have e2 : (us.any fun kv => decide (kv.1 = k)) = (us.map (·.1)).any fun j => decide (j = k) := by rw [List.any_map]; rfl
  rw [e1, e2, r.1]
theorem RKV.put {k : Key} {v : Val} {y : V} {kvs : KVs} {us : List (Key × V)} (r : RKV h H kvs us) (rv : RV h H v y) : RKV h H (dp kvs k v) (putK us k y) := by
  unfold dp putK
  rw [r.any (k := k)]
  split
  · exact r.repl rv
  · exact r.app (.cons rv .nil)
theorem RKV.merge : ∀ {more kvs : KVs} {ms us : List (Key × V)}, RKV h H more ms → RKV h H kvs us → RKV h H (dmerge kvs more) (mergeK us ms)
  | [], _, ms, _, r, q => by
    have : ms = [] := List.map_eq_nil_iff.mp r.1
    subst this
    exact q
  | (j, w) :: more, _, ms, _, r, q => by
    obtain ⟨z, t, rfl, r1, r2⟩ := r.un
    have := RKV.merge r2 (RKV.put (k := j) q r1)
    exact this
theorem RKV.merge' {kvs more : KVs} {us ms : List (Key × V)} (q : RKV h H kvs us) (r : RKV h H more ms) : RKV h H (dmerge kvs more) (mergeK us ms) := RKV.merge r q
theorem key_read {v : Val} {x : V} {k : Key} (r : RV h H v x) (e : keyOf v = some k) : x = kV k := by
  cases v <;> first | (cases e; done) | (cases e; cases r; rfl)
theorem DGet.k' {H : Hp} {a : Addr} {kvs : List (Key × V)} {k : Key} (e : Rd H a (.dK kvs)) : DGet H a (kV k) (valV kvs k) := .inl ⟨kvs, k, e, rfl, rfl⟩
theorem dr_read {v : Val} {x : V} {kvs : KVs} (rh : RH h H) (r : RV h H v x) (e : dr h v = some kvs) : ∃ a us, x = .ref a ∧ Rd H a (.dK us) ∧ RKV h H kvs us := by
  cases v with
  | wd ks ws =>
    cases e
    obtain ⟨a, us, e1, _, e2, e3, e4⟩ := r
    refine ⟨a, us, e1, .inr e2, ?_⟩
    have l : ks.length = ws.length := by rw [← e3, List.length_map, e4.length, List.length_map]
    refine ⟨?_, ?_⟩
    · rw [List.map_fst_zip (by omega), e3]
    · rw [List.map_snd_zip (by omega)]; exact e4
  | fd ks ws =>
    cases e
    obtain ⟨a, us, e1, _, e2, e3, e4⟩ := r
    refine ⟨a, us, e1, .inl e2, ?_⟩
    have l : ks.length = ws.length := by rw [← e3, List.length_map, e4.length, List.length_map]
    refine ⟨?_, ?_⟩
    · rw [List.map_fst_zip (by omega), e3]
    · rw [List.map_snd_zip (by omega)]; exact e4
  | ref a =>
    have e' : (match h a with | some (.dic xs) => some xs | _ => none) = some kvs := e
    split at e'
    · rename_i ys e1
      cases e'
      obtain ⟨us, e2, q⟩ := rh a _ e1
      exact ⟨a, us, r, .inl e2, q⟩
    · cases e'
  | _ => cases e
theorem dicAt_read {v : Val} {x : V} {q : Addr × KVs} (rh : RH h H) (r : RV h H v x) (e : dicAt h v = some q) : x = .ref q.1 ∧ h q.1 = some (.dic q.2) ∧ ∃ us, H q.1 = some (.dK us) ∧ RKV h H q.2 us := by
  cases v with
  | ref a =>
    have e' : (match h a with | some (.dic xs) => some (a, xs) | _ => none) = some q := e
    split at e'
    · rename_i ys e1
      cases e'
      obtain ⟨us, e2, t⟩ := rh a _ e1
      exact ⟨r, e1, us, e2, t⟩
    · cases e'
  | _ => cases e
theorem fd_rv {a : Addr} {kvs : KVs} {us : List (Key × V)} (n : h a = none) (e : H a = some (.dK us)) (r : RKV h H kvs us) : RV h H (fdOf kvs) (.ref a) := ⟨a, us, rfl, n, e, r.1, r.2⟩
/-- a new dict comes -/
theorem alcD_out {fz : Bool} {kvs : KVs} {us : List (Key × V)} {Q : VK} (rh : RH h H) (r : RKV h H kvs us) (w : alcD fz kvs h (KQ h H Q)) (p : Addr) (n : H p = none) : Q (.ref p) (upd H p (.dK us)) := by
  cases fz with
  | true =>
    have k := Stab.alloc (h := h) (o := .dK us) n
    exact (show KQ h H Q (fdOf kvs) h from w) _ _ (rh.alloc n) k (fd_rv (rh.free n) upd_same (RKV.keep k r))
  | false =>
    have k := Stab.cell (h := h) (o := .dK us) (c := .dic kvs) n
    exact (show ∀ p, h p = none → KQ h H Q (.ref p) (up h p (.dic kvs)) from w) p (rh.free n) _ _ (rh.put k ⟨us, upd_same, RKV.keep k r⟩) k rfl
theorem writeD_out {a : Addr} {c : Cell} {kvs : KVs} {us : List (Key × V)} {v : Val} {V : V} {Q : VK} (rh : RH h H) (l : h a = some c) (r : RKV h H kvs us) (rv : RV h H v V) (w : KQ h H Q v (up h a (.dic kvs))) : Q V (upd H a (.dK us)) := by
  have k := Stab.write (H := H) (o := .dK us) (d := .dic kvs) l
  exact w _ _ (rh.put k ⟨us, upd_same, RKV.keep k r⟩) k (RV.keep k rv)
theorem cellAt_read {v : Val} {x : V} {q : Addr × Cell} (r : RV h H v x) (e : cellAt h v = some q) : x = .ref q.1 ∧ h q.1 = some q.2 := by
  cases v with
  | ref a =>
    obtain ⟨c, e1, e2⟩ := Option.map_eq_some_iff.mp e
    cases e2
    exact ⟨r, e1⟩
  | _ => cases e
/-- what was a cell, frozen -/
theorem frzC_rv {a : Addr} {c : Cell} (rh : RH h H) (e : h a = some c) : RV (er h a) H (frzC c) (.ref a) := by
  have k : Stab h H (er h a) H := Stab.er
  cases c with
  | lst xs =>
    obtain ⟨vs, e1, q⟩ := rh a _ e
    exact ⟨a, vs, rfl, er_same, e1, RVs.keep k q⟩
  | dic kvs =>
    obtain ⟨us, e1, q⟩ := rh a _ e
    exact fd_rv er_same e1 (RKV.keep k q)
end
theorem RVs.rep {h : Hq} {H : Hp} {xs : List Val} {vs : List V} (r : RVs h H xs vs) : ∀ n : Nat, RVs h H (List.replicate n xs).flatten (List.replicate n vs).flatten
  | 0 => RVs.nil
  | n + 1 => by rw [List.replicate_succ, List.replicate_succ, List.flatten_cons, List.flatten_cons]; exact r.app (RVs.rep r n)

/-! ### operators -/
/-- an operation's reading -/
def R2x (f : Val → Val → Hq → Pr) : R2 := fun x y H Q => ∃ h a b, RH h H ∧ RV h H a x ∧ RV h H b y ∧ prW (f a b h) (KQ h H Q)
theorem OpR.imp {X : Cx} {f : Value → Value → Sem Value} {r r' : R2} (o : OpR X f r) (k : ∀ x y H Q, r' x y H Q → r x y H Q) : OpR X f r' := fun pins s σ H x y v u Q I rx ry q => o pins s σ H x y v u Q I rx ry (k x y H Q q)
theorem len_ok {n : Nat} (e : n ≤ 1000000) : n ≤ sizeLine := Nat.le_trans e (by decide)
theorem len_lt {n : Nat} (e : n < 1000000) : n < sizeLine := Nat.lt_of_lt_of_le e (by decide)
theorem bits64 {i : Int} (h : -18446744073709551616 < i ∧ i < 18446744073709551616) : -(2 ^ 64) < i ∧ i < 2 ^ 64 := by omega

theorem sound_bin {X : Cx} {o : BOp} {fz : Bool} : OpR X (binaryOp (match o with | .add => .Add | .sub => .Sub | .mul => .Mult | .fdiv => .FloorDiv | .mod => .Mod | .pow => .Pow | .shl => .LShift | .shr => .RShift | .band => .BitAnd)) (R2x (binR o fz)) := by
  intro pins s σ H x y v u Q I rx ry ⟨h, a, b, rh, ra, rb, w⟩
  obtain ⟨⟨c, out⟩, e, hc, ho⟩ := optW_ex w
  dsimp only at hc ho
  cases o with
  | add =>
    dsimp only
    unfold binR at e
    dsimp only at e
    split at e
    · rename_i i j
      cases e; cases ra; cases rb
      exact op_add pins s σ H _ _ v u Q I rx ry ⟨i, j, rfl, rfl, KQ.here ho rh rfl⟩
    · rename_i i j
      cases e; cases ra; cases rb
      exact op_add_str pins s σ H _ _ v u Q I rx ry ⟨i, j, rfl, rfl, len_ok hc, KQ.here ho rh rfl⟩
    · rename_i i j
      cases e
      have ra' := ra
      have rb' := rb
      obtain ⟨a1, vs, e1, _, e2, q1⟩ := ra
      obtain ⟨a2, ws, e3, _, e4, q2⟩ := rb
      refine op_catA pins s σ H _ _ v u Q I rx ry ⟨a1, a2, vs, ws, e1, e3, SqT.of e2, SqT.of e4, by rw [← q1.length, ← q2.length]; exact len_ok hc, fun z => ?_, fun _ z => ?_, fun _ _ p n => ?_⟩
      · have : i = [] := List.eq_nil_of_length_eq_zero (by rw [q1.length, z]; rfl)
        subst this e3
        exact KQ.here ho rh rb'
      · have : j = [] := List.eq_nil_of_length_eq_zero (by rw [q2.length, z]; rfl)
        subst this e1
        rw [List.append_nil] at ho
        exact KQ.here ho rh ra'
      · have k := Stab.alloc (h := h) (o := .tup (vs ++ ws)) n
        exact (show KQ h H Q (.tup (i ++ j)) h from ho) _ _ (rh.alloc n) k ⟨p, _, rfl, rh.free n, upd_same, RVs.keep k (q1.app q2)⟩
    · split at e
      · rename_i xs ys e1 e2
        cases e
        obtain ⟨a1, vs, q1, q2, q3⟩ := lv_read rh ra e1
        obtain ⟨a2, ws, q4, q5, q6⟩ := lv_read rh rb e2
        exact op_cat pins s σ H _ _ v u Q I rx ry ⟨a1, a2, vs, ws, q1, q4, q2, q5, by rw [← q3.length, ← q6.length]; exact len_ok hc, out_list rh (q3.app q6) ho⟩
      · cases e
  | sub =>
    unfold binR at e; dsimp only at e
    split at e
    · cases e; cases ra; cases rb
      exact op_sub pins s σ H _ _ v u Q I rx ry ⟨_, _, rfl, rfl, KQ.here ho rh rfl⟩
    · cases e
  | mul =>
    unfold binR at e; dsimp only at e
    split at e
    · cases e; cases ra; cases rb
      rcases hc with q | q | q
      · exact op_mul pins s σ H _ _ v u Q I rx ry ⟨_, _, rfl, rfl, .inl (bits64 q), KQ.here ho rh rfl⟩
      · exact op_mul pins s σ H _ _ v u Q I rx ry ⟨_, _, rfl, rfl, .inr (bits64 q), KQ.here ho rh rfl⟩
      · exact op_mulW pins s σ H _ _ v u Q I rx ry ⟨_, _, rfl, rfl, q, KQ.here ho rh rfl⟩
    · rename_i j _
      obtain ⟨xs, e1, e2⟩ := Option.map_eq_some_iff.mp e
      cases e2
      obtain ⟨a1, vs, q1, q2, q3⟩ := lv_read rh ra e1
      cases rb
      exact op_rep pins s σ H _ _ v u Q I rx ry ⟨a1, j, vs, q1, rfl, q2, by omega, by omega, by rw [← q3.length]; exact len_ok hc.2, out_list rh (q3.rep _) ho⟩
    · cases e
  | fdiv =>
    unfold binR at e; dsimp only at e
    split at e
    · cases e; cases ra; cases rb
      exact op_fdivW pins s σ H _ _ v u Q I rx ry ⟨_, _, rfl, rfl, wide_div (b := 250) hc.1 (by omega) (by decide) (by decide), KQ.here ho rh rfl⟩
    · cases e
  | mod =>
    unfold binR at e; dsimp only at e
    split at e
    · cases e; cases ra; cases rb
      exact op_mod pins s σ H _ _ v u Q I rx ry ⟨_, _, rfl, rfl, hc, KQ.here ho rh rfl⟩
    · cases e
  | pow =>
    unfold binR at e; dsimp only at e
    split at e
    · cases e; cases ra; cases rb
      exact op_pow pins s σ H _ _ v u Q I rx ry ⟨_, _, rfl, rfl, ⟨hc.1, hc.2.1, by omega⟩, KQ.here ho rh rfl⟩
    · cases e
  | shl =>
    unfold binR at e; dsimp only at e
    split at e
    · cases e; cases ra; cases rb
      exact op_shl pins s σ H _ _ v u Q I rx ry ⟨_, _, rfl, rfl, ⟨hc.1, hc.2.1, by omega⟩, KQ.here ho rh rfl⟩
    · cases e
  | shr =>
    unfold binR at e; dsimp only at e
    split at e
    · cases e; cases ra; cases rb
      exact op_shr pins s σ H _ _ v u Q I rx ry ⟨_, _, rfl, rfl, hc, KQ.here ho rh rfl⟩
    · cases e
  | band =>
    unfold binR at e; dsimp only at e
    split at e
    · cases e; cases ra; cases rb
      exact op_and pins s σ H _ _ v u Q I rx ry ⟨_, _, rfl, rfl, KQ.here ho rh rfl⟩
    · cases e
end L3

set_option Elab.async false
set_option linter.all false
set_option maxRecDepth 100000
/-! L3, part 5: comparisons, truth, places, built-ins, methods. -/
namespace L3
open PySem PySem.Spec PyProof.Rows L2
open PySem.W (alike dataLt AllAlike Sortable dataLe alike_unique lt_data gt_data le_data ge_data EachIs maxD minD AlikeAll max_list_data sorted_data dataLt_tuple dataLt_ints)
variable [Mo]

def copOf : COp → CmpOp
  | .eq => .Eq | .ne => .NotEq | .lt => .Lt | .le => .LtE | .gt => .Gt | .ge => .GtE | .is => .Is | .isnot => .IsNot | .isin => .In | .notin => .NotIn
def bopOf : BOp → Operator
  | .add => .Add | .sub => .Sub | .mul => .Mult | .fdiv => .FloorDiv | .mod => .Mod | .pow => .Pow | .shl => .LShift | .shr => .RShift | .band => .BitAnd
theorem scal_int {i j : Int} : scal (.int i) (.int j) = true := rfl
theorem decV_int {i j : Int} : decide (V.int i = V.int j) = decide (i = j) := by
  by_cases e : i = j
  · subst e; simp
  · rw [decide_eq_false e]; exact decide_eq_false fun q => e (V.int.inj q)
theorem decV_str {i j : Str} : decide (V.str i = V.str j) = decide (i = j) := by
  by_cases e : i = j
  · subst e; simp
  · rw [decide_eq_false e]; exact decide_eq_false fun q => e (V.str.inj q)
section
variable {X : Cx} (kk : X.K = Mo.K)
include kk
theorem sound_eqd (hu : X.A.units + 64 < cLine) : OpR X (compareOp .Eq) (R2x (eqR false)) := by
  intro pins s σ H x y v u Q I rx ry ⟨h, a, b, rh, ra, rb, w⟩
  obtain ⟨⟨c, out⟩, e, hc, ho⟩ := optW_ex w
  unfold eqR at e
  split at e
  · rename_i d f e1 e2
    cases e
    exact op_eqD hu pins s σ H _ _ v u Q I rx ry ⟨d, f, dt_dp kk rh _ _ _ e1 ra, dt_dp kk rh _ _ _ e2 rb, hc.1, hc.2, KQ.here ho rh rfl⟩
  · split at e
    · rename_i d f e1 e2
      cases e
      exact op_eqD hu pins s σ H _ _ v u Q I rx ry ⟨d, f, dtN_dp kk rh _ _ _ _ e1 ra, dtN_dp kk rh _ _ _ _ e2 rb, hc.1, hc.2, KQ.here ho rh rfl⟩
    · split at e
      · rename_i xs ys e1 e2
        split at e
        · rename_i ne
          cases e
          obtain ⟨p1, w1, q1, q2, q3⟩ := ls_read (K := X.K) kk rh ra e1
          obtain ⟨p2, w2, q4, q5, q6⟩ := ls_read (K := X.K) kk rh rb e2
          subst q1 q4
          cases rx
          cases ry
          obtain ⟨i1, r1, l1, _⟩ := I.list q2
          obtain ⟨i2, r2, l2, _⟩ := I.list q5
          have n1 : i1.length = xs.length := r1.length.symm.trans q3.length.symm
          have n2 : i2.length = ys.length := r2.length.symm.trans q6.length.symm
          have hs : (i1.toArray.size != i2.toArray.size) = true := by
            rw [List.size_toArray, List.size_toArray, n1, n2, bne_iff_ne]
            intro z
            cases xs <;> cases ys <;> simp at ne z
          exact SeqAt.RcAt.lists_lengths l1.isList l2.isList hs (by omega) X.prog X.w _ _ ⟨.bl _, H, I, rfl, KQ.here ho rh rfl⟩
        · cases e
      · split at e
        · rename_i ks js e1 e2
          split at e
          · rename_i em
            cases e
            obtain ⟨p1, w1, q1, q2, q3⟩ := dr_read rh ra e1
            obtain ⟨p2, w2, q4, q5, q6⟩ := dr_read rh rb e2
            subst q1 q4
            cases rx
            cases ry
            obtain ⟨z1, y1, v1, rel1, dd1⟩ := dk_rd I.hok q2
            obtain ⟨z2, y2, v2, rel2, dd2⟩ := dk_rd I.hok q5
            have n1 : v1.length = ks.length := rel1.length.symm.trans q3.length.symm
            have n2 : v2.length = js.length := rel2.length.symm.trans q6.length.symm
            refine PySem.W.keq_eq (knd := mixKind X.prog X.w) (r := true) y1 y2 dd1 dd2 (by omega) (fun hl => ?_) ?_
            · have k0 : v1 = [] := by
                rw [n1, n2] at hl
                cases ks <;> cases js <;> simp at em hl
                exact List.length_eq_zero_iff.mp n1
              rw [k0]
              exact .nil
            · have : (v1.length == v2.length) = (ks.isEmpty && js.isEmpty) := by
                rw [n1, n2]
                cases ks <;> cases js <;> simp at em ⊢
              rw [this]
              exact ⟨.bl _, H, I, by rw [Bool.and_true]; rfl, KQ.here ho rh rfl⟩
          · cases e
        · cases e
theorem sound_ned (hu : X.A.units + 64 < cLine) : OpR X (compareOp .NotEq) (R2x (eqR true)) := by
  intro pins s σ H x y v u Q I rx ry ⟨h, a, b, rh, ra, rb, w⟩
  obtain ⟨⟨c, out⟩, e, hc, ho⟩ := optW_ex w
  unfold eqR at e
  split at e
  · rename_i d f e1 e2
    cases e
    exact op_neD hu pins s σ H _ _ v u Q I rx ry ⟨d, f, dt_dp kk rh _ _ _ e1 ra, dt_dp kk rh _ _ _ e2 rb, hc.1, hc.2, KQ.here ho rh rfl⟩
  · split at e
    · rename_i d f e1 e2
      cases e
      exact op_neD hu pins s σ H _ _ v u Q I rx ry ⟨d, f, dtN_dp kk rh _ _ _ _ e1 ra, dtN_dp kk rh _ _ _ _ e2 rb, hc.1, hc.2, KQ.here ho rh rfl⟩
    · split at e
      · rename_i xs ys e1 e2
        split at e
        · rename_i ne
          cases e
          obtain ⟨p1, w1, q1, q2, q3⟩ := ls_read (K := X.K) kk rh ra e1
          obtain ⟨p2, w2, q4, q5, q6⟩ := ls_read (K := X.K) kk rh rb e2
          subst q1 q4
          cases rx
          cases ry
          obtain ⟨i1, r1, l1, _⟩ := I.list q2
          obtain ⟨i2, r2, l2, _⟩ := I.list q5
          have n1 : i1.length = xs.length := r1.length.symm.trans q3.length.symm
          have n2 : i2.length = ys.length := r2.length.symm.trans q6.length.symm
          have hs : (i1.toArray.size != i2.toArray.size) = true := by
            rw [List.size_toArray, List.size_toArray, n1, n2, bne_iff_ne]
            intro z
            cases xs <;> cases ys <;> simp at ne z
          exact SeqAt.RcNeAt.lists_lengths l1.isList l2.isList hs (by omega) X.prog X.w _ _ ⟨.bl _, H, I, rfl, KQ.here ho rh rfl⟩
        · cases e
      · split at e
        · rename_i ks js e1 e2
          split at e
          · rename_i em
            cases e
            obtain ⟨p1, w1, q1, q2, q3⟩ := dr_read rh ra e1
            obtain ⟨p2, w2, q4, q5, q6⟩ := dr_read rh rb e2
            subst q1 q4
            cases rx
            cases ry
            obtain ⟨z1, y1, v1, rel1, dd1⟩ := dk_rd I.hok q2
            obtain ⟨z2, y2, v2, rel2, dd2⟩ := dk_rd I.hok q5
            have n1 : v1.length = ks.length := rel1.length.symm.trans q3.length.symm
            have n2 : v2.length = js.length := rel2.length.symm.trans q6.length.symm
            refine PySem.W.keq_ne (knd := mixKind X.prog X.w) (r := true) y1 y2 dd1 dd2 (by omega) (fun hl => ?_) ?_
            · have k0 : v1 = [] := by
                rw [n1, n2] at hl
                cases ks <;> cases js <;> simp at em hl
                exact List.length_eq_zero_iff.mp n1
              rw [k0]
              exact .nil
            · have : (v1.length == v2.length) = (ks.isEmpty && js.isEmpty) := by
                rw [n1, n2]
                cases ks <;> cases js <;> simp at em ⊢
              rw [this]
              exact ⟨.bl _, H, I, by rw [Bool.and_true]; rfl, KQ.here ho rh rfl⟩
          · cases e
        · cases e
omit kk in
theorem inV_eq {a : Val} {ys : List Val} : inV (flV a) (ys.map flV) = ys.any fun z => eqV (flV z) (flV a) := by
  unfold inV; rw [List.any_map]; rfl
theorem sound_in (hu : X.A.units + 65 < cLine) : OpR X (compareOp .In) (R2x (inR false)) := by
  intro pins s σ H x y v u Q I rx ry ⟨h, a, b, rh, ra, rb, w⟩
  obtain ⟨⟨c, out⟩, e, hc, ho⟩ := optW_ex w
  unfold inR at e
  split at e
  · rename_i kvs e1
    obtain ⟨k, e2, e3⟩ := Option.map_eq_some_iff.mp e
    cases e3
    obtain ⟨p, us, q1, q2, q3⟩ := dr_read rh rb e1
    obtain rfl := key_read ra e2
    subst q1
    obtain rfl : u = Value.ref p := ry
    have iso : (dg kvs k).isSome = (valV us k).isSome := by
      rcases q3.get (k := k) with ⟨z1, z2⟩ | ⟨_, _, z1, z2, _⟩ <;> rw [z1, z2] <;> rfl
    refine d_in (by omega) I (DGet.k' q2) rx fun s' I' => ⟨.bl _, H, I', rfl, ?_⟩
    rw [← iso]
    exact KQ.here ho rh rfl
  split at e
  · rename_i ys e1
    split at e
    · rename_i fl
      cases e
      rw [Bool.and_eq_true] at fl
      obtain ⟨p, vs, q1, q2, q3⟩ := sq_read (K := X.K) kk rh rb e1
      obtain ⟨e2, f2⟩ := flt_is fl.1 ra
      obtain ⟨e3, f3⟩ := flt_all fl.2 q3
      refine op_in_seq pins s σ H _ _ v u Q I rx ry ⟨p, vs, q1, q2, by rw [e2]; exact f2, f3, ?_⟩
      rw [e2, e3, inV_eq]
      exact KQ.here ho rh rfl
    · split at e
      · rename_i d ds e2 e3
        cases e
        exact op_inD hu pins s σ H _ _ v u Q I rx ry ⟨d, ds, dt_dp kk rh _ _ _ e2 ra, dt_dp kk rh _ _ _ e3 rb, hc.1, hc.2, KQ.here ho rh rfl⟩
      · cases e
  · cases e
theorem sound_notin (hu : X.A.units + 65 < cLine) : OpR X (compareOp .NotIn) (R2x (inR true)) := by
  intro pins s σ H x y v u Q I rx ry ⟨h, a, b, rh, ra, rb, w⟩
  obtain ⟨⟨c, out⟩, e, hc, ho⟩ := optW_ex w
  unfold inR at e
  split at e
  · rename_i kvs e1
    obtain ⟨k, e2, e3⟩ := Option.map_eq_some_iff.mp e
    cases e3
    obtain ⟨p, us, q1, q2, q3⟩ := dr_read rh rb e1
    obtain rfl := key_read ra e2
    subst q1
    obtain rfl : u = Value.ref p := ry
    have iso : (dg kvs k).isSome = (valV us k).isSome := by
      rcases q3.get (k := k) with ⟨z1, z2⟩ | ⟨_, _, z1, z2, _⟩ <;> rw [z1, z2] <;> rfl
    refine d_notIn (by omega) I (DGet.k' q2) rx fun s' I' => ⟨.bl _, H, I', rfl, ?_⟩
    rw [← iso]
    exact KQ.here ho rh rfl
  split at e
  · rename_i ys e1
    split at e
    · rename_i fl
      cases e
      rw [Bool.and_eq_true] at fl
      obtain ⟨p, vs, q1, q2, q3⟩ := sq_read (K := X.K) kk rh rb e1
      obtain ⟨e2, f2⟩ := flt_is fl.1 ra
      obtain ⟨e3, f3⟩ := flt_all fl.2 q3
      refine op_notIn_seq pins s σ H _ _ v u Q I rx ry ⟨p, vs, q1, q2, by rw [e2]; exact f2, f3, ?_⟩
      rw [e2, e3, inV_eq]
      exact KQ.here ho rh rfl
    · split at e
      · rename_i d ds e2 e3
        cases e
        exact op_notInD hu pins s σ H _ _ v u Q I rx ry ⟨d, ds, dt_dp kk rh _ _ _ e2 ra, dt_dp kk rh _ _ _ e3 rb, hc.1, hc.2, KQ.here ho rh rfl⟩
      · cases e
  · cases e
omit kk in
theorem shp_depth {d : PyData} (h : SeqAt.shaped d = true) : d.depth ≤ 64 := SeqAt.depth_of_shaped h
omit kk in
theorem shp_room {d e : PyData} {u : Nat} (h : SeqAt.shaped d = true) (hu : u + 65 < cLine) : u + min d.depth e.depth < cLine := by
  have := shp_depth h
  have := Nat.min_le_left d.depth e.depth
  omega
omit kk in
theorem isBV_read {h : Hq} {H : Hp} {a : Val} {x : V} {v : Value} (ra : RV h H a x) (rx : RelV x v) : (∃ c, a = .bl c) ∨ ((∀ {b : Bool}, isBV a b = false) ∧ (∀ b, PySem.plainIs v (.bool b) = true) ∧ ∀ b, v ≠ .bool b) := by
  have ref : ∀ p, x = .ref p → (∀ b, PySem.plainIs v (.bool b) = true) ∧ ∀ b, v ≠ .bool b := fun p e => by
    subst e
    cases (show v = Value.ref p from rx)
    exact ⟨fun b => rfl, fun b z => by cases z⟩
  cases a with
  | non => cases ra; cases (show v = Value.none from rx); exact .inr ⟨rfl, fun b => rfl, fun b z => by cases z⟩
  | bl c => exact .inl ⟨c, rfl⟩
  | int i => cases ra; obtain ⟨t, rfl⟩ := (show ∃ t, v = Value.int i t from rx); exact .inr ⟨rfl, fun b => rfl, fun b z => by cases z⟩
  | str i => cases ra; obtain ⟨t, rfl⟩ := (show ∃ t, v = Value.str i t from rx); exact .inr ⟨rfl, fun b => rfl, fun b z => by cases z⟩
  | tup xs => obtain ⟨p, vs, e, _⟩ := ra; exact .inr ⟨rfl, ref p e⟩
  | fl xs => obtain ⟨p, vs, e, _⟩ := ra; exact .inr ⟨rfl, ref p e⟩
  | sc xs => obtain ⟨p, e, _⟩ := ra; exact .inr ⟨rfl, ref p e⟩
  | ref p => exact .inr ⟨rfl, ref p ra⟩
  | fd ks xs => obtain ⟨p, vs, e, _⟩ := ra; exact .inr ⟨rfl, ref p e⟩
  | wd ks xs => obtain ⟨p, vs, e, _⟩ := ra; exact .inr ⟨rfl, ref p e⟩
theorem sound_cmp (hu : X.A.units + 65 < cLine) {o : COp} : OpR X (compareOp (copOf o)) (R2x (cmpR o)) := by
  intro pins s σ H x y v u Q I rx ry ⟨h, a, b, rh, ra, rb, w⟩
  cases o with
  | isin => exact sound_in kk (by omega) pins s σ H x y v u Q I rx ry ⟨h, a, b, rh, ra, rb, w⟩
  | notin => exact sound_notin kk (by omega) pins s σ H x y v u Q I rx ry ⟨h, a, b, rh, ra, rb, w⟩
  | eq =>
    obtain ⟨⟨c, out⟩, e, hc, ho⟩ := optW_ex w
    unfold cmpR at e; dsimp only at e
    split at e
    · cases e; cases ra; cases rb
      exact op_eq pins s σ H _ _ v u Q I rx ry ⟨rfl, by rw [decV_int]; exact KQ.here ho rh rfl⟩
    · cases e; cases ra; cases rb
      exact op_eq pins s σ H _ _ v u Q I rx ry ⟨rfl, by rw [decV_str]; exact KQ.here ho rh rfl⟩
    · exact sound_eqd kk (by omega) pins s σ H _ _ v u Q I rx ry ⟨h, _, _, rh, ra, rb, by unfold prW; rw [e]; exact ⟨hc, ho⟩⟩
  | ne =>
    obtain ⟨⟨c, out⟩, e, hc, ho⟩ := optW_ex w
    unfold cmpR at e; dsimp only at e
    split at e
    · cases e; cases ra; cases rb
      exact op_ne pins s σ H _ _ v u Q I rx ry ⟨rfl, by rw [decV_int]; exact KQ.here ho rh rfl⟩
    · cases e; cases ra; cases rb
      exact op_ne pins s σ H _ _ v u Q I rx ry ⟨rfl, by rw [decV_str]; exact KQ.here ho rh rfl⟩
    · exact sound_ned kk (by omega) pins s σ H _ _ v u Q I rx ry ⟨h, _, _, rh, ra, rb, by unfold prW; rw [e]; exact ⟨hc, ho⟩⟩
  | lt =>
    obtain ⟨⟨c, out⟩, e, hc, ho⟩ := optW_ex w
    unfold cmpR at e; dsimp only at e
    split at e
    · cases e; cases ra; cases rb
      exact op_lt pins s σ H _ _ v u Q I rx ry ⟨_, _, rfl, rfl, KQ.here ho rh rfl⟩
    · unfold ordR at e
      split at e
      · rename_i d f e1 e2
        cases e
        obtain ⟨as, r1⟩ := Dp.reads I d x v (dt_dp kk rh _ _ _ e1 ra) rx
        obtain ⟨bs, r2⟩ := Dp.reads I f y u (dt_dp kk rh _ _ _ e2 rb) ry
        exact lt_data r1 r2 hc.1 hc.2.1 (shp_room hc.2.2.1 hu) ⟨.bl _, H, I, rfl, KQ.here ho rh rfl⟩
      · cases e
  | le =>
    obtain ⟨⟨c, out⟩, e, hc, ho⟩ := optW_ex w
    unfold cmpR at e; dsimp only at e
    split at e
    · cases e; cases ra; cases rb
      exact op_le pins s σ H _ _ v u Q I rx ry ⟨_, _, rfl, rfl, KQ.here ho rh rfl⟩
    · unfold ordR at e
      split at e
      · rename_i d f e1 e2
        cases e
        obtain ⟨as, r1⟩ := Dp.reads I d x v (dt_dp kk rh _ _ _ e1 ra) rx
        obtain ⟨bs, r2⟩ := Dp.reads I f y u (dt_dp kk rh _ _ _ e2 rb) ry
        exact le_data r1 r2 hc.1 hc.2.1 (shp_room hc.2.2.1 hu) ⟨.bl _, H, I, rfl, KQ.here ho rh rfl⟩
      · cases e
  | gt =>
    obtain ⟨⟨c, out⟩, e, hc, ho⟩ := optW_ex w
    unfold cmpR at e; dsimp only at e
    split at e
    · cases e; cases ra; cases rb
      exact op_gt pins s σ H _ _ v u Q I rx ry ⟨_, _, rfl, rfl, KQ.here ho rh rfl⟩
    · unfold ordR at e
      split at e
      · rename_i d f e1 e2
        cases e
        obtain ⟨as, r1⟩ := Dp.reads I d x v (dt_dp kk rh _ _ _ e1 ra) rx
        obtain ⟨bs, r2⟩ := Dp.reads I f y u (dt_dp kk rh _ _ _ e2 rb) ry
        exact gt_data r1 r2 hc.1 hc.2.1 (shp_room hc.2.2.1 hu) ⟨.bl _, H, I, rfl, KQ.here ho rh rfl⟩
      · cases e
  | ge =>
    obtain ⟨⟨c, out⟩, e, hc, ho⟩ := optW_ex w
    unfold cmpR at e; dsimp only at e
    split at e
    · cases e; cases ra; cases rb
      exact op_ge pins s σ H _ _ v u Q I rx ry ⟨_, _, rfl, rfl, KQ.here ho rh rfl⟩
    · unfold ordR at e
      split at e
      · rename_i d f e1 e2
        cases e
        obtain ⟨as, r1⟩ := Dp.reads I d x v (dt_dp kk rh _ _ _ e1 ra) rx
        obtain ⟨bs, r2⟩ := Dp.reads I f y u (dt_dp kk rh _ _ _ e2 rb) ry
        exact ge_data r1 r2 hc.1 hc.2.1 (shp_room hc.2.2.1 hu) ⟨.bl _, H, I, rfl, KQ.here ho rh rfl⟩
      · cases e
  | is =>
    obtain ⟨⟨c, out⟩, e, hc, ho⟩ := optW_ex w
    unfold cmpR at e; dsimp only at e
    split at e
    · cases e; cases rb
      exact op_isN pins s σ H _ _ v u Q I rx ry ⟨rfl, by rw [isN_is ra]; exact KQ.here ho rh rfl⟩
    · cases e
      cases rb
      rcases isBV_read ra rx with ⟨a', rfl⟩ | ⟨ek, n1, n2⟩
      · cases ra
        exact op_isBl pins s σ H _ _ v u Q I rx ry ⟨_, _, rfl, rfl, KQ.here ho rh rfl⟩
      · cases (show u = Value.bool _ from ry)
        have ho := KQ.here ho rh (show RV h H (Val.bl (isBV a _)) (V.bl (isBV a _)) from rfl)
        rw [ek] at ho
        exact PySem.wpAny_is_other (n1 _) (n2 _) ⟨.bl _, H, I, rfl, ho⟩
    · cases e
  | isnot =>
    obtain ⟨⟨c, out⟩, e, hc, ho⟩ := optW_ex w
    unfold cmpR at e; dsimp only at e
    split at e
    · cases e; cases rb
      exact op_notN pins s σ H _ _ v u Q I rx ry ⟨rfl, by rw [isN_is ra]; exact KQ.here ho rh rfl⟩
    · cases e
      cases rb
      rcases isBV_read ra rx with ⟨a', rfl⟩ | ⟨ek, n1, n2⟩
      · cases ra
        exact op_notBl pins s σ H _ _ v u Q I rx ry ⟨_, _, rfl, rfl, KQ.here ho rh rfl⟩
      · cases (show u = Value.bool _ from ry)
        have ho := KQ.here ho rh (show RV h H (Val.bl (!isBV a _)) (V.bl (!isBV a _)) from rfl)
        rw [ek] at ho
        exact PySem.wpAny_isNot_other (n1 _) (n2 _) ⟨.bl _, H, I, rfl, ho⟩
    · cases e

/-! ### truth -/
omit kk in
theorem isEmpty_len {α β : Type} {xs : List α} {ys : List β} (e : xs.length = ys.length) : xs.isEmpty = ys.isEmpty := by
  cases xs <;> cases ys <;> first | rfl | (simp at e)
omit kk in
theorem sound_tru {h : Hq} {H : Hp} {a : Val} {x : V} {k : Bool} (K : PySem.W.Frag) (kk : K = Mo.K) (rh : RH h H) (ra : RV h H a x) (e : truR a h = some k) : TruV K x H k := by
  have seq : ∀ {xs : List Val}, sq h a = some xs → (!xs.isEmpty) = k → TruV K x H k := fun {xs} e1 e2 => by
    obtain ⟨p, vs, q1, q2, q3⟩ := sq_read (K := K) kk rh ra e1
    subst q1
    rw [isEmpty_len q3.length] at e2
    rcases q2 with q2 | q2
    · exact .inl ⟨vs, q2, e2.symm⟩
    · exact .inr (.inl ⟨vs, q2, e2.symm⟩)
  cases a with
  | non => cases e; cases ra; rfl
  | bl b => cases e; cases ra; rfl
  | int i => cases e; cases ra; rfl
  | str s => cases e
  | tup b => obtain ⟨xs, e1, e2⟩ := Option.map_eq_some_iff.mp (show (sq h (.tup b)).map (fun xs => !xs.isEmpty) = some k from e); exact seq e1 e2
  | fl b => obtain ⟨xs, e1, e2⟩ := Option.map_eq_some_iff.mp (show (sq h (.fl b)).map (fun xs => !xs.isEmpty) = some k from e); exact seq e1 e2
  | sc b => obtain ⟨xs, e1, e2⟩ := Option.map_eq_some_iff.mp (show (sq h (.sc b)).map (fun xs => !xs.isEmpty) = some k from e); exact seq e1 e2
  | ref b => obtain ⟨xs, e1, e2⟩ := Option.map_eq_some_iff.mp (show (sq h (.ref b)).map (fun xs => !xs.isEmpty) = some k from e); exact seq e1 e2
  | fd ks b => cases e
  | wd ks b => cases e

/-! ### places, slices -/
omit kk in
theorem atI_some {h : Hq} {H : Hp} {xs : List Val} {vs : List V} {i : Int} {v : Val} (r : RVs h H xs vs) (e : atI xs i = some v) : ∃ x, atI vs i = some x ∧ RV h H v x := by
  unfold atI at *
  rw [r.length] at e
  cases q : ixN vs.length i with
  | none => rw [q] at e; cases e
  | some k =>
    rw [q] at e
    exact r.get e
omit kk [Mo] in
theorem ix_dict (hu : X.A.units + 1 < cLine) : IxR X (fun x y H Q => ∃ a v, x = .ref a ∧ DGet H a y (some v) ∧ Q v H) := by
  intro value slice pins s σ H x y v u Q I rx ry ⟨a, w, ex, g, q⟩ hs
  subst ex
  obtain rfl : v = Value.ref a := rx
  exact tail_any (dict_typeIs I g) PySem.F.slot_dict_getitem.lookup (d_getItem hu I g ry fun w' s' I' rw' => ⟨w, H, I', rw', q⟩) hs
theorem sound_idx {x y : V} {H : Hp} {Q : VK} (q : R2x idxR x y H Q) : rIx X.K x y H Q ∨ ∃ a v, x = .ref a ∧ DGet H a y (some v) ∧ Q v H := by
  obtain ⟨h, a, b, rh, ra, rb, w⟩ := q
  obtain ⟨⟨c, out⟩, e, hc, ho⟩ := optW_ex w
  unfold idxR at e
  split at e
  · rename_i kvs e1
    obtain ⟨k, e2, e3⟩ := Option.bind_eq_some_iff.mp e
    obtain ⟨v, e4, e5⟩ := Option.map_eq_some_iff.mp e3
    cases e5
    obtain ⟨p, us, q1, q2, q3⟩ := dr_read rh ra e1
    obtain rfl := key_read rb e2
    rcases q3.get (k := k) with ⟨z1, _⟩ | ⟨v', z, z1, z2, z3⟩
    · rw [z1] at e4; cases e4
    · rw [z1] at e4; cases e4
      exact .inr ⟨p, z, q1, z2 ▸ DGet.k' q2, KQ.here ho rh z3⟩
  left
  split at e
  · rename_i i
    obtain ⟨v, e1, e2⟩ := Option.map_eq_some_iff.mp e
    obtain ⟨xs, e3, e4⟩ := Option.bind_eq_some_iff.mp e1
    cases e2
    obtain ⟨p, vs, q1, q2, q3⟩ := sq_read (K := X.K) kk rh ra e3
    obtain ⟨z, e5, r5⟩ := atI_some q3 e4
    rcases q2 with q2 | q2
    · exact .inl ⟨p, vs, i, z, q1, rb, q2, e5, KQ.here ho rh r5⟩
    · exact .inr (.inl ⟨p, vs, i, z, q1, rb, q2, e5, KQ.here ho rh r5⟩)
  · cases e
omit kk in
theorem cut_read {h : Hq} {H : Hp} {xs : List Val} {vs : List V} {lo hi : Option Int} (r : RVs h H xs vs) : RVs h H (cutL xs lo hi) (cutV vs lo hi) := by
  unfold cutL cutV
  rw [r.length]
  exact (r.drop _).take _
def rSlE (K : PySem.W.Frag) : V → Option Int → Option Int → Hp → VK → Prop := fun x lo hi H Q => rSlL K x lo hi H Q ∨ rSlA K x lo hi H Q
omit kk in
theorem sl_E : SlR X (rSlE X.K) := by
  intro pins s σ H x v vl vu lo hi sl Q I rx hs pl pu h
  rcases h with h | h
  · exact sl_list pins s σ H x v vl vu lo hi sl Q I rx hs pl pu h
  · exact sl_tupA pins s σ H x v vl vu lo hi sl Q I rx hs pl pu h
theorem sound_slc {fz : Bool} {x : V} {lo hi : Option Int} {H : Hp} {Q : VK} {h : Hq} {a : Val} (rh : RH h H) (ra : RV h H a x) (w : prW (slcR fz a lo hi h) (KQ h H Q)) : rSlE X.K x lo hi H Q := by
  obtain ⟨⟨c, out⟩, e, hc, ho⟩ := optW_ex w
  unfold slcR at e
  split at e
  · rename_i xs
    cases e
    have ra' := ra
    obtain ⟨p, vs, q1, n1, q2, q3⟩ := ra
    refine .inr ⟨p, vs, q1, SqT.of q2, fun z => ?_, fun z q nq => ?_⟩
    · have : cutL xs lo hi = xs := by
        unfold cutL
        rw [q3.length, z.1, z.2, List.drop_zero, Nat.sub_zero, ← q3.length, List.take_length]
      subst q1
      have ho' : KQ h H Q (.tup (cutL xs lo hi)) h := ho
      rw [this] at ho'
      exact KQ.here ho' rh ra'
    · have k := Stab.alloc (h := h) (o := .tup (cutV vs lo hi)) nq
      exact (show KQ h H Q (.tup (cutL xs lo hi)) h from ho) _ _ (rh.alloc nq) k ⟨q, _, rfl, rh.free nq, upd_same, RVs.keep k (cut_read q3)⟩
  · obtain ⟨xs, e1, e2⟩ := Option.map_eq_some_iff.mp e
    cases e2
    obtain ⟨p, vs, q1, q2, q3⟩ := ls_read (K := X.K) kk rh ra e1
    exact .inl ⟨p, vs, q1, q2, out_list rh (cut_read q3) ho⟩

/-! ### built-ins -/
omit kk in
theorem maxL_mem : ∀ ns : List Int, ns ≠ [] → maxL ns ∈ ns ∧ ∀ y ∈ ns, y ≤ maxL ns
  | [], h => absurd rfl h
  | [x], _ => ⟨by simp [maxL], fun y hy => by simp at hy; subst hy; exact Int.le_refl _⟩
  | x :: y :: r, _ => by
    obtain ⟨h1, h2⟩ := maxL_mem (y :: r) (by simp)
    show max x (maxL (y :: r)) ∈ x :: y :: r ∧ ∀ z ∈ x :: y :: r, z ≤ max x (maxL (y :: r))
    refine ⟨?_, fun z hz => ?_⟩
    · rcases Int.le_total x (maxL (y :: r)) with e | e
      · rw [Int.max_eq_right e]; exact List.mem_cons_of_mem _ h1
      · rw [Int.max_eq_left e]; exact List.mem_cons_self
    · rcases List.mem_cons.mp hz with e | e
      · subst e; exact Int.le_max_left _ _
      · exact Int.le_trans (h2 z e) (Int.le_max_right _ _)
omit kk in
theorem minL_mem : ∀ ns : List Int, ns ≠ [] → minL ns ∈ ns ∧ ∀ y ∈ ns, minL ns ≤ y
  | [], h => absurd rfl h
  | [x], _ => ⟨by simp [minL], fun y hy => by simp at hy; subst hy; exact Int.le_refl _⟩
  | x :: y :: r, _ => by
    obtain ⟨h1, h2⟩ := minL_mem (y :: r) (by simp)
    show min x (minL (y :: r)) ∈ x :: y :: r ∧ ∀ z ∈ x :: y :: r, min x (minL (y :: r)) ≤ z
    refine ⟨?_, fun z hz => ?_⟩
    · rcases Int.le_total x (minL (y :: r)) with e | e
      · rw [Int.min_eq_left e]; exact List.mem_cons_self
      · rw [Int.min_eq_right e]; exact List.mem_cons_of_mem _ h1
    · rcases List.mem_cons.mp hz with e | e
      · subst e; exact Int.min_le_left _ _
      · exact Int.le_trans (Int.min_le_right _ _) (h2 z e)
omit kk in
theorem sortI_perm (ns : List Int) : (sortI ns).Perm ns := List.mergeSort_perm _ _
omit kk in
theorem sortI_sorted (ns : List Int) : (sortI ns).Pairwise (· ≤ ·) := by
  have := List.pairwise_mergeSort (le := fun (a b : Int) => decide (a ≤ b)) (fun a b c h1 h2 => by simp at *; omega) (fun a b => by simp; omega) ns
  exact this.imp (fun h => by simpa using h)
omit kk in
theorem sorted_uniq : ∀ {as bs : List Int}, as.Perm bs → as.Pairwise (· ≤ ·) → bs.Pairwise (· ≤ ·) → as = bs
  | as, bs, p, h1, h2 => List.Perm.eq_of_pairwise (le := (· ≤ ·)) (fun a b _ _ h h' => Int.le_antisymm h h') h1 h2 p
/-- the names of the built-in kinds -/
def tyN : Ty → String | .int => "int" | .bool => "bool" | .str => "str" | .list => "list" | .tuple => "tuple" | .dict => "dict"
def Bl.nm : Bl → Str
  | .len => "len" | .abs => "abs" | .max => "max" | .min => "min" | .sum => "sum" | .any => "any" | .all => "all" | .sorted => "sorted" | .list => "list" | .tuple => "tuple" | .int => "int" | .str => "str" | .isi _ => "isinstance"
def Bl.val : Bl → Value
  | .len => .builtin "len" | .abs => .builtin "abs" | .max => .builtin "max" | .min => .builtin "min" | .sum => .builtin "sum" | .any => .builtin "any" | .all => .builtin "all" | .sorted => .builtin "sorted" | .list => .type "list" | .tuple => .type "tuple" | .int => .type "int" | .str => .type "str" | .isi _ => .builtin "isinstance"
def RLx (f : List Val → Hq → Pr) : List V → Hp → VK → Prop := fun xs H Q => ∃ h vs, RH h H ∧ RVs h H vs xs ∧ prW (f vs h) (KQ h H Q)
omit kk in
theorem rvs1 {h : Hq} {H : Hp} {a : Val} {xs : List V} (r : RVs h H [a] xs) : ∃ x, xs = [x] ∧ RV h H a x := by
  obtain ⟨y, t, e, r1, r2⟩ := r
  have : t = [] := r2
  subst this
  exact ⟨y, e, r1⟩
omit kk in
theorem rvs2 {h : Hq} {H : Hp} {a b : Val} {xs : List V} (r : RVs h H [a, b] xs) : ∃ x y, xs = [x, y] ∧ RV h H a x ∧ RV h H b y := by
  obtain ⟨y, t, e, r1, r2⟩ := r
  obtain ⟨z, e2, r3⟩ := rvs1 r2
  subst e2
  exact ⟨y, z, e, r1, r3⟩
omit kk in
theorem mapO_map' {α β γ : Type} {f : α → Option β} {g : β → α} (hf : ∀ a b, f a = some b → a = g b) : ∀ {xs : List α} {ys : List β}, mapO f xs = some ys → xs = ys.map g
  | [], _, e => by cases e; rfl
  | x :: xs, _, e => by
    unfold mapO at e
    split at e
    · rename_i y ys e1 e2
      cases e
      rw [List.map_cons, ← hf _ _ e1, ← mapO_map' (γ := γ) hf e2]
    · cases e
omit kk in
theorem intOf_inv (a : Val) (b : Int) (e : intOf a = some b) : a = .int b := by cases a <;> first | (cases e; done) | (cases e; rfl)
omit kk in
theorem tupI_inv (a : Val) (b : List Int) (e : tupI a = some b) : a = .tup (b.map .int) := by
  cases a <;> first | (cases e; done) | skip
  exact congrArg Val.tup (mapO_map' (γ := Int) (f := intOf) (g := Val.int) intOf_inv e)
omit kk in
theorem pds_intsE : ∀ ns : List Int, pds (ns.map .int) = some (ns.map .int)
  | [] => rfl
  | n :: ns => by rw [List.map_cons, pds, pds_intsE ns]; rfl
omit kk in
theorem pds_tupsE : ∀ L : List (List Int), pds (L.map fun ns => Val.tup (ns.map .int)) = some (L.map fun ns => PyData.tuple (ns.map .int))
  | [] => rfl
  | n :: ns => by rw [List.map_cons, pds, pds_tupsE ns, pd, pds_intsE n]; rfl
omit kk in
theorem depth_tups : ∀ L : List (List Int), PyData.depthAll (L.map fun ns => PyData.tuple (ns.map .int)) ≤ 1
  | [] => by simp [PyData.depthAll]
  | n :: ns => by
    rw [List.map_cons, PyData.depthAll, PyData.depth, PySem.W.depth_ints n]
    have := depth_tups ns
    omega
omit kk in
theorem maxD_tups (l : List Int) : ∀ L : List (List Int), maxD (.tuple (l.map .int)) (L.map fun ns => PyData.tuple (ns.map .int)) = .tuple ((bestL l L).map .int) := by
  intro L
  induction L generalizing l with
  | nil => rfl
  | cons n L ih =>
    have : dataLt (.tuple (l.map .int)) (.tuple (n.map .int)) = decide (l < n) := by rw [dataLt_tuple]; exact dataLt_ints l n
    unfold maxD bestL
    rw [List.map_cons, List.foldl_cons, List.foldl_cons, this]
    by_cases c : l < n
    · rw [if_pos c, decide_eq_true c]; exact ih n
    · rw [if_neg c, decide_eq_false c]; exact ih l
omit kk in
theorem tup_inj {a b : List Int} (e : PyData.tuple (a.map .int) = .tuple (b.map .int)) : a = b := by
  have : ∀ {a b : List Int}, a.map PyData.int = b.map PyData.int → a = b := by
    intro a
    induction a with
    | nil => intro b h; cases b <;> first | rfl | cases h
    | cons x a ih =>
      intro b h
      cases b with
      | nil => cases h
      | cons y b =>
        rw [List.map_cons, List.map_cons, List.cons.injEq] at h
        rw [PyData.int.inj h.1, ih h.2]
  exact this (PyData.tuple.inj e)
omit kk in
theorem vals_get' : ∀ {vs : List V} {us : List Value} {i : Nat} {u : Value}, Vals vs us → us[i]? = some u → ∃ x, vs[i]? = some x ∧ RelV x u
  | _, _, i, u, .nil, e => by simp at e
  | _, _, 0, u, .cons r t, e => by simp at e; subst e; exact ⟨_, rfl, r⟩
  | _, _, i + 1, u, .cons r t, e => by
    obtain ⟨x, h1, h2⟩ := vals_get' (i := i) (u := u) t (by simpa using e)
    exact ⟨x, by simpa using h1, h2⟩
theorem max_tups {pins : List (Addr × Obj)} {σ : L2.St} {H : Hp} {s : Shared} {us : List Value} {Q : VK} {h : Hq} {p : Addr} {xs : List Val} {ws : List V} {c : Prop} {out : Out} (hc : X.calm = true) (hu : X.A.units + 70 < cLine)
    (I : Inv X pins σ H s) (r : Vals [V.ref p] us) (rh : RH h H) (q2 : H p = some (.lst ws)) (q3 : RVs h H xs ws) (e : mxD xs h = some (c, out)) (hcc : c) (ho : Out.w (KQ h H Q) out) :
    wpAny (model X.prog X.w) X.A (PySem.call (.builtin "max") us) (EP X pins σ Q) X.xe s := by
  unfold mxD at e
  split at e
  · rename_i l L e1
    cases e
    have ex : xs = (l :: L).map fun ns => Val.tup (ns.map .int) := mapO_map' (γ := Int) tupI_inv e1
    obtain ⟨its, rv, hl, hz⟩ := I.list (SqL.of (K := X.K) q2)
    rw [Vals.ref1 r]
    have dp : DpAll X.K H ws ((l :: L).map fun ns => PyData.tuple (ns.map .int)) := pds_dp kk _ _ _ (by rw [ex]; exact pds_tupsE _) q3
    obtain ⟨as, rd⟩ := Dp.readsAll I _ ws its dp rv
    have al : ∀ a b : List Int, alike (.tuple (a.map .int)) (.tuple (b.map .int)) = true := fun a b => by unfold alike; exact PySem.W.alike_ints a b
    refine max_list_data (vs := its.toArray) (I.ok.hd hc) hl.isList (x := .tuple (l.map .int)) (xs := L.map fun ns => PyData.tuple (ns.map .int)) (as := as) (by simpa using rd) ⟨?_, ?_⟩ ?_ ?_
    · intro x hx y hy
      rw [← List.map_cons (f := fun ns : List Int => PyData.tuple (ns.map .int))] at hx hy
      obtain ⟨a, _, rfl⟩ := List.mem_map.mp hx
      obtain ⟨b, _, rfl⟩ := List.mem_map.mp hy
      exact al a b
    · intro x hx
      rw [← List.map_cons (f := fun ns : List Int => PyData.tuple (ns.map .int))] at hx
      obtain ⟨a, _, rfl⟩ := List.mem_map.mp hx
      intro z; cases z
    · have := depth_tups (l :: L)
      rw [List.map_cons] at this
      omega
    · intro i v h' tk bs hv rd' kp
      obtain ⟨x, hx, rx⟩ := vals_get' rv (show its[i]? = some v by simpa using hv)
      obtain ⟨y, hy, ry⟩ := q3.get' hx
      rw [ex, List.getElem?_map] at hy
      obtain ⟨n, hn, rfl⟩ := Option.map_eq_some_iff.mp hy
      obtain ⟨as', rd2⟩ := Dp.reads I (.tuple (n.map .int)) x v (pd_dp kk _ _ _ (by rw [pd, pds_intsE]; rfl) ry) rx
      rw [maxD_tups] at rd'
      have eq := alike_unique _ _ _ _ _ (al n (bestL l L)) (PyProof.Rows.Reads.keeps kp rd2) rd'
      obtain rfl := tup_inj eq
      exact ⟨x, H, I.kept kp, rx, KQ.here ho rh ry⟩
  · cases e
omit kk in
theorem each_of {h : Hq} {H : Hp} : ∀ {xs : List Val} {ws : List V} {its : List Value}, RVs h H xs ws → Vals ws its → EachIs (fun u w => ∃ x, RelV x u ∧ RV h H w x) its xs
  | [], _, _, r, v => by cases r; cases v; exact .nil
  | w :: xs, _, _, ⟨y, t, e, r1, r2⟩, v => by
    subst e
    cases v with
    | cons v1 v2 => exact .cons ⟨y, v1, r1⟩ (each_of r2 v2)
omit kk in
theorem each_back {h : Hq} {H : Hp} : ∀ {xs : List Val} {its : List Value}, EachIs (fun u w => ∃ x, RelV x u ∧ RV h H w x) its xs → ∃ ws, RVs h H xs ws ∧ Vals ws its
  | _, _, .nil => ⟨[], .nil, .nil⟩
  | _, _, .cons ⟨x, r1, r2⟩ t => by
    obtain ⟨ws, q1, q2⟩ := each_back t
    exact ⟨x :: ws, .cons r2 q1, .cons r1 q2⟩
theorem each_reads {pins : List (Addr × Obj)} {σ : L2.St} {H : Hp} {s : Shared} {h : Hq} (I : Inv X pins σ H s) (rh : RH h H) : ∀ {xs : List Val} {ds : List PyData} {its : List Value}, mapO (dt1 h) xs = some ds → EachIs (fun u w => ∃ x, RelV x u ∧ RV h H w x) its xs → EachIs (fun u w => ∃ as, Reads s.heap u (dtD h w) as) its xs
  | _, _, _, _, .nil => .nil
  | x :: xs, _, _, e, .cons ⟨y, r1, r2⟩ t => by
    unfold mapO at e
    split at e
    · rename_i d ds e1 e2
      refine .cons ?_ (each_reads I rh e2 t)
      unfold dtD
      rw [e1]
      exact Dp.reads I d y _ (dt1_dp kk rh _ _ _ e1 r2) r1
    · cases e
omit kk in
theorem mapO_dtD {h : Hq} : ∀ {xs : List Val} {ds : List PyData}, mapO (dt1 h) xs = some ds → ds = xs.map (dtD h)
  | [], _, e => by cases e; rfl
  | x :: xs, _, e => by
    unfold mapO at e
    split at e
    · rename_i d ds e1 e2
      cases e
      rw [List.map_cons, ← mapO_dtD e2]
      unfold dtD
      rw [e1]; rfl
    · cases e
omit kk in
theorem keyI_map : ∀ {xs : List Key} {ks : List Int}, mapO keyI xs = some ks → xs = ks.map Sum.inl
  | [], _, e => by cases e; rfl
  | x :: xs, _, e => by
    unfold mapO at e
    split at e
    · rename_i k ks e1 e2
      cases e
      rw [List.map_cons, ← keyI_map e2]
      cases x with
      | inl i => cases e1; rfl
      | inr i => cases e1
    · cases e
omit kk in
theorem call_lenD' : CallR X (.builtin "len") (fun xs H Q => ∃ a kvs, xs = [V.ref a] ∧ Rd H a (.dK kvs) ∧ Q (.int kvs.length) H) := by
  intro pins s σ H xs us Q I r h
  obtain ⟨a, kvs, rfl, ha, q⟩ := h
  obtain ⟨u, rfl, ru⟩ := vals1 r
  cases ru
  exact d_len I ha fun t s' I' => ⟨.int kvs.length, H, I', ⟨t, rfl⟩, q⟩
theorem sorted_tups {pins : List (Addr × Obj)} {σ : L2.St} {H : Hp} {s : Shared} {us : List Value} {Q : VK} {h : Hq} {fz : Bool} {p : Addr} {xs : List Val} {ws : List V} {ds : List PyData} (hu : X.A.units + 70 < cLine)
    (I : Inv X pins σ H s) (r : Vals [V.ref p] us) (rh : RH h H) (q2 : SqL X.K H p ws) (q3 : RVs h H xs ws) (e : mapO (dt1 h) xs = some ds) (ha : AllAlike ds) (hk : Sortable ds) (hs : shp ds) (ho : Out.w (KQ h H Q) (.al fz (xs.mergeSort (dataLe false (dtD h))) h)) :
    wpAny (model X.prog X.w) X.A (PySem.call (.builtin "sorted") us) (EP X pins σ Q) X.xe s := by
  obtain ⟨its, rv, hl, hz⟩ := I.list q2
  rw [Vals.ref1 r]
  have ed := mapO_dtD e
  subst ed
  have ea := each_of q3 rv
  have hlen : xs.length ≤ sizeLine := by rw [q3.length]; exact hz
  refine sorted_data (R := fun u w => ∃ x, RelV x u ∧ RV h H w x) (enc := dtD h) (bs := xs) hl.isList ea (each_reads kk I rh e ea) ha hk hlen (fun b hb => ?_) fun out h1 h2 => ?_
  · have := shp_depth (hs _ (List.mem_map.mpr ⟨b, hb, rfl⟩))
    omega
  · obtain ⟨vs, k1, k2⟩ := each_back h2
    obtain ⟨ep, he'⟩ := PyProof.Rows.sortedAll_at s.heap its out.toArray
    have hl2 : vs.length ≤ sizeLine := by rw [← k1.length, List.length_mergeSort]; exact hlen
    exact ⟨.ref _, upd H (s.heap.objs.size + 1) (.lst vs), I.laid (t' := s.toks) (fun _ _ => PyProof.Rows.sortedAll_old) (Nat.le_succ _) ⟨hl2, out, ep, k2, he'⟩, rfl, out_list rh k1 ho _ (I.hok.fresh (Nat.le_succ _))⟩
theorem sound_blt (hc : X.calm = true) (hu : X.A.units + 70 < cLine) {b : Bl} {fz : Bool} (hb : ∀ ts, b ≠ .isi ts) : CallR X b.val (RLx (bltR b fz)) := by
  intro pins s σ H xs us Q I r ⟨h, vs, rh, rv, w⟩
  obtain ⟨⟨c, out⟩, e, hcc, ho⟩ := optW_ex w
  cases b with
  | isi ts => exact absurd rfl (hb ts)
  | str => cases e
  | len =>
    unfold bltR at e; dsimp only at e
    split at e
    · split at e
      · rename_i ys e1
        cases e
        obtain ⟨x, q0, r1⟩ := rvs1 rv
        obtain ⟨p, ws, q1, q2, q3⟩ := sq_read (K := X.K) kk rh r1 e1
        subst q0 q1
        exact call_len_seq pins s σ H _ us Q I r ⟨p, ws, rfl, q2, by rw [← q3.length]; exact KQ.here ho rh rfl⟩
      · obtain ⟨kvs, e1, e2⟩ := Option.map_eq_some_iff.mp e
        cases e2
        obtain ⟨x, q0, r1⟩ := rvs1 rv
        obtain ⟨p, ws, q1, q2, q3⟩ := dr_read rh r1 e1
        subst q0 q1
        have hl : ws.length = kvs.length := by have := q3.length; omega
        exact call_lenD' pins s σ H _ us Q I r ⟨p, ws, rfl, q2, by rw [hl]; exact KQ.here ho rh rfl⟩
    · cases e
  | abs =>
    unfold bltR at e; dsimp only at e
    split at e
    · cases e
      obtain ⟨x, q0, r1⟩ := rvs1 rv
      cases r1; subst q0
      exact call_abs pins s σ H _ us Q I r ⟨_, rfl, KQ.here ho rh rfl⟩
    · cases e
  | max =>
    unfold bltR at e; dsimp only at e
    split at e
    · cases e
      obtain ⟨x, y, q0, r1, r2⟩ := rvs2 rv
      cases r1; cases r2; subst q0
      exact call_max2 hc pins s σ H _ us Q I r ⟨_, _, rfl, KQ.here ho rh rfl⟩
    · split at e
      · rename_i ns e1
        cases e
        obtain ⟨ys, e3, e4⟩ := Option.bind_eq_some_iff.mp e1
        obtain ⟨x, q0, r1⟩ := rvs1 rv
        obtain ⟨p, ws, q1, q2, q3⟩ := ls_read (K := X.K) kk rh r1 e3
        obtain rfl := RVs.ints' q3 e4
        subst q0 q1
        obtain ⟨m1, m2⟩ := maxL_mem ns hcc
        refine cr_max hc pins s σ H _ us Q I r ⟨p, ns, rfl, q2, List.length_pos_iff.mpr hcc, fun m h1 h2 => ?_⟩
        rw [show m = maxL ns from Int.le_antisymm (m2 m h1) (h2 _ m1)]
        exact KQ.here ho rh rfl
      · obtain ⟨ys, e3, e4⟩ := Option.bind_eq_some_iff.mp e
        obtain ⟨x, q0, r1⟩ := rvs1 rv
        obtain ⟨p, ws, q1, q2, q3⟩ := lv_read rh r1 e3
        subst q0 q1
        exact max_tups kk hc hu I r rh q2 q3 e4 hcc ho
    · cases e
  | min =>
    unfold bltR at e; dsimp only at e
    split at e
    · cases e
      obtain ⟨x, y, q0, r1, r2⟩ := rvs2 rv
      cases r1; cases r2; subst q0
      exact call_min2 hc pins s σ H _ us Q I r ⟨_, _, rfl, KQ.here ho rh rfl⟩
    · obtain ⟨ns, e1, e2⟩ := Option.map_eq_some_iff.mp e
      cases e2
      obtain ⟨ys, e3, e4⟩ := Option.bind_eq_some_iff.mp e1
      obtain ⟨x, q0, r1⟩ := rvs1 rv
      obtain ⟨p, ws, q1, q2, q3⟩ := ls_read (K := X.K) kk rh r1 e3
      obtain rfl := RVs.ints' q3 e4
      subst q0 q1
      obtain ⟨m1, m2⟩ := minL_mem ns hcc
      refine cr_min hc pins s σ H _ us Q I r ⟨p, ns, rfl, q2, List.length_pos_iff.mpr hcc, fun m h1 h2 => ?_⟩
      rw [show m = minL ns from Int.le_antisymm (h2 _ m1) (m2 m h1)]
      exact KQ.here ho rh rfl
    · cases e
  | sum =>
    unfold bltR at e; dsimp only at e
    split at e
    · obtain ⟨ns, e1, e2⟩ := Option.map_eq_some_iff.mp e
      cases e2
      obtain ⟨ys, e3, e4⟩ := Option.bind_eq_some_iff.mp e1
      obtain ⟨x, q0, r1⟩ := rvs1 rv
      obtain ⟨p, ws, q1, q2, q3⟩ := ls_read (K := X.K) kk rh r1 e3
      obtain rfl := RVs.ints' q3 e4
      subst q0 q1
      exact cr_sum hc pins s σ H _ us Q I r ⟨p, ns, rfl, q2, KQ.here ho rh rfl⟩
    · cases e
  | any =>
    unfold bltR at e; dsimp only at e
    split at e
    · obtain ⟨ns, e1, e2⟩ := Option.map_eq_some_iff.mp e
      cases e2
      obtain ⟨ys, e3, e4⟩ := Option.bind_eq_some_iff.mp e1
      obtain ⟨x, q0, r1⟩ := rvs1 rv
      obtain ⟨p, ws, q1, q2, q3⟩ := ls_read (K := X.K) kk rh r1 e3
      obtain rfl := RVs.bls' q3 e4
      subst q0 q1
      exact cr_any hc pins s σ H _ us Q I r ⟨p, ns, rfl, q2, KQ.here ho rh rfl⟩
    · cases e
  | all =>
    unfold bltR at e; dsimp only at e
    split at e
    · obtain ⟨ns, e1, e2⟩ := Option.map_eq_some_iff.mp e
      cases e2
      obtain ⟨ys, e3, e4⟩ := Option.bind_eq_some_iff.mp e1
      obtain ⟨x, q0, r1⟩ := rvs1 rv
      obtain ⟨p, ws, q1, q2, q3⟩ := ls_read (K := X.K) kk rh r1 e3
      obtain rfl := RVs.bls' q3 e4
      subst q0 q1
      exact cr_all hc pins s σ H _ us Q I r ⟨p, ns, rfl, q2, KQ.here ho rh rfl⟩
    · cases e
  | sorted =>
    unfold bltR at e; dsimp only at e
    split at e
    · split at e
      · rename_i ns e1
        cases e
        obtain ⟨ys, e3, e4⟩ := Option.bind_eq_some_iff.mp e1
        obtain ⟨x, q0, r1⟩ := rvs1 rv
        obtain ⟨p, ws, q1, q2, q3⟩ := ls_read (K := X.K) kk rh r1 e3
        obtain rfl := RVs.ints' q3 e4
        subst q0 q1
        refine cr_sortedI pins s σ H _ us Q I r ⟨p, ns, rfl, q2, fun ns' p' h1 h2 n => ?_⟩
        rw [sorted_uniq (h1.trans (sortI_perm ns).symm) h2 (sortI_sorted ns)]
        exact out_list rh RVs.of_ints ho p' n
      · split at e
        · rename_i ys e3
          obtain ⟨x, q0, r1⟩ := rvs1 rv
          obtain ⟨p, ws, q1, q2, q3⟩ := ls_read (K := X.K) kk rh r1 e3
          subst q0 q1
          unfold ordL at e
          obtain ⟨ds, e5, e6⟩ := Option.map_eq_some_iff.mp e
          cases e6
          exact sorted_tups kk hu I r rh q2 q3 e5 hcc.1 hcc.2.1 hcc.2.2 ho
        · obtain ⟨ks, e3, e4⟩ := Option.map_eq_some_iff.mp e
          cases e4
          obtain ⟨kvs, e5, e6⟩ := Option.bind_eq_some_iff.mp e3
          obtain ⟨x, q0, r1⟩ := rvs1 rv
          obtain ⟨p, us', q1, q2, q3⟩ := dr_read rh r1 e5
          subst q0 q1
          have hk : us'.map (·.1) = ks.map Sum.inl := by rw [q3.1]; exact keyI_map e6
          refine call_sortedDI hc pins s σ H _ us Q I r ⟨p, us', ks, rfl, q2, hk, hcc, fun ys' p' h1 h2 n => ?_⟩
          rw [sorted_uniq (h1.trans (sortI_perm ks).symm) h2 (sortI_sorted ks)]
          exact out_list rh RVs.of_ints ho p' n
    · cases e
  | list =>
    unfold bltR at e; dsimp only at e
    split at e
    · obtain ⟨ys, e1, e2⟩ := Option.map_eq_some_iff.mp e
      cases e2
      obtain ⟨x, q0, r1⟩ := rvs1 rv
      obtain ⟨p, ws, q1, q2, q3⟩ := sq_read (K := X.K) kk rh r1 e1
      subst q0 q1
      exact call_list_of pins s σ H _ us Q I r ⟨p, ws, rfl, q2, out_list rh q3 ho⟩
    · cases e
  | tuple =>
    unfold bltR at e; dsimp only at e
    split at e
    · obtain ⟨ys, e1, e2⟩ := Option.map_eq_some_iff.mp e
      cases e2
      obtain ⟨x, q0, r1⟩ := rvs1 rv
      obtain ⟨p, ws, q1, q2, q3⟩ := ls_read (K := X.K) kk rh r1 e1
      subst q0 q1
      refine call_tuple_of pins s σ H _ us Q I r ⟨p, ws, rfl, .inl ⟨q2, fun l n => ?_⟩⟩
      have k := Stab.alloc (h := h) (o := .tup ws) n
      exact (show KQ h H Q (.tup ys) h from ho) _ _ (rh.alloc n) k ⟨l, _, rfl, rh.free n, upd_same, RVs.keep k q3⟩
    · cases e
  | int =>
    unfold bltR at e; dsimp only at e
    split at e
    · cases e
      obtain ⟨x, q0, r1⟩ := rvs1 rv
      cases r1; subst q0
      exact call_int1 pins s σ H _ us Q I r (.inl ⟨_, rfl, KQ.here ho rh rfl⟩)
    · cases e
      obtain ⟨x, q0, r1⟩ := rvs1 rv
      cases r1; subst q0
      exact call_int1 pins s σ H _ us Q I r (.inr ⟨_, rfl, KQ.here ho rh rfl⟩)
    · cases e
/-- isinstance of a built-in kind -/
theorem sound_isi {t : Ty} {fz : Bool} {H : Hp} {x : V} {h : Hq} {a : Val} {Q : VK} (rh : RH h H) (ra : RV h H a x) (w : prW (bltR (.isi [t]) fz [a] h) (KQ h H Q)) : rIsi X.K [x, .ty (tyN t)] H Q := by
  obtain ⟨⟨c, out⟩, e, hc, ho⟩ := optW_ex w
  unfold bltR at e; dsimp only at e
  obtain ⟨us, e1, e2⟩ := Option.map_eq_some_iff.mp e
  cases e2
  have go : ∀ (n : String) (k : Bool), TyX X.K H x (.type n) → kitB n (tyN t) = some k → ([t].any fun t => decide (t ∈ us)) = k → rIsi X.K [x, .ty (tyN t)] H Q := fun n k y e3 e4 =>
    ⟨x, .ty (tyN t), .type n, .type (tyN t), k, rfl, .ty _, y, kit_ty e3, by rw [← e4]; exact KQ.here ho rh rfl⟩
  cases a with
  | non => cases e1; cases ra; exact go "NoneType" false (.base .non) (by cases t <;> decide +kernel) (by cases t <;> rfl)
  | bl b => cases e1; cases ra; exact go "bool" (decide (t = .bool) || decide (t = .int)) (.base (.bl b)) (by cases t <;> decide +kernel) (by cases t <;> rfl)
  | int b => cases e1; cases ra; exact go "int" (decide (t = .int)) (.base (.int b)) (by cases t <;> decide +kernel) (by cases t <;> rfl)
  | str b => cases e1; cases ra; exact go "str" (decide (t = .str)) (.base (.str b)) (by cases t <;> decide +kernel) (by cases t <;> rfl)
  | tup b =>
    cases e1
    obtain ⟨p, vs, q1, _, q2, _⟩ := ra
    subst q1
    exact go "tuple" (decide (t = .tuple)) (.base (.tup q2)) (by cases t <;> decide +kernel) (by cases t <;> rfl)
  | fl b =>
    cases e1
    obtain ⟨p, vs, q1, _, q2, _⟩ := ra
    subst q1
    exact go "list" (decide (t = .list)) (.base (.lst q2)) (by cases t <;> decide +kernel) (by cases t <;> rfl)
  | fd ks b =>
    cases e1
    obtain ⟨p, vs, q1, _, q2, _⟩ := ra
    subst q1
    exact go "dict" (decide (t = .dict)) (.base (.dK q2)) (by cases t <;> decide +kernel) (by cases t <;> rfl)
  | wd ks b => cases e1
  | sc b =>
    cases e1
    obtain ⟨p, q1, q2⟩ := ra
    subst q1
    rcases q2 with ⟨_, o, q2⟩ | q2
    · exact go "list" (decide (t = .list)) (.base (.frz q2)) (by cases t <;> decide +kernel) (by cases t <;> rfl)
    · rcases q2 (fun _ => none) with (z | ⟨_, z⟩) | ⟨o, its, m, z, c, _⟩
      · cases z
      · cases z
      · exact go "list" (decide (t = .list)) (.kList (kk ▸ z) c) (by cases t <;> decide +kernel) (by cases t <;> rfl)
  | ref b =>
    cases (show x = .ref b from ra)
    unfold tyOf at e1
    dsimp only at e1
    split at e1
    · rename_i ys q
      cases e1
      obtain ⟨vs, q2, _⟩ := rh b _ q
      exact go "list" (decide (t = .list)) (.base (.lst q2)) (by cases t <;> decide +kernel) (by cases t <;> rfl)
    · rename_i ys q
      cases e1
      obtain ⟨vs, q2, _⟩ := rh b _ q
      exact go "dict" (decide (t = .dict)) (.base (.dK q2)) (by cases t <;> decide +kernel) (by cases t <;> rfl)
    · cases e1

/-! ### methods of lists, stores -/
def Mt.nm : Mt → Str
  | .append => "append" | .extend => "extend" | .pop => "pop" | .insert => "insert" | .reverse => "reverse" | .clear => "clear" | .index => "index" | .count => "count" | .dget => "get" | .dupd => "update"
def Mt.ty : Mt → String | .dget => "dict" | .dupd => "dict" | _ => "list"
def Mt.id : Mt → String
  | .append => "list.append" | .extend => "list.extend" | .pop => "list.pop" | .insert => "list.insert" | .reverse => "list.reverse" | .clear => "list.clear" | .index => "list.index" | .count => "list.count" | .dget => "dict.get" | .dupd => "dict.update"
def RMx (f : Val → List Val → Hq → Pr) : V → List V → Hp → VK → Prop := fun x xs H Q => ∃ h a vs, RH h H ∧ RV h H a x ∧ RVs h H vs xs ∧ prW (f a vs h) (KQ h H Q)
omit kk in
theorem ixN_seq' {n : Nat} {i : Int} {j : Nat} (h : ixN n i = some j) (hn : n ≤ sizeLine) : seqIndex? i n = some j ∧ -(2 ^ 63) ≤ i ∧ i < 2 ^ 63 := by
  obtain ⟨a, b, c, d⟩ := ixN_seq h
  have := line63
  refine ⟨a, by omega, by omega⟩
omit kk in
theorem sound_mthL {m : Mt} (hs : ∀ pins s σ H p xs, Inv X pins σ H s → H p = some (.lst xs) → xs.length ≤ sizeLine) : MtR X m.id (RMx (fun o vs h => (lstAt h o).bind fun q => lmR m q.1 q.2 vs h)) := by
  intro pins s σ H x xs v us Q I rx r ⟨h, a, vs, rh, ra, rv, w⟩
  obtain ⟨⟨c, out⟩, e, hc, ho⟩ := optW_ex w
  dsimp only at e
  obtain ⟨⟨l, ys⟩, e1, e2⟩ := Option.bind_eq_some_iff.mp e
  obtain ⟨q1, q2, ws, q3, q4⟩ := lstAt_read rh ra e1
  dsimp only at q1 q2 q3 q4 e2
  subst q1
  have hl := hs pins s σ H l ws I q3
  unfold lmR at e2
  cases m with
  | append =>
    dsimp only at e2
    split at e2
    · cases e2
      obtain ⟨y, q0, r1⟩ := rvs1 rv
      subst q0
      exact mt_append pins s σ H _ _ v us Q I rx r ⟨l, ws, y, rfl, rfl, q3, by rw [← q4.length]; exact len_lt hc, write_out rh q2 (q4.app (.cons r1 .nil)) (show RV h H Val.non V.non from rfl) ho⟩
    · cases e2
  | extend =>
    dsimp only at e2
    split at e2
    · obtain ⟨zs, e3, e4⟩ := Option.map_eq_some_iff.mp e2
      cases e4
      obtain ⟨y, q0, r1⟩ := rvs1 rv
      obtain ⟨b, us', q5, q6, q7⟩ := lv_read rh r1 e3
      subst q0 q5
      exact mt_extend pins s σ H _ _ v us Q I rx r ⟨l, b, ws, us', rfl, rfl, q3, q6, by rw [← q4.length, ← q7.length]; exact len_ok hc, write_out rh q2 (q4.app q7) (show RV h H Val.non V.non from rfl) ho⟩
    · cases e2
  | pop =>
    dsimp only at e2
    split at e2
    · obtain ⟨z, e3, e4⟩ := Option.map_eq_some_iff.mp e2
      cases e4
      rw [q4.length] at e3
      obtain ⟨y, e5, r5⟩ := q4.get e3
      have : xs = [] := rv
      subst this
      exact mt_pop pins s σ H _ _ v us Q I rx r ⟨l, ws, y, rfl, rfl, q3, e5, write_out rh q2 q4.dropLast r5 ho⟩
    · obtain ⟨k, e3, e4⟩ := Option.bind_eq_some_iff.mp e2
      obtain ⟨z, e5, e6⟩ := Option.map_eq_some_iff.mp e4
      cases e6
      obtain ⟨y, q0, r1⟩ := rvs1 rv
      obtain ⟨y', e7, r7⟩ := q4.get e5
      rw [q4.length] at e3
      obtain ⟨k1, k2, k3⟩ := ixN_seq' e3 hl
      cases r1
      subst q0
      exact mt_popAt pins s σ H _ _ v us Q I rx r ⟨l, ws, _, k, y', rfl, rfl, q3, k2, k3, k1, e7, write_out rh q2 (q4.eraseIdx k) r7 ho⟩
    · cases e2
  | reverse =>
    dsimp only at e2
    split at e2
    · cases e2
      have : xs = [] := rv
      subst this
      exact mt_reverse pins s σ H _ _ v us Q I rx r ⟨l, ws, rfl, rfl, q3, write_out rh q2 q4.reverse (show RV h H Val.non V.non from rfl) ho⟩
    · cases e2
  | clear =>
    dsimp only at e2
    split at e2
    · cases e2
      have : xs = [] := rv
      subst this
      exact mt_clear pins s σ H _ _ v us Q I rx r ⟨l, ws, rfl, rfl, q3, write_out rh q2 RVs.nil (show RV h H Val.non V.non from rfl) ho⟩
    · cases e2
  | insert =>
    dsimp only at e2
    split at e2
    · cases e2
      obtain ⟨y, z, q0, r1, r2⟩ := rvs2 rv
      cases r1
      subst q0
      refine mt_insert pins s σ H _ _ v us Q I rx r ⟨l, ws, _, z, rfl, rfl, q3, by rw [← q4.length]; exact len_lt hc.2.2, hc.1, by have := hc.2.1; omega, ?_⟩
      exact write_out rh q2 (((q4.take _).app (.cons r2 .nil)).app (q4.drop _)) (show RV h H Val.non V.non from rfl) ho
    · cases e2
  | index => cases e2
  | count => cases e2
  | dget => cases e2
  | dupd => cases e2
omit kk in
theorem sound_dget (hu : X.A.units + 1 < cLine) : MtR X "dict.get" (RMx dgR) := by
  intro pins s σ H x xs v us Q I rx r ⟨h, a, vs, rh, ra, rv, w⟩
  obtain ⟨⟨c, out⟩, e, hc, ho⟩ := optW_ex w
  unfold dgR at e
  obtain ⟨kvs, e1, e2⟩ := Option.bind_eq_some_iff.mp e
  obtain ⟨p, us', q1, q2, q3⟩ := dr_read rh ra e1
  subst q1
  obtain rfl : v = Value.ref p := rx
  split at e2
  · cases e2
    obtain ⟨z, q0, r1⟩ := rvs1 rv
    subst q0
    cases r1
    cases r with
    | cons ra rb =>
      cases rb
      cases ra
      obtain ⟨_, hd, vs', _, dd⟩ := dk_rd I.hok q2
      obtain ⟨f, hm, hf⟩ := none_map dd
      refine call_meetsIn PySem.F.slot_dict_get dd.typeIs PySem.F.entry_dict_get (PySem.F.args_dict_get_2 _ _) (meets_dict_get (noneKind X.prog X.w) p (show (noneKind X.prog X.w).is none .none = true from rfl) hd) ⟨f, hm, ⟨.non, H, I.tok _, by rw [hf]; rfl, KQ.here ho rh rfl⟩⟩
  · rename_i d
    cases e2
    obtain ⟨z, z', q0, r1, r2⟩ := rvs2 rv
    subst q0
    cases r1
    cases r with
    | cons ra rb =>
      cases rb with
      | cons rb rc =>
        cases rc
        cases ra
        obtain ⟨_, hd, vs', _, dd⟩ := dk_rd I.hok q2
        obtain ⟨f, hm, hf⟩ := none_map dd
        rename_i u' _
        refine call_meetsIn PySem.F.slot_dict_get dd.typeIs PySem.F.entry_dict_get (PySem.F.args_dict_get_3 _ _ _) (meets_dict_get_default (noneKind X.prog X.w) p (show (noneKind X.prog X.w).is none .none = true from rfl) hd _) ⟨f, hm, ⟨z', H, I.tok _, by rw [hf]; exact rb, KQ.here ho rh r2⟩⟩
  · rename_i y
    obtain ⟨k, e3, e4⟩ := Option.map_eq_some_iff.mp e2
    cases e4
    obtain ⟨z, q0, r1⟩ := rvs1 rv
    subst q0
    obtain rfl := key_read r1 e3
    cases r with
    | cons ra rb =>
      cases rb
      refine d_get1 hu I (DGet.k' q2) ra fun w' s' I' rw' => ⟨_, H, I', rw', ?_⟩
      rcases q3.get (k := k) with ⟨z1, z2⟩ | ⟨v', z, z1, z2, z3⟩
      · rw [z1] at ho; rw [z2]; exact KQ.here ho rh (show RV h H Val.non V.non from rfl)
      · rw [z1] at ho; rw [z2]; exact KQ.here ho rh z3
  · rename_i y d
    obtain ⟨k, e3, e4⟩ := Option.map_eq_some_iff.mp e2
    cases e4
    obtain ⟨z, z', q0, r1, r2⟩ := rvs2 rv
    subst q0
    obtain rfl := key_read r1 e3
    cases r with
    | cons ra rb =>
      cases rb with
      | cons rb rc =>
        cases rc
        refine d_get2 hu I (DGet.k' q2) ra rb fun w' s' I' rw' => ⟨_, H, I', rw', ?_⟩
        rcases q3.get (k := k) with ⟨z1, z2⟩ | ⟨v', z, z1, z2, z3⟩
        · rw [z1] at ho; rw [z2]; exact KQ.here ho rh r2
        · rw [z1] at ho; rw [z2]; exact KQ.here ho rh z3
  · cases e2
omit kk in
theorem sound_dupd : MtR X "dict.update" (RMx duR) := by
  intro pins s σ H x xs v us Q I rx r ⟨h, a, vs, rh, ra, rv, w⟩
  obtain ⟨⟨c, out⟩, e, hc, ho⟩ := optW_ex w
  unfold duR at e
  obtain ⟨q, e1, e2⟩ := Option.bind_eq_some_iff.mp e
  obtain ⟨q1, q2, us1, q3, q4⟩ := dicAt_read rh ra e1
  subst q1
  obtain rfl : v = Value.ref q.1 := rx
  split at e2
  · rename_i y
    obtain ⟨kvs, e3, e4⟩ := Option.map_eq_some_iff.mp e2
    cases e4
    obtain ⟨z, q0, r1⟩ := rvs1 rv
    subst q0
    obtain ⟨p, ms, p1, p2, p3⟩ := dr_read rh r1 e3
    subst p1
    cases r with
    | cons ra rb =>
      cases rb
      obtain rfl : _ = Value.ref p := ra
      have hne : q.1 ≠ p := by
        intro z
        subst z
        cases y with
        | ref b => cases r1; exact hc.1 rfl
        | fd ks ws =>
          obtain ⟨b, _, z1, z2, _⟩ := r1
          cases z1
          rw [q2] at z2; cases z2
        | wd ks ws =>
          obtain ⟨b, _, z1, z2, _⟩ := r1
          cases z1
          rw [q2] at z2; cases z2
        | _ => cases e3
      obtain ⟨z1, hd1, vs1, rel1, dd1⟩ := dk_of I.hok q3
      obtain ⟨z2, hd2, vs2, rel2, dd2⟩ := dk_rd I.hok p2
      have hz : (mergeK us1 ms).length ≤ sizeLine := by
        have h1 := length_mergeK ms us1
        have h2 := q4.length
        have h3 := p3.length
        have h4 := len_ok hc.2
        omega
      refine call_meetsIn PySem.F.slot_dict_update dd1.typeIs PySem.F.entry_dict_update (PySem.F.args_dict_update_2 _ _) (PySem.meets_dict_update (mixKind X.prog X.w) q.1 p hne hd2) ⟨vs1, vs2, dd1, dd2, by rw [← rel1.length, ← rel2.length, ← q4.length, ← p3.length]; exact len_ok hc.2, fun h' d1 d2 sb => ?_⟩
      have rm := KV.merge rel2 rel1
      refine ⟨.non, _, d_write (t' := s.toks) I (by rw [q3]; exact True.intro) sb (let ⟨o, _, _, ho, _⟩ := d1; ⟨o, ho⟩) (dk_new (H' := upd H q.1 (.dK (mergeK us1 ms))) hz hd1 rm d1), rfl, ?_⟩
      exact writeD_out rh q2 (q4.merge' p3) (show RV h H Val.non V.non from rfl) ho
  · cases e2
theorem sound_index : MtR X "list.index" (RMx ixR) := by
  intro pins s σ H x xs v us Q I rx r ⟨h, a, vs, rh, ra, rv, w⟩
  obtain ⟨⟨c, out⟩, e, hc, ho⟩ := optW_ex w
  unfold ixR at e
  split at e
  · rename_i y
    obtain ⟨ys, e1, e2⟩ := Option.bind_eq_some_iff.mp e
    obtain ⟨j, e3, e4⟩ := Option.map_eq_some_iff.mp e2
    cases e4
    obtain ⟨p, ws, q1, q2, q3⟩ := ls_read (K := X.K) kk rh ra e1
    obtain ⟨z, q0, r1⟩ := rvs1 rv
    subst q0 q1
    obtain ⟨e5, f5⟩ := flt_is hc.1 r1
    obtain ⟨e6, f6⟩ := flt_all hc.2 q3
    obtain ⟨hj, hp, hb⟩ := List.findIdx?_eq_some_iff_getElem.mp e3
    refine mt_index pins s σ H _ _ v us Q I rx r ⟨p, ws, z, j, flV ys[j], rfl, rfl, q2, by rw [e5]; exact f5, f6, ?_, ?_, ?_, KQ.here ho rh rfl⟩
    · rw [e6, List.getElem?_map, List.getElem?_eq_getElem hj]; rfl
    · rw [e5]; exact hp
    · intro m z' hm hz'
      rw [e6, List.getElem?_map] at hz'
      have hml : m < ys.length := Nat.lt_trans hm hj
      rw [List.getElem?_eq_getElem hml] at hz'
      cases hz'
      have := hb m hm
      rw [e5]
      simpa using this
  · cases e
theorem sound_mth (hu : X.A.units + 1 < cLine) {m : Mt} (hs : ∀ pins s σ H p xs, Inv X pins σ H s → H p = some (.lst xs) → xs.length ≤ sizeLine) : MtR X m.id (RMx (mthR m)) := by
  cases m with
  | dget => exact sound_dget hu
  | dupd => exact sound_dupd
  | index => exact sound_index kk
  | _ => exact sound_mthL hs
omit kk in
theorem sound_set {H : Hp} {h : Hq} {o i v : Val} {xo xi xv : V} {K : Hq → Prop} {Q : Hp → Prop} (rh : RH h H) (ro : RV h H o xo) (ri : RV h H i xi) (rv : RV h H v xv) (w : setW o i v h K)
    (k : ∀ h' H', RH h' H' → Stab h H h' H' → K h' → Q H') : rSetL xo xi xv H Q ∨ ∃ a H', xo = .ref a ∧ DPut H a xi xv H' ∧ Q H' := by
  unfold setW at w
  split at w
  · rename_i q e0
    obtain ⟨j, e1, w1⟩ := optW_ex w
    obtain ⟨q1, q2, us, q3, q4⟩ := dicAt_read rh ro e0
    obtain rfl := key_read ri e1
    have st := Stab.write (H := H) (o := .dK (putK us j xv)) (d := .dic (dp q.2 j v)) q2
    exact .inr ⟨q.1, _, q1, DPut.k q3 (by rw [← q4.length]; exact len_lt w1.1), k _ _ (rh.put st ⟨_, upd_same, RKV.keep st (q4.put rv)⟩) st w1.2⟩
  left
  obtain ⟨⟨a, xs⟩, e1, w1⟩ := optW_ex w
  obtain ⟨n, e2, w2⟩ := optW_ex w1
  obtain ⟨j, e3, w3⟩ := optW_ex w2
  clear w w1 w2
  obtain ⟨q1, q2, vs, q3, q4⟩ := lstAt_read rh ro e1
  dsimp only at q1 q2 q3 q4 e3 w3
  cases i <;> first | (cases e2; done) | skip
  cases e2
  have st := Stab.write (H := H) (o := .lst (vs.set j xv)) (d := .lst (xs.set j v)) q2
  exact ⟨a, vs, n, j, q1, ri, q3, by rw [← q4.length]; exact e3, k _ _ (rh.put st ⟨_, upd_same, RVs.keep st (q4.set j rv)⟩) st w3⟩
end
end L3

set_option Elab.async false
set_option linter.all false
set_option maxRecDepth 100000
/-! L3, part 6: does a piece of the small language say what a piece of the text says? -/
namespace L3
open PySem PySem.Spec PyProof.Rows L2

/-! ### views -/
def asName : Expr → Option Str | .Name x _ => some x | _ => none
def asInt : Expr → Option Int | .Constant (.int i) _ _ => some i | _ => none
def asBl : Expr → Option Bool | .Constant (.bool i) _ _ => some i | _ => none
def asNon : Expr → Bool | .Constant .none _ _ => true | _ => false
def asStr3 : Expr → Option Str | .Constant (.str i) _ _ => some i | _ => none
def asBin : Expr → Option (Expr × Operator × Expr) | .BinOp l o r _ => some (l, o, r) | _ => none
def asUn : Expr → Option (UnaryOp × Expr) | .UnaryOp o r _ => some (o, r) | _ => none
def asCmp : Expr → Option (Expr × List CmpOp × List Expr) | .Compare l o r _ => some (l, o, r) | _ => none
def asBop : Expr → Option (BoolOp × List Expr) | .BoolOp o r _ => some (o, r) | _ => none
def asIf : Expr → Option (Expr × Expr × Expr) | .IfExp t a b _ => some (t, a, b) | _ => none
def asTup : Expr → Option (List Expr) | .Tuple es _ _ => some es | _ => none
def asLst : Expr → Option (List Expr) | .List es _ => some es | _ => none
def asDic0 : Expr → Bool | .Dict [] [] _ => true | _ => false
def asDic2 : Expr → Option (Expr × Expr × Expr × Expr) | .Dict [some k, some k2] [v, v2] _ => some (k, v, k2, v2) | _ => none
def asDic1 : Expr → Option (Expr × Expr) | .Dict [some k] [v] _ => some (k, v) | _ => none
def asSub : Expr → Option (Expr × Expr) | .Subscript v s _ => some (v, s) | _ => none
def asSlc : Expr → Option (Option Expr × Option Expr) | .Slice l u none _ => some (l, u) | _ => none
/-- a plain call: no keywords -/
def asCall : Expr → Option (Expr × List Expr × Pos) | .Call f es [] p => some (f, es, p) | _ => none
def asAttr : Expr → Option (Expr × Str × Pos) | .Attribute v n p => some (v, n, p) | _ => none
def asLC : Expr → Option (Expr × Expr × Expr × List Expr × Scope) | .ListComp e [⟨t, i, c, 0⟩] s _ => some (e, t, i, c, s) | _ => none
def isSlice : Expr → Bool | .Slice _ _ _ _ => true | _ => false
def isStar : Expr → Bool | .Starred _ _ => true | _ => false
def isSet : Expr → Bool | .Set _ _ _ => true | _ => false
def isComp : Expr → Bool | .ListComp .. => true | .SetComp .. => true | .DictComp .. => true | _ => false
def isTupD : Expr → Bool | .Tuple .. => true | _ => false
def isLstD : Expr → Bool | .List .. => true | _ => false
def isCall0 : Expr → Bool | .Call _ [] _ _ => true | _ => false
section
variable {pe : Expr}
theorem asName_is {x} (h : asName pe = some x) : ∃ p, pe = .Name x p := by cases pe <;> first | (cases h; done) | (cases h; exact ⟨_, rfl⟩)
theorem asInt_is {x} (h : asInt pe = some x) : ∃ k p, pe = .Constant (.int x) k p := by
  cases pe <;> first | (cases h; done) | skip
  rename_i c _ _; cases c <;> first | (cases h; done) | (cases h; exact ⟨_, _, rfl⟩)
theorem asBl_is {x} (h : asBl pe = some x) : ∃ k p, pe = .Constant (.bool x) k p := by
  cases pe <;> first | (cases h; done) | skip
  rename_i c _ _; cases c <;> first | (cases h; done) | (cases h; exact ⟨_, _, rfl⟩)
theorem asNon_is (h : asNon pe = true) : ∃ k p, pe = .Constant .none k p := by
  cases pe <;> first | (cases h; done) | skip
  rename_i c _ _; cases c <;> first | (cases h; done) | exact ⟨_, _, rfl⟩
theorem asStr3_is {x} (h : asStr3 pe = some x) : ∃ k p, pe = .Constant (.str x) k p := by
  cases pe <;> first | (cases h; done) | skip
  rename_i c _ _; cases c <;> first | (cases h; done) | (cases h; exact ⟨_, _, rfl⟩)
theorem asBin_is {x y z} (h : asBin pe = some (x, y, z)) : ∃ p, pe = .BinOp x y z p := by cases pe <;> first | (cases h; done) | (cases h; exact ⟨_, rfl⟩)
theorem asUn_is {x y} (h : asUn pe = some (x, y)) : ∃ p, pe = .UnaryOp x y p := by cases pe <;> first | (cases h; done) | (cases h; exact ⟨_, rfl⟩)
theorem asCmp_is {x y z} (h : asCmp pe = some (x, y, z)) : ∃ p, pe = .Compare x y z p := by cases pe <;> first | (cases h; done) | (cases h; exact ⟨_, rfl⟩)
theorem asBop_is {x y} (h : asBop pe = some (x, y)) : ∃ p, pe = .BoolOp x y p := by cases pe <;> first | (cases h; done) | (cases h; exact ⟨_, rfl⟩)
theorem asIf_is {x y z} (h : asIf pe = some (x, y, z)) : ∃ p, pe = .IfExp x y z p := by cases pe <;> first | (cases h; done) | (cases h; exact ⟨_, rfl⟩)
theorem asTup_is {x} (h : asTup pe = some x) : ∃ k p, pe = .Tuple x k p := by cases pe <;> first | (cases h; done) | (cases h; exact ⟨_, _, rfl⟩)
theorem asLst_is {x} (h : asLst pe = some x) : ∃ p, pe = .List x p := by cases pe <;> first | (cases h; done) | (cases h; exact ⟨_, rfl⟩)
theorem asDic0_is (h : asDic0 pe = true) : ∃ p, pe = .Dict [] [] p := by
  unfold asDic0 at h
  split at h
  · exact ⟨_, rfl⟩
  · cases h
theorem asDic2_is {x y x2 y2} (h : asDic2 pe = some (x, y, x2, y2)) : ∃ p, pe = .Dict [some x, some x2] [y, y2] p := by
  unfold asDic2 at h
  split at h
  · cases h; exact ⟨_, rfl⟩
  · cases h
theorem asDic1_is {x y} (h : asDic1 pe = some (x, y)) : ∃ p, pe = .Dict [some x] [y] p := by
  unfold asDic1 at h
  split at h
  · cases h; exact ⟨_, rfl⟩
  · cases h
theorem asSub_is {x y} (h : asSub pe = some (x, y)) : ∃ p, pe = .Subscript x y p := by cases pe <;> first | (cases h; done) | (cases h; exact ⟨_, rfl⟩)
theorem asSlc_is {x y} (h : asSlc pe = some (x, y)) : ∃ p, pe = .Slice x y none p := by
  cases pe <;> first | (cases h; done) | skip
  rename_i c _; cases c <;> first | (cases h; done) | (cases h; exact ⟨_, rfl⟩)
theorem asCall_is {x y p} (h : asCall pe = some (x, y, p)) : pe = .Call x y [] p := by
  cases pe <;> first | (cases h; done) | skip
  rename_i ks _; cases ks <;> first | (cases h; done) | (cases h; rfl)
theorem asAttr_is {x y p} (h : asAttr pe = some (x, y, p)) : pe = .Attribute x y p := by cases pe <;> first | (cases h; done) | (cases h; rfl)
theorem asLC_is {e t i c s} (h : asLC pe = some (e, t, i, c, s)) : ∃ p, pe = .ListComp e [⟨t, i, c, 0⟩] s p := by
  unfold asLC at h
  split at h
  · cases h; exact ⟨_, rfl⟩
  · cases h
end

/-! ### names -/
/-- what the text calls things: the defs' names, the module's constants, the exceptions' classes -/
structure Tb where
  nm : Nat → Option Str
  con : Str → Option Val
  xc : Nat → Addr
def visB (sc : Scope) (x : Str) : Bool := match sc.names.lookup x with | some .local => true | some .cell => true | some .free => true | _ => false
def gloB (sc : Scope) (x : Str) : Bool := decide (sc.names.lookup x = some .globalImplicit)
def locB (sc : Scope) (fb : Str → Bool) (x : Str) : Bool := match sc.names.lookup x with | some .local => true | some .cell => fb x | _ => false
def magic (x : Str) : Bool := (x == ("__debug__" : Str)) || (x == ("__classdict__" : Str)) || (x == ("__name__" : Str))
def eqFlat : Val → Val → Bool
  | .int i, .int j => decide (i = j)
  | .str i, .str j => decide (i = j)
  | .bl i, .bl j => decide (i = j)
  | .non, .non => true
  | _, _ => false
theorem eqFlat_is {a b : Val} (h : eqFlat a b = true) : a = b ∧ flt a = true := by
  cases a <;> cases b <;> first | (cases h; done) | exact ⟨rfl, rfl⟩ | exact ⟨by rw [of_decide_eq_true h], rfl⟩
/-- the names of several targets -/
def namesOf (N : List Str) (sc : Scope) (fb : Str → Bool) : List Nat → List Expr → Bool
  | [], [] => true
  | i :: is, e :: es => (match asName e with | some x => decide (N[i]? = some x) && locB sc fb x | none => false) && namesOf N sc fb is es
  | _, _ => false
def mT (N : List Str) (sc : Scope) (fb : Str → Bool) (tg : Tg) (pe : Expr) : Bool := match tg with
  | .name i => (match asName pe with | some x => decide (N[i]? = some x) && locB sc fb x | none => false)
  | .names is => (match asTup pe with | some es => namesOf N sc fb is es | none => false)
def ownOf (N : List Str) (own : List Nat) : List (Str × Nat) := own.filterMap fun i => (N[i]?).map fun x => (x, i)

/-- a comprehension's target is its own -/
def tgOwn : Tg → List Nat → Bool
  | .name i, own => decide (own = [i])
  | .names is, own => decide (own = is)
/-- the parts of more operations -/
def isFn (sc : Scope) (g : Expr) (x : Str) : Bool := decide (asName g = some x) && gloB sc x && !magic x
def asRev : Expr → Option Expr | .Subscript e (.Slice none none (some (.UnaryOp .USub (.Constant (.int 1) _ _) _)) _) _ => some e | _ => none
def mO1 (sc : Scope) (o : O1) (pe : Expr) : Option Expr := match o with
  | .lrange => (match asCall pe with
    | some (g, [c], _) => (match asCall c with | some (g2, [x], _) => if (isFn sc g "list" && isFn sc g2 "range" && !isStar x) = true then some x else none | _ => none)
    | _ => none)
  | .rev => asRev pe
  | .lenSet => (match asCall pe with
    | some (g, [c], _) => (match asCall c with | some (g2, [x], _) => if (isFn sc g "len" && isFn sc g2 "set" && !isStar x) = true then some x else none | _ => none)
    | _ => none)
  | .itemsS => (match asCall pe with
    | some (g, [c], _) => (match asCall c with | some (m, [], cp) => (match asAttr m with | some (x, n, ap) => if (isFn sc g "sorted" && decide (n = Str.ofString "items") && (ap.endLine == cp.line) && !isCall0 x) = true then some x else none | none => none) | _ => none)
    | _ => none)
  | .maxV => (match asCall pe with
    | some (g, [c], _) => (match asCall c with | some (m, [], cp) => (match asAttr m with | some (x, n, ap) => if (isFn sc g "max" && decide (n = Str.ofString "values") && (ap.endLine == cp.line) && !isCall0 x) = true then some x else none | none => none) | _ => none)
    | _ => none)
  | .dictP => (match asCall pe with | some (g, [x], _) => if (isFn sc g "dict" && !isStar x) = true then some x else none | _ => none)
def mO2 (sc : Scope) (o : O2) (pe : Expr) : Option (Expr × Expr) := match o with
  | .dictZ => (match asCall pe with
    | some (g, [c], _) => (match asCall c with | some (g2, [x, y], _) => if (isFn sc g "dict" && isFn sc g2 "zip" && !isStar x && !isStar y) = true then some (x, y) else none | _ => none)
    | _ => none)
  | .tmul => (match asBin pe with | some (x, .Mult, y) => some (x, y) | _ => none)
section
variable (T : Tb) (N : List Str)
mutual
def mE : Scope → Ex → Expr → Bool
  | sc, .var i, pe => (match asName pe with | some x => decide (N[i]? = some x) && visB sc x && !magic x | none => false)
  | _, .int i, pe => decide (asInt pe = some i)
  | _, .bl i, pe => decide (asBl pe = some i)
  | _, .non, pe => asNon pe
  | _, .str i, pe => decide (asStr3 pe = some i)
  | sc, .con x v, pe => decide (asName pe = some x) && gloB sc x && !magic x && (match T.con x with | some w => eqFlat v w | none => false)
  | sc, .bin o _ a b, pe => (match asBin pe with | some (l, op, r) => decide (op = bopOf o) && mE sc a l && mE sc b r | none => false)
  | sc, .neg a, pe => (match asUn pe with | some (.USub, r) => mE sc a r | _ => false)
  | sc, .not a, pe => (match asUn pe with | some (.Not, r) => mE sc a r | _ => false)
  | sc, .cmp o a b, pe => (match asCmp pe with | some (l, [op], [r]) => decide (op = copOf o) && !behindInMarks op r && mE sc a l && mE sc b r | _ => false)
  | sc, .chain o p a b c, pe => (match asCmp pe with | some (l, [op, op'], [r, r']) => decide (op = copOf o) && decide (op' = copOf p) && !lastMarks [op, op'] [r, r'] && mE sc a l && mE sc b r && mE sc c r' | _ => false)
  | sc, .bop i es, pe => (match asBop pe with | some (op, vs) => decide (op = if i then .And else .Or) && mEs sc es vs | none => false)
  | sc, .ite t a b, pe => (match asIf pe with | some (x, y, z) => mE sc t x && mE sc a y && mE sc b z | none => false)
  | sc, .tup es, pe => (match asTup pe with | some vs => mEs sc es vs | none => false)
  | sc, .lst _ es, pe => (match asLst pe with | some vs => mEs sc es vs | none => false)
  | sc, .idx a i, pe => (match asSub pe with | some (v, s) => !isSlice s && mE sc a v && mE sc i s | none => false)
  | sc, .slc _ a lo hi, pe => (match asSub pe with
    | some (v, s) => (match asSlc s with
      | some (l, u) => mE sc a v && (match l with | none => isNop lo | some x => !isNop lo && mE sc lo x) && (match u with | none => isNop hi | some x => !isNop hi && mE sc hi x)
      | none => false)
    | none => false)
  | sc, .call f es, pe => (match asCall pe with
    | some (g, as, _) => (match asName g with | some x => decide (T.nm f = some x) && gloB sc x && !magic x && !as.isEmpty && mEs sc es as | none => false)
    | none => false)
  | sc, .blt b _ es, pe => (match asCall pe with
    | some (g, as, _) => (match asName g with
      | some x => decide (x = b.nm) && gloB sc x && !magic x && (match b with
        | .isi [t] => (match es, as with
          | .cons e .nil, [a, n] => mE sc e a && !isStar a && decide (asName n = some (Str.ofString (tyN t))) && gloB sc (Str.ofString (tyN t)) && !magic (Str.ofString (tyN t))
          | _, _ => false)
        | .isi _ => false
        | _ => !as.isEmpty && mEs sc es as)
      | none => false)
    | none => false)
  | sc, .mth m o es, pe => (match asCall pe with
    | some (g, as, cp) => (match asAttr g with
      | some (v, n, ap) => decide (n = m.nm) && (ap.endLine == cp.line) && !isCall0 v && decide (as.length < 30) && mE sc o v && mEs sc es as
      | none => false)
    | none => false)
  | sc, .comp _ elt tg it cond own, pe => (match asLC pe with
    | some (e, t, i, cs, s) => mI sc it t i && !isSet i && blkC N sc s (ownOf N own) && decide ((ownOf N own).map (·.2) = own) && mT N (relS s sc) (fun x => s.names.lookup x == some .cell) tg t &&
        (match cs with | [] => isNop cond | [c] => !isNop cond && mE (relS s sc) cond c | _ => false) && mE (relS s sc) elt e && tgOwn tg own
    | none => false)
  | _, .dic0 _, pe => asDic0 pe
  | sc, .dic1 _ a b, pe => (match asDic1 pe with | some (x, y) => mE sc a x && mE sc b y | none => false)
  | sc, .dic2 _ a b c d, pe => (match asDic2 pe with | some (x, y, x2, y2) => mE sc a x && mE sc b y && mE sc c x2 && mE sc d y2 | none => false)
  | sc, .op1 o _ a, pe => (match mO1 sc o pe with | some x => mE sc a x | none => false)
  | sc, .op2 o _ a b, pe => (match mO2 sc o pe with | some (x, y) => mE sc a x && mE sc b y | none => false)
  | sc, .frz a, pe => mE sc a pe
  | sc, .frzD a, pe => mE sc a pe
  | _, .nop, _ => false
def mEs : Scope → Exs → List Expr → Bool
  | _, .nil, [] => true
  | sc, .cons e es, pe :: pes => !isStar pe && mE sc e pe && mEs sc es pes
  | _, _, _ => false
def mI : Scope → Itx → Expr → Expr → Bool
  | sc, .seq e, _, pe => mE sc e pe
  | sc, .keys e, _, pe => mE sc e pe
  | sc, .range1 a, _, pe => (match asCall pe with | some (g, [x], _) => decide (asName g = some (Str.ofString "range")) && gloB sc (Str.ofString "range") && !isStar x && mE sc a x | _ => false)
  | sc, .range2 a b, _, pe => (match asCall pe with | some (g, [x, y], _) => decide (asName g = some (Str.ofString "range")) && gloB sc (Str.ofString "range") && !isStar x && !isStar y && mE sc a x && mE sc b y | _ => false)
  | sc, .range3 a b c, _, pe => (match asCall pe with | some (g, [x, y, z], _) => decide (asName g = some (Str.ofString "range")) && gloB sc (Str.ofString "range") && !isStar x && !isStar y && !isStar z && mE sc a x && mE sc b y && mE sc c z | _ => false)
  | sc, .enum a, t, pe => isTupD t && (match asCall pe with | some (g, [x], _) => decide (asName g = some (Str.ofString "enumerate")) && gloB sc (Str.ofString "enumerate") && !isStar x && mE sc a x | _ => false)
  | sc, .zip a b, t, pe => isTupD t && (match asCall pe with | some (g, [x, y], _) => decide (asName g = some (Str.ofString "zip")) && gloB sc (Str.ofString "zip") && !isStar x && !isStar y && mE sc a x && mE sc b y | _ => false)
  | sc, .rev a, _, pe => (match asCall pe with | some (g, [x], _) => decide (asName g = some (Str.ofString "reversed")) && gloB sc (Str.ofString "reversed") && !isStar x && mE sc a x | _ => false)
end
end

/-! ### statements -/
def asAsg : Stmt → Option (Expr × Expr × Pos) | .Assign [t] v p => some (t, v, p) | _ => none
def asExp : Stmt → Option (Expr × Pos) | .Expr v p => some (v, p) | _ => none
def asRet : Stmt → Option (Option Expr) | .Return v _ => some v | _ => none
def asIfS : Stmt → Option (Expr × List Stmt × List Stmt) | .If t a b _ => some (t, a, b) | _ => none
def asFor : Stmt → Option (Expr × Expr × List Stmt) | .For t i b [] _ => some (t, i, b) | _ => none
def asWhl : Stmt → Option (Expr × List Stmt) | .While t b [] _ => some (t, b) | _ => none
def asPass : Stmt → Bool | .Pass _ => true | _ => false
section
variable {st : Stmt}
theorem asAsg_is {t v p} (h : asAsg st = some (t, v, p)) : st = .Assign [t] v p := by
  unfold asAsg at h; split at h <;> first | (cases h; rfl) | cases h
theorem asExp_is {v p} (h : asExp st = some (v, p)) : st = .Expr v p := by cases st <;> first | (cases h; done) | (cases h; rfl)
theorem asRet_is {v} (h : asRet st = some v) : ∃ p, st = .Return v p := by cases st <;> first | (cases h; done) | (cases h; exact ⟨_, rfl⟩)
theorem asIfS_is {t a b} (h : asIfS st = some (t, a, b)) : ∃ p, st = .If t a b p := by cases st <;> first | (cases h; done) | (cases h; exact ⟨_, rfl⟩)
theorem asFor_is {t a b} (h : asFor st = some (t, a, b)) : ∃ p, st = .For t a b [] p := by
  unfold asFor at h; split at h <;> first | (cases h; exact ⟨_, rfl⟩) | cases h
theorem asWhl_is {t b} (h : asWhl st = some (t, b)) : ∃ p, st = .While t b [] p := by
  unfold asWhl at h; split at h <;> first | (cases h; exact ⟨_, rfl⟩) | cases h
theorem asPass_is (h : asPass st = true) : ∃ p, st = .Pass p := by cases st <;> first | (cases h; done) | exact ⟨_, rfl⟩
end
def isCompE : Ex → Bool | .comp .. => true | _ => false
/-- a comprehension stored at a name: on one line, the name is none of its own; how it is stored hangs on whether the name is a cell -/
def compStore (sc : Scope) (t v : Expr) : Bool := match t, v with
  | .Name y py, .ListComp _ _ s pos => (py.line == pos.line) && !(s.names.any fun (n, k) => n == y && (k == .local || k == .cell)) && (decide (sc.names.lookup y = some .local) || decide (sc.names.lookup y = some .cell))
  | _, _ => !isComp v
theorem compStore_is {sc : Scope} {y : Str} {py : Pos} {v : Expr} (h : compStore sc (.Name y py) v = true) (hv : isComp v = true) : ∃ e gs s pos, v = .ListComp e gs s pos ∧ (py.line == pos.line) = true ∧
    (s.names.any fun (n, k) => n == y && (k == .local || k == .cell)) = false ∧ (sc.names.lookup y = some .local ∨ sc.names.lookup y = some .cell) := by
  unfold compStore at h
  split at h
  · rename_i y' py' _ _ s pos e1
    cases e1
    simp only [Bool.and_eq_true, Bool.or_eq_true, decide_eq_true_eq, Bool.not_eq_true'] at h
    exact ⟨_, _, _, _, rfl, h.1.1, h.1.2, h.2⟩
  · rw [hv] at h; cases h
section
variable (T : Tb) (N : List Str) (sc : Scope) (fb : Str → Bool)
mutual
def mS : Sm → Stmt → Bool
  | .asg tg e, st => (match asAsg st with
    | some (t, v, _) => mT N sc fb tg t && mE T N sc e v && (match tg with | .name _ => compStore sc t v && (!isComp v || isCompE e) | .names _ => !isTupD v)
    | none => false)
  | .asgI o i e, st => (match asAsg st with
    | some (t, v, _) => (match asSub t with | some (x, y) => !isSlice y && !isComp v && mE T N sc o x && mE T N sc i y && mE T N sc e v | none => false)
    | none => false)
  | .ex e, st => (match asExp st with | some (v, _) => !isComp v && mE T N sc e v | none => false)
  | .ret e, st => (match asRet st with | some (some v) => mE T N sc e v | _ => false)
  | .retN, st => (match asRet st with | some none => true | _ => false)
  | .ite t a b, st => (match asIfS st with | some (x, y, z) => mE T N sc t x && mSs a y && mSs b z | none => false)
  | .for tg it b, st => (match asFor st with | some (x, y, z) => mT N sc fb tg x && mI T N sc it x y && !isSet y && mSs b z | none => false)
  | .whl t b, st => (match asWhl st with | some (x, y) => mE T N sc t x && mSs b y | none => false)
  | .pass, st => asPass st
  | .never, _ => true
  | .kill _, _ => false
  | .fzv _, _ => false
def mSs : Sms → List Stmt → Bool
  | .nil, [] => true
  | .cons (.kill _) r, sts => mSs r sts
  | .cons (.fzv _) r, sts => mSs r sts
  | .cons s r, st :: sts => mS s st && mSs r sts
  | _, _ => false
end
end
end L3

set_option Elab.async false
set_option linter.all false
set_option maxRecDepth 100000
/-! L3, part 7: expressions keep what they say. -/
namespace L3
open PySem PySem.Spec PyProof.Rows L2
variable [Mo]

def bltNames : List Str := ["len", "abs", "max", "min", "sum", "any", "all", "sorted", "list", "tuple", "int", "str", "bool", "dict", "isinstance", "range", "enumerate", "zip", "reversed", "set", "repr"]
/-- the promise of a def -/
def spOf (T : Tb) (F : Fs) (n f : Nat) : Sp := fun vs H Q E => ∃ args h, RVs h H args vs ∧ RH h H ∧ CN F n f args h (KQ h H Q) (fun x h' => ∀ H', RH h' H' → Stab h H h' H' → E (.ref (T.xc x)) none H')
structure Good (T : Tb) (F : Fs) (n : Nat) (X : Cx) : Prop where
  calm : X.calm = true
  room : Room n X.A
  nd : X.N.Nodup
  kind : X.env.scope.kind = .function
  fn : ∀ f x, T.nm f = some x → ∃ a fd ps, X.mg x = some (.ref a) ∧ PySem.W.keepIn X.K (.ref a) = true ∧ Binds X.K fd ps [] ∧ FnOk X.prog X.w X.K X.mg X.base (L2.CX X.prog X.w) n a fd ps (spOf T F n f)
  blt : ∀ x ∈ bltNames, X.mg x = none
  con : ∀ x v, T.con x = some v → ∃ u, X.mg x = some u ∧ RelV (flV v) u
  own : PassesOwn (model X.prog X.w) X.A X.env X.xe
  kk : X.K = Mo.K
theorem Good.blk {T : Tb} {F : Fs} {n : Nat} {X : Cx} (G : Good T F n X) {s : Shared} {H : Hp} {scope : Scope} {cl : List (Str × Addr)} {C : Addr} {fp : List Addr} (hk : scope.kind = .function) :
    Good T F n (X.blk s H scope (compEnvC scope cl C X.env) fp) := ⟨G.calm, G.room, G.nd, hk, G.fn, G.blt, G.con, PassesOwn.never, G.kk⟩

/-- what is wished of an exception -/
def KE (T : Tb) (h : Hq) (H : Hp) (W : WX) (σ : L2.St) : QE := fun x h' => ∀ H', RH h' H' → Stab h H h' H' → W (.ref (T.xc x)) none σ H'
theorem KE.later {T : Tb} {h h1 h' : Hq} {H H1 : Hp} {W : WX} {σ : L2.St} {x : Nat} (st : Stab h H h1 H1) (k : KE T h H W σ x h') : KE T h1 H1 W σ x h' := fun H' rh s => k H' rh (st.trans s)
def TEx (T : Tb) (W : WX) (w : Env3 → Hq → QV → QE → Prop) : TE := fun σ H Q => ∃ ρ h, RE h H ρ σ ∧ RH h H ∧ w ρ h (KQ h H Q) (KE T h H W σ)
def KA (h : Hq) (H : Hp) (Q : List V → Hp → Prop) : List Val → Hq → Prop := fun vs h' => ∀ Vs H', RH h' H' → Stab h H h' H' → RVs h' H' vs Vs → Q Vs H'
def TAx (T : Tb) (W : WX) (w : Env3 → Hq → (List Val → Hq → Prop) → QE → Prop) : TA := fun σ H Q => ∃ ρ h, RE h H ρ σ ∧ RH h H ∧ w ρ h (KA h H Q) (KE T h H W σ)
def KT (h : Hq) (H : Hp) (Q : Bool → Hp → Prop) : Bool → Hq → Prop := fun b h' => ∀ H', RH h' H' → Stab h H h' H' → Q b H'
def TTx (T : Tb) (W : WX) (w : Env3 → Hq → (Bool → Hq → Prop) → QE → Prop) : TT := fun σ H Q => ∃ ρ h, RE h H ρ σ ∧ RH h H ∧ w ρ h (KT h H Q) (KE T h H W σ)

theorem _root_.L2.PE.imp {X : Cx} {e : Expr} {t t' : TE} (p : PE X e t) (k : ∀ σ H Q, t' σ H Q → t σ H Q) : PE X e t' := ⟨fun pins s σ H Q I h => p.run pins s σ H Q I (k σ H Q h)⟩
theorem _root_.L2.PT.imp {X : Cx} {e : Expr} {t t' : TT} (p : PT X e t) (k : ∀ σ H Q, t' σ H Q → t σ H Q) : PT X e t' := ⟨fun pins s σ H Q I h => p.run pins s σ H Q I (k σ H Q h)⟩
theorem _root_.L2.PW.imp {X : Cx} {e : Expr} {t t' : TT} (p : PW X e t) (k : ∀ σ H Q, t' σ H Q → t σ H Q) : PW X e t' := ⟨fun wh pins s σ H Q I h => p.run wh pins s σ H Q I (k σ H Q h)⟩
theorem _root_.L2.PA.imp {X : Cx} {e : List Expr} {t t' : TA} (p : PA X e t) (k : ∀ σ H Q, t' σ H Q → t σ H Q) : PA X e t' := ⟨fun pos pins s σ H Q I h => p.run pos pins s σ H Q I (k σ H Q h)⟩
theorem _root_.L2.PI.imp {X : Cx} {tg e : Expr} {t t' : TI} (p : PI X tg e t) (k : ∀ σ H Q, t' σ H Q → t σ H Q) : PI X tg e t' := ⟨fun pins s σ H Q I h => p.run pins s σ H Q I (k σ H Q h)⟩
theorem _root_.L2.PI.or {X : Cx} {tg e : Expr} {t t' : TI} (p : PI X tg e t) (p' : PI X tg e t') : PI X tg e (fun σ H R => t σ H R ∨ t' σ H R) := ⟨fun pins s σ H Q I h => h.elim (p.run pins s σ H Q I) (p'.run pins s σ H Q I)⟩
theorem pt_false {X : Cx} {e : Expr} {t : TT} (k : ∀ σ H Q, ¬ t σ H Q) : PT X e t := ⟨fun pins s σ H Q I h => (k σ H Q h).elim⟩

/-! ### the forms that the rules ask of the text -/
theorem star_cons {e : Expr} {es : List Expr} {env : PySem.Env} (h : isStar e = false) : starEach (e :: es) env = (false, eval e env) :: starEach es env := by
  cases e <;> first | rfl | (cases h)
theorem star_any {pos : Pos} {env : PySem.Env} : ∀ {es : List Expr}, (∀ e ∈ es, isStar e = false) → (backTo pos (starEach es env)).any (·.1) = false
  | [], _ => rfl
  | e :: es, h => by
    rw [star_cons (h e List.mem_cons_self)]
    show (false || (backTo pos (starEach es env)).any (·.1)) = false
    rw [star_any fun x hx => h x (List.mem_cons_of_mem _ hx)]; rfl
theorem star_all {pos : Pos} {env : PySem.Env} : ∀ {es : List Expr}, (∀ e ∈ es, isStar e = false) → (backTo pos (starEach es env)).all (fun x => !x.1) = true
  | [], _ => rfl
  | e :: es, h => by
    rw [star_cons (h e List.mem_cons_self)]
    show (!false && (backTo pos (starEach es env)).all (fun x => !x.1)) = true
    rw [star_all fun x hx => h x (List.mem_cons_of_mem _ hx)]; rfl
theorem plain_ix {e : Expr} (h : isSlice e = false) : PlainIx e := by
  intro o i; cases e <;> first | rfl | (cases h)
theorem base_plain {o : Expr} {m : Str} {env : PySem.Env} (h : isCall0 o = false) : attributeBase o m env (eval o env) = eval o env := by
  cases o <;> first | rfl | skip
  rename_i f as ks p
  cases as with
  | nil => cases h
  | cons a as => cases f <;> rfl
theorem fold_plain {e : Expr} {env : PySem.Env} (h : isSet e = false) : ∀ x, foldedSetIterable e env x = pure x := by
  intro x; cases e <;> first | rfl | (cases h)
theorem magic_is {x : Str} (h : magic x = false) : (x == ("__debug__" : Str)) = false ∧ (x == ("__classdict__" : Str)) = false ∧ x ≠ "__name__" := by
  unfold magic at h
  simp only [Bool.or_eq_false_iff] at h
  exact ⟨h.1.1, h.1.2, fun e => by rw [e] at h; have := h.2; simp at this⟩
theorem vis_is {sc : Scope} {x : Str} (h : visB sc x = true) : Vis sc x := by
  unfold visB at h; unfold Vis
  split at h <;> simp_all
theorem loc_is {sc : Scope} {fb : Str → Bool} {x : Str} (h : locB sc fb x = true) : L2.Loc sc x ∧ (fb x = true ∨ sc.names.lookup x = some .local) := by
  unfold locB at h; unfold L2.Loc
  split at h <;> simp_all
theorem glo_is {X : Cx} {x : Str} (h : gloB X.env.scope x = true) : Gl X x := by
  have h' : X.env.scope.names.lookup x = some .globalImplicit := of_decide_eq_true h
  exact h'

section
variable {T : Tb} {F : Fs} {n : Nat} {X : Cx} {W : WX}
theorem mEs_plain {N : List Str} {sc : Scope} : ∀ {es : Exs} {pes : List Expr}, mEs T N sc es pes = true → ∀ e ∈ pes, isStar e = false
  | .nil, [], _, _, he => by cases he
  | .cons _ _, p :: ps, h, e, he => by
    simp only [mEs, Bool.and_eq_true, Bool.not_eq_true'] at h
    rcases List.mem_cons.mp he with rfl | he
    · exact h.1.1
    · exact mEs_plain h.2 e he
  | .nil, _ :: _, h, _, _ => by simp [mEs] at h
  | .cons _ _, [], h, _, _ => by simp [mEs] at h

/-- one part's wish, from the whole's -/
theorem stepE {C : CT} (kc : MonoC C C) {e : Ex} {ρ : Env3} {h : Hq} {σ : L2.St} {H : Hp} {K : QV} {R : VK} {E : QE} (re : RE h H ρ σ) (rh : RH h H) (w : wpE C e ρ h K E) (ke : ∀ x h', E x h' → KE T h H W σ x h')
    (k : ∀ v h1 V H1, RE h1 H1 ρ σ → RH h1 H1 → Stab h H h1 H1 → RV h1 H1 v V → K v h1 → R V H1) : TEx T W (wpE C e) σ H R :=
  ⟨ρ, h, re, rh, wpE_mono kc e _ _ _ _ _ _ (fun v h1 q V H1 rh1 st rv => k v h1 V H1 (re.keep st) rh1 st rv q) ke w⟩
theorem stepA {C : CT} (kc : MonoC C C) {es : Exs} {ρ : Env3} {h : Hq} {σ : L2.St} {H : Hp} {K : List Val → Hq → Prop} {R : List V → Hp → Prop} {E : QE} (re : RE h H ρ σ) (rh : RH h H) (w : wpA C es ρ h K E) (ke : ∀ x h', E x h' → KE T h H W σ x h')
    (k : ∀ v h1 V H1, RE h1 H1 ρ σ → RH h1 H1 → Stab h H h1 H1 → RVs h1 H1 v V → K v h1 → R V H1) : TAx T W (wpA C es) σ H R :=
  ⟨ρ, h, re, rh, wpA_mono kc es _ _ _ _ _ _ (fun v h1 q V H1 rh1 st rv => k v h1 V H1 (re.keep st) rh1 st rv q) ke w⟩
theorem stepT {C : CT} (kc : MonoC C C) {e : Ex} {ρ : Env3} {h : Hq} {σ : L2.St} {H : Hp} {K : Bool → Hq → Prop} {R : Bool → Hp → Prop} {E : QE} (re : RE h H ρ σ) (rh : RH h H) (w : wpT C e ρ h K E) (ke : ∀ x h', E x h' → KE T h H W σ x h')
    (k : ∀ b h1 H1, RE h1 H1 ρ σ → RH h1 H1 → Stab h H h1 H1 → K b h1 → R b H1) : TTx T W (wpT C e) σ H R :=
  ⟨ρ, h, re, rh, wpT_mono kc e _ _ _ _ _ _ (fun b h1 q H1 rh1 st => k b h1 H1 (re.keep st) rh1 st q) ke w⟩

/-- what an iterator walks: the items, as long as keep holds -/
structure Js (J : It) (items : List Val) (keep : Hq → Prop) (h1 : Hq) (H1 : Hp) : Prop where
  stop : ∀ i h H, RH h H → Stab h1 H1 h H → keep h → items.length ≤ i → J.stop i H
  go : ∀ i h H, RH h H → Stab h1 H1 h H → keep h → i < items.length → J.go i H
  yld : ∀ i h H x H', RH h H → Stab h1 H1 h H → keep h → i < items.length → J.yld i H x H' → ∃ v, items[i]? = some v ∧ RH h H' ∧ Stab h H h H' ∧ RV h H' v x
def KI (h : Hq) (H : Hp) (R : It → Hp → Prop) : List Val → (Hq → Prop) → Hq → Prop := fun items keep h1 => ∀ H1 J, RH h1 H1 → Stab h H h1 H1 → Js J items keep h1 H1 → R J H1
def TIx (T : Tb) (W : WX) (w : Env3 → Hq → (List Val → (Hq → Prop) → Hq → Prop) → QE → Prop) : TI := fun σ H R => ∃ ρ h, RE h H ρ σ ∧ RH h H ∧ w ρ h (KI h H R) (KE T h H W σ)
end

/-! ### iterators -/
section
variable {h1 : Hq} {H1 : Hp} {K : PySem.W.Frag} {v : Val} {x : V} {xs : List Val}
theorem get_lt {α : Type} {l : List α} {i : Nat} (h : i < l.length) : ∃ x, l[i]? = some x := ⟨l[i], by simp [h]⟩
theorem js_list (kk : K = Mo.K) (rv : RV h1 H1 v x) (e : ls h1 v = some xs) (rh1 : RH h1 H1) : ∃ a, x = .ref a ∧ (∃ vs, SqL K H1 a vs) ∧ Js (Itl K a) xs (fun h' => sq h' v = some xs) h1 H1 := by
  obtain ⟨a, vs, e1, e2, e3⟩ := ls_read (K := K) kk rh1 rv e
  have at_ : ∀ {h : Hq} {H : Hp}, RH h H → Stab h1 H1 h H → sq h v = some xs → ∃ vs, SqL K H a vs ∧ RVs h H xs vs := fun {h H} rh st kp => by
    have rv' := RV.keep st rv
    have e' : ls h v = some xs := by
      cases v <;> first | exact kp | (cases e)
    obtain ⟨a', vs', q1, q2, q3⟩ := ls_read (K := K) kk rh rv' e'
    rw [e1] at q1; cases q1
    exact ⟨vs', q2, q3⟩
  refine ⟨a, e1, ⟨vs, e2⟩, fun i h H rh st kp hi => ?_, fun i h H rh st kp hi => ?_, fun i h H y H' rh st kp hi hy => ?_⟩
  · obtain ⟨ws, q1, q2⟩ := at_ rh st kp
    exact ⟨ws, q1, by rw [← q2.length]; exact hi⟩
  · obtain ⟨ws, q1, q2⟩ := at_ rh st kp
    obtain ⟨u, hu⟩ := get_lt hi
    obtain ⟨z, hz, _⟩ := q2.get hu
    exact ⟨ws, z, q1, hz⟩
  · obtain ⟨ws, q1, q2⟩ := at_ rh st kp
    obtain ⟨rfl, hy⟩ := hy
    obtain ⟨u, hu, ru⟩ := q2.get' (hy ws q1)
    exact ⟨u, hu, rh, .refl, ru⟩
theorem js_tup (rv : RV h1 H1 (.tup xs) x) : ∃ a, x = .ref a ∧ (∃ vs, SqT K H1 a vs) ∧ Js (Itt K a) xs (fun h' => sq h' (.tup xs) = some xs) h1 H1 := by
  obtain ⟨a, vs, e1, e0, e2, e3⟩ := rv
  have at_ : ∀ {h : Hq} {H : Hp}, Stab h1 H1 h H → SqT K H a vs ∧ RVs h H xs vs := fun {h H} st => ⟨SqT.of (st a _ e2 e0).1, RVs.keep st e3⟩
  refine ⟨a, e1, ⟨vs, SqT.of e2⟩, fun i h H rh st kp hi => ?_, fun i h H rh st kp hi => ?_, fun i h H y H' rh st kp hi hy => ?_⟩
  · obtain ⟨q1, q2⟩ := at_ st
    exact ⟨vs, q1, by rw [← q2.length]; exact hi⟩
  · obtain ⟨q1, q2⟩ := at_ st
    obtain ⟨u, hu⟩ := get_lt hi
    obtain ⟨z, hz, _⟩ := q2.get hu
    exact ⟨vs, z, q1, hz⟩
  · obtain ⟨q1, q2⟩ := at_ st
    obtain ⟨rfl, hy⟩ := hy
    obtain ⟨u, hu, ru⟩ := q2.get' (hy vs q1)
    exact ⟨u, hu, rh, .refl, ru⟩
theorem js_range (lo : Int) (m : Nat) : Js (Itr lo m) (intsFrom lo m) (fun _ => True) h1 H1 := by
  have hl : (intsFrom lo m).length = m := by unfold intsFrom; rw [List.length_map, List.length_range]
  refine ⟨fun i h H _ _ _ hi => by rw [hl] at hi; exact hi, fun i h H _ _ _ hi => by rw [hl] at hi; exact hi, fun i h H y H' rh st kp hi hy => ?_⟩
  obtain ⟨rfl, rfl⟩ := hy
  rw [hl] at hi
  exact ⟨.int (lo + i), by unfold intsFrom; rw [List.getElem?_map, List.getElem?_range hi]; rfl, rh, .refl, rfl⟩
theorem js_step (lo c : Int) (m : Nat) : Js (Itc lo c m) (intsStep lo c m) (fun _ => True) h1 H1 := by
  have hl : (intsStep lo c m).length = m := by unfold intsStep; rw [List.length_map, List.length_range]
  refine ⟨fun i h H _ _ _ hi => by rw [hl] at hi; exact hi, fun i h H _ _ _ hi => by rw [hl] at hi; exact hi, fun i h H y H' rh st kp hi hy => ?_⟩
  obtain ⟨rfl, rfl⟩ := hy
  rw [hl] at hi
  exact ⟨.int (lo + (i : Nat) * c), by unfold intsStep; rw [List.getElem?_map, List.getElem?_range hi]; rfl, rh, .refl, rfl⟩
theorem rgc_of {i j k : Int} (h : 0 ≤ i ∧ i ≤ 1000000 ∧ 0 ≤ j ∧ j ≤ 1000000 ∧ 0 < k ∧ k ≤ 1000000) : RgC i j k (stepN i j k) := by
  have hs : Builtin.Range.rangeSize i j k = ((stepN i j k : Nat) : Int) := by
    unfold Builtin.Range.rangeSize stepN
    rw [if_pos h.2.2.2.2.1]
    split
    · have : 0 ≤ (j - i - 1) / k := Int.ediv_nonneg (by omega) (by omega)
      omega
    · rfl
  have hq : (stepN i j k : Int) ≤ 1000001 := by
    unfold stepN
    split
    · have h1 : (j - i - 1) / k ≤ j - i - 1 := Int.ediv_le_self _ (by omega)
      have : 0 ≤ (j - i - 1) / k := Int.ediv_nonneg (by omega) (by omega)
      omega
    · decide
  have fit : ∀ x : Int, -10000000 ≤ x → x ≤ 10000000 → Builtin.Range.rangeFitsLong x = true := fun x h1 h2 => by
    unfold Builtin.Range.rangeFitsLong
    rw [Bool.and_eq_true, decide_eq_true_eq, decide_eq_true_eq]
    omega
  refine ⟨by omega, by omega, ?_, hs⟩
  unfold Builtin.Range.small
  rw [hs, fit i (by omega) (by omega), fit j (by omega) (by omega), fit k (by omega) (by omega), fit _ (by omega) (by omega), if_pos h.2.2.2.2.1, fit (j + (k - 1)) (by omega) (by omega), Bool.or_true]
  rfl
/-- the keys of a locked dict -/
theorem js_keys {a : Addr} {o : Obj} {kvs : List (Key × L2.V)} {ks : List Key} (n : h1 a = none) (e : H1 a = some (.frz o (.dK kvs))) (ek : kvs.map (·.1) = ks) : Js (Itk a o kvs) (ks.map keyV) (fun _ => True) h1 H1 := by
  have hl : (ks.map keyV).length = kvs.length := by rw [← ek, List.length_map, List.length_map]
  refine ⟨fun i h H _ st _ hi => ⟨(st a _ e n).1, by rw [hl] at hi; exact hi⟩, fun i h H _ st _ hi => ⟨(st a _ e n).1, by rw [hl] at hi; exact hi⟩, fun i h H y H' rh st kp hi hy => ?_⟩
  obtain ⟨rfl, k, v, hk, rfl⟩ := hy
  refine ⟨keyV k, by rw [← ek, List.getElem?_map, List.getElem?_map, hk]; rfl, rh, .refl, ?_⟩
  cases k <;> rfl
/-- a tracked list, at every turn -/
theorem lv_at (rv : RV h1 H1 v x) (rh1 : RH h1 H1) (e : lv h1 v = some xs) : ∃ a vs, x = .ref a ∧ SqL K H1 a vs ∧ ∀ {h : Hq} {H : Hp}, RH h H → Stab h1 H1 h H → lv h v = some xs → ∃ vs, SqL K H a vs ∧ RVs h H xs vs := by
  obtain ⟨a, vs, e1, e2, e3⟩ := lv_read rh1 rv e
  refine ⟨a, vs, e1, SqL.of e2, fun {h H} rh st kp => ?_⟩
  obtain ⟨a', vs', q1, q2, q3⟩ := lv_read rh (RV.keep st rv) kp
  rw [e1] at q1; cases q1
  exact ⟨vs', SqL.of q2, q3⟩
theorem enum_get {i : Nat} {u : Val} (e : xs[i]? = some u) : (enumL xs)[i]? = some (.tup [.int (i : Nat), u]) := by
  obtain ⟨hi, e'⟩ := List.getElem?_eq_some_iff.mp e
  unfold enumL
  rw [List.getElem?_zipWith, e, List.getElem?_range hi]
theorem enum_len : (enumL xs).length = xs.length := by unfold enumL; simp
theorem js_enum (rv : RV h1 H1 v x) (rh1 : RH h1 H1) (e : lv h1 v = some xs) : ∃ a vs, x = .ref a ∧ SqL K H1 a vs ∧ Js (Ite K a) (enumL xs) (fun h' => lv h' v = some xs) h1 H1 := by
  obtain ⟨a, vs, e1, e2, at_⟩ := lv_at (K := K) rv rh1 e
  refine ⟨a, vs, e1, e2, fun i h H rh st kp hi => ?_, fun i h H rh st kp hi => ?_, fun i h H y H' rh st kp hi hy => ?_⟩
  · obtain ⟨ws, q1, q2⟩ := at_ rh st kp
    exact ⟨ws, q1, by rw [← q2.length, ← enum_len]; exact hi⟩
  · obtain ⟨ws, q1, q2⟩ := at_ rh st kp
    rw [enum_len] at hi
    obtain ⟨u, hu⟩ := get_lt hi
    obtain ⟨z, hz, _⟩ := q2.get hu
    exact ⟨ws, z, q1, hz⟩
  · obtain ⟨ws, q1, q2⟩ := at_ rh st kp
    obtain ⟨t, z, rfl, n, rfl, hy⟩ := hy
    obtain ⟨u, hu, ru⟩ := q2.get' (hy ws q1)
    have k := Stab.alloc (h := h) (o := .tup [.int (i : Nat), z]) n
    exact ⟨_, enum_get hu, rh.alloc n, k, t, _, rfl, rh.free n, upd_same, .cons rfl (.cons (RV.keep k ru) .nil)⟩
theorem js_zip {v' : Val} {x' : V} {ys : List Val} (rv : RV h1 H1 v x) (rv' : RV h1 H1 v' x') (rh1 : RH h1 H1) (e : lv h1 v = some xs) (e' : lv h1 v' = some ys) :
    ∃ a b vs ws, x = .ref a ∧ x' = .ref b ∧ SqL K H1 a vs ∧ SqL K H1 b ws ∧ Js (Itz K a b) (zipL xs ys) (fun h' => lv h' v = some xs ∧ lv h' v' = some ys) h1 H1 := by
  obtain ⟨a, vs, e1, e2, at_⟩ := lv_at (K := K) rv rh1 e
  obtain ⟨b, ws, e3, e4, bt⟩ := lv_at (K := K) rv' rh1 e'
  have hl : (zipL xs ys).length = min xs.length ys.length := by unfold zipL; simp
  refine ⟨a, b, vs, ws, e1, e3, e2, e4, fun i h H rh st kp hi => ?_, fun i h H rh st kp hi => ?_, fun i h H y H' rh st kp hi hy => ?_⟩
  · obtain ⟨us, q1, q2⟩ := at_ rh st kp.1
    obtain ⟨zs, q3, q4⟩ := bt rh st kp.2
    refine ⟨us, zs, q1, q3, ?_⟩
    rw [← q2.length, ← q4.length]; omega
  · obtain ⟨us, q1, q2⟩ := at_ rh st kp.1
    obtain ⟨zs, q3, q4⟩ := bt rh st kp.2
    obtain ⟨u, hu⟩ := get_lt (show i < xs.length by omega)
    obtain ⟨u', hu'⟩ := get_lt (show i < ys.length by omega)
    obtain ⟨z, hz, _⟩ := q2.get hu
    obtain ⟨z', hz', _⟩ := q4.get hu'
    exact ⟨us, zs, z, z', q1, q3, hz, hz'⟩
  · obtain ⟨us, q1, q2⟩ := at_ rh st kp.1
    obtain ⟨zs, q3, q4⟩ := bt rh st kp.2
    obtain ⟨t, z, z', rfl, n, rfl, hy, hy'⟩ := hy
    obtain ⟨u, hu, ru⟩ := q2.get' (hy us q1)
    obtain ⟨u', hu', ru'⟩ := q4.get' (hy' zs q3)
    have k := Stab.alloc (h := h) (o := .tup [z, z']) n
    exact ⟨.tup [u, u'], by unfold zipL; rw [List.getElem?_zipWith, hu, hu'], rh.alloc n, k, t, _, rfl, rh.free n, upd_same, .cons (RV.keep k ru) (.cons (RV.keep k ru') .nil)⟩
theorem js_rev (rv : RV h1 H1 v x) (rh1 : RH h1 H1) (e : lv h1 v = some xs) : ∃ a vs, x = .ref a ∧ SqL K H1 a vs ∧ Js (Itv K a vs.length) xs.reverse (fun h' => lv h' v = some xs) h1 H1 := by
  obtain ⟨a, vs0, e1, e2, e3⟩ := lv_read rh1 rv e
  obtain ⟨a', vs, e1', e2', at_⟩ := lv_at (K := K) rv rh1 e
  rw [e1] at e1'; cases e1'
  have hn : vs0.length = xs.length := e3.length.symm
  refine ⟨a, vs0, e1, SqL.of e2, fun i h H rh st kp hi => ?_, fun i h H rh st kp hi => ?_, fun i h H y H' rh st kp hi hy => ?_⟩
  · rw [List.length_reverse] at hi
    show vs0.length ≤ i
    omega
  · rw [List.length_reverse] at hi
    obtain ⟨us, q1, q2⟩ := at_ rh st kp
    obtain ⟨u, hu⟩ := get_lt (show vs0.length - 1 - i < xs.length by omega)
    obtain ⟨z, hz, _⟩ := q2.get hu
    exact ⟨by omega, us, z, q1, hz⟩
  · rw [List.length_reverse] at hi
    obtain ⟨us, q1, q2⟩ := at_ rh st kp
    obtain ⟨rfl, hy⟩ := hy
    obtain ⟨u, hu, ru⟩ := q2.get' (hy us q1)
    refine ⟨u, ?_, rh, .refl, ru⟩
    rw [List.getElem?_reverse hi, ← hn]; exact hu
end
end L3

set_option Elab.async false
set_option linter.all false
set_option maxRecDepth 100000
/-! L3, part 8: targets, comprehensions, expressions. -/
namespace L3
open PySem PySem.Spec PyProof.Rows L2
variable [Mo]

/-! ### targets -/
def tgS : Tg → List Nat | .name i => [i] | .names is => is
def GTx (tg : Tg) : TG := fun x σ H Q => ∃ h v ρ ρ', RE h H ρ σ ∧ RH h H ∧ RV h H v x ∧ bindT tg v ρ = some ρ' ∧ ∀ σ', RE h H ρ' σ' → σ'.length = σ.length → (∀ j, j ∉ tgS tg → σ'[j]? = σ[j]?) → Q σ' H
theorem RE.set {h : Hq} {H : Hp} {ρ : Env3} {σ : L2.St} {v : Val} {x : V} (r : RE h H ρ σ) (i : Nat) (rv : RV h H v x) : RE h H (ρ.set i (some v)) (σ.set i (some x)) := by
  refine ⟨by rw [List.length_set, List.length_set]; exact r.1, fun j u e => ?_⟩
  by_cases hj : i = j
  · subst hj
    by_cases hl : i < ρ.length
    · rw [List.getElem?_set_self hl] at e; cases e
      rw [List.getElem?_set_self (by rw [← r.1]; exact hl)]
      exact ⟨x, rfl, rv⟩
    · rw [List.getElem?_eq_none (by simpa using hl)] at e; cases e
  · rw [List.getElem?_set_ne hj] at e
    rw [List.getElem?_set_ne hj]
    exact r.2 j u e
def gList : List Nat → TGs
  | [] => gNil
  | i :: is => gCons (gName i) (gList is)
theorem asg_each {e : Expr} {es : List Expr} {env : PySem.Env} (h : isStar e = false) : assignEach (e :: es) env = (false, assign e env) :: assignEach es env := by
  cases e <;> first | rfl | (cases h)
theorem names_run {X : Cx} {N : List Str} {sc : Scope} {fb : Str → Bool} (hN : X.N = N) (hsc : X.env.scope = sc) (nd : X.N.Nodup) (hf : ∀ x, fb x = true → X.fn x = true) :
    ∀ {is : List Nat} {es : List Expr}, namesOf N sc fb is es = true → PGs X es (gList is) ∧ (assignEach es X.env).length = is.length ∧ (assignEach es X.env).findIdx? (·.1) = none ∧ (∀ e ∈ es, isStar e = false)
  | [], [], _ => ⟨pgs_nil, rfl, rfl, fun _ h => by cases h⟩
  | [], _ :: _, h => by simp [namesOf] at h
  | _ :: _, [], h => by simp [namesOf] at h
  | i :: is, e :: es, h => by
    simp only [namesOf, Bool.and_eq_true] at h
    obtain ⟨h1, h2⟩ := h
    obtain ⟨p1, p2, p3, p4⟩ := names_run hN hsc nd hf h2
    split at h1
    · rename_i x e1
      obtain ⟨p, rfl⟩ := asName_is e1
      rw [Bool.and_eq_true] at h1
      obtain ⟨l1, l2⟩ := loc_is h1.2
      subst hN hsc
      refine ⟨pgs_cons (pg_name nd (of_decide_eq_true h1.1) l1 (l2.imp (hf x) id)) p1 (by rw [asg_each rfl]; rfl), ?_, ?_, ?_⟩
      · rw [asg_each rfl, List.length_cons, List.length_cons, p2]
      · rw [asg_each rfl, List.findIdx?_cons]
        simp [p3]
      · intro e he
        rcases List.mem_cons.mp he with rfl | he
        · rfl
        · exact p4 e he
    · cases h1
theorem gList_ok {h : Hq} {H : Hp} : ∀ {is : List Nat} {vs : List Val} {xs : List V} {ρ ρ' : Env3} {σ : L2.St} {Q : L2.St → Hp → Prop}, RE h H ρ σ → RVs h H vs xs → bindL3 is vs ρ = some ρ' →
    (∀ σ', RE h H ρ' σ' → σ'.length = σ.length → (∀ j, j ∉ is → σ'[j]? = σ[j]?) → Q σ' H) → gList is xs σ H Q
  | [], [], _, _, _, _, _, re, rv, e, k => by
    cases e
    exact ⟨rv, k _ re rfl fun _ _ => rfl⟩
  | i :: is, v :: vs, _, _, _, σ, _, re, ⟨y, t, q, r1, r2⟩, e, k => by
    subst q
    refine ⟨y, t, rfl, gList_ok (re.set i r1) r2 e fun σ' re' hl ho => k σ' re' (by rw [hl, List.length_set]) fun j hj => ?_⟩
    rw [ho j fun z => hj (List.mem_cons_of_mem _ z), List.getElem?_set_ne (by rintro rfl; exact hj List.mem_cons_self)]
  | [], _ :: _, _, _, _, _, _, _, _, e, _ => by cases e
  | _ :: _, [], _, _, _, _, _, _, _, e, _ => by cases e
theorem _root_.L2.PG.imp {X : Cx} {e : Expr} {t t' : TG} (p : PG X e t) (k : ∀ x σ H Q, t' x σ H Q → t x σ H Q) : PG X e t' := ⟨fun pins s σ H v u Q I r h => p.run pins s σ H v u Q I r (k v σ H Q h)⟩
theorem sG {X : Cx} {fb : Str → Bool} {tg : Tg} {t : Expr} (hc : X.calm = true) (nd : X.N.Nodup) (hf : ∀ x, fb x = true → X.fn x = true) (h : mT X.N X.env.scope fb tg t = true) : PG X t (GTx tg) := by
  cases tg with
  | name i =>
    unfold mT at h
    dsimp only at h
    split at h
    · rename_i x e1
      obtain ⟨p, rfl⟩ := asName_is e1
      rw [Bool.and_eq_true] at h
      obtain ⟨l1, l2⟩ := loc_is h.2
      refine (pg_name nd (of_decide_eq_true h.1) l1 (l2.imp (hf x) id)).imp fun x σ H Q ⟨h, v, ρ, ρ', re, rh, rv, e, k⟩ => ?_
      cases e
      refine k _ (re.set i rv) (List.length_set ..) fun j hj => List.getElem?_set_ne ?_
      rintro rfl; exact hj List.mem_cons_self
    · cases h
  | names is =>
    unfold mT at h
    dsimp only at h
    split at h
    · rename_i es e1
      obtain ⟨k, p, rfl⟩ := asTup_is e1
      obtain ⟨p1, p2, p3, p4⟩ := names_run rfl rfl nd hf h
      refine (pg_tup hc p1 p2 p3).imp fun x σ H Q ⟨h, v, ρ, ρ', re, rh, rv, e, k⟩ => ?_
      unfold bindT at e
      dsimp only at e
      split at e
      · rename_i vs
        obtain ⟨a, xs, q1, q2, q3, q4⟩ := rv
        refine ⟨a, xs, q1, SqT.of q3, ?_, gList_ok re q4 e k⟩
        have hlen : ∀ {is : List Nat} {vs : List Val} {ρ ρ' : Env3}, bindL3 is vs ρ = some ρ' → is.length = vs.length := by
          intro is
          induction is with
          | nil => intro vs ρ ρ' e; cases vs <;> first | rfl | cases e
          | cons i is ih => intro vs ρ ρ' e; cases vs <;> first | (cases e; done) | (rw [List.length_cons, List.length_cons, ih e])
        rw [hlen e, q4.length]
      · cases e
    · cases h

/-! ### a comprehension's own names -/
theorem wipe3_len (ρ : Env3) : ∀ vs : List Nat, (wipe3 ρ vs).length = ρ.length
  | [] => rfl
  | v :: vs => by unfold wipe3; rw [List.length_set, wipe3_len ρ vs]
theorem wipe3_some {ρ : Env3} {i : Nat} {x : Val} : ∀ {vs : List Nat}, (wipe3 ρ vs)[i]? = some (some x) → ρ[i]? = some (some x) ∧ i ∉ vs
  | [], h => ⟨h, by simp⟩
  | v :: vs, h => by
    unfold wipe3 at h
    by_cases hi : v = i
    · subst hi
      by_cases hv : v < (wipe3 ρ vs).length
      · rw [List.getElem?_set_self hv] at h; cases h
      · rw [List.getElem?_eq_none (by simpa using hv)] at h; cases h
    · rw [List.getElem?_set_ne hi] at h
      obtain ⟨h1, h2⟩ := wipe3_some h
      exact ⟨h1, fun z => (List.mem_cons.mp z).elim (fun e => hi e.symm) h2⟩
theorem wipe_get {σ : L2.St} {i : Nat} : ∀ {vs : List Nat}, i ∉ vs → (wipe σ vs)[i]? = σ[i]?
  | [], _ => rfl
  | v :: vs, h => by
    unfold wipe
    rw [List.getElem?_set_ne (by rintro rfl; exact h List.mem_cons_self)]
    exact wipe_get fun z => h (List.mem_cons_of_mem _ z)
theorem wipe_in {σ : L2.St} {i : Nat} : ∀ {vs : List Nat}, i ∈ vs → i < σ.length → (wipe σ vs)[i]? = some none
  | v :: vs, h, hl => by
    unfold wipe
    by_cases e : v = i
    · subst e; rw [List.getElem?_set_self (by rw [wipe_length]; exact hl)]
    · rw [List.getElem?_set_ne e]
      exact wipe_in ((List.mem_cons.mp h).resolve_left fun z => e z.symm) hl
theorem wipe_ext {a b : L2.St} {vs : List Nat} (hl : a.length = b.length) (h : ∀ j, j ∉ vs → a[j]? = b[j]?) : wipe a vs = wipe b vs := by
  apply List.ext_getElem?
  intro j
  by_cases hj : j ∈ vs
  · by_cases hlt : j < a.length
    · rw [wipe_in hj hlt, wipe_in hj (by rw [← hl]; exact hlt)]
    · rw [List.getElem?_eq_none (by rw [wipe_length]; omega), List.getElem?_eq_none (by rw [wipe_length]; omega)]
  · rw [wipe_get hj, wipe_get hj, h j hj]
theorem RE.wipe {h : Hq} {H : Hp} {ρ : Env3} {σ : L2.St} (r : RE h H ρ σ) (vs : List Nat) : RE h H (wipe3 ρ vs) (L2.wipe σ vs) := by
  refine ⟨by rw [wipe3_len, wipe_length]; exact r.1, fun i v e => ?_⟩
  obtain ⟨e1, e2⟩ := wipe3_some e
  rw [wipe_get e2]
  exact r.2 i v e1
theorem ownOf_snd {N : List Str} {own : List Nat} (h : (ownOf N own).map (·.2) = own) : (ownOf N own).map (·.2) = own := h
theorem tgOwn_is {tg : Tg} {own : List Nat} (h : tgOwn tg own = true) : own = tgS tg := by
  cases tg <;> exact of_decide_eq_true h

section
variable {T : Tb} {F : Fs} {n : Nat}
/-- a comprehension's turns -/
theorem sLC {W : WX} {C : CT} (kc : MonoC C C) {fz : Bool} {elt : Ex} {tg : Tg} {it : Itx} {cond : Ex} {own : List Nat} {σ : L2.St} {H : Hp} {Q : VK} (ho : own = tgS tg)
    (q : TEx T W (wpE C (.comp fz elt tg it cond own)) σ H Q) : tLc (TIx T W (wpI C it)) (GTx tg) (TTx T (fun _ _ _ _ => False) (wpT C cond)) (TEx T (fun _ _ _ _ => False) (wpE C elt)) own σ H Q := by
  obtain ⟨ρ, h, re, rh, w⟩ := q
  refine ⟨ρ, h, re, rh, wpI_mono kc it _ _ _ _ _ _ (fun items keep h1 q H1 J rh1 st js D nD => ?_) (fun _ _ e => e) w⟩
  have q := q D (rh1.free nD)
  have st0 := Stab.cell (h := h1) (o := .lst []) (c := .lst []) nD
  refine ⟨fun i m H' => ∃ h', RH h' H' ∧ Stab h1 H1 h' H' ∧ m = items.length - i ∧ i ≤ items.length ∧
    compW tg (fun ρ1 h2 K => wpT C cond ρ1 h2 K fun _ _ => False) (fun ρ1 h2 K => wpE C elt ρ1 h2 K fun _ _ => False) keep D (compFin fz D (KQ h H Q)) (wipe3 ρ own) (items.drop i) h',
    ⟨items.length, _, rh1.put st0 ⟨[], upd_same, RVs.nil⟩, st0, by omega, Nat.zero_le _, q⟩, fun i m H' hW => ?_⟩
  obtain ⟨h', rh', st', rfl, hi, w'⟩ := hW
  by_cases hlt : i < items.length
  · have ed : items.drop i = items[i] :: items.drop (i + 1) := List.drop_eq_getElem_cons hlt
    rw [ed] at w'
    obtain ⟨kp, w'⟩ := w'
    obtain ⟨ρ1, e1, w'⟩ := optW_ex w'
    refine .inr ⟨js.go i h' H' rh' st' kp hlt, fun H'' => ∃ h', RH h' H'' ∧ Stab h1 H1 h' H'' ∧ compW tg (fun ρ1 h2 K => wpT C cond ρ1 h2 K fun _ _ => False) (fun ρ1 h2 K => wpE C elt ρ1 h2 K fun _ _ => False) keep D (compFin fz D (KQ h H Q)) (wipe3 ρ own) (items.drop (i + 1)) h',
      fun H'' ⟨h2, a, b, c⟩ => ⟨_, by omega, h2, a, b, rfl, hlt, c⟩, fun x H2 hy => ?_⟩
    obtain ⟨v, ev, rh2, st2, rv⟩ := js.yld i h' H' x H2 rh' st' kp hlt hy
    rw [List.getElem?_eq_getElem hlt] at ev
    cases ev
    have re' := ((re.keep (st.trans (st'.trans st2))).wipe own)
    refine ⟨h', items[i], wipe3 ρ own, ρ1, re', rh2, rv, e1, fun σ' re1 hl ho' => ⟨?_, ?_⟩⟩
    · subst ho
      rw [wipe_ext hl fun j hj => (ho' j hj)]
      exact wipe_ext (wipe_length _ _) fun j hj => wipe_get hj
    · refine stepT kc re1 rh2 w' (fun _ _ z => z.elim) fun b h3 H3 re3 rh3 st3 w3 => ?_
      cases b with
      | true =>
        refine stepE kc re3 rh3 w3 (fun _ _ z => z.elim) fun v4 h4 V4 H4 re4 rh4 st4 rv4 w4 => ?_
        obtain ⟨acc, ea, hz, w4⟩ := optW_ex w4
        have hc := lstO_some.mp ea
        obtain ⟨vs, e5, r5⟩ := rh4 D _ hc
        have s5 := Stab.write (H := H4) (o := .lst (vs ++ [V4])) (d := .lst (acc ++ [v4])) hc
        refine ⟨vs, e5, by rw [← r5.length]; exact len_lt hz, _, rh4.put s5 ⟨_, upd_same, RVs.keep s5 (r5.app (.cons rv4 .nil))⟩, st'.trans (st2.trans (st3.trans (st4.trans s5))), w4⟩
      | false => exact ⟨h3, rh3, st'.trans (st2.trans st3), w3⟩
  · have ed : items.drop i = [] := List.drop_eq_nil_of_le (by omega)
    rw [ed] at w'
    obtain ⟨kp, w'⟩ := w'
    refine .inl ⟨js.stop i h' H' rh' st' kp (by omega), ?_⟩
    have stt := st.trans st'
    cases fz with
    | true =>
      obtain ⟨acc, ea, w6⟩ := optW_ex (show optW (lstO h' D) (fun acc => KQ h H Q (.fl acc) (er h' D)) from w')
      obtain ⟨vs, e5, r5⟩ := rh' D _ (lstO_some.mp ea)
      exact w6 _ _ rh'.er (stt.trans Stab.er) ⟨D, vs, rfl, er_same, e5, RVs.keep Stab.er r5⟩
    | false => exact (show KQ h H Q (.ref D) h' from w') _ _ rh' stt rfl
/-- a frozen list -/
theorem frz_out {h h1 : Hq} {H H1 : Hp} {v : Val} {x : V} {Q : VK} (st : Stab h H h1 H1) (rh : RH h1 H1) (rv : RV h1 H1 v x) (w : frzW v h1 (KQ h H Q)) : Q x H1 := by
  obtain ⟨⟨a, c⟩, e, w⟩ := optW_ex w
  obtain ⟨q1, q2⟩ := cellAt_read rv e
  subst q1
  exact w _ _ rh.er (st.trans Stab.er) (frzC_rv rh q2)
theorem frzAll_out {H1 : Hp} : ∀ {vs : List Val} {xs : List V} {h1 : Hq} {K : List Val → Hq → Prop}, RH h1 H1 → RVs h1 H1 vs xs → frzAll vs h1 K → ∃ ys h2, K ys h2 ∧ RH h2 H1 ∧ Stab h1 H1 h2 H1 ∧ RVs h2 H1 ys xs
  | [], _, h1, _, rh, rv, w => ⟨[], h1, w, rh, .refl, rv⟩
  | v :: vs, _, h1, _, rh, ⟨y, t, q, r1, r2⟩, w => by
    subst q
    obtain ⟨⟨a, c⟩, e, w⟩ := optW_ex w
    obtain ⟨q1, q2⟩ := cellAt_read r1 e
    subst q1
    obtain ⟨ys, h2, k, rh2, st2, rv2⟩ := frzAll_out rh.er (RVs.keep Stab.er r2) w
    exact ⟨_, h2, k, rh2, Stab.er.trans st2, .cons (RV.keep st2 (frzC_rv rh q2)) rv2⟩
theorem frzD_out {h h1 : Hq} {H H1 : Hp} {v : Val} {x : V} {Q : VK} (st : Stab h H h1 H1) (rh : RH h1 H1) (rv : RV h1 H1 v x) (w : frzDW v h1 (KQ h H Q)) : Q x H1 := by
  obtain ⟨⟨a, xs⟩, e, w⟩ := optW_ex w
  obtain ⟨q1, q2, vs, q3, q4⟩ := lstAt_read rh rv e
  obtain ⟨ys, h2, k, rh2, st2, rv2⟩ := frzAll_out rh.er (RVs.keep Stab.er q4) w
  have n2 : h2 a = none := (st2 a _ q3 er_same).2
  exact k _ _ rh2 (st.trans (Stab.er.trans st2)) ⟨a, vs, q1, n2, q3, rv2⟩
end
end L3

set_option Elab.async false
set_option linter.all false
set_option maxRecDepth 100000
set_option maxHeartbeats 1000000
/-! L3: xs[::-1] of a list or a tuple. -/
namespace L3
open PySem PySem.Spec PyProof.Rows L2
section
variable {prog : Program} {w : World} {A : Around} {E : Value → Shared → Prop} {s : Shared}
theorem rev_adjust (n : Nat) : Builtin.Slice.sliceAdjust none none (-1) (n : Int) = ((n : Int) - 1, -1) := by
  unfold Builtin.Slice.sliceAdjust
  have h1 : (-1 : Int) < 0 := by decide
  simp only [h1, if_true]
theorem rev_places (n : Nat) : Builtin.Slice.slicePlaces ((n : Int) - 1) (-1) (-1) = n := by
  unfold Builtin.Slice.slicePlaces
  have h1 : ¬ ((-1 : Int) > 0) := by decide
  simp only [h1, if_false]
  rw [show (- -1 : Int) = 1 by decide, Int.ediv_one]
  split <;> omega
theorem fm_congr {α β : Type} {f g : α → Option β} : ∀ {xs : List α}, (∀ x ∈ xs, f x = g x) → xs.filterMap f = xs.filterMap g
  | [], _ => rfl
  | x :: xs, h => by
    rw [List.filterMap_cons, List.filterMap_cons, h x (by simp), fm_congr fun y hy => h y (by simp [hy])]
theorem rev_pick (xs : Array Value) : ((List.range xs.size).filterMap fun (m : Nat) => xs[(((xs.size : Int) - 1) + (m : Int) * (-1)).toNat]?).toArray = xs.toList.reverse.toArray := by
  have e : (List.range xs.size).filterMap (fun (m : Nat) => xs[(((xs.size : Int) - 1) + (m : Int) * (-1)).toNat]?) = ((List.range xs.size).map fun k => xs.size - 1 - k).filterMap (xs[·]?) := by
    rw [List.filterMap_map]
    refine fm_congr fun m hm => ?_
    have := List.mem_range.mp hm
    show _ = xs[xs.size - 1 - m]?
    congr 1
    omega
  rw [e, PySem.W.krv_range, List.filterMap_reverse, PySem.W.krv_all]
theorem getItem_tuple_rev {t sl : Addr} {items : Array Value} {vl vu vs : Value} {Q : Value → Shared → Prop} (ht : IsTup s.heap t items) (hs : s.heap.IsSliceOf sl vl vu vs) (pl : IsPart vl none) (pu : IsPart vu none) (ps : IsPart vs (some (-1)))
    (h : Q (.ref s.heap.objs.size) { s with heap := s.heap.push { cls := .type "tuple", data := .seq items.toList.reverse.toArray } })
    (hsz : items.size ≤ sizeLine) : wpAny (model prog w) A (getItem (.ref t) (.ref sl)) Q E s := by
  have htake : sizeOk (.seq items.toList.reverse.toArray) := by
    show items.toList.reverse.toArray.size ≤ sizeLine
    rw [List.size_toArray, List.length_reverse, Array.length_toList]; exact hsz
  obtain ⟨os, hos, hcs, hds⟩ := id hs
  have hTs : s.TypeIs (.ref sl) "slice" := ⟨os, hos, hcs⟩
  unfold getItem
  try with_reducible refine wpAny_holding ?_
  first | refine wpAny_bind (wpAny_pure ?_) | skip
  refine wpAny_bind (wpAny_sequenceKey ht.typeIs (by decide) ?_)
  refine wpAny_bind (wpAny_callSpecial?_slot (name := Str.ofString "__getitem__") ht.typeIs PyProof.Rows.slot_tuple_getitem
    (wpAny_call_entry PyProof.Rows.slot_tuple_getitem ht.typeIs entry_tuple_getitem ?_ (args_tuple_getitem _ _)))
  show wpAny _ _ (Builtin.Tuple.tupleItemsOf (.ref t) >>= _) _ _ s
  refine wpAny_bind (tupleItemsOf_ ht ?_)
  refine wpAny_bind (wpAny_typeOf hTs ?_)
  rw [if_pos (by decide)]
  have app : ∀ {A : Around} {E : Value → Shared → Prop} {Q' : Int × Int × Nat → Shared → Prop}, Q' (((items.size : Nat) : Int) - 1, -1, items.size) s → wpAny (model prog w) A (Builtin.Slice.sliceApplied (.ref sl) (pure ((items.size : Nat) : Int))) Q' E s := by
    intro A E Q' q'
    unfold Builtin.Slice.sliceApplied Builtin.Slice.sliceFields
    refine wpAny_bind (wpAny_bind (wpAny_field hos hds (x := vl) rfl (wpAny_bind (wpAny_field hos hds (x := vu) rfl (wpAny_bind (wpAny_field hos hds (x := vs) rfl (wpAny_pure ?_)))))))
    refine wpAny_bind (HT.slicePart_ ps ?_)
    show wpAny _ _ (if ((-1 : Int) == 0) = true then _ else _) _ _ s
    rw [if_neg (by decide)]
    refine wpAny_bind (HT.slicePart_ pl (wpAny_bind (HT.slicePart_ pu (wpAny_bind (wpAny_pure ?_)))))
    show wpAny _ _ (match Builtin.Slice.sliceAdjust none none (-1) ((items.size : Nat) : Int) with | (lo, hi) => pure (lo, (-1 : Int), Builtin.Slice.slicePlaces lo hi (-1))) _ _ s
    rw [rev_adjust]
    show wpAny _ _ (pure (((items.size : Nat) : Int) - 1, (-1 : Int), Builtin.Slice.slicePlaces (((items.size : Nat) : Int) - 1) (-1) (-1))) _ _ s
    rw [rev_places]
    exact wpAny_pure q'
  refine wpAny_bind (app ?_)
  have hno : ¬ ((((((items.size : Nat) : Int) - 1)) == 0 && (-1 : Int) == 1 && items.size == items.size) = true) := by
    intro q
    rw [Bool.and_eq_true, Bool.and_eq_true] at q
    exact absurd q.1.2 (by decide)
  show wpAny _ _ (if ((((items.size : Nat) : Int) - 1) == 0 && (-1 : Int) == 1 && items.size == items.size) = true then _ else _) _ _ s
  rw [if_neg hno, rev_pick]
  first
    | exact wpAny_bind (m := Builtin.Tuple.tupleExact _) (wpAny_newObj_type (wpAny_pure ⟨_, rfl, wpAny_pure h⟩) htake)
    | exact wpAny_bind (m := Builtin.Tuple.tupleExact _) (wpAny_newObj_type (wpAny_bind (wpAny_pure (wpAny_pure ⟨_, rfl, wpAny_pure h⟩))) htake)
    | exact wpAny_bind (wpAny_bind (m := Builtin.Tuple.tupleExact _) (wpAny_newObj_type (wpAny_pure (wpAny_pure ⟨_, rfl, wpAny_pure h⟩)) htake))
    | exact wpAny_bind (wpAny_bind (m := Builtin.Tuple.tupleExact _) (wpAny_newObj_type (wpAny_pure ⟨_, rfl, wpAny_pure h⟩) htake))
end
def tRevA (K : PySem.W.Frag) (te : TE) : TE := fun σ H Q => te σ H fun x H1 => ∃ a xs, x = .ref a ∧ ((SqL K H1 a xs ∧ ∀ p, H1 p = none → Q (.ref p) (upd H1 p (.lst xs.reverse))) ∨ (SqT K H1 a xs ∧ ∀ p, H1 p = none → Q (.ref p) (upd H1 p (.tup xs.reverse))))
theorem pe_revA {X : Cx} {e : Expr} {te : TE} {k : Nat} {p1 p2 p3 pos : Pos} (he : PE X e te) : PE X (.Subscript e (.Slice none none (some (.UnaryOp .USub (.Constant (.int 1) k p1) p2)) p3) pos) (tRevA X.K te) := by
  refine ⟨fun pins s σ H Q I h => ?_⟩
  refine Subscript_ (thn (he.run pins s σ H _ I h) fun v s1 ⟨x, H1, I1, r1, q1⟩ => ?_)
  obtain ⟨a, xs, ex, q⟩ := q1
  subst ex
  cases r1
  have hst : PO X (some (.UnaryOp .USub (.Constant (.int 1) k p1) p2)) (tPart (tUn (rU fun i => .int (-i)) (tC (.int 1)))) := po_some (pe_un un_neg pe_int)
  refine wpAny_Slice (thn (po_none.run pins s1 σ H1 (fun o H2 => o = none ∧ H2 = H1) I1 ⟨rfl, rfl⟩) fun vl s2 ⟨l, H2, I2, pl, el, e2⟩ => ?_)
  subst el e2
  refine thn (po_none.run pins s2 σ H2 (fun o H3 => o = none ∧ H3 = H2) I2 ⟨rfl, rfl⟩) fun vu s3 ⟨u, H3, I3, pu, eu, e3⟩ => ?_
  subst eu e3
  refine thn (hst.run pins s3 σ H3 (fun o H4 => o = some (-1) ∧ H4 = H3) I3 ⟨1, rfl, -1, rfl, rfl, rfl⟩) fun vs s4 ⟨o, H4, I4, ps, eo, e4⟩ => ?_
  subst eo e4
  have I5 : Inv X pins σ H4 { s4 with heap := s4.heap.push { cls := .type "slice", data := .fields #[vl, vu, vs] } } := I4.kept (t' := s4.toks) fun b ob q => Heap.get?_push_of_some _ q
  rcases q with ⟨hx, q⟩ | ⟨hx, q⟩
  · obtain ⟨its, r, ht, hz⟩ := I5.list hx
    have hlen := r.length
    show wpAny (model X.prog X.w) X.A (subscriptTail e (.Slice none none (some (.UnaryOp .USub (.Constant (.int 1) k p1) p2)) p3) (.ref a) (.ref s4.heap.objs.size)) (EP X pins σ Q) X.xe { s4 with heap := s4.heap.push { cls := .type "slice", data := .fields #[vl, vu, vs] } }
    refine tail_any (ops := [.ref a, .ref s4.heap.objs.size]) ht.isList.typeIs (PySem.slot_list_getitem.lookup) ?_ (by with_unfolding_all rfl)
    refine wpAny_getItem_list_slice ht.isList (Heap.IsSliceOf.new _ vl vu vs) pl pu ps (by decide) ?_ (by rw [List.size_toArray]; omega)
    rw [PySem.W.krv_pick]
    refine ⟨.ref _, _, I5.laid (t' := s4.toks) (o := .lst xs.reverse) (fun b ob q => Heap.get?_push_of_some _ q) (Nat.le_refl _) ?_, rfl, q _ (I5.hok.fresh (Nat.le_refl _))⟩
    exact ⟨by rw [List.length_reverse]; exact hz, _, 0, r.reverse, Heap.get?_push_size _ rfl⟩
  · obtain ⟨its, r, ht, hz⟩ := I5.tuple hx
    have hlen := r.length
    show wpAny (model X.prog X.w) X.A (subscriptTail e (.Slice none none (some (.UnaryOp .USub (.Constant (.int 1) k p1) p2)) p3) (.ref a) (.ref s4.heap.objs.size)) (EP X pins σ Q) X.xe { s4 with heap := s4.heap.push { cls := .type "slice", data := .fields #[vl, vu, vs] } }
    refine tail_any (ops := [.ref a, .ref s4.heap.objs.size]) ht.typeIs (PyProof.Rows.slot_tuple_getitem.lookup) ?_ (by with_unfolding_all rfl)
    refine getItem_tuple_rev ht (Heap.IsSliceOf.new _ vl vu vs) pl pu ps ?_ (by rw [List.size_toArray]; omega)
    refine ⟨.ref _, _, I5.laid (t' := s4.toks) (o := .tup xs.reverse) (fun b ob q => Heap.get?_push_of_some _ q) (Nat.le_refl _) ?_, rfl, q _ (I5.hok.fresh (Nat.le_refl _))⟩
    exact ⟨by rw [List.length_reverse]; exact hz, _, r.reverse, IsTup.new _ _⟩
end L3

set_option Elab.async false
set_option linter.all false
set_option maxRecDepth 100000
/-! L3: dict(zip(a, b)). -/
namespace L3
open PySem PySem.Spec PyProof.Rows L2
variable [Mo]
section
variable {X : Cx} {ta : TA}
theorem vals_keys : ∀ {ks : List Key} {us : List Value}, Vals (ks.map kV) us → ∀ (i : Nat) (u : Value), us[i]? = some u → ∃ k, ks[i]? = some k ∧ keyIs k u = true
  | [], _, .nil, i, u, e => by simp at e
  | k :: ks, _, .cons r t, 0, u, e => by
    simp at e; subst e
    refine ⟨k, rfl, ?_⟩
    cases k with
    | inl n => obtain ⟨tk, rfl⟩ := r; simp [keyIs, Value.isInt, Value.isStrOf]
    | inr n => obtain ⟨tk, rfl⟩ := r; simp [keyIs, Value.isInt, Value.isStrOf]
  | k :: ks, _, .cons r t, i + 1, u, e => by
    obtain ⟨j, h1, h2⟩ := vals_keys t i u (by simpa using e)
    exact ⟨j, by simpa using h1, h2⟩
theorem kv_zip {ys : List V} {us : List Value} (r : Vals ys us) : ∀ {ks : List Key}, KV (ks.zip ys) (ks.zip us) := by
  induction r with
  | nil => intro ks; cases ks <;> exact .nil
  | cons a b ih =>
    intro ks
    cases ks with
    | nil => exact .nil
    | cons k ks => exact .cons ⟨rfl, a⟩ ih
def tDZ (K : PySem.W.Frag) (ta : TA) : TE := fun σ H Q => ta σ H fun vs H1 => ∃ (a b : Addr) (ks : List Key) (ys : List V), vs = [.ref a, .ref b] ∧ SqL K H1 a (ks.map kV) ∧ SqL K H1 b ys ∧ ∀ p, H1 p = none → Q (.ref p) (upd H1 p (.dK (mergeK [] (ks.zip ys))))
theorem pe_dictZip {e e2 : Expr} {p p2 pos pos2 : Pos} (hc : X.calm = true) (hg : Gl X "dict") (hm : X.mg "dict" = none) (hg2 : Gl X "zip") (hm2 : X.mg "zip" = none) (ha : PA X [e, e2] ta)
    (hs : starEach [e, e2] X.env = (false, eval e X.env) :: starEach [e2] X.env := by rfl) (hpl : (backTo pos2 (starEach [e2] X.env)).any (·.1) = false := by rfl) :
    PE X (.Call (.Name "dict" p) [.Call (.Name "zip" p2) [e, e2] [] pos2] [] pos) (tDZ X.K ta) := by
  refine ⟨fun pins s σ H Q I h => ?_⟩
  refine Call_ (ld_blt I hg hm PyProof.Rows.boot_dict (PyProof.Rows.callWith_type1 (args_cons ?_ (by rfl)) (by rfl) (by rfl)))
  refine Call_ (ld_blt I hg2 hm2 PyProof.Rows.boot_zip (PyProof.Rows.callWith_type1 (thn (ha.run pos2 pins s σ H _ I h) fun us s1 ⟨vs, H1, I1, r1, q1⟩ => ?_) hs hpl))
  obtain ⟨a, b, ks, ys, ex, hqx, hqy, q⟩ := q1
  subst ex
  cases r1 with
  | cons r rr =>
    cases rr with
    | cons r' rr =>
      cases rr
      cases r
      cases r'
      obtain ⟨its, rv, p1, l1⟩ := I1.list hqx
      obtain ⟨its2, rv2, p2, _⟩ := I1.list hqy
      have la : a < s1.heap.objs.size := p1.lt
      have lb : b < s1.heap.objs.size := p2.lt
      refine call_zip_2 p1.isList p2.isList fun h' hz hTI hTO h1 h2 hsz hk => ?_
      have I2 : Inv X pins σ H1 { s1 with heap := h' } := I1.kept (t' := s1.toks) hk
      refine args_nil ?_
      have hlen : its.length = ks.length := by rw [← rv.length, List.length_map]
      refine PySem.call_dict_pairs (knd := mixKind X.prog X.w) (kvs := ks.zip its2) (PySem.PairArg.zip _ _ _ _ _ a b (PySem.W.ktu_apart s1.heap.objs.size a b la lb) its.toArray its2.toArray) (I1.ok.hd hc) ⟨hz, hTI, ⟨_, _, hTO⟩, h1, h2, p1.isList.at fun o e => hk _ o e, p2.isList.at fun o e => hk _ o e⟩ ⟨?_, ?_⟩ ?_ ?_
      · simp [hlen]
      · intro i key v hv
        obtain ⟨hv1, hv2⟩ := hv
        obtain ⟨k, hk1, hk2⟩ := vals_keys rv i key (by simpa using hv1)
        refine ⟨k, ?_, hk2⟩
        rw [List.getElem?_zip_eq_some]
        exact ⟨hk1, by simpa using hv2⟩
      · have := Nat.min_le_left its.toArray.size its2.toArray.size
        have h4 : its.toArray.size = ks.length := by simp [hlen]
        rw [List.length_map] at l1
        omega
      · intro h'' tk hd' hk2
        have hs' : s1.heap.objs.size ≤ h'.objs.size := by omega
        have hmm : (h'.objs.size == sysModules) = false := beq_eq_false_iff_ne.mpr (Nat.ne_of_gt (Nat.lt_of_lt_of_le I1.big hs'))
        have hl : (mergeK [] (ks.zip ys)).length ≤ sizeLine := by
          refine Nat.le_trans (length_mergeK (ks.zip ys) []) ?_
          rw [List.length_map] at l1
          rw [List.length_nil, List.length_zip]
          omega
        refine ⟨.ref h'.objs.size, upd H1 h'.objs.size (.dK (mergeK [] (ks.zip ys))), I1.laid (t' := tk) (fun c o e => hk2 c o ?_ (hk _ o e)) hs' ⟨hl, hmm, merged [] (ks.zip its2), KV.merge (kv_zip rv2) .nil, hd'⟩, rfl, q _ (I1.hok.fresh hs')⟩
        have := Heap.lt_size e
        intro hm
        simp only [List.mem_cons, List.not_mem_nil, or_false] at hm
        rcases hm with z | z | z | z
        · exact absurd (z ▸ this) (Nat.not_lt.mpr (Nat.le_add_right _ _))
        · exact absurd (z ▸ this) (Nat.not_lt.mpr (Nat.le_add_right _ _))
        · exact absurd (z ▸ this) (Nat.lt_irrefl _)
        · exact absurd (z ▸ this) (Nat.not_lt.mpr (Nat.le_add_right _ _))
end
end L3

set_option Elab.async false
set_option linter.all false
set_option maxRecDepth 100000
/-! L3: tuple * int. -/
namespace L3
open PySem PySem.Spec PyProof.Rows L2
open PySem.AutoSeq1 (wpAny_loadPart')
open PySem.MeetsSeq PySem.MeetsSeq2 PySem.MeetsSeq3
theorem tuple_mul1 (l : Addr) (items : Array Value) (n : Nat) (dd : Option Addr) (sl : Array (Option Value)) (u : Tok) (c1 : items.isEmpty = false) :
    Meets (Builtin.«tuple.__mul__» ⟨[.ref l, .int 1 u], []⟩) (fun _ R s => s.heap.get? l = some { cls := .type "tuple", dict := dd, data := .seq items n, slots := sl } ∧
      R (.ok (.ret (Value.ref l))) s) :=
  .of_wp fun prog w A R s h => by
    obtain ⟨hp, g, d, tk, os⟩ := s
    obtain ⟨hl, h⟩ := h
    have f1 := AutoSeq1.idx_int
    wp_walk using wpAny_loadPart' hl
    exact ⟨_, rfl, h⟩
variable [Mo]
section
variable {X : Cx}
theorem op_rep1 : OpR X (binaryOp .Mult) (fun x y H Q => ∃ l xs, x = .ref l ∧ y = .int 1 ∧ SqT X.K H l xs ∧ xs ≠ [] ∧ Q (.ref l) H) := by
  intro pins s σ H x y v u Q I rx ry h
  obtain ⟨l, xs, rfl, rfl, hT, hne, q⟩ := h
  cases rx
  obtain ⟨t, rfl⟩ := ry
  obtain ⟨its, r, ⟨⟨cls, dd, data, sl⟩, ho, hc, n, hd⟩, hs⟩ := I.tuple hT
  simp only at hc hd
  subst hc hd
  have hle : its.length = xs.length := r.length.symm
  have hn : its ≠ [] := fun e => hne (by
    rw [e] at hle
    exact List.eq_nil_of_length_eq_zero hle.symm)
  have hi : its.toArray.isEmpty = false := by
    cases its with
    | nil => exact absurd rfl hn
    | cons a b => rfl
  exact wpAny_binaryOp_repeat_ref (T := "tuple") (U := "int") (by decide) ⟨_, ho, rfl⟩ (fun s' => typeIs_int s' 1 t) noFill_tuple_mul F.fills_int_mul F.slot_int_rmul repeat_tuple F.slot_int_index.lookup
    (call_meets F.slot_int_rmul (typeIs_int s 1 t) F.entry_int_rmul (F.args_int_rmul_2 _ _) (int_rmul_tuple 1 t l its.toArray n dd sl)
      ⟨ho, rfl, ⟨_, ho, rfl⟩, call_meets F.slot_tuple_mul ⟨_, ho, rfl⟩ F.entry_tuple_mul (F.args_tuple_mul_2 _ _) (tuple_mul1 l its.toArray n dd sl t hi) ⟨ho, ⟨.ref l, H, I, rfl, q⟩⟩⟩)
end
end L3

set_option Elab.async false
set_option linter.all false
set_option maxRecDepth 100000
/-! L3: the greatest value of a dict. -/
namespace L3
open PySem PySem.Spec PyProof.Rows L2
theorem maxL_in : ∀ {ns : List Int}, ns ≠ [] → maxL ns ∈ ns
  | [], h => absurd rfl h
  | [x], _ => by simp [maxL]
  | x :: y :: r, _ => by
    have ih := maxL_in (ns := y :: r) (by simp)
    show max x (maxL (y :: r)) ∈ _
    rcases Int.le_total x (maxL (y :: r)) with c | c
    · rw [Int.max_eq_right c]; exact List.mem_cons_of_mem _ ih
    · rw [Int.max_eq_left c]; simp
theorem maxL_up : ∀ {ns : List Int} {i : Int}, i ∈ ns → i ≤ maxL ns
  | [], _, h => by simp at h
  | [x], i, h => by simp at h; subst h; exact Int.le_refl _
  | x :: y :: r, i, h => by
    show i ≤ max x (maxL (y :: r))
    rcases List.mem_cons.mp h with rfl | h
    · exact Int.le_max_left _ _
    · exact Int.le_trans (maxL_up h) (Int.le_max_right _ _)
theorem maxL_uniq {ns : List Int} {m : Int} (h1 : m ∈ ns) (h2 : ∀ j ∈ ns, j ≤ m) : m = maxL ns :=
  Int.le_antisymm (maxL_up h1) (h2 _ (maxL_in (fun z => by rw [z] at h1; cases h1)))
section
variable {X : Cx} {obj : Expr} {q0 q1 q2 q3 : Pos} {tt : TE}
def tMaxV (tt : TE) : TE := fun σ H Q => tt σ H fun x H1 => ∃ b us ns, x = V.ref b ∧ Rd H1 b (.dK us) ∧ us.map (·.2) = ns.map V.int ∧ ns ≠ [] ∧ ∀ m, m ∈ ns → (∀ j ∈ ns, j ≤ m) → Q (.int m) H1
theorem pe_maxV (calm : X.calm = true) (g1 : Gl X "max") (g2 : X.mg "max" = none) (pd : PE X obj tt) (bs : attributeBase obj "values" X.env (eval obj X.env) = eval obj X.env) (ln : (q2.endLine == q3.line) = true)
    (st : starEach [Expr.Call (.Attribute obj "values" q2) [] [] q3] X.env = [(false, eval (Expr.Call (.Attribute obj "values" q2) [] [] q3) X.env)] := by rfl) :
    PE X (.Call (.Name "max" q0) [.Call (.Attribute obj "values" q2) [] [] q3] [] q1) (tMaxV tt) := by
  refine ⟨fun pins sh σ H Q inv hq => ?_⟩
  refine wpAny_Call_Name_kw (ld_blt inv g1 g2 (u := .builtin "max") (by first | rfl | decide +kernel) ?_ (by first | decide +kernel | decide) (by first | decide +kernel | decide))
  rw [st]
  refine PySem.callWith_builtin1 (wpAny_Call_method0_late bs ln (thn (pd.run pins sh σ H _ inv hq) fun v s2 ⟨x, HH, inv2, rx, b, us, ns, e0, at0, val0, ne0, fin⟩ => ?_))
  subst e0
  obtain rfl : v = Value.ref b := rx
  obtain ⟨_, sysm, ws, rl, dOf⟩ := dk_rd inv2.hok at0
  obtain ⟨ep, dAt⟩ := dOf.dictAt
  have dAt2 := dAt
  obtain ⟨ob, ents, gb, exct, _, _, _, _⟩ := dAt2
  refine ⟨"dict", "dict.values", F.plainAttrs_dict, F.slot_dict_values, F.type_dict_values, ⟨ob, gb, exct.1⟩, fun c ec => ?_, Calls.callWith_builtin rfl (PySem.evalArgs_none ?_)⟩
  · cases ec
    exact ⟨ob, gb, exct.2.1⟩
  refine call_meetsIn F.slot_dict_values ⟨ob, gb, exct.1⟩ F.entry_dict_values (F.args_dict_values_1 _) (meets_dict_values (mixKind X.prog X.w) b sysm) ⟨⟨ws, dOf⟩, ?_⟩
  have up1 : ∀ c u, s2.heap.get? c = some u → (s2.heap.push { cls := .type "dict_values", data := .fields #[.ref b] }).get? c = some u := fun c u e => Heap.get?_push_of_some _ e
  have lw : ws.length = ns.length := by
    have l1 := congrArg List.length val0
    rw [List.length_map, List.length_map] at l1
    exact (KV.length rl).symm.trans l1
  have lpos : 0 < ws.length := lw ▸ List.length_pos_iff.mpr ne0
  have each : ∀ (i : Nat) (v : Value), (∃ k, ws[i]? = some (k, v)) → ∃ t, v = Value.int (ns.getD i 0) t := fun i v ⟨k, hk⟩ => by
    obtain ⟨x, w1, w2⟩ := KV.at' rl hk
    have l1 : (us.map (·.2))[i]? = some x := by rw [List.getElem?_map, w1] <;> rfl
    rw [val0, List.getElem?_map] at l1
    obtain ⟨j, hj, l2⟩ := Option.map_eq_some_iff.mp l1
    subst l2
    obtain ⟨t, l3⟩ := w2
    exact ⟨t, by rw [l3, List.getD_eq_getElem?_getD, hj] <;> rfl⟩
  have blt : b < s2.heap.objs.size := Heap.lt_size gb
  have sz : (s2.heap.push { cls := .type "dict_values", data := .fields #[.ref b] }).objs.size = s2.heap.objs.size + 1 := Heap.size_push _ _
  refine call_max_walk (wpAny_pyIter_values (v := s2.heap.objs.size) (d := b) ⟨_, Heap.get?_push_size _ rfl, rfl, rfl⟩ (dAt.keep up1) ?_)
  refine ⟨_, _, _, _, _, _, _, rfl, Walks.dictValues (knd := mixKind X.prog X.w) (A := X.A.in1) (inv2.ok.hd calm) (s2.heap.push { cls := .type "dict_values", data := .fields #[.ref b] }).objs.size b (by rw [sz]; exact Nat.ne_of_lt (Nat.lt_succ_of_lt blt)) ws ep,
    ⟨⟨_, Heap.get?_push_size _ rfl, rfl, rfl⟩, (dAt.keep up1).keep fun c u e => Heap.get?_push_of_some _ e⟩, fun c hc => ?_, lpos, CmpOf.ints_gt (fun i => ns.getD i 0) each, fun v h2 tk hP hk => ?_⟩
  · show c < ((s2.heap.push _).push _).objs.size
    rw [Heap.size_push, Heap.size_push]
    rw [sz] at hc
    simp only [List.mem_cons, List.not_mem_nil, or_false] at hc
    rcases hc with hc | hc
    · rw [hc]; exact Nat.lt_succ_self _
    · rw [hc]; exact Nat.lt_succ_of_lt (Nat.lt_succ_of_lt blt)
  · obtain ⟨t, rfl⟩ := each _ v hP
    obtain ⟨m1, m2⟩ := argBest_gt (fun i => ns.getD i 0) (ws.length - 1)
    refine ⟨.int _, HH, inv2.kept (t' := tk) fun c u e => hk c u (fun mem => ?_) (Heap.get?_push_of_some _ (up1 c u e)), ⟨t, rfl⟩, fin _ ?_ fun j hj => ?_⟩
    · have l1 := List.mem_singleton.mp mem
      have l2 := Heap.lt_size e
      rw [sz] at l1
      rw [l1] at l2
      exact absurd l2 (Nat.not_lt.mpr (Nat.le_succ _))
    · have hl : argBest (fun i j => decide (ns.getD i 0 > ns.getD j 0)) (ws.length - 1) < ns.length := by
        have : argBest (fun i j => decide (ns.getD i 0 > ns.getD j 0)) (ws.length - 1) ≤ ws.length - 1 := m1
        omega
      rw [List.getD_eq_getElem?_getD, List.getElem?_eq_getElem hl]
      exact List.getElem_mem hl
    · obtain ⟨i, hi⟩ := List.getElem?_of_mem hj
      have hl := (List.getElem?_eq_some_iff.mp hi).1
      have : ns.getD i 0 ≤ ns.getD (argBest (fun i j => decide (ns.getD i 0 > ns.getD j 0)) (ws.length - 1)) 0 := m2 i (by omega)
      rw [List.getD_eq_getElem?_getD, hi] at this
      exact this
end
end L3

set_option Elab.async false
set_option linter.all false
set_option maxRecDepth 100000
set_option maxHeartbeats 2000000
/-! L3: sorted(d.items()). -/
namespace L3
open PySem PySem.Spec PyProof.Rows L2 LiI
open PySem.W (alike AllAlike Sortable dataLe EachIs sortVals_data each_map bound_map dataKind sortingHeap sortingHeap_old)
open PySem.Calls (call_function_entry)
variable [Mo]
section
variable {prog : Program} {w : World} {A : Around} {E : Value → Shared → Prop} {s : Shared} {β : Type} {vs : List Value} {bs : List β} {enc : β → PyData} {R : Value → β → Prop}
/-- xs.sort(), where what is read is older than the list -/
theorem list_sort_data' {a : Addr} {n : Nat} {Q : Value → Shared → Prop} (ho : s.heap.get? a = some (seqObj "list" vs.toArray n)) (e : EachIs R vs bs) (er' : EachIs (fun v b => ∃ as, Reads (sortingHeap s.heap a vs) v (enc b) as) vs bs) (hal : AllAlike (bs.map enc)) (hk : Sortable (bs.map enc)) (hL : bs.length ≤ sizeLine)
    (hu : ∀ b, b ∈ bs → A.units + 1 + (enc b).depth < cLine) (h : ∀ out, out.length = bs.length → EachIs R out (bs.mergeSort (dataLe false enc)) → Q .none { s with heap := sortedHeap s.heap a vs (List.toArray out) }) :
    wpAny (model prog w) A (call (.builtin "list.sort") [.ref a]) Q E s := by
  refine wpAny_call_entry slot_list_sort ⟨_, ho, rfl⟩ entry_list_sort (PySem.W.list_sort_vals (κ := dataKind (sortingHeap s.heap a vs) (bs.map enc)) ho (PySem.W.SortsAt.data (s := { s with heap := sortingHeap s.heap a vs }) (each_map (R := fun v d => ∃ as, Reads (sortingHeap s.heap a vs) v d as) enc er') hal hk (bound_map hu)) (by rw [e.length]; exact hL) ⟨.none, rfl, ?_⟩) (args_list_sort _)
  exact h _ (by rw [PySem.W.sortVals_length false rfl]; exact e.length) (sortVals_data false e er' hal)
end
section
variable {X : Cx}
theorem items_laid2 {pins : List (Addr × Obj)} {σ : L2.St} {H : Hp} {s : Shared} {h' : Heap} {tk : Nat} {kvs : List (Key × V)} {vs : List (Key × Value)} {as : List Addr} (I : Inv X pins σ H s) (kv : KV kvs vs)
    (hk : ∀ b o, s.heap.get? b = some o → h'.get? b = some o) (hl : as.length = vs.length) (hG : PySem.W.KdxG (mixKind X.prog X.w) vs s.heap.objs.size h' as) :
    ∃ H' : Hp, (∀ b o, H b = some o → H' b = some o) ∧ (∀ t ∈ as, H t = none) ∧ (∀ b, b ∉ as → H' b = H b) ∧ Paired (fun (t : Addr) (q : Key × V) => H' t = some (.tup [kV q.1, q.2])) as kvs ∧ Inv X pins σ H' { s with heap := h', toks := tk } := by
  have lk : kvs.length = vs.length := Paired.length kv
  have nd : as.Nodup := List.Pairwise.imp (fun {a b} (h : a < b) => Nat.ne_of_lt h) hG.rise
  have new : ∀ t ∈ as, H t = none := fun t ht => I.hok.fresh (Nat.le_of_lt (hG.above t ht))
  have atP := putT_at as kvs H (by omega) nd
  have off : ∀ b, b ∉ as → putT H as kvs b = H b := fun b h1 => putT_off as kvs _ h1
  have low : ∀ b o, s.heap.get? b = some o → b ∉ as := fun b o e => fun z => absurd (Heap.lt_size e) (Nat.not_lt.mpr (Nat.le_of_lt (hG.above b z)))
  have kp : ∀ b u, H b = some u → (putT H as kvs) b = some u := fun b u e => by
    rw [off b (fun z => by rw [new b z] at e; cases e)]
    exact e
  refine ⟨putT H as kvs, kp, new, off, atP, ?_⟩
  refine I.call' (ch := []) rfl ⟨fun b o q _ _ _ => hk b o q, fun b o q _ _ _ => ⟨o.slots, hk b o q⟩, fun b o q n _ => ?_, fun b o q _ => ⟨o, hk b o q⟩, fun b xs q => kp b _ q, fun b o u q => kp b _ q, fun b ps q => ⟨#[], by rw [kp b _ q]; simp⟩⟩ (fun b u q => ?_) I.bare fun b z => by simp at z
  · rw [off b (low b o q)]
    exact n
  · by_cases hb : b ∈ as
    · obtain ⟨j, pk, e1, e2, e3⟩ := paired_ix atP hb
      rw [e3] at q
      cases q
      obtain ⟨key, k, x, f1, f2, f3⟩ := hG.pairs j b e1
      obtain ⟨qv, g1, g2, g3⟩ := L2.paired_get kv e2
      rw [f1] at g1
      cases g1
      have rk : RelV (kV pk.1) key := by
        rw [g2]
        exact relV_key (show keyIs k key = true from f2)
      exact ⟨by show 2 ≤ sizeLine; decide, [key, x], .cons rk (.cons g3 .nil), ⟨_, f3, rfl, _, rfl⟩⟩
    · rw [off b hb] at q
      exact (I.hok b u q).stay (fun d v _ y => hk d v y) (fun d y => kp d _ y) fun d xs y => kp d _ y
/-- the pairs' readings -/
theorem pairs_rv {h : Hq} {H H' : Hp} (st : Stab h H h H') (nh : ∀ b, H b = none → h b = none) : ∀ {as : List Addr} {kvs : KVs} {us : List (Key × V)}, RKV h H kvs us → (∀ t ∈ as, H t = none) → Paired (fun (t : Addr) (q : Key × V) => H' t = some (.tup [kV q.1, q.2])) as us → RVs h H' (kvs.map fun kv => .tup [keyV kv.1, kv.2]) (as.map V.ref)
  | [], kvs, us, r, _, p => by
    cases p
    have := r.length
    cases kvs with
    | nil => exact .nil
    | cons _ _ => simp at this
  | a :: as, kvs, us, r, n, p => by
    cases p with
    | @cons _ u _ us p1 p2 =>
      cases kvs with
      | nil => have := r.length; simp at this
      | cons kv kvs =>
        obtain ⟨k, v⟩ := kv
        obtain ⟨y, t, e, r1, r2⟩ := r.un
        cases e
        refine .cons ⟨a, _, rfl, nh a (n a (by simp)), p1, .cons ?_ (.cons (RV.keep st r1) .nil)⟩ (pairs_rv st nh r2 (fun t ht => n t (by simp [ht])) p2)
        cases k <;> rfl
def tItemsS (fz : Bool) (te : TE) : TE := fun σ H Q => te σ H fun x H1 => ∃ (d : Addr) (us : List (Key × V)) (h : Hq) (kvs : KVs) (ds : List PyData), x = .ref d ∧ Rd H1 d (.dK us) ∧ RH h H1 ∧ RKV h H1 kvs us ∧ mapO (dt1 h) (kvs.map fun kv => .tup [keyV kv.1, kv.2]) = some ds ∧
  AllAlike ds ∧ Sortable ds ∧ shp ds ∧ Out.w (KQ h H1 Q) (.al fz ((kvs.map fun kv => Val.tup [keyV kv.1, kv.2]).mergeSort (dataLe false (dtD h))) h)
theorem pe_itemsS {obj : Expr} {q0 q1 q2 q3 : Pos} {tt : TE} {fz : Bool} (kk : X.K = Mo.K) (calm : X.calm = true) (hu : X.A.units + 70 < cLine) (g1 : Gl X "sorted") (g2 : X.mg "sorted" = none) (pd : PE X obj tt) (bs : attributeBase obj "items" X.env (eval obj X.env) = eval obj X.env) (ln : (q2.endLine == q3.line) = true)
    (st : starEach [Expr.Call (.Attribute obj "items" q2) [] [] q3] X.env = [(false, eval (Expr.Call (.Attribute obj "items" q2) [] [] q3) X.env)] := by rfl) :
    PE X (.Call (.Name "sorted" q0) [.Call (.Attribute obj "items" q2) [] [] q3] [] q1) (tItemsS fz tt) := by
  refine ⟨fun pins sh σ H Q inv hq => ?_⟩
  refine wpAny_Call_Name_kw (ld_blt inv g1 g2 (u := .builtin "sorted") (by first | rfl | decide +kernel) ?_ (by first | decide +kernel | decide) (by first | decide +kernel | decide))
  rw [st]
  refine PySem.callWith_builtin1 (wpAny_Call_method0_late bs ln (thn (pd.run pins sh σ H _ inv hq) fun v s2 ⟨x, HH, inv2, rx, b, us, h, kvs, ds, e0, at0, rh, rkv, eds, hal, hkk, hsh, fin⟩ => ?_))
  subst e0
  obtain rfl : v = Value.ref b := rx
  obtain ⟨hz, sysm, ws, rl, dOf⟩ := dk_rd inv2.hok at0
  obtain ⟨ep, dAt⟩ := dOf.dictAt
  have dAt2 := dAt
  obtain ⟨ob, ents, gb, exct, _, _, _, _⟩ := dAt2
  have lk : us.length = ws.length := Paired.length rl
  refine ⟨"dict", "dict.items", F.plainAttrs_dict, F.slot_dict_items, F.type_dict_items, ⟨ob, gb, exct.1⟩, fun c ec => ?_, Calls.callWith_builtin rfl (PySem.evalArgs_none ?_)⟩
  · cases ec
    exact ⟨ob, gb, exct.2.1⟩
  refine call_meetsIn F.slot_dict_items ⟨ob, gb, exct.1⟩ F.entry_dict_items (F.args_dict_items_1 _) (meets_dict_items (mixKind X.prog X.w) b sysm) ⟨⟨ws, dOf⟩, ?_⟩
  have I2 : Inv X pins σ HH { s2 with heap := s2.heap.push { cls := .type "dict_items", data := .fields #[.ref b] } } := inv2.kept (t' := s2.toks) fun b ob q => Heap.get?_push_of_some _ q
  refine call_function_entry kind_sorted plain_sorted entry_sorted (args_sorted1 _) ?_
  unfold Builtin.«sorted»
  refine wpAny_bind (m := checkCount "sorted" 1 1 _) (wpAny_pure ?_)
  refine wpAny_bind (PySem.W.kdx_collect (A := X.A.in1) (knd := mixKind X.prog X.w) (kvs := ws) (ep := ep) (inv2.ok.hd calm) ⟨_, Heap.get?_push_size _ rfl, rfl, rfl⟩ (dAt.keep fun c u e => Heap.get?_push_of_some _ e) (by omega) fun h' tk as hk hl hG => ?_)
  obtain ⟨H', kp, new, off, atP, J⟩ := items_laid2 (tk := tk) I2 rl hk hl hG
  refine wpAny_bind (wpAny_newList ?_ (by rw [List.length_map, hl, ← lk]; exact hz))
  have stb : Stab h HH h H' := fun c u e m => ⟨kp c u e, m⟩
  have nh : ∀ c, HH c = none → h c = none := fun c e => rh.free e
  have rvs := pairs_rv stb nh rkv new atP
  have rh' : RH h H' := fun c cc e => (rh c cc e).keep stb (by obtain ⟨o, q⟩ := (rh c cc e).some; rw [kp _ _ q, q])
  have lpq : (kvs.map fun kv => Val.tup [keyV kv.1, kv.2]).length ≤ sizeLine := by rw [List.length_map, rkv.length]; exact hz
  have hv : Vals (as.map V.ref) (as.map Value.ref) := LiI.vals_refs as
  have ed := mapO_dtD eds
  subst ed
  have ea := each_of rvs hv
  have er0 := each_reads kk J rh' eds ea
  have hpu : ∀ (b : Addr) (o : Obj), h'.get? b = some o → (sortingHeap (h'.push { cls := .type "list", data := .seq (as.map Value.ref).toArray }) h'.objs.size (as.map Value.ref)).get? b = some o := fun b o e =>
    sortingHeap_old (Nat.ne_of_lt (Heap.lt_size e)) (Heap.get?_push_of_some _ e)
  have er : EachIs (fun v b => ∃ as', Reads (sortingHeap (h'.push { cls := .type "list", data := .seq (as.map Value.ref).toArray }) h'.objs.size (as.map Value.ref)) v (dtD h b) as') (as.map Value.ref) (kvs.map fun kv => Val.tup [keyV kv.1, kv.2]) := er0.mono fun _ _ ⟨as', r⟩ => ⟨as', PyProof.Rows.Reads.keeps hpu r⟩
  refine wpAny_bind (wpAny_holding (wpAny_mono (list_sort_data' (s := { s2 with heap := h'.push { cls := .type "list", data := .seq (as.map Value.ref).toArray }, toks := tk }) (A := X.A.in1) (n := 0) (R := fun u w => ∃ x, RelV x u ∧ RV h H' w x) (enc := dtD h) (Q := fun v sx => ∃ out, v = .none ∧ sx = { s2 with heap := sortedHeap (h'.push { cls := .type "list", data := .seq (as.map Value.ref).toArray }) h'.objs.size (as.map Value.ref) (List.toArray out), toks := tk } ∧ EachIs (fun u w => ∃ x, RelV x u ∧ RV h H' w x) out ((kvs.map fun kv => Val.tup [keyV kv.1, kv.2]).mergeSort (dataLe false (dtD h)))) (Heap.get?_push_size _ rfl) ea er hal hkk lpq (fun b hb => ?_) fun out h1 h2 => ⟨out, rfl, rfl, h2⟩) (fun _ s' x => ?_) fun _ _ e => e))
  · have := shp_depth (hsh _ (List.mem_map.mpr ⟨b, hb, rfl⟩))
    have h1 : X.A.in1.units ≤ X.A.units + 1 := Nat.le_refl _
    omega
  obtain ⟨out, rfl, rfl, h2⟩ := x
  refine wpAny_pure ?_
  obtain ⟨vs', k1, k2⟩ := each_back h2
  obtain ⟨ep2, he2⟩ := PyProof.Rows.sortedHeap_at (out := List.toArray out) (vs := as.map Value.ref) (n := 0) (h := h'.push { cls := .type "list", data := .seq (as.map Value.ref).toArray }) (a := h'.objs.size) (Heap.get?_push_size _ rfl)
  have hl2 : vs'.length ≤ sizeLine := by rw [← k1.length, List.length_mergeSort]; exact lpq
  have hold : ∀ (c : Addr) (u : Obj), h'.get? c = some u → (sortedHeap (h'.push { cls := .type "list", data := .seq (as.map Value.ref).toArray }) h'.objs.size (as.map Value.ref) (List.toArray out)).get? c = some u := fun c u e => by
    have lt := Heap.lt_size e
    rw [PyProof.Rows.sortedHeap_old (Nat.ne_of_lt lt) (by rw [Heap.size_push]; exact Nat.lt_succ_of_lt lt)]
    exact Heap.get?_push_of_some _ e
  have J2 : Inv X pins σ (upd H' h'.objs.size (.lst vs')) { s2 with heap := sortedHeap (h'.push { cls := .type "list", data := .seq (as.map Value.ref).toArray }) h'.objs.size (as.map Value.ref) (List.toArray out), toks := tk } := J.laid (a := h'.objs.size) (o := .lst vs') (t' := tk) hold (Nat.le_refl _) ⟨hl2, out, ep2, k2, he2⟩
  refine ⟨_, rfl, .ref h'.objs.size, upd H' h'.objs.size (.lst vs'), J2, rfl, ?_⟩
  have fin' : Out.w (KQ h H' Q) (.al fz ((kvs.map fun kv => Val.tup [keyV kv.1, kv.2]).mergeSort (dataLe false (dtD h))) h) := by
    cases fz with
    | true => exact (show KQ h HH Q _ h from fin).later stb
    | false => exact fun p hp => ((show ∀ p, h p = none → KQ h HH Q (.ref p) (up h p (.lst _)) from fin) p hp).later stb
  exact out_list rh' k1 fin' _ (J.hok.fresh (Nat.le_refl _))
/-! ### len(set(xs)) -/
theorem intsAre_vals : ∀ {ns : List Int} {us : List Value}, Vals (ns.map V.int) us → PyProof.Rows.IntsAre us ns
  | [], _, .nil => .nil
  | n :: ns, _, .cons r t => by
    obtain ⟨k, rfl⟩ := r
    exact .cons n k (intsAre_vals t)
def tLenSet (K : PySem.W.Frag) (ta : TE) : TE := fun σ H Q => ta σ H fun x H1 => ∃ (l : Addr) (ns : List Int), x = V.ref l ∧ SqL K H1 l (ns.map V.int) ∧ ns.length ≤ 1000 ∧ Q (.int (dlen ns : Nat)) H1
theorem pe_lenSet {a : Expr} {ta : TE} {p p2 q pos : Pos} (hc : X.calm = true) (hg : Gl X "len") (hm : X.mg "len" = none) (hg2 : Gl X "set") (hm2 : X.mg "set" = none) (ha : PE X a ta)
    (na : starEach [a] X.env = (false, eval a X.env) :: starEach [] X.env := by rfl) : PE X (.Call (.Name "len" p) [.Call (.Name "set" p2) [a] [] q] [] pos) (tLenSet X.K ta) := by
  refine ⟨fun pins s σ H Q I h => ?_⟩
  refine Call_ (ld_blt I hg hm PySem.boot_len ?_)
  refine PyProof.Rows.callWith_builtin1 (PyProof.Rows.args_cons ?_ rfl) rfl rfl
  refine Call_ (ld_blt I hg2 hm2 PyProof.Rows.boot_set ?_)
  refine PyProof.Rows.callWith_type1 (PyProof.Rows.args_cons (thn (ha.run pins s σ H _ I h) fun v s1 ⟨x, H1, I1, r1, q1⟩ => PyProof.Rows.args_nil ?_) na) na rfl
  obtain ⟨l, ns, rfl, hq, h1, q1⟩ := q1
  cases r1
  obtain ⟨its, r, pl, hz⟩ := I1.list hq
  have hl : its.toArray.size = ns.length := by rw [List.size_toArray, ← r.length, List.length_map]
  refine call_set_list (I1.ok.hd hc) pl.isList (ns := ns) (by simpa using intsAre_vals r) (by unfold scanBound; omega) fun h' tk hS hk => ?_
  rw [hl] at hS
  refine PyProof.Rows.args_nil ?_
  obtain ⟨o, es, ep, t, ho, hex, hd, _, _, _, hf, hn⟩ := hS
  have hle : (PyProof.Rows.firstMet (fun i => ns.getD i 0) ns.length).length ≤ ns.length := PyProof.Rows.firstMet_length_le _ _
  have I2 : Inv X pins σ H1 { s1 with heap := h', toks := tk } := I1.kept fun b o e => hk b o (Heap.lt_size e) e
  exact call_len_set ho hex hd hf (by rw [hn] <;> omega) ⟨.int (dlen ns : Nat), H1, I2.tok _, ⟨_, by rw [hn]; rfl⟩, q1⟩
end
end L3

set_option Elab.async false
set_option linter.all false
set_option maxRecDepth 100000
/-! L3: more operations, sound. -/
namespace L3
open PySem PySem.Spec PyProof.Rows L2
variable [Mo]
section
variable {T : Tb} {F : Fs} {n : Nat} {X : Cx}
def R1x (f : Val → Hq → Pr) : V → Hp → VK → Prop := fun x H Q => ∃ h a, RH h H ∧ RV h H a x ∧ prW (f a h) (KQ h H Q)
theorem isFn_is {sc : Scope} {g : Expr} {x : Str} (h : isFn sc g x = true) : ∃ p, g = .Name x p ∧ gloB sc x = true ∧ magic x = false := by
  unfold isFn at h
  simp only [Bool.and_eq_true, decide_eq_true_eq, Bool.not_eq_true'] at h
  obtain ⟨p, rfl⟩ := asName_is h.1.1
  exact ⟨p, rfl, h.1.2, h.2⟩
theorem rg_eq (n : Int) : (List.range (n - 0).toNat).map (fun i => V.int (0 + (i : Nat))) = (List.range n.toNat).map fun i => V.int ((i : Nat) : Int) := by
  rw [show n - 0 = n by omega]
  exact List.map_congr_left fun i _ => by rw [Int.zero_add]
theorem rvs_rg {h : Hq} {H : Hp} : ∀ l : List Nat, RVs h H (l.map fun i => Val.int ((i : Nat) : Int)) (l.map fun i => V.int ((i : Nat) : Int))
  | [] => rfl
  | i :: l => .cons rfl (rvs_rg l)
theorem pairs_read {h : Hq} {H : Hp} {K : PySem.W.Frag} : ∀ {xs : List Val} {ws : List V} {kvs : KVs}, RVs h H xs ws → mapO pairOf xs = some kvs → ∃ (ps : List Addr) (us : List (Key × V)), ws = ps.map V.ref ∧ Paired (fun p kv => SqT K H p [kV kv.1, kv.2]) ps us ∧ RKV h H kvs us
  | [], _, _, r, e => by cases e; cases r; exact ⟨[], [], rfl, .nil, .nil⟩
  | x :: xs, _, _, ⟨y, t, q, r1, r2⟩, e => by
    subst q
    unfold mapO at e
    split at e
    · rename_i p ps e1 e2
      cases e
      obtain ⟨as, us, h1, h2, h3⟩ := pairs_read (K := K) r2 e2
      unfold pairOf at e1
      split at e1
      · rename_i k v
        obtain ⟨j, e3, e4⟩ := Option.map_eq_some_iff.mp e1
        cases e4
        obtain ⟨a, vs, q1, _, q2, q3⟩ := r1
        obtain ⟨u1, u2, q0, z1, z2⟩ := rvs2 q3
        subst q0 q1
        obtain rfl := key_read z1 e3
        exact ⟨a :: as, (j, u2) :: us, by rw [h1]; rfl, .cons (SqT.of q2) h2, .cons z2 h3⟩
      · cases e1
    · cases e
theorem keys_read {h : Hq} {H : Hp} : ∀ {xs : List Val} {ws : List V} {ks : List Key}, RVs h H xs ws → mapO keyOf xs = some ks → ws = ks.map kV
  | [], _, _, r, e => by cases e; cases r; rfl
  | x :: xs, _, _, ⟨y, t, q, r1, r2⟩, e => by
    subst q
    unfold mapO at e
    split at e
    · rename_i p ps e1 e2
      cases e
      rw [List.map_cons, ← keys_read r2 e2, key_read r1 e1]
    · cases e
theorem rkv_zip {h : Hq} {H : Hp} : ∀ {ks : List Key} {vs : List Val} {ws : List V}, RVs h H vs ws → RKV h H (ks.zip vs) (ks.zip ws)
  | [], _, _, _ => .nil
  | _ :: _, [], _, r => by cases r; exact .nil
  | k :: ks, v :: vs, _, ⟨y, t, e, r1, r2⟩ => by
    subst e
    exact .cons r1 (rkv_zip r2)
theorem out_list' {h : Hq} {H : Hp} {fz : Bool} {xs : List Val} {vs : List V} {Q : VK} (rh : RH h H) (r : RVs h H xs vs) (ho : Out.w (KQ h H Q) (.al fz xs h)) : ∀ p, H p = none → Q (.ref p) (upd H p (.lst vs)) := out_list rh r ho
theorem sO1 {W : WX} (G : Good T F n X) {o : O1} {fz : Bool} {a : Ex} {pe x : Expr} (h : mO1 X.env.scope o pe = some x) (pa : PE X x (TEx T W (wpE (CN F n) a))) : PE X pe (TEx T W (wpE (CN F n) (.op1 o fz a))) := by
  unfold mO1 at h
  have kc := CN_mono F n
  cases o with
  | lrange =>
    dsimp only at h
    split at h
    · rename_i g c p e1
      split at h
      · rename_i g2 y p2 e2
        split at h
        · rename_i c0
          cases h
          simp only [Bool.and_eq_true, Bool.not_eq_true'] at c0
          obtain ⟨⟨c1, c2⟩, c3⟩ := c0
          obtain ⟨p3, rfl, g1, m1⟩ := isFn_is c1
          obtain ⟨p4, rfl, g2, m2⟩ := isFn_is c2
          obtain rfl := asCall_is e1
          obtain rfl := asCall_is e2
          refine (pe_listRg G.calm (glo_is g1) (G.blt _ (by simp [bltNames])) (prg_1 (glo_is g2) (G.blt _ (by simp [bltNames])) pa (star_cons c3)) (by rfl)).imp fun σ H Q ⟨ρ, h, re, rh, w⟩ => ?_
          refine stepE kc re rh w (fun _ _ e => e) fun v h1 V H1 re1 rh1 st1 rv w => ?_
          obtain ⟨⟨c, out⟩, e, hc, ho⟩ := optW_ex (prW_mono (fun _ _ (k : KQ h H Q _ _) => k.later st1) w)
          unfold o1R at e
          dsimp only at e
          split at e
          · rename_i k
            cases e
            cases rv
            have h1' : k ≤ 1000000 := hc.1
            have h2' : -1000000 ≤ k := hc.2
            refine ⟨k, rfl, ⟨by omega, by omega, by omega, by omega, by omega⟩, fun q nq => ?_⟩
            have e5 : rgV 0 k = (List.range k.toNat).map fun i => V.int ((i : Nat) : Int) := rg_eq k
            rw [e5]
            exact out_list' rh1 (rvs_rg _) ho q nq
          · cases e
        · cases h
      · cases h
    · cases h
  | rev =>
    dsimp only at h
    unfold asRev at h
    split at h
    · cases h
      refine (pe_revA pa).imp fun σ H Q ⟨ρ, h, re, rh, w⟩ => ?_
      refine stepE kc re rh w (fun _ _ e => e) fun v h1 V H1 re1 rh1 st1 rv w => ?_
      obtain ⟨⟨c, out⟩, e, hc, ho⟩ := optW_ex (prW_mono (fun _ _ (k : KQ h H Q _ _) => k.later st1) w)
      unfold o1R at e
      dsimp only at e
      split at e
      · rename_i xs
        cases e
        obtain ⟨p, vs, q1, q2, q3, q4⟩ := rv
        refine ⟨p, vs, q1, .inr ⟨SqT.of q3, fun l n => ?_⟩⟩
        have k := Stab.alloc (h := h1) (o := .tup vs.reverse) n
        exact (show KQ h1 H1 Q (.tup xs.reverse) h1 from ho) _ _ (rh1.alloc n) k ⟨l, _, rfl, rh1.free n, upd_same, RVs.keep k q4.reverse⟩
      · obtain ⟨xs, e1, e2⟩ := Option.map_eq_some_iff.mp e
        cases e2
        obtain ⟨p, vs, q1, q2, q3⟩ := ls_read (K := X.K) G.kk rh1 rv e1
        exact ⟨p, vs, q1, .inl ⟨q2, out_list' rh1 q3.reverse ho⟩⟩
    · cases h
  | dictP =>
    dsimp only at h
    split at h
    · rename_i g y p e1
      split at h
      · rename_i c0
        cases h
        simp only [Bool.and_eq_true, Bool.not_eq_true'] at c0
        obtain ⟨c1, c3⟩ := c0
        obtain ⟨p3, rfl, g1, m1⟩ := isFn_is c1
        obtain rfl := asCall_is e1
        obtain ⟨m2, m3, m4⟩ := magic_is m1
        have both : CallR X (.type "dict") (fun xs H Q => (∃ (a : Addr) (ps : List Addr) (kvs : List (Key × V)), xs = [.ref a] ∧ SqL X.K H a (ps.map V.ref) ∧ Paired (fun p kv => SqT X.K H p [kV kv.1, kv.2]) ps kvs ∧ ∀ p, H p = none → Q (.ref p) (upd H p (.dK (mergeK [] kvs)))) ∨
            ∃ (a : Addr) (kvs : List (Key × V)), xs = [.ref a] ∧ Rd H a (.dK kvs) ∧ ∀ p, H p = none → Q (.ref p) (upd H p (.dK kvs))) := fun pins s σ H xs us Q I r q => q.elim (call_dictP G.calm pins s σ H xs us Q I r) (call_dictD pins s σ H xs us Q I r)
        refine (pe_callTy both (glo_is g1) (G.blt _ (by simp [bltNames])) PyProof.Rows.boot_dict (pa_cons pa pa_nil (star_cons c3)) m4 m2 (star_cons c3) (by rfl)).imp fun σ H Q ⟨ρ, h, re, rh, w⟩ => ?_
        refine stepE kc re rh w (fun _ _ e => e) fun v h1 V H1 re1 rh1 st1 rv w => ?_
        obtain ⟨⟨c, out⟩, e, hc, ho⟩ := optW_ex (prW_mono (fun _ _ (k : KQ h H Q _ _) => k.later st1) w)
        unfold o1R at e
        dsimp only at e
        split at e
        · rename_i xs e3
          obtain ⟨kvs, e4, e5⟩ := Option.map_eq_some_iff.mp e
          cases e5
          obtain ⟨p, vs, q1, q2, q3⟩ := ls_read (K := X.K) G.kk rh1 rv e3
          obtain ⟨ps, us, z1, z2, z3⟩ := pairs_read (K := X.K) q3 e4
          subst z1
          exact .inl ⟨p, ps, us, by rw [q1], q2, z2, fun q nq => alcD_out rh1 (RKV.merge' .nil z3) ho q nq⟩
        · obtain ⟨kvs, e4, e5⟩ := Option.map_eq_some_iff.mp e
          cases e5
          obtain ⟨p, us, q1, q2, q3⟩ := dr_read rh1 rv e4
          exact .inr ⟨p, us, by rw [q1], q2, fun q nq => alcD_out rh1 q3 ho q nq⟩
      · cases h
    · cases h
  | lenSet =>
    dsimp only at h
    split at h
    · rename_i g c p e1
      split at h
      · rename_i g2 y p2 e2
        split at h
        · rename_i c0
          cases h
          simp only [Bool.and_eq_true, Bool.not_eq_true'] at c0
          obtain ⟨⟨c1, c2⟩, c3⟩ := c0
          obtain ⟨p3, rfl, g1, m1⟩ := isFn_is c1
          obtain ⟨p4, rfl, g2, m2⟩ := isFn_is c2
          obtain rfl := asCall_is e1
          obtain rfl := asCall_is e2
          refine (pe_lenSet G.calm (glo_is g1) (G.blt _ (by simp [bltNames])) (glo_is g2) (G.blt _ (by simp [bltNames])) pa (star_cons c3)).imp fun σ H Q ⟨ρ, h, re, rh, w⟩ => ?_
          refine stepE kc re rh w (fun _ _ e => e) fun v h1 V H1 re1 rh1 st1 rv w => ?_
          obtain ⟨⟨c, out⟩, e, hc, ho⟩ := optW_ex (prW_mono (fun _ _ (k : KQ h H Q _ _) => k.later st1) w)
          obtain ⟨ns, e4, e5⟩ := Option.map_eq_some_iff.mp (show (((ls h1 v).bind (mapO intOf)).map fun ns => (ns.length ≤ 1000, Out.v (.int (dlen ns : Nat)) h1)) = some (c, out) from e)
          cases e5
          obtain ⟨xs, e6, e7⟩ := Option.bind_eq_some_iff.mp e4
          obtain ⟨q, vs, q1, q2, q3⟩ := ls_read (K := X.K) G.kk rh1 rv e6
          obtain rfl := RVs.ints' q3 e7
          exact ⟨q, ns, q1, q2, hc, KQ.here ho rh1 rfl⟩
        · cases h
      · cases h
    · cases h
  | itemsS =>
    dsimp only at h
    split at h
    · rename_i g c p e1
      split at h
      · rename_i m cp e2
        split at h
        · rename_i y n ap e3
          split at h
          · rename_i c0
            cases h
            simp only [Bool.and_eq_true, Bool.not_eq_true', decide_eq_true_eq] at c0
            obtain ⟨⟨⟨c1, c2⟩, c3⟩, c4⟩ := c0
            obtain ⟨p3, rfl, g1, m1⟩ := isFn_is c1
            obtain rfl := asCall_is e1
            obtain rfl := asCall_is e2
            obtain rfl := asAttr_is e3
            subst c2
            refine (pe_itemsS (fz := fz) G.kk G.calm (by have := G.room.un; omega) (glo_is g1) (G.blt _ (by simp [bltNames])) pa (base_plain c4) c3).imp fun σ H Q ⟨ρ, h, re, rh, w⟩ => ?_
            refine stepE kc re rh w (fun _ _ e => e) fun v h1 V H1 re1 rh1 st1 rv w => ?_
            obtain ⟨⟨c, out⟩, e, hc, ho⟩ := optW_ex (prW_mono (fun _ _ (k : KQ h H Q _ _) => k.later st1) w)
            obtain ⟨kvs, e4, e5⟩ := Option.bind_eq_some_iff.mp (show ((dr h1 v).bind fun kvs => ordL fz (kvs.map fun kv => .tup [keyV kv.1, kv.2]) h1) = some (c, out) from e)
            unfold ordL at e5
            obtain ⟨ds, e6, e7⟩ := Option.map_eq_some_iff.mp e5
            cases e7
            obtain ⟨q, us, q1, q2, q3⟩ := dr_read rh1 rv e4
            exact ⟨q, us, h1, kvs, ds, q1, q2, rh1, q3, e6, hc.1, hc.2.1, hc.2.2, ho⟩
          · cases h
        · cases h
      · cases h
    · cases h
  | maxV =>
    dsimp only at h
    split at h
    · rename_i g c p e1
      split at h
      · rename_i m cp e2
        split at h
        · rename_i y n ap e3
          split at h
          · rename_i c0
            cases h
            simp only [Bool.and_eq_true, Bool.not_eq_true', decide_eq_true_eq] at c0
            obtain ⟨⟨⟨c1, c2⟩, c3⟩, c4⟩ := c0
            obtain ⟨p3, rfl, g1, m1⟩ := isFn_is c1
            obtain rfl := asCall_is e1
            obtain rfl := asCall_is e2
            obtain rfl := asAttr_is e3
            subst c2
            refine (pe_maxV G.calm (glo_is g1) (G.blt _ (by simp [bltNames])) pa (base_plain c4) c3).imp fun σ H Q ⟨ρ, h, re, rh, w⟩ => ?_
            refine stepE kc re rh w (fun _ _ e => e) fun v h1 V H1 re1 rh1 st1 rv w => ?_
            obtain ⟨⟨c, out⟩, e, hc, ho⟩ := optW_ex (prW_mono (fun _ _ (k : KQ h H Q _ _) => k.later st1) w)
            obtain ⟨ns, e4, e5⟩ := Option.map_eq_some_iff.mp (show (((dr h1 v).bind fun kvs => mapO intOf (kvs.map (·.2))).map fun ns => (ns ≠ [], Out.v (.int (maxL ns)) h1)) = some (c, out) from e)
            cases e5
            obtain ⟨kvs, e6, e7⟩ := Option.bind_eq_some_iff.mp e4
            obtain ⟨q, us, q1, q2, q3⟩ := dr_read rh1 rv e6
            have hv : us.map (·.2) = ns.map L2.V.int := RVs.ints' q3.2 e7
            refine ⟨q, us, ns, q1, q2, hv, hc, fun m hm hb => ?_⟩
            have : m = maxL ns := maxL_uniq hm hb
            rw [this]
            exact KQ.here ho rh1 rfl
          · cases h
        · cases h
      · cases h
    · cases h
theorem sO2 {W : WX} (G : Good T F n X) {o : O2} {fz : Bool} {a b : Ex} {pe x y : Expr} (h : mO2 X.env.scope o pe = some (x, y)) (pa : PE X x (TEx T W (wpE (CN F n) a))) (pb : PE X y (TEx T W (wpE (CN F n) b))) : PE X pe (TEx T W (wpE (CN F n) (.op2 o fz a b))) := by
  unfold mO2 at h
  have kc := CN_mono F n
  cases o with
  | dictZ =>
    dsimp only at h
    split at h
    · rename_i g c p e1
      split at h
      · rename_i g2 y1 y2 p2 e2
        split at h
        · rename_i c0
          cases h
          simp only [Bool.and_eq_true, Bool.not_eq_true'] at c0
          obtain ⟨⟨⟨c1, c2⟩, c3⟩, c4⟩ := c0
          obtain ⟨p3, rfl, g1, m1⟩ := isFn_is c1
          obtain ⟨p4, rfl, g2, m2⟩ := isFn_is c2
          obtain rfl := asCall_is e1
          obtain rfl := asCall_is e2
          refine (pe_dictZip G.calm (glo_is g1) (G.blt _ (by simp [bltNames])) (glo_is g2) (G.blt _ (by simp [bltNames])) (pa_cons pa (pa_cons pb pa_nil (star_cons c4)) (star_cons c3)) (star_cons c3) (star_any fun e he => by
            rcases List.mem_singleton.mp he with rfl; exact c4)).imp fun σ H Q ⟨ρ, h, re, rh, w⟩ => ?_
          refine stepE kc re rh w (fun _ _ e => e) fun v h1 V H1 re1 rh1 st1 rv w => ?_
          refine stepE kc re1 rh1 w (fun _ _ e => e.later st1) fun u h2 U H2 re2 rh2 st2 ru w => ?_
          obtain ⟨⟨c, out⟩, e, hc, ho⟩ := optW_ex (prW_mono (fun _ _ (k : KQ h H Q _ _) => k.later (st1.trans st2)) w)
          obtain ⟨q, e1, e2⟩ := Option.map_eq_some_iff.mp (show (((ls h2 v).bind (mapO keyOf)).bind fun ks => (ls h2 u).map fun vs => (ks, vs)).map (fun q => (True, Out.ad fz (dmerge [] (q.1.zip q.2)) h2)) = some (c, out) from e)
          cases e2
          obtain ⟨ks, e3, e4⟩ := Option.bind_eq_some_iff.mp e1
          obtain ⟨vs, e5, e6⟩ := Option.map_eq_some_iff.mp e4
          cases e6
          obtain ⟨xs, e7, e8⟩ := Option.bind_eq_some_iff.mp e3
          obtain ⟨p, ws, q1, q2, q3⟩ := ls_read (K := X.K) G.kk rh2 (RV.keep st2 rv) e7
          obtain ⟨p', ws', q4, q5, q6⟩ := ls_read (K := X.K) G.kk rh2 ru e5
          obtain rfl := keys_read q3 e8
          exact ⟨p, p', ks, ws', by rw [q1, q4], q2, q5, fun q nq => alcD_out rh2 (RKV.merge' .nil (rkv_zip q6)) ho q nq⟩
        · cases h
      · cases h
    · cases h
  | tmul =>
    dsimp only at h
    split at h
    · rename_i l r e1
      cases h
      obtain ⟨p, rfl⟩ := asBin_is e1
      have both : OpR X (binaryOp .Mult) (fun x y H Q => rRepT X.K x y H Q ∨ ∃ l xs, x = .ref l ∧ y = .int 1 ∧ SqT X.K H l xs ∧ xs ≠ [] ∧ Q (.ref l) H) := fun pins s σ H x y v u Q I rx ry q => q.elim (op_repT pins s σ H x y v u Q I rx ry) (op_rep1 pins s σ H x y v u Q I rx ry)
      refine (pe_op both pa pb).imp fun σ H Q ⟨ρ, h, re, rh, w0⟩ => ?_
      refine stepE kc re rh w0 (fun _ _ e => e) fun v h1 V H1 re1 rh1 st1 rv w1 => ?_
      refine stepE kc re1 rh1 w1 (fun _ _ e => e.later st1) fun u h2 U H2 re2 rh2 st2 ru w => ?_
      obtain ⟨⟨c, out⟩, e, hc, ho⟩ := optW_ex (prW_mono (fun _ _ (k : KQ h H Q _ _) => k.later (st1.trans st2)) w)
      unfold o2R at e
      dsimp only at e
      split at e
      · rename_i xs k
        cases e
        cases ru
        have rv2 := RV.keep st2 rv
        have rv3 := rv2
        obtain ⟨a1, vs, z1, _, z2, z3⟩ := rv2
        have hne : vs ≠ [] := fun z => hc.1 (List.eq_nil_of_length_eq_zero (by rw [z3.length, z]; rfl))
        by_cases k1 : k = 1
        · subst k1
          subst z1
          refine .inr ⟨a1, vs, rfl, rfl, SqT.of z2, hne, ?_⟩
          have e6 : (List.replicate (1 : Int).toNat xs).flatten = xs := by simp
          have ho' : KQ h2 H2 Q (.tup (List.replicate (1 : Int).toNat xs).flatten) h2 := ho
          rw [e6] at ho'
          exact ho' _ _ rh2 .refl rv3
        · refine .inl ⟨a1, k, vs, z1, rfl, SqT.of z2, hne, by have := hc.2.1; omega, hc.2.2.1, by rw [← z3.length]; exact hc.2.2.2, fun q nq => ?_⟩
          have kk := Stab.alloc (h := h2) (o := .tup (List.replicate k.toNat vs).flatten) nq
          exact (show KQ h2 H2 Q (.tup (List.replicate k.toNat xs).flatten) h2 from ho) _ _ (rh2.alloc nq) kk ⟨q, _, rfl, rh2.free nq, upd_same, RVs.keep kk (z3.rep _)⟩
      · cases e
    · cases h
end
end L3

set_option Elab.async false
set_option linter.all false
set_option maxRecDepth 100000
/-! L3, part 9: THE EXPRESSIONS. -/
namespace L3
open PySem PySem.Spec PyProof.Rows L2
variable [Mo]
section
variable {T : Tb} {F : Fs} {n : Nat}
theorem rm65 {n : Nat} {A : Around} (r : Room n A) : A.units + 65 < cLine := by have := r.un; omega
theorem rm70 {n : Nat} {A : Around} (r : Room n A) : A.units + 70 < cLine := by have := r.un; omega
theorem b1 {a b : Bool} (h : (a && b) = true) : a = true ∧ b = true := by simpa using h
theorem nt {a : Bool} (h : (!a) = true) : a = false := by simpa using h

theorem s_var {X : Cx} {W : WX} {i : Nat} {pe : Expr} {C : CT} (h : mE T X.N X.env.scope (.var i) pe = true) : PE X pe (TEx T W (wpE C (.var i))) := by
  unfold mE at h
  split at h
  · rename_i x e
    obtain ⟨p, rfl⟩ := asName_is e
    obtain ⟨h1, h2⟩ := b1 h
    obtain ⟨h3, h4⟩ := b1 h1
    obtain ⟨m1, m2, m3⟩ := magic_is (nt h2)
    refine (pe_var (of_decide_eq_true h3) (vis_is h4) m1 m2).imp fun σ H Q ⟨ρ, h, re, rh, w⟩ => ?_
    obtain ⟨v, e1, w⟩ := optW_ex w
    obtain ⟨x, e2, rv⟩ := re.2 i v (lk_eq ρ i v e1)
    exact ⟨x, e2, KQ.here w rh rv⟩
  · cases h
/-- a call's arguments and what is called -/
theorem glo_name {X : Cx} {g : Expr} {x : Str} (e : asName g = some x) (h : gloB X.env.scope x = true) (m : magic x = false) : ∃ p, g = .Name x p ∧ Gl X x ∧ (x == ("__debug__" : Str)) = false ∧ x ≠ "__name__" := by
  obtain ⟨p, rfl⟩ := asName_is e
  obtain ⟨m1, m2, m3⟩ := magic_is m
  exact ⟨p, rfl, glo_is h, m1, m3⟩
theorem nil_false {α : Type} {l : List α} (h : (!l.isEmpty) = true) : ∃ a r, l = a :: r := by
  cases l with
  | nil => simp at h
  | cons a r => exact ⟨a, r, rfl⟩
theorem blt_mem (b : Bl) : b.nm ∈ bltNames := by cases b <;> simp [Bl.nm, bltNames]
theorem boot_isi : bootBuiltins "isinstance" = some (.builtin "isinstance") := by decide +kernel
theorem boot_blt (b : Bl) : bootBuiltins b.nm = some b.val := by
  cases b with
  | isi ts => exact boot_isi
  | _ => decide +kernel
theorem ty_mem (t : Ty) : Str.ofString (tyN t) ∈ bltNames := by cases t <;> simp [tyN, bltNames] <;> decide
theorem boot_ty (t : Ty) : bootBuiltins (Str.ofString (tyN t)) = some (.type (tyN t)) := by cases t <;> decide +kernel
theorem pe_or2 {X : Cx} {e : Expr} {t t' : TE} (p : PE X e t) (p' : PE X e t') : PE X e (fun σ H Q => t σ H Q ∨ t' σ H Q) := ⟨fun pins s σ H Q I h => h.elim (p.run pins s σ H Q I) (p'.run pins s σ H Q I)⟩
/-- a list's place, from the state -/
theorem sizes {X : Cx} : ∀ pins s σ H p xs, Inv X pins σ H s → H p = some (.lst xs) → xs.length ≤ sizeLine := fun _ _ _ _ _ _ I h => (I.lst h).choose_spec.choose_spec.2.2
theorem bind2 {C : CT} (kc : MonoC C C) {X : Cx} {W : WX} {a b : Ex} {f : Val → Val → Hq → Pr} {r : R2} (hr : ∀ x y H Q, R2x f x y H Q → r x y H Q) {σ : L2.St} {H : Hp} {Q : VK}
    (q : TEx T W (fun ρ h Q E => wpE C a ρ h (fun x h1 => wpE C b ρ h1 (fun y h2 => prW (f x y h2) Q) E) E) σ H Q) : tOp r (TEx T W (wpE C a)) (TEx T W (wpE C b)) σ H Q := by
  obtain ⟨ρ, h, re, rh, w⟩ := q
  refine stepE kc re rh w (fun _ _ e => e) fun v h1 V H1 re1 rh1 st1 rv w => ?_
  refine stepE kc re1 rh1 w (fun _ _ e => e.later st1) fun u h2 U H2 re2 rh2 st2 ru w => ?_
  exact hr _ _ _ _ ⟨h2, v, u, rh2, RV.keep st2 rv, ru, prW_mono (fun _ _ k => k.later (st1.trans st2)) w⟩
/-- a list or a tuple, walked: which of them is seen when it is there -/
theorem pi_seq {X : Cx} {tg l : Expr} {tl : TE} (hl : PE X l tl) : PI X tg l (fun σ H R => tl σ H fun x H1 => ∃ a, x = .ref a ∧ (((∃ xs, SqL X.K H1 a xs) ∧ R (Itl X.K a) H1) ∨ ((∃ xs, SqT X.K H1 a xs) ∧ R (Itt X.K a) H1))) := by
  refine ⟨fun pins s σ H R I h => thn (hl.run pins s σ H _ I h) fun v s1 ⟨x, H1, J, rx, a, e, alt⟩ => ?_⟩
  subst e
  obtain rfl : v = Value.ref a := rx
  have new : ∀ b ∈ [s1.heap.objs.size], FpOk X pins H1 b := fun b hb => by
    obtain rfl : b = s1.heap.objs.size := by simpa using hb
    exact J.fpOk (Nat.le_refl _) (J.hok.fresh (Nat.le_refl _))
  rcases alt with ⟨⟨ys, hy⟩, q⟩ | ⟨⟨ys, hy⟩, q⟩
  · obtain ⟨its, _, p, _⟩ := J.list hy
    exact wpAny_pyIter_list (PlainL.isList p) ⟨_, [s1.heap.objs.size], _, _, H1, rfl, J.kept (t' := s1.toks) fun b o e => Heap.get?_push_of_some _ e, turn_list a _, ⟨_, Heap.get?_push_size _ rfl, rfl, rfl⟩, new, q⟩
  · obtain ⟨its, _, p, _⟩ := J.tuple hy
    exact wpAny_pyIter_tuple (show s1.heap.IsTuple a its.toArray from p) ⟨_, [s1.heap.objs.size], _, _, H1, rfl, J.kept (t' := s1.toks) fun b o e => Heap.get?_push_of_some _ e, turn_tuple a _, ⟨_, Heap.get?_push_size _ rfl, rfl, rfl⟩, new, q⟩
theorem blOf_is {h : Hq} {H : Hp} {v : Val} {x : V} {k : Bool} (e : blOf v = some k) (r : RV h H v x) : x = .bl k := by
  cases v <;> first | (cases e; done) | (cases e; exact r)
theorem intOf_is {h : Hq} {H : Hp} {v : Val} {x : V} {k : Int} (e : intOf v = some k) (r : RV h H v x) : x = .int k := by
  cases v <;> first | (cases e; done) | (cases e; exact r)
theorem tru_out {X : Cx} (kk : X.K = Mo.K) {h h1 : Hq} {H H1 : Hp} {v : Val} {x : V} {Q : Bool → Hp → Prop} (st : Stab h H h1 H1) (rh : RH h1 H1) (rv : RV h1 H1 v x) (w : truW v h1 fun k => KT h H Q k h1) : ∃ k, TruV X.K x H1 k ∧ Q k H1 := by
  obtain ⟨k, e, w⟩ := optW_ex w
  exact ⟨k, sound_tru X.K kk rh rv e, w _ rh st⟩
theorem bm_plain (m : Mt) : PlainAttrs m.ty ∧ Slot m.ty m.nm m.id ∧ typeOf (.builtin m.id) = pure (.type "method_descriptor") := by
  cases m with
  | append => exact ⟨PySem.F.plainAttrs_list, PySem.F.slot_list_append, PySem.F.type_list_append⟩
  | extend => exact ⟨PySem.F.plainAttrs_list, PySem.F.slot_list_extend, PySem.F.type_list_extend⟩
  | pop => exact ⟨PySem.F.plainAttrs_list, PySem.F.slot_list_pop, PySem.F.type_list_pop⟩
  | insert => exact ⟨PySem.F.plainAttrs_list, PySem.F.slot_list_insert, PySem.F.type_list_insert⟩
  | reverse => exact ⟨PySem.F.plainAttrs_list, PySem.F.slot_list_reverse, PySem.F.type_list_reverse⟩
  | clear => exact ⟨PySem.F.plainAttrs_list, PySem.F.slot_list_clear, PySem.F.type_list_clear⟩
  | index => exact ⟨PySem.F.plainAttrs_list, PySem.F.slot_list_index, PySem.F.type_list_index⟩
  | count => exact ⟨PySem.F.plainAttrs_list, PySem.F.slot_list_count, PySem.F.type_list_count⟩
  | dget => exact ⟨PySem.F.plainAttrs_dict, PySem.F.slot_dict_get, PySem.F.type_dict_get⟩
  | dupd => exact ⟨PySem.F.plainAttrs_dict, PySem.F.slot_dict_update, PySem.F.type_dict_update⟩

theorem recv_ok {K : PySem.W.Frag} (kk : K = Mo.K) {m : Mt} {h0 : Unit} {h1 : Hq} {x : Val} {X1 : V} {H1 : Hp} (rh1 : RH h1 H1) (rv : RV h1 H1 x X1) (e : mOk m x h1 = some h0) : tyV K m.ty X1 H1 := by
  have lst : ∀ {m : Mt}, m.ty = "list" → (lstAt h1 x).map (fun _ => ()) = some h0 → tyV K m.ty X1 H1 := by
    intro m hm e
    obtain ⟨q, e2, _⟩ := Option.map_eq_some_iff.mp e
    obtain ⟨q1, q2, vs, q3, q4⟩ := lstAt_read rh1 rv e2
    subst q1
    exact .inl ⟨hm, vs, SqL.of q3⟩
  cases m with
  | dget =>
    unfold mOk at e
    dsimp only at e
    split at e
    · cases e
    · rename_i hno
      obtain ⟨q, e2, _⟩ := Option.map_eq_some_iff.mp e
      cases x with
      | wd ks ws => exact absurd rfl (hno ks ws)
      | fd ks ws =>
        obtain ⟨a, us, z1, _, z2, _⟩ := rv
        subst z1
        exact .inr (.inr (.inl ⟨rfl, .inl ⟨_, z2⟩⟩))
      | ref a =>
        have e' : (match h1 a with | some (.dic xs) => some xs | _ => none) = some q := e2
        split at e'
        · rename_i ys e1
          obtain ⟨us, e2, _⟩ := rh1 a _ e1
          cases (show X1 = .ref a from rv)
          exact .inr (.inr (.inl ⟨rfl, .inl ⟨_, e2⟩⟩))
        · cases e'
      | _ => cases e2
  | dupd =>
    obtain ⟨q, e2, _⟩ := Option.map_eq_some_iff.mp e
    obtain ⟨q1, _, us, q2, _⟩ := dicAt_read rh1 rv e2
    subst q1
    exact .inr (.inr (.inl ⟨rfl, .inl ⟨_, q2⟩⟩))
  | index =>
    obtain ⟨q, e2, _⟩ := Option.map_eq_some_iff.mp e
    obtain ⟨p, vs, q1, q2, q3⟩ := ls_read (K := K) kk rh1 rv e2
    subst q1
    exact .inl ⟨rfl, vs, q2⟩
  | _ => exact lst rfl e
set_option maxHeartbeats 2000000
mutual
theorem sE {X : Cx} {W : WX} (G : Good T F n X) (tk : Takes X W) : ∀ (e : Ex) {pe : Expr}, mE T X.N X.env.scope e pe = true → PE X pe (TEx T W (wpE (CN F n) e))
  | .var i, pe, h => s_var h
  | .int i, pe, h => by
    obtain ⟨k, p, rfl⟩ := asInt_is (of_decide_eq_true (show decide (asInt pe = some i) = true from by simpa [mE] using h))
    exact pe_int.imp fun σ H Q ⟨ρ, h, re, rh, w⟩ => KQ.here w rh rfl
  | .bl i, pe, h => by
    obtain ⟨k, p, rfl⟩ := asBl_is (of_decide_eq_true (show decide (asBl pe = some i) = true from by simpa [mE] using h))
    exact pe_bl.imp fun σ H Q ⟨ρ, h, re, rh, w⟩ => KQ.here w rh rfl
  | .non, pe, h => by
    obtain ⟨k, p, rfl⟩ := asNon_is (by simpa [mE] using h)
    exact pe_non.imp fun σ H Q ⟨ρ, h, re, rh, w⟩ => KQ.here w rh rfl
  | .str i, pe, h => by
    obtain ⟨k, p, rfl⟩ := asStr3_is (of_decide_eq_true (show decide (asStr3 pe = some i) = true from by simpa [mE] using h))
    exact pe_str.imp fun σ H Q ⟨ρ, h, re, rh, w⟩ => KQ.here w rh rfl
  | .con x v, pe, h => by
    unfold mE at h
    obtain ⟨h, h4⟩ := b1 h
    obtain ⟨h, h3⟩ := b1 h
    obtain ⟨h1, h2⟩ := b1 h
    split at h4
    · rename_i u e
      obtain ⟨p, rfl, g, m1, m2⟩ := glo_name (of_decide_eq_true h1) h2 (nt h3)
      obtain ⟨rfl, f⟩ := eqFlat_is h4
      obtain ⟨w, e1, r1⟩ := G.con x v e
      refine (pe_glob g e1 r1 m1).imp fun σ H Q ⟨ρ, h, re, rh, w⟩ => KQ.here w rh ?_
      cases v <;> first | rfl | (cases f)
    · cases h4
  | .bin o fz a b, pe, h => by
    unfold mE at h
    split at h
    · rename_i l op r e
      obtain ⟨p, rfl⟩ := asBin_is e
      obtain ⟨h, h3⟩ := b1 h
      obtain ⟨h1, h2⟩ := b1 h
      obtain rfl := of_decide_eq_true h1
      exact (pe_op (sound_bin (fz := fz)) (sE G tk a h2) (sE G tk b h3)).imp fun σ H Q q => bind2 (CN_mono F n) (X := X) (fun _ _ _ _ q => q) q
    · cases h
  | .neg a, pe, h => by
    unfold mE at h
    split at h
    · rename_i r e
      obtain ⟨p, rfl⟩ := asUn_is e
      refine (pe_un un_neg (sE G tk a h)).imp fun σ H Q ⟨ρ, h, re, rh, w⟩ => ?_
      refine stepE (CN_mono F n) re rh w (fun _ _ e => e) fun v h1 V H1 re1 rh1 st1 rv w => ?_
      obtain ⟨i, e1, w⟩ := optW_ex w
      exact ⟨i, intOf_is e1 rv, w _ _ rh1 st1 rfl⟩
    · cases h
  | .not a, pe, h => by
    unfold mE at h
    split at h
    · rename_i r e
      obtain ⟨p, rfl⟩ := asUn_is e
      refine (pe_notT (sE G tk a h)).imp fun σ H Q ⟨ρ, h, re, rh, w⟩ => ?_
      refine stepE (CN_mono F n) re rh w (fun _ _ e => e) fun v h1 V H1 re1 rh1 st1 rv w => ?_
      obtain ⟨k, e1, w⟩ := optW_ex w
      exact ⟨k, sound_tru X.K G.kk rh1 rv e1, w _ _ rh1 st1 rfl⟩
    · cases h
  | .cmp o a b, pe, h => by
    unfold mE at h
    split at h
    · rename_i l op r e
      obtain ⟨p, rfl⟩ := asCmp_is e
      obtain ⟨h, h4⟩ := b1 h
      obtain ⟨h, h3⟩ := b1 h
      obtain ⟨h1, h2⟩ := b1 h
      obtain rfl := of_decide_eq_true h1
      exact (pe_cmpR (sound_cmp G.kk (rm65 G.room)) (sE G tk a h3) (sE G tk b h4) (nt h2)).imp fun σ H Q q => bind2 (CN_mono F n) (X := X) (fun _ _ _ _ q => q) q
    · cases h
  | .chain o p a b c, pe, h => by
    unfold mE at h
    split at h
    · rename_i l op op' r r' e
      obtain ⟨pp, rfl⟩ := asCmp_is e
      obtain ⟨h, h6⟩ := b1 h
      obtain ⟨h, h5⟩ := b1 h
      obtain ⟨h, h4⟩ := b1 h
      obtain ⟨h, h3⟩ := b1 h
      obtain ⟨h1, h2⟩ := b1 h
      obtain rfl := of_decide_eq_true h1
      obtain rfl := of_decide_eq_true h2
      refine (pe_chain (sound_cmp G.kk (rm65 G.room)) (sound_cmp G.kk (rm65 G.room)) (sE G tk a h4) (sE G tk b h5) (sE G tk c h6) (nt h3)).imp fun σ H Q ⟨ρ, h, re, rh, w⟩ => ?_
      refine stepE (CN_mono F n) re rh w (fun _ _ e => e) fun v h1 V H1 re1 rh1 st1 rv w => ?_
      refine stepE (CN_mono F n) re1 rh1 w (fun _ _ e => e.later st1) fun u h2 U H2 re2 rh2 st2 ru w => ?_
      refine ⟨h2, v, u, rh2, RV.keep st2 rv, ru, prW_mono (fun z h3 w Z H3 rh3 st3 rz => ?_) w⟩
      obtain ⟨k, e1, w⟩ := optW_ex w
      refine ⟨k, blOf_is e1 rz, ?_⟩
      cases k with
      | true =>
        refine stepE (CN_mono F n) (re2.keep st3) rh3 w (fun _ _ e => e.later (st1.trans (st2.trans st3))) fun z4 h4 Z4 H4 re4 rh4 st4 r4 w => ?_
        exact ⟨h4, u, z4, rh4, RV.keep (st3.trans st4) ru, r4, prW_mono (fun _ _ k => k.later (st1.trans (st2.trans (st3.trans st4)))) w⟩
      | false => exact w _ _ rh3 (st1.trans (st2.trans st3)) rfl
    · cases h
  | .bop i es, pe, h => by
    unfold mE at h
    split at h
    · rename_i op vs e
      obtain ⟨p, rfl⟩ := asBop_is e
      obtain ⟨h1, h2⟩ := b1 h
      obtain rfl := of_decide_eq_true h1
      exact sB G tk i es h2
    · cases h
  | .ite t a b, pe, h => by
    unfold mE at h
    split at h
    · rename_i x y z e
      obtain ⟨p, rfl⟩ := asIf_is e
      obtain ⟨h, h3⟩ := b1 h
      obtain ⟨h1, h2⟩ := b1 h
      refine (pe_ifExp (sT G tk t h1) (sE G tk a h2) (sE G tk b h3)).imp fun σ H Q ⟨ρ, h, re, rh, w⟩ => ?_
      refine stepT (CN_mono F n) re rh w (fun _ _ e => e) fun k h1 H1 re1 rh1 st1 w => ?_
      cases k with
      | true => exact ⟨ρ, h1, re1, rh1, wpE_mono (CN_mono F n) a _ _ _ _ _ _ (fun _ _ k => k.later st1) (fun _ _ k => k.later st1) w⟩
      | false => exact ⟨ρ, h1, re1, rh1, wpE_mono (CN_mono F n) b _ _ _ _ _ _ (fun _ _ k => k.later st1) (fun _ _ k => k.later st1) w⟩
    · cases h
  | .tup es, pe, h => by
    unfold mE at h
    split at h
    · rename_i vs e
      obtain ⟨k, p, rfl⟩ := asTup_is e
      refine (pe_tup (sA G tk es h)).imp fun σ H Q ⟨ρ, h, re, rh, w⟩ => ?_
      refine stepA (CN_mono F n) re rh w (fun _ _ e => e) fun v h1 V H1 re1 rh1 st1 rv w => ⟨by rw [← rv.length]; exact len_ok w.1, fun q nq => ?_⟩
      have k := Stab.alloc (h := h1) (o := .tup V) nq
      exact w.2 _ _ (rh1.alloc nq) (st1.trans k) ⟨q, _, rfl, rh1.free nq, upd_same, RVs.keep k rv⟩
    · cases h
  | .lst fz es, pe, h => by
    unfold mE at h
    split at h
    · rename_i vs e
      obtain ⟨p, rfl⟩ := asLst_is e
      refine (pe_lst (sA G tk es h)).imp fun σ H Q ⟨ρ, h, re, rh, w⟩ => ?_
      refine stepA (CN_mono F n) re rh w (fun _ _ e => e) fun v h1 V H1 re1 rh1 st1 rv w => ⟨by rw [← rv.length]; exact len_ok w.1, ?_⟩
      exact alc_out rh1 rv (alc_mono (fun _ _ k => k.later st1) w.2)
    · cases h
  | .dic0 fz, pe, h => by
    obtain ⟨p, rfl⟩ := asDic0_is h
    exact pe_dnewK.imp fun σ H Q ⟨ρ, h, re, rh, w⟩ p n => alcD_out rh .nil w p n
  | .dic1 fz a b, pe, h => by
    unfold mE at h
    split at h
    · rename_i x y e
      obtain ⟨p, rfl⟩ := asDic1_is e
      obtain ⟨h1, h2⟩ := b1 h
      refine (pe_disp (pps_cons (sE G tk a h1) (sE G tk b h2) pps_nil) rfl rfl (by simp) (by simp)).imp fun σ H Q ⟨ρ, h, re, rh, w⟩ p np => ?_
      have st0 : Stab h H (up h p (.dic [])) (upd H p (.dK [])) := Stab.cell np
      have rh0 : RH (up h p (.dic [])) (upd H p (.dK [])) := rh.put st0 ⟨[], upd_same, .nil⟩
      refine stepE (CN_mono F n) (re.keep st0) rh0 (w p (rh.free np)) (fun _ _ k => KE.later st0 k) fun x1 h1 X1 H1 re1 rh1 st1 rx w => ?_
      refine stepE (CN_mono F n) re1 rh1 w (fun _ _ k => KE.later (st0.trans st1) k) fun y2 h2 Y2 H2 re2 rh2 st2 ry w => ?_
      obtain ⟨j, e1, hp, w⟩ := optW_ex w
      obtain rfl := key_read rx e1
      obtain ⟨us, e2, q2⟩ := rh2 p _ hp
      have : us = [] := List.map_eq_nil_iff.mp q2.1
      subst this
      refine ⟨e2, [(j, Y2)], rfl, by simp, ?_⟩
      have st3 : Stab h2 H2 (up h2 p (.dic [(j, y2)])) (upd H2 p (.dK [(j, Y2)])) := Stab.write hp
      have rh3 := rh2.put st3 ⟨[(j, Y2)], upd_same, .cons (RV.keep st3 ry) .nil⟩
      have stt := st0.trans (st1.trans (st2.trans st3))
      show Q (.ref p) (upd H2 p (.dK [(j, Y2)]))
      split at w
      · have rv := frzC_rv rh3 up_same
        rw [er_up'] at rv
        refine w _ _ (by rw [← er_up' (c := .dic [(j, y2)])]; exact rh3.er) ?_ rv
        rw [← er_up' (c := .dic [(j, y2)])]
        exact stt.trans Stab.er
      · exact w _ _ rh3 stt rfl
    · cases h
  | .dic2 fz a b c d, pe, h => by
    unfold mE at h
    split at h
    · rename_i x y x2 y2 e
      obtain ⟨p, rfl⟩ := asDic2_is e
      obtain ⟨h, h4⟩ := b1 h
      obtain ⟨h, h3⟩ := b1 h
      obtain ⟨h1, h2⟩ := b1 h
      refine (pe_disp (pps_cons (sE G tk a h1) (sE G tk b h2) (pps_cons (sE G tk c h3) (sE G tk d h4) pps_nil)) rfl rfl (by simp) (by simp)).imp fun σ H Q ⟨ρ, h, re, rh, w⟩ p np => ?_
      have st0 : Stab h H (up h p (.dic [])) (upd H p (.dK [])) := Stab.cell np
      have rh0 : RH (up h p (.dic [])) (upd H p (.dK [])) := rh.put st0 ⟨[], upd_same, .nil⟩
      refine stepE (CN_mono F n) (re.keep st0) rh0 (w p (rh.free np)) (fun _ _ k => KE.later st0 k) fun x1 h1 X1 H1 re1 rh1 st1 rx w => ?_
      refine stepE (CN_mono F n) re1 rh1 w (fun _ _ k => KE.later (st0.trans st1) k) fun y1 h2 Y1 H2 re2 rh2 st2 ry w => ?_
      refine stepE (CN_mono F n) re2 rh2 w (fun _ _ k => KE.later (st0.trans (st1.trans st2)) k) fun x3 h3 X3 H3 re3 rh3 st3 rx3 w => ?_
      refine stepE (CN_mono F n) re3 rh3 w (fun _ _ k => KE.later (st0.trans (st1.trans (st2.trans st3))) k) fun y4 h4 Y4 H4 re4 rh4 st4 ry4 w => ?_
      obtain ⟨j, e1, w⟩ := optW_ex w
      obtain ⟨j2, e3, hp, w⟩ := optW_ex w
      obtain rfl := key_read rx e1
      obtain rfl := key_read rx3 e3
      obtain ⟨us, e2, q2⟩ := rh4 p _ hp
      have : us = [] := List.map_eq_nil_iff.mp q2.1
      subst this
      refine ⟨e2, [(j, Y1), (j2, Y4)], rfl, by simp, ?_⟩
      have st5 : Stab h4 H4 (up h4 p (.dic (dmerge [] [(j, y1), (j2, y4)]))) (upd H4 p (.dK (mergeK [] [(j, Y1), (j2, Y4)]))) := Stab.write hp
      have rk : RKV h4 H4 (dmerge [] [(j, y1), (j2, y4)]) (mergeK [] [(j, Y1), (j2, Y4)]) := RKV.merge' .nil (.cons (RV.keep (st3.trans st4) ry) (.cons ry4 .nil))
      have rh5 := rh4.put st5 ⟨_, upd_same, RKV.keep st5 rk⟩
      have stt := st0.trans (st1.trans (st2.trans (st3.trans (st4.trans st5))))
      show Q (.ref p) (upd H4 p (.dK (mergeK [] [(j, Y1), (j2, Y4)])))
      split at w
      · have rv := frzC_rv rh5 up_same
        rw [er_up'] at rv
        refine w _ _ (by rw [← er_up' (c := .dic (dmerge [] [(j, y1), (j2, y4)]))]; exact rh5.er) ?_ rv
        rw [← er_up' (c := .dic (dmerge [] [(j, y1), (j2, y4)]))]
        exact stt.trans Stab.er
      · exact w _ _ rh5 stt rfl
    · cases h
  | .idx a i, pe, h => by
    unfold mE at h
    split at h
    · rename_i v s e
      obtain ⟨p, rfl⟩ := asSub_is e
      obtain ⟨h, h3⟩ := b1 h
      obtain ⟨h1, h2⟩ := b1 h
      exact (pe_ix (ix_seq.or (ix_dict (Nat.lt_trans (by omega) G.room.units))) (sE G tk a h2) (sE G tk i h3) (plain_ix (nt h1))).imp fun σ H Q q => bind2 (CN_mono F n) (X := X) (fun _ _ _ _ q => sound_idx G.kk q) q
    · cases h
  | .slc fz a lo hi, pe, h => by
    unfold mE at h
    split at h
    · rename_i v s e
      obtain ⟨p, rfl⟩ := asSub_is e
      split at h
      · rename_i l u e2
        obtain ⟨p2, rfl⟩ := asSlc_is e2
        obtain ⟨h, h3⟩ := b1 h
        obtain ⟨h1, h2⟩ := b1 h
        have part : ∀ (x : Ex) (o : Option Expr), (match o with | none => isNop x | some y => !isNop x && mE T X.N X.env.scope x y) = true → (∀ y, mE T X.N X.env.scope x y = true → PE X y (TEx T W (wpE (CN F n) x))) →
            ∃ t, PO X o t ∧ ∀ {σ H ρ h} {K : Val → Hq → Prop} {E : QE} {R : Option Int → Hp → Prop}, RE h H ρ σ → RH h H → wpE (CN F n) x ρ h K E → (∀ x h', E x h' → KE T h H W σ x h') →
              (∀ v h1 H1, RE h1 H1 ρ σ → RH h1 H1 → Stab h H h1 H1 → K v h1 → ∃ o', optI (isNop x) v = some o' ∧ R o' H1) → t σ H R := by
          intro x o hx hp
          cases o with
          | none =>
            refine ⟨_, po_none, fun {σ H ρ h K E R} re rh w ke k => ?_⟩
            have hn : isNop x = true := hx
            cases x <;> first | (cases hn; done) | skip
            obtain ⟨o', e1, r1⟩ := k .non h H re rh .refl w
            cases e1
            exact r1
          | some y =>
            obtain ⟨g1, g2⟩ := b1 hx
            refine ⟨_, po_some (hp y g2), fun {σ H ρ h K E R} re rh w ke k => ?_⟩
            refine stepE (CN_mono F n) re rh w ke fun v h1 V H1 re1 rh1 st1 rv w => ?_
            obtain ⟨o', e1, r1⟩ := k v h1 H1 re1 rh1 st1 w
            rw [nt g1] at e1
            cases v <;> first | (cases e1; done) | skip
            cases e1
            exact ⟨_, rv, r1⟩
        obtain ⟨tl, pl, kl⟩ := part lo l h2 (fun y hy => sE G tk lo hy)
        obtain ⟨tu, pu, ku⟩ := part hi u h3 (fun y hy => sE G tk hi hy)
        refine (pe_slice sl_E (sE G tk a h1) pl pu).imp fun σ H Q ⟨ρ, h, re, rh, w⟩ => ?_
        refine stepE (CN_mono F n) re rh w (fun _ _ e => e) fun v h1 V H1 re1 rh1 st1 rv w => ?_
        refine kl re1 rh1 w (fun _ _ e => e.later st1) fun l2 h2 H2 re2 rh2 st2 w => ?_
        obtain ⟨l1, el, w⟩ := optW_ex w
        refine ⟨l1, el, ku re2 rh2 w (fun _ _ e => e.later (st1.trans st2)) fun u2 h3 H3 re3 rh3 st3 w => ?_⟩
        obtain ⟨u1, eu, w⟩ := optW_ex w
        exact ⟨u1, eu, sound_slc G.kk rh3 (RV.keep (st2.trans st3) rv) (prW_mono (fun _ _ k => k.later (st1.trans (st2.trans st3))) w)⟩
      · cases h
    · cases h
  | .call f es, pe, h => by
    unfold mE at h
    split at h
    · rename_i g as q e
      obtain rfl := asCall_is e
      split at h
      · rename_i x e1
        obtain ⟨h, h5⟩ := b1 h
        obtain ⟨h, h4⟩ := b1 h
        obtain ⟨h, h3⟩ := b1 h
        obtain ⟨h1, h2⟩ := b1 h
        obtain ⟨p, rfl, gl, m1, m2⟩ := glo_name e1 h2 (nt h3)
        obtain ⟨a, fd, ps, g1, g2, g3, g4⟩ := G.fn f x (of_decide_eq_true h1)
        obtain ⟨a0, r0, rfl⟩ := nil_false h4
        have pl := mEs_plain h5
        refine (pe_callS (E := WE W) g4 G.room gl g1 g2 g3 (passAt tk) (sA G tk es h5) m1 (star_cons (pl _ List.mem_cons_self)) (star_any fun y hy => pl y (List.mem_cons_of_mem _ hy))).imp fun σ H Q ⟨ρ, h, re, rh, w⟩ => ?_
        refine stepA (CN_mono F n) re rh w (fun _ _ e => e) fun v h1 V H1 re1 rh1 st1 rv w => ⟨v, h1, rv, rh1, ?_⟩
        exact CN_mono F n _ _ _ _ _ _ _ (fun _ _ k => k.later st1) (fun _ _ k => k.later st1) w
      · cases h
    · cases h
  | .blt b fz es, pe, h => by
    unfold mE at h
    split at h
    · rename_i g as q e
      obtain rfl := asCall_is e
      split at h
      · rename_i x e1
        obtain ⟨h, h4⟩ := b1 h
        obtain ⟨h, h3⟩ := b1 h
        obtain ⟨h1, h2⟩ := b1 h
        obtain ⟨p, rfl, gl, m1, m2⟩ := glo_name e1 h2 (nt h3)
        obtain rfl := of_decide_eq_true h1
        have mg := G.blt _ (blt_mem b)
        split at h4
        · rename_i t _ _
          split at h4
          · rename_i e0 a0 n0
            obtain ⟨h4, h9⟩ := b1 h4
            obtain ⟨h4, h8⟩ := b1 h4
            obtain ⟨h4, h7⟩ := b1 h4
            obtain ⟨h5, h6⟩ := b1 h4
            obtain ⟨p2, rfl, gl2, m3, m4⟩ := glo_name (of_decide_eq_true h7) h8 (nt h9)
            refine (pe_callB (call_isi) gl mg (boot_blt (.isi [t])) (pa_cons (sE G tk e0 h5) (pa_cons (pe_bltn (v := .ty (tyN t)) gl2 (G.blt _ (ty_mem t)) (boot_ty t) rfl m4 m3) pa_nil) (star_cons (nt h6))) m2 m1 (star_cons (nt h6)) rfl).imp fun σ H Q ⟨ρ, h, re, rh, w⟩ => ?_
            refine stepE (CN_mono F n) re rh w (fun _ _ e => e) fun v h1 V H1 re1 rh1 st1 rv w => ?_
            exact sound_isi G.kk (fz := fz) rh1 rv (prW_mono (fun _ _ (k : KQ h H Q _ _) => k.later st1) w)
          · cases h4
        · cases h4
        · rename_i hb1 hb2
          obtain ⟨h5, h6⟩ := b1 h4
          obtain ⟨a0, r0, rfl⟩ := nil_false h5
          have pl := mEs_plain h6
          have hb : ∀ ts, b ≠ .isi ts := fun ts z => hb2 ts z
          have cr := sound_blt G.kk G.calm (rm70 G.room) (fz := fz) hb
          have fin : ∀ σ H Q, TEx T W (wpE (CN F n) (.blt b fz es)) σ H Q → tCB (RLx (bltR b fz)) (TAx T W (wpA (CN F n) es)) σ H Q := fun σ H Q ⟨ρ, h, re, rh, w⟩ =>
            stepA (CN_mono F n) re rh w (fun _ _ e => e) fun v h1 V H1 re1 rh1 st1 rv w => ⟨h1, v, rh1, rv, prW_mono (fun _ _ k => k.later st1) w⟩
          have bo := boot_blt b
          cases b <;> first
            | exact (pe_callB cr gl mg bo (sA G tk es h6) m2 m1 (star_cons (pl _ List.mem_cons_self)) (star_any fun y hy => pl y (List.mem_cons_of_mem _ hy))).imp fin
            | exact (pe_callTy cr gl mg bo (sA G tk es h6) m2 m1 (star_cons (pl _ List.mem_cons_self)) (star_any fun y hy => pl y (List.mem_cons_of_mem _ hy))).imp fin
            | exact absurd rfl (hb _)
      · cases h
    · cases h
  | .mth m o es, pe, h => by
    unfold mE at h
    split at h
    · rename_i g as cp e
      obtain rfl := asCall_is e
      split at h
      · rename_i v nn ap e1
        obtain rfl := asAttr_is e1
        obtain ⟨h, h6⟩ := b1 h
        obtain ⟨h, h5⟩ := b1 h
        obtain ⟨h, h4⟩ := b1 h
        obtain ⟨h, h3⟩ := b1 h
        obtain ⟨h1, h2⟩ := b1 h
        obtain rfl := of_decide_eq_true h1
        obtain ⟨b1', b2', b3'⟩ := bm_plain m
        have pl := mEs_plain h6
        have recv : ∀ {h0 : Unit} {h1 : Hq} {x : Val} {X1 : V} {H1 : Hp}, RH h1 H1 → RV h1 H1 x X1 → mOk m x h1 = some h0 → tyV X.K m.ty X1 H1 := fun {h0 h1 x X1 H1} rh1 rv e => recv_ok G.kk rh1 rv e
        cases as with
        | nil =>
          have en : es = .nil := by
            cases es with
            | nil => rfl
            | cons _ _ => simp [mEs] at h6
          subst en
          refine (pe_bm0 b1' b2' b3' (sound_mth G.kk (Nat.lt_trans (by omega) G.room.units) sizes) (sE G tk o h5) (base_plain (nt h3)) h2).imp fun σ H Q ⟨ρ, h, re, rh, w⟩ => ?_
          refine stepE (CN_mono F n) re rh w (fun _ _ e => e) fun x h1 X1 H1 re1 rh1 st1 rv w => ?_
          obtain ⟨u, e2, w⟩ := optW_ex w
          exact ⟨recv rh1 rv e2, h1, x, [], rh1, rv, RVs.nil, prW_mono (fun _ _ k => k.later st1) w⟩
        | cons a0 r0 =>
          refine (pe_bm b1' b2' b3' (sound_mth G.kk (Nat.lt_trans (by omega) G.room.units) sizes) (sE G tk o h5) (sA G tk es h6) (base_plain (nt h3)) ?_ h2 (star_cons (pl _ List.mem_cons_self)) (star_any fun y hy => pl y (List.mem_cons_of_mem _ hy))).imp fun σ H Q ⟨ρ, h, re, rh, w⟩ => ?_
          · rw [star_all pl]
            have h4' := of_decide_eq_true h4
            simp only [Bool.true_and, Bool.and_eq_true, decide_eq_true_eq]
            refine ⟨rfl, ?_⟩
            show (a0 :: r0).length + 0 + 0 < 30
            omega
          · refine stepE (CN_mono F n) re rh w (fun _ _ e => e) fun x h1 X1 H1 re1 rh1 st1 rv w => ?_
            obtain ⟨u, e2, w⟩ := optW_ex w
            refine ⟨recv rh1 rv e2, stepA (CN_mono F n) re1 rh1 w (fun _ _ k => k.later st1) fun vs h2 Vs H2 re2 rh2 st2 rvs w => ?_⟩
            exact ⟨h2, x, vs, rh2, RV.keep st2 rv, rvs, prW_mono (fun _ _ k => k.later (st1.trans st2)) w⟩
      · cases h
    · cases h
  | .comp fz elt tg it cond own, pe, h => by
    unfold mE at h
    split at h
    · rename_i e0 t0 i0 cs s0 e
      obtain ⟨p, rfl⟩ := asLC_is e
      obtain ⟨h, h8⟩ := b1 h
      obtain ⟨h, h7⟩ := b1 h
      obtain ⟨h, h6⟩ := b1 h
      obtain ⟨h, h5⟩ := b1 h
      obtain ⟨h, h4⟩ := b1 h
      obtain ⟨h, h3⟩ := b1 h
      obtain ⟨h1, h2⟩ := b1 h
      have ok := blkOk_by h3
      have ow : (ownOf X.N own).map (·.2) = own := of_decide_eq_true h4
      have kc := CN_mono F n
      have pts : ∀ (s : Shared) (H : Hp) (C : Addr) (cl : List (Str × Addr)) (fp : List Addr), PTs (X.blk s H s0 (compEnvC s0 cl C X.env) fp) cs (TTx T (fun _ _ _ _ => False) (wpT (CN F n) cond)) := fun s H C cl fp => by
        split at h6
        · cases cond <;> first | (cases h6; done) | skip
          have q : PTs (X.blk s H s0 (compEnvC s0 cl C X.env) fp) [] tYes := pts_nil
          exact ⟨fun pins s σ H Q I ⟨ρ, h, re, rh, w⟩ => q.run pins s σ H Q I (w _ rh .refl)⟩
        · obtain ⟨_, h6⟩ := b1 h6
          exact pts_one (sT (G.blk ok.kind) takes0 cond h6)
        · cases h6
      refine (pe_lc G.calm G.nd (sI G tk it h1) ok (fun s H C cl fp => sG G.calm G.nd (fun x hx => hx) h5) pts (fun s H C cl fp => sE (G.blk ok.kind) takes0 elt h7) (fold_plain (nt h2))).imp fun σ H Q q => ?_
      rw [ow]
      exact sLC kc (tgOwn_is h8) q
    · cases h
  | .op1 o fz a, pe, h => by
    unfold mE at h
    split at h
    · rename_i x e
      exact sO1 G e (sE G tk a h)
    · cases h
  | .op2 o fz a b, pe, h => by
    unfold mE at h
    split at h
    · rename_i x y e
      obtain ⟨h1, h2⟩ := b1 h
      exact sO2 G e (sE G tk a h1) (sE G tk b h2)
    · cases h
  | .frz a, pe, h => by
    refine (sE G tk a (by simpa [mE] using h)).imp fun σ H Q ⟨ρ, h, re, rh, w⟩ => ?_
    exact stepE (CN_mono F n) re rh w (fun _ _ e => e) fun v h1 V H1 re1 rh1 st1 rv w => frz_out st1 rh1 rv w
  | .frzD a, pe, h => by
    refine (sE G tk a (by simpa [mE] using h)).imp fun σ H Q ⟨ρ, h, re, rh, w⟩ => ?_
    exact stepE (CN_mono F n) re rh w (fun _ _ e => e) fun v h1 V H1 re1 rh1 st1 rv w => frzD_out st1 rh1 rv w
  | .nop, pe, h => by simp [mE] at h
termination_by e => (sizeOf e, 0)
theorem sA {X : Cx} {W : WX} (G : Good T F n X) (tk : Takes X W) : ∀ (es : Exs) {pes : List Expr}, mEs T X.N X.env.scope es pes = true → PA X pes (TAx T W (wpA (CN F n) es))
  | .nil, [], _ => pa_nil.imp fun σ H Q ⟨ρ, h, re, rh, w⟩ => w _ _ rh .refl RVs.nil
  | .cons e es, p :: ps, h => by
    simp only [mEs] at h
    obtain ⟨h, h3⟩ := b1 h
    obtain ⟨h1, h2⟩ := b1 h
    refine (pa_cons (sE G tk e h2) (sA G tk es h3) (star_cons (nt h1))).imp fun σ H Q ⟨ρ, h, re, rh, w⟩ => ?_
    refine stepE (CN_mono F n) re rh w (fun _ _ e => e) fun x h1 X1 H1 re1 rh1 st1 rv w => ?_
    refine stepA (CN_mono F n) re1 rh1 w (fun _ _ k => k.later st1) fun vs h2 Vs H2 re2 rh2 st2 rvs w => ?_
    exact w _ _ rh2 (st1.trans st2) (.cons (RV.keep st2 rv) rvs)
  | .nil, _ :: _, h => by simp [mEs] at h
  | .cons _ _, [], h => by simp [mEs] at h
termination_by es => (sizeOf es, 0)
theorem sB {X : Cx} {W : WX} (G : Good T F n X) (tk : Takes X W) (i : Bool) {pos : Pos} : ∀ (es : Exs) {pes : List Expr}, mEs T X.N X.env.scope es pes = true → PE X (.BoolOp (if i then .And else .Or) pes pos) (TEx T W (wpB (CN F n) i es))
  | .nil, _, _ => ⟨fun pins s σ H Q I ⟨ρ, h, re, rh, w⟩ => w.elim⟩
  | .cons e .nil, [p], h => by
    simp only [mEs] at h
    obtain ⟨h, h3⟩ := b1 h
    obtain ⟨h1, h2⟩ := b1 h
    exact pe_one (sE G tk e h2)
  | .cons e (.cons e2 es), p :: p2 :: ps, h => by
    rw [mEs] at h
    obtain ⟨h, h3⟩ := b1 h
    obtain ⟨h1, h2⟩ := b1 h
    have ih := sB G tk i (pos := pos) (.cons e2 es) h3
    have go : ∀ σ H (Q : VK), TEx T W (wpB (CN F n) i (.cons e (.cons e2 es))) σ H Q → (TEx T W (wpE (CN F n) e)) σ H fun x H1 => ∃ c, x = .bl c ∧ if c = i then TEx T W (wpB (CN F n) i (.cons e2 es)) σ H1 Q else Q (.bl c) H1 := fun σ H Q ⟨ρ, h, re, rh, w⟩ => by
      refine stepE (CN_mono F n) re rh w (fun _ _ e => e) fun x h1 X1 H1 re1 rh1 st1 rv w => ?_
      obtain ⟨c, e1, w⟩ := optW_ex w
      refine ⟨c, blOf_is e1 rv, ?_⟩
      split
      · rename_i q
        rw [if_pos q] at w
        exact ⟨ρ, h1, re1, rh1, wpB_mono (CN_mono F n) i _ _ _ _ _ _ _ (fun _ _ k => k.later st1) (fun _ _ k => k.later st1) w⟩
      · rename_i q
        rw [if_neg q] at w
        exact w _ _ rh1 st1 rfl
    cases i with
    | true =>
      refine (pe_and (sE G tk e h2) ih).imp fun σ H Q q => ?_
      obtain ⟨ρ, h, re, rh, w⟩ := go σ H Q q
      refine ⟨ρ, h, re, rh, wpE_mono (CN_mono F n) e _ _ _ _ _ _ (fun v h' k V H' a b c => ?_) (fun _ _ k => k) w⟩
      obtain ⟨c1, e1, q1⟩ := k V H' a b c
      refine ⟨c1, e1, ?_⟩
      cases c1 with
      | true => exact q1
      | false => exact q1
    | false =>
      refine (pe_or (sE G tk e h2) ih).imp fun σ H Q q => ?_
      obtain ⟨ρ, h, re, rh, w⟩ := go σ H Q q
      refine ⟨ρ, h, re, rh, wpE_mono (CN_mono F n) e _ _ _ _ _ _ (fun v h' k V H' a b c => ?_) (fun _ _ k => k) w⟩
      obtain ⟨c1, e1, q1⟩ := k V H' a b c
      refine ⟨c1, e1, ?_⟩
      cases c1 with
      | true => exact q1
      | false => exact q1
  | .cons _ .nil, [], h => by simp [mEs] at h
  | .cons _ .nil, _ :: _ :: _, h => by simp [mEs] at h
  | .cons _ (.cons _ _), [], h => by simp [mEs] at h
  | .cons _ (.cons _ _), [_], h => by simp [mEs] at h
termination_by es => (sizeOf es, 0)
theorem sT {X : Cx} {W : WX} (G : Good T F n X) (tk : Takes X W) : ∀ (e : Ex) {pe : Expr}, mE T X.N X.env.scope e pe = true → PT X pe (TTx T W (wpT (CN F n) e))
  | .not a, pe, h => by
    unfold mE at h
    split at h
    · rename_i r e
      obtain ⟨p, rfl⟩ := asUn_is e
      refine (pt_not (sT G tk a h)).imp fun σ H Q ⟨ρ, h, re, rh, w⟩ => ?_
      exact stepT (CN_mono F n) re rh w (fun _ _ e => e) fun b h1 H1 re1 rh1 st1 w => w _ rh1 st1
    · cases h
  | .bop i es, pe, h => by
    unfold mE at h
    split at h
    · rename_i op vs e
      obtain ⟨p, rfl⟩ := asBop_is e
      obtain ⟨h1, h2⟩ := b1 h
      obtain rfl := of_decide_eq_true h1
      exact (sTs G tk i es h2).pt
    · cases h
  | .nop, pe, h => by simp [mE] at h
  | .bl i, pe, h => by
    obtain ⟨k, p, rfl⟩ := asBl_is (of_decide_eq_true (show decide (asBl pe = some i) = true from by simpa [mE] using h))
    exact (pt_val pe_bl).imp fun σ H Q ⟨ρ, h, re, rh, w⟩ => ⟨i, rfl, w _ rh .refl⟩
  | .var i, pe, h => by
    have pv := s_var (W := W) (C := CN F n) h
    unfold mE at h
    split at h
    · rename_i x e
      obtain ⟨p, rfl⟩ := asName_is e
      refine (pt_truth pv (fun _ => rfl)).imp fun σ H Q ⟨ρ, h, re, rh, w⟩ => ⟨ρ, h, re, rh, optW_mono (fun v w V H' rh' st rv => ?_) w⟩
      obtain ⟨k, e, w⟩ := optW_ex w
      exact ⟨k, sound_tru X.K G.kk rh' rv e, w _ rh' st⟩
    · cases h
  | .cmp o a b, pe, h => by
    unfold mE at h
    split at h
    · rename_i l op r e
      obtain ⟨p, rfl⟩ := asCmp_is e
      obtain ⟨h, h4⟩ := b1 h
      obtain ⟨h, h3⟩ := b1 h
      obtain ⟨h1, h2⟩ := b1 h
      obtain rfl := of_decide_eq_true h1
      refine (pt_cmpR (sound_cmp G.kk (rm65 G.room)) (sE G tk a h3) (sE G tk b h4) (nt h2)).imp fun σ H Q ⟨ρ, h, re, rh, w⟩ => ?_
      refine stepE (CN_mono F n) re rh w (fun _ _ e => e) fun v h1 V H1 re1 rh1 st1 rv w => ?_
      refine stepE (CN_mono F n) re1 rh1 w (fun _ _ e => e.later st1) fun u h2 U H2 re2 rh2 st2 ru w => ?_
      refine ⟨h2, v, u, rh2, RV.keep st2 rv, ru, prW_mono (fun z h3 w Z H3 rh3 st3 rz => ?_) w⟩
      obtain ⟨k, e1, w⟩ := optW_ex w
      exact ⟨k, blOf_is e1 rz, w _ rh3 (st1.trans (st2.trans st3))⟩
    · cases h
  | .chain o p a b c, pe, h => by
    unfold mE at h
    split at h
    · rename_i l op op' r r' e
      obtain ⟨pp, rfl⟩ := asCmp_is e
      obtain ⟨h, h6⟩ := b1 h
      obtain ⟨h, h5⟩ := b1 h
      obtain ⟨h, h4⟩ := b1 h
      obtain ⟨h, h3⟩ := b1 h
      obtain ⟨h1, h2⟩ := b1 h
      obtain rfl := of_decide_eq_true h1
      obtain rfl := of_decide_eq_true h2
      refine (pt_chain (sound_cmp G.kk (rm65 G.room)) (sound_cmp G.kk (rm65 G.room)) (sE G tk a h4) (sE G tk b h5) (sE G tk c h6) (nt h3)).imp fun σ H Q ⟨ρ, h, re, rh, w⟩ => ?_
      refine stepE (CN_mono F n) re rh w (fun _ _ e => e) fun v h1 V H1 re1 rh1 st1 rv w => ?_
      refine stepE (CN_mono F n) re1 rh1 w (fun _ _ e => e.later st1) fun u h2 U H2 re2 rh2 st2 ru w => ?_
      refine ⟨h2, v, u, rh2, RV.keep st2 rv, ru, prW_mono (fun z h3 w Z H3 rh3 st3 rz => ?_) w⟩
      obtain ⟨k, e1, w⟩ := optW_ex w
      refine ⟨k, blOf_is e1 rz, ?_⟩
      cases k with
      | true =>
        refine stepE (CN_mono F n) (re2.keep st3) rh3 w (fun _ _ e => e.later (st1.trans (st2.trans st3))) fun z4 h4 Z4 H4 re4 rh4 st4 r4 w => ?_
        refine ⟨h4, u, z4, rh4, RV.keep (st3.trans st4) ru, r4, prW_mono (fun z5 h5 w Z5 H5 rh5 st5 rz5 => ?_) w⟩
        obtain ⟨k, e1, w⟩ := optW_ex w
        exact ⟨k, blOf_is e1 rz5, w _ rh5 (st1.trans (st2.trans (st3.trans (st4.trans st5))))⟩
      | false => exact ⟨false, rfl, w _ rh3 (st1.trans (st2.trans st3))⟩
    · cases h
  | .call f es, pe, h => by
    have pc := sE G tk (.call f es) h
    unfold mE at h
    split at h
    · rename_i g as q e
      obtain rfl := asCall_is e
      refine (pt_truth pc (fun _ => rfl)).imp fun σ H Q ⟨ρ, h, re, rh, w⟩ => ⟨ρ, h, re, rh, ?_⟩
      refine wpA_mono (CN_mono F n) es _ _ _ _ _ _ (fun vs h1 w => CN_mono F n _ _ _ _ _ _ _ (fun v h2 w V H2 rh2 st2 rv => ?_) (fun _ _ k => k) w) (fun _ _ k => k) w
      exact tru_out (X := X) G.kk st2 rh2 rv w
    · cases h
  | .blt b fz es, pe, h => by
    have pc := sE G tk (.blt b fz es) h
    unfold mE at h
    split at h
    · rename_i g as q e
      obtain rfl := asCall_is e
      refine (pt_truth pc (fun _ => rfl)).imp fun σ H Q ⟨ρ, h, re, rh, w⟩ => ⟨ρ, h, re, rh, ?_⟩
      refine wpA_mono (CN_mono F n) es _ _ _ _ _ _ (fun vs h1 w => prW_mono (fun v h2 w V H2 rh2 st2 rv => ?_) w) (fun _ _ k => k) w
      exact tru_out (X := X) G.kk st2 rh2 rv w
    · cases h
  | .ite _ _ _, _, _ => pt_false fun _ _ _ ⟨_, _, _, _, w⟩ => w
  | .int _, _, _ => pt_false fun _ _ _ ⟨_, _, _, _, w⟩ => w
  | .non, _, _ => pt_false fun _ _ _ ⟨_, _, _, _, w⟩ => w
  | .str _, _, _ => pt_false fun _ _ _ ⟨_, _, _, _, w⟩ => w
  | .con _ _, _, _ => pt_false fun _ _ _ ⟨_, _, _, _, w⟩ => w
  | .bin _ _ _ _, _, _ => pt_false fun _ _ _ ⟨_, _, _, _, w⟩ => w
  | .neg _, _, _ => pt_false fun _ _ _ ⟨_, _, _, _, w⟩ => w
  | .tup _, _, _ => pt_false fun _ _ _ ⟨_, _, _, _, w⟩ => w
  | .lst _ _, _, _ => pt_false fun _ _ _ ⟨_, _, _, _, w⟩ => w
  | .dic0 _, _, _ => pt_false fun _ _ _ ⟨_, _, _, _, w⟩ => w
  | .op1 _ _ _, _, _ => pt_false fun _ _ _ ⟨_, _, _, _, w⟩ => w
  | .op2 _ _ _ _, _, _ => pt_false fun _ _ _ ⟨_, _, _, _, w⟩ => w
  | .dic1 _ _ _, _, _ => pt_false fun _ _ _ ⟨_, _, _, _, w⟩ => w
  | .dic2 _ _ _ _ _, _, _ => pt_false fun _ _ _ ⟨_, _, _, _, w⟩ => w
  | .idx _ _, _, _ => pt_false fun _ _ _ ⟨_, _, _, _, w⟩ => w
  | .slc _ _ _ _, _, _ => pt_false fun _ _ _ ⟨_, _, _, _, w⟩ => w
  | .mth _ _ _, _, _ => pt_false fun _ _ _ ⟨_, _, _, _, w⟩ => w
  | .comp _ _ _ _ _ _, _, _ => pt_false fun _ _ _ ⟨_, _, _, _, w⟩ => w
  | .frz _, _, _ => pt_false fun _ _ _ ⟨_, _, _, _, w⟩ => w
  | .frzD _, _, _ => pt_false fun _ _ _ ⟨_, _, _, _, w⟩ => w
termination_by e => (sizeOf e, 1)
theorem sTs {X : Cx} {W : WX} (G : Good T F n X) (tk : Takes X W) (i : Bool) {pos : Pos} : ∀ (es : Exs) {pes : List Expr}, mEs T X.N X.env.scope es pes = true → PW X (.BoolOp (if i then .And else .Or) pes pos) (TTx T W (wpTs (CN F n) i es))
  | .nil, _, _ => ⟨fun wh pins s σ H Q I ⟨ρ, h, re, rh, w⟩ => w.elim⟩
  | .cons e .nil, [p], h => by
    simp only [mEs] at h
    obtain ⟨h, h3⟩ := b1 h
    obtain ⟨h1, h2⟩ := b1 h
    cases i with
    | true => exact pw_and1 (sT G tk e h2)
    | false => exact pw_or1 (sT G tk e h2)
  | .cons e (.cons e2 es), p :: p2 :: ps, h => by
    rw [mEs] at h
    obtain ⟨h, h3⟩ := b1 h
    obtain ⟨h1, h2⟩ := b1 h
    have ih := sTs G tk i (pos := pos) (.cons e2 es) h3
    have go : ∀ σ H (Q : Bool → Hp → Prop), TTx T W (wpTs (CN F n) i (.cons e (.cons e2 es))) σ H Q → (TTx T W (wpT (CN F n) e)) σ H fun c H1 => if c = i then TTx T W (wpTs (CN F n) i (.cons e2 es)) σ H1 Q else Q c H1 := fun σ H Q ⟨ρ, h, re, rh, w⟩ => by
      refine stepT (CN_mono F n) re rh w (fun _ _ e => e) fun c h1 H1 re1 rh1 st1 w => ?_
      split
      · rename_i q
        rw [if_pos q] at w
        exact ⟨ρ, h1, re1, rh1, wpTs_mono (CN_mono F n) i _ _ _ _ _ _ _ (fun _ _ k _ rh s => k _ rh (st1.trans s)) (fun _ _ k => k.later st1) w⟩
      · rename_i q
        rw [if_neg q] at w
        exact w _ rh1 st1
    cases i with
    | true =>
      refine (pw_and (sT G tk e h2) ih).imp fun σ H Q q => ?_
      obtain ⟨ρ, h, re, rh, w⟩ := go σ H Q q
      refine ⟨ρ, h, re, rh, wpT_mono (CN_mono F n) e _ _ _ _ _ _ (fun v h' k H' a b => ?_) (fun _ _ k => k) w⟩
      have := k H' a b
      cases v <;> exact this
    | false =>
      refine (pw_or (sT G tk e h2) ih).imp fun σ H Q q => ?_
      obtain ⟨ρ, h, re, rh, w⟩ := go σ H Q q
      refine ⟨ρ, h, re, rh, wpT_mono (CN_mono F n) e _ _ _ _ _ _ (fun v h' k H' a b => ?_) (fun _ _ k => k) w⟩
      have := k H' a b
      cases v <;> exact this
  | .cons _ .nil, [], h => by simp [mEs] at h
  | .cons _ .nil, _ :: _ :: _, h => by simp [mEs] at h
  | .cons _ (.cons _ _), [], h => by simp [mEs] at h
  | .cons _ (.cons _ _), [_], h => by simp [mEs] at h
termination_by es => (sizeOf es, 1)
theorem sI {X : Cx} {W : WX} (G : Good T F n X) (tk : Takes X W) {t : Expr} : ∀ (it : Itx) {pe : Expr}, mI T X.N X.env.scope it t pe = true → PI X t pe (TIx T W (wpI (CN F n) it))
  | .seq e, pe, h => by
    have pe' := sE G tk e (by simpa [mI] using h)
    refine (pi_seq pe').imp fun σ H R ⟨ρ, h, re, rh, w⟩ => ?_
    refine stepE (CN_mono F n) re rh w (fun _ _ e => e) fun v h1 V H1 re1 rh1 st1 rv w => ?_
    obtain ⟨xs, e1, w⟩ := optW_ex w
    have lst : ls h1 v = some xs → _ := fun e2 => js_list (K := X.K) G.kk rv e2 rh1
    cases v with
    | tup ys =>
      cases e1
      obtain ⟨a, q1, q2, q3⟩ := js_tup (K := X.K) rv
      exact ⟨a, q1, .inr ⟨q2, w _ _ rh1 st1 q3⟩⟩
    | fd ks ys => cases e1
    | wd ks ys => cases e1
    | fl ys =>
      obtain ⟨a, q1, q2, q3⟩ := lst e1
      exact ⟨a, q1, .inl ⟨q2, w _ _ rh1 st1 q3⟩⟩
    | sc ys =>
      obtain ⟨a, q1, q2, q3⟩ := lst e1
      exact ⟨a, q1, .inl ⟨q2, w _ _ rh1 st1 q3⟩⟩
    | ref b =>
      obtain ⟨a, q1, q2, q3⟩ := lst e1
      exact ⟨a, q1, .inl ⟨q2, w _ _ rh1 st1 q3⟩⟩
    | non => cases e1
    | bl b => cases e1
    | int b => cases e1
    | str b => cases e1
  | .keys e, pe, h => by
    have pe' := sE G tk e (by simpa [mI] using h)
    refine (pi_keys pe').imp fun σ H R ⟨ρ, h, re, rh, w⟩ => ?_
    refine stepE (CN_mono F n) re rh w (fun _ _ e => e) fun v h1 V H1 re1 rh1 st1 rv w => ?_
    obtain ⟨ks, e1, w⟩ := optW_ex w
    cases v with
    | wd ks' ys =>
      cases e1
      obtain ⟨a, kvs, q1, q2, ⟨o, q3⟩, q4, q5⟩ := rv
      exact ⟨a, o, q1, .inl ⟨kvs, q3, w _ _ rh1 st1 (js_keys q2 q3 q4)⟩⟩
    | _ => cases e1
  | .range1 a, pe, h => by
    unfold mI at h
    split at h
    · rename_i g x q e
      obtain rfl := asCall_is e
      obtain ⟨h, h4⟩ := b1 h
      obtain ⟨h, h3⟩ := b1 h
      obtain ⟨h1, h2⟩ := b1 h
      obtain ⟨p, rfl, gl, m1, m2⟩ := glo_name (of_decide_eq_true h1) h2 (by decide)
      refine (pi_range1 gl (G.blt _ (by decide)) (pa_cons (sE G tk a h4) pa_nil (star_cons (nt h3))) (star_cons (nt h3))).imp fun σ H R ⟨ρ, h, re, rh, w⟩ => ?_
      refine stepE (CN_mono F n) re rh w (fun _ _ e => e) fun v h1 V H1 re1 rh1 st1 rv w => ?_
      obtain ⟨j, e1, w⟩ := optW_ex w
      exact ⟨j, by rw [intOf_is e1 rv], by omega, by omega, w.2 _ _ rh1 st1 (js_range 0 _)⟩
    · cases h
  | .range2 a b, pe, h => by
    unfold mI at h
    split at h
    · rename_i g x y q e
      obtain rfl := asCall_is e
      obtain ⟨h, h6⟩ := b1 h
      obtain ⟨h, h5⟩ := b1 h
      obtain ⟨h, h4⟩ := b1 h
      obtain ⟨h, h3⟩ := b1 h
      obtain ⟨h1, h2⟩ := b1 h
      obtain ⟨p, rfl, gl, m1, m2⟩ := glo_name (of_decide_eq_true h1) h2 (by decide)
      refine (pi_range2 gl (G.blt _ (by decide)) (pa_cons (sE G tk a h5) (pa_cons (sE G tk b h6) pa_nil (star_cons (nt h4))) (star_cons (nt h3))) (by rw [star_cons (nt h3), star_cons (nt h4)]; rfl) (star_cons (nt h4))).imp fun σ H R ⟨ρ, h, re, rh, w⟩ => ?_
      refine stepE (CN_mono F n) re rh w (fun _ _ e => e) fun v h1 V H1 re1 rh1 st1 rv w => ?_
      refine stepE (CN_mono F n) re1 rh1 w (fun _ _ k => k.later st1) fun u h2 U H2 re2 rh2 st2 ru w => ?_
      obtain ⟨i, e1, w⟩ := optW_ex w
      obtain ⟨j, e2, w⟩ := optW_ex w
      exact ⟨i, j, by rw [intOf_is e1 rv, intOf_is e2 ru], by omega, w.2 _ _ rh2 (st1.trans st2) (js_range i _)⟩
    · cases h
  | .range3 a b c, pe, h => by
    unfold mI at h
    split at h
    · rename_i g x y z q e
      obtain rfl := asCall_is e
      obtain ⟨h, h8⟩ := b1 h
      obtain ⟨h, h7⟩ := b1 h
      obtain ⟨h, h6⟩ := b1 h
      obtain ⟨h, h5⟩ := b1 h
      obtain ⟨h, h4⟩ := b1 h
      obtain ⟨h, h3⟩ := b1 h
      obtain ⟨h1, h2⟩ := b1 h
      obtain ⟨p, rfl, gl, m1, m2⟩ := glo_name (of_decide_eq_true h1) h2 (by decide)
      refine (pi_range3 gl (G.blt _ (by decide)) (pa_cons (sE G tk a h6) (pa_cons (sE G tk b h7) (pa_cons (sE G tk c h8) pa_nil (star_cons (nt h5))) (star_cons (nt h4))) (star_cons (nt h3))) (star_cons (nt h3)) (star_any fun z hz => by
        rcases List.mem_cons.mp hz with rfl | hz
        · exact nt h4
        · rcases List.mem_cons.mp hz with rfl | hz
          · exact nt h5
          · cases hz)).imp fun σ H R ⟨ρ, h, re, rh, w⟩ => ?_
      refine stepE (CN_mono F n) re rh w (fun _ _ e => e) fun v h1 V H1 re1 rh1 st1 rv w => ?_
      refine stepE (CN_mono F n) re1 rh1 w (fun _ _ k => k.later st1) fun u h2 U H2 re2 rh2 st2 ru w => ?_
      refine stepE (CN_mono F n) re2 rh2 w (fun _ _ k => k.later (st1.trans st2)) fun u3 h3 U3 H3 re3 rh3 st3 ru3 w => ?_
      obtain ⟨i, e1, w⟩ := optW_ex w
      obtain ⟨j, e2, w⟩ := optW_ex w
      obtain ⟨k, e3, w⟩ := optW_ex w
      exact ⟨i, j, k, _, by rw [intOf_is e1 rv, intOf_is e2 ru, intOf_is e3 ru3], rgc_of w.1, w.2 _ _ rh3 ((st1.trans st2).trans st3) (js_step i k _)⟩
    · cases h
  | .enum a, pe, h => by
    unfold mI at h
    obtain ⟨h0, hh⟩ := b1 h
    clear h
    split at hh
    · rename_i g x q e
      obtain rfl := asCall_is e
      obtain ⟨h, h4⟩ := b1 hh
      obtain ⟨h, h3⟩ := b1 h
      obtain ⟨h1, h2⟩ := b1 h
      obtain ⟨p, rfl, gl, m1, m2⟩ := glo_name (of_decide_eq_true h1) h2 (by decide)
      cases t <;> first | (cases h0; done) | skip
      refine (pi_enum gl (G.blt _ (by decide)) (pa_cons (sE G tk a h4) pa_nil (star_cons (nt h3))) (star_cons (nt h3))).imp fun σ H R ⟨ρ, h, re, rh, w⟩ => ?_
      refine stepE (CN_mono F n) re rh w (fun _ _ e => e) fun v h1 V H1 re1 rh1 st1 rv w => ?_
      obtain ⟨xs, e1, w⟩ := optW_ex w
      obtain ⟨b, vs, q1, q2, q3⟩ := js_enum (K := X.K) rv rh1 e1
      exact ⟨b, vs, by rw [q1], q2, w _ _ rh1 st1 q3⟩
    · cases hh
  | .zip a b, pe, h => by
    unfold mI at h
    obtain ⟨h0, hh⟩ := b1 h
    clear h
    split at hh
    · rename_i g x y q e
      obtain rfl := asCall_is e
      obtain ⟨h, h6⟩ := b1 hh
      obtain ⟨h, h5⟩ := b1 h
      obtain ⟨h, h4⟩ := b1 h
      obtain ⟨h, h3⟩ := b1 h
      obtain ⟨h1, h2⟩ := b1 h
      obtain ⟨p, rfl, gl, m1, m2⟩ := glo_name (of_decide_eq_true h1) h2 (by decide)
      cases t <;> first | (cases h0; done) | skip
      refine (pi_zip gl (G.blt _ (by decide)) (pa_cons (sE G tk a h5) (pa_cons (sE G tk b h6) pa_nil (star_cons (nt h4))) (star_cons (nt h3))) (star_cons (nt h3)) (star_any fun z hz => by
        rcases List.mem_cons.mp hz with rfl | hz
        · exact nt h4
        · cases hz)).imp fun σ H R ⟨ρ, h, re, rh, w⟩ => ?_
      refine stepE (CN_mono F n) re rh w (fun _ _ e => e) fun v h1 V H1 re1 rh1 st1 rv w => ?_
      refine stepE (CN_mono F n) re1 rh1 w (fun _ _ k => k.later st1) fun u h2 U H2 re2 rh2 st2 ru w => ?_
      obtain ⟨xs, e1, w⟩ := optW_ex w
      obtain ⟨ys, e2, w⟩ := optW_ex w
      obtain ⟨b, c, vs, ws, q1, q2, q3, q4, q5⟩ := js_zip (K := X.K) (RV.keep st2 rv) ru rh2 e1 e2
      exact ⟨b, c, vs, ws, by rw [q1, q2], q3, q4, w _ _ rh2 (st1.trans st2) q5⟩
    · cases hh
  | .rev a, pe, h => by
    unfold mI at h
    split at h
    · rename_i g x q e
      obtain rfl := asCall_is e
      obtain ⟨h, h4⟩ := b1 h
      obtain ⟨h, h3⟩ := b1 h
      obtain ⟨h1, h2⟩ := b1 h
      obtain ⟨p, rfl, gl, m1, m2⟩ := glo_name (of_decide_eq_true h1) h2 (by decide)
      refine (pi_reversed gl (G.blt _ (by decide)) (pa_cons (sE G tk a h4) pa_nil (star_cons (nt h3))) (star_cons (nt h3))).imp fun σ H R ⟨ρ, h, re, rh, w⟩ => ?_
      refine stepE (CN_mono F n) re rh w (fun _ _ e => e) fun v h1 V H1 re1 rh1 st1 rv w => ?_
      obtain ⟨xs, e1, w⟩ := optW_ex w
      obtain ⟨b, vs, q1, q2, q3⟩ := js_rev (K := X.K) rv rh1 e1
      exact ⟨b, vs, by rw [q1], q2, w _ _ rh1 st1 q3⟩
    · cases h
termination_by it => (sizeOf it, 0)
end
end
end L3

set_option Elab.async false
set_option linter.all false
set_option maxRecDepth 100000
/-! L3, part 10: THE STATEMENTS. -/
namespace L3
open PySem PySem.Spec PyProof.Rows L2
variable [Mo]
/-- what is wished behind a statement, told over the small language -/
def KD (T : Tb) (h : Hq) (H : Hp) (D : Ends) (W : WX) : Dn where
  nx := fun ρ' h' => ∀ σ' H', RE h' H' ρ' σ' → RH h' H' → Stab h H h' H' → D.nx σ' H'
  rt := KQ h H D.rt
  ex := fun x ρ' h' => ∀ σ' H', RE h' H' ρ' σ' → RH h' H' → Stab h H h' H' → W (.ref (T.xc x)) none σ' H'
theorem KD.later {T : Tb} {h h1 : Hq} {H H1 : Hp} {D : Ends} {W : WX} (st : Stab h H h1 H1) : Dn.le (KD T h H D W) (KD T h1 H1 D W) :=
  ⟨fun _ _ k σ' H' a b c => k σ' H' a b (st.trans c), fun _ _ k => KQ.later st k, fun _ _ _ k σ' H' a b c => k σ' H' a b (st.trans c)⟩
def TSx (T : Tb) (W : WX) (w : WS) : TS := fun D σ H => ∃ ρ h, RE h H ρ σ ∧ RH h H ∧ w (KD T h H D W) ρ h
theorem _root_.L2.PS.imp {X : Cx} {e : Stmt} {t t' : TS} (p : PS X e t) (k : ∀ D σ H, t' D σ H → t D σ H) : PS X e t' := ⟨fun pins s σ H D I h => p.run pins s σ H D I (k D σ H h)⟩
theorem _root_.L2.PSs.imp {X : Cx} {e : List Stmt} {t t' : TS} (p : PSs X e t) (k : ∀ D σ H, t' D σ H → t D σ H) : PSs X e t' := ⟨fun pins s σ H D I h => p.run pins s σ H D I (k D σ H h)⟩
theorem kex {T : Tb} {h : Hq} {H : Hp} {D : Ends} {W : WX} {ρ : Env3} {σ : L2.St} (re : RE h H ρ σ) : ∀ x h', (KD T h H D W).ex x ρ h' → KE T h H W σ x h' := fun x h' k H' rh st => k σ H' (re.keep st) rh st

/-! ### how values are stored -/
theorem sw_plain {v : Expr} {t : Option Expr} {l : Nat} {env : PySem.Env} (h : isComp v = false) : swapsWith v t l env = pure false := by
  cases v <;> first | rfl | (cases h)
theorem sws_plain {v t : Expr} {l : Nat} {env : PySem.Env} (h : isComp v = false) : swapsWithSole [t] v l env = pure false := sw_plain h
theorem sws_other {v t : Expr} {l : Nat} {env : PySem.Env} (h : asName t = none) : swapsWithSole [t] v l env = pure false := by
  show swapsWith v (some t) l env = pure false
  cases v <;> first | rfl | skip
  all_goals (cases t <;> first | rfl | (cases h))
theorem sw_cell {e : Expr} {gs : List Comprehension} {s : Scope} {pos py : Pos} {y : Str} {l : Nat} {env : PySem.Env} (hy : env.scope.names.lookup y = some .cell) : swapsWithSole [.Name y py] (.ListComp e gs s pos) l env = pure false := by
  have ky : env.kindOf y = some .cell := hy
  show swapsWith (.ListComp e gs s pos) (some (.Name y py)) l env = pure false
  unfold swapsWith
  simp only [ky]
  have e1 : ((some NameKind.cell : Option NameKind) == some NameKind.local) = false := rfl
  simp only [e1, Bool.and_false, Bool.false_and]
theorem stores_plain {v t : Expr} {env : PySem.Env} (h : isTupD v = false) : swappedStores [t] v env = pure none := by
  cases v <;> first | (cases h; done) | skip
  all_goals (cases t <;> rfl)
theorem stores_name {v : Expr} {y : Str} {p : Pos} {env : PySem.Env} : swappedStores [.Name y p] v env = pure none := by cases v <;> rfl
theorem stores_sub {v a b : Expr} {p : Pos} {env : PySem.Env} : swappedStores [.Subscript a b p] v env = pure none := by cases v <;> rfl
theorem asg_sub {o i : Expr} {pos : Pos} {env : PySem.Env} (h : isSlice i = false) : ∀ v, assign (.Subscript o i pos) env v = (do
      let ov ← holding [v] (eval o env)
      let iv ← holding [v, ov] (eval i env)
      standAt pos
      holding [v, ov, iv] (setItem ov iv v)
      release [v, ov, iv] []) := by
  intro v
  cases i <;> first | rfl | (cases h)

section
variable {T : Tb} {F : Fs} {n : Nat}
theorem KQ.of_KD {T : Tb} {h : Hq} {H : Hp} {D : Ends} {W : WX} : (KD T h H D W).rt = KQ h H D.rt := rfl
/-- a value at its targets -/
theorem asg_out {X : Cx} {W : WX} {e : Ex} {tg : Tg} {D : Ends} {σ : L2.St} {H : Hp} (q : TSx T W (wpS (CN F n) (.asg tg e)) D σ H) : tAsg (TEx T W (wpE (CN F n) e)) (GTx tg) D σ H := by
  obtain ⟨ρ, h, re, rh, w⟩ := q
  refine stepE (CN_mono F n) re rh w (kex re) fun v h1 V H1 re1 rh1 st1 rv w => ?_
  obtain ⟨ρ1, e1, w⟩ := optW_ex w
  exact ⟨h1, v, ρ, ρ1, re1, rh1, rv, e1, fun σ' re' _ _ => w σ' H1 re' rh1 st1⟩
theorem sFor {X : Cx} {W : WX} {C : CT} (kc : MonoC C C) {tg : Tg} {it : Itx} {b : Sms} {D : Ends} {σ : L2.St} {H : Hp} (q : TSx T W (wpS C (.for tg it b)) D σ H) : tFor (TIx T W (wpI C it)) (GTx tg) (TSx T W (wpSs C b)) D σ H := by
  obtain ⟨ρ, h, re, rh, w⟩ := q
  refine ⟨ρ, h, re, rh, wpI_mono kc it _ _ _ _ _ _ (fun items keep h1 q H1 J rh1 st js => ?_) (kex re) w⟩
  refine ⟨fun i m σ' H' => ∃ ρ' h', RE h' H' ρ' σ' ∧ RH h' H' ∧ Stab h1 H1 h' H' ∧ m = items.length - i ∧ i ≤ items.length ∧ forW tg (wpSs C b) keep (KD T h H D W) (items.drop i) ρ' h',
    ⟨items.length, ρ, h1, re.keep st, rh1, .refl, by omega, Nat.zero_le _, q⟩, fun i m σ' H' hW => ?_⟩
  obtain ⟨ρ', h', re', rh', st', rfl, hi, w'⟩ := hW
  by_cases hlt : i < items.length
  · have ed : items.drop i = items[i] :: items.drop (i + 1) := List.drop_eq_getElem_cons hlt
    rw [ed] at w'
    obtain ⟨kp, w'⟩ := w'
    obtain ⟨ρ1, e1, w'⟩ := optW_ex w'
    refine .inr ⟨js.go i h' H' rh' st' kp hlt, fun σ'' H'' => ∃ ρ'' h'', RE h'' H'' ρ'' σ'' ∧ RH h'' H'' ∧ Stab h1 H1 h'' H'' ∧ forW tg (wpSs C b) keep (KD T h H D W) (items.drop (i + 1)) ρ'' h'',
      fun σ'' H'' ⟨ρ'', h'', a, b, c, d⟩ => ⟨_, by omega, ρ'', h'', a, b, c, rfl, hlt, d⟩, fun x H2 hy => ?_⟩
    obtain ⟨v, ev, rh2, st2, rv⟩ := js.yld i h' H' x H2 rh' st' kp hlt hy
    rw [List.getElem?_eq_getElem hlt] at ev
    cases ev
    refine ⟨h', items[i], ρ', ρ1, re'.keep st2, rh2, rv, e1, fun σ2 re2 _ _ => ⟨ρ1, h', re2, rh2, ?_⟩⟩
    have st3 := st.trans (st'.trans st2)
    exact (wpSs_mono kc b).go w' ⟨fun ρ4 h4 k σ4 H4 a b c => ⟨ρ4, h4, a, b, st'.trans (st2.trans c), k⟩, fun _ _ k => KQ.later st3 k, fun _ _ _ k σ4 H4 a b c => k σ4 H4 a b (st3.trans c)⟩
  · have ed : items.drop i = [] := List.drop_eq_nil_of_le (by omega)
    rw [ed] at w'
    obtain ⟨kp, w'⟩ := w'
    exact .inl ⟨js.stop i h' H' rh' st' kp (by omega), w' σ' H' re' rh' (st.trans st')⟩
theorem sWhl {X : Cx} {W : WX} {C : CT} (kc : MonoC C C) {t : Ex} {b : Sms} {D : Ends} {σ : L2.St} {H : Hp} (q : TSx T W (wpS C (.whl t b)) D σ H) : tWhile (TTx T W (wpT C t)) (TSx T W (wpSs C b)) D σ H := by
  obtain ⟨ρ, h, re, rh, m, w⟩ := q
  refine ⟨fun m σ' H' => ∃ ρ' h', RE h' H' ρ' σ' ∧ RH h' H' ∧ Stab h H h' H' ∧ whlW (fun ρ h1 K => wpT C t ρ h1 K fun x h' => (KD T h H D W).ex x ρ h') (wpSs C b) (KD T h H D W) m ρ' h',
    ⟨m, ρ, h, re, rh, .refl, w⟩, fun m σ' H' ⟨ρ', h', re', rh', st', w'⟩ => ?_⟩
  cases m with
  | zero => exact w'.elim
  | succ m =>
    refine stepT kc re' rh' w' (fun x h2 k H2 rh2 st2 => k σ' H2 (re'.keep st2) rh2 (st'.trans st2)) fun c h2 H2 re2 rh2 st2 w2 => ?_
    cases c with
    | true =>
      rw [if_pos rfl] at w2 ⊢
      refine ⟨fun σ'' H'' => ∃ ρ'' h'', RE h'' H'' ρ'' σ'' ∧ RH h'' H'' ∧ Stab h H h'' H'' ∧ whlW (fun ρ h1 K => wpT C t ρ h1 K fun x h' => (KD T h H D W).ex x ρ h') (wpSs C b) (KD T h H D W) m ρ'' h'',
        fun σ'' H'' q => ⟨m, by omega, q⟩, ρ', h2, re2, rh2, ?_⟩
      have st3 := st'.trans st2
      exact (wpSs_mono kc b).go w2 ⟨fun ρ4 h4 k σ4 H4 a b c => ⟨ρ4, h4, a, b, st3.trans c, k⟩, fun _ _ k => KQ.later st3 k, fun _ _ _ k σ4 H4 a b c => k σ4 H4 a b (st3.trans c)⟩
    | false =>
      rw [if_neg Bool.false_ne_true] at w2 ⊢
      exact w2 σ' H2 re2 rh2 (st'.trans st2)

/-- a store, in a list or a dict -/
theorem set_any {X : Cx} (hu : X.A.units + 1 < cLine) : PSet X (fun o i v H Q => rSetL o i v H Q ∨ ∃ a H', o = .ref a ∧ DPut H a i v H' ∧ Q H') := by
  intro pins s σ H o i v ov iv u Q I ro ri rv h
  rcases h with h | ⟨a, H', e, g, q⟩
  · exact set_list pins s σ H o i v ov iv u Q I ro ri rv h
  · subst e
    obtain rfl : ov = Value.ref a := ro
    exact d_setItem hu I g ri rv fun s' I' => ⟨H', I', q⟩
theorem pss_lock {X : Cx} {sts : List Stmt} {t : TS} (h : PSs X sts t) : PSs X sts (fun D σ H => t D σ H ∨ ∃ d u, H d = some u ∧ Mut (some u) ∧ ∀ od, t D σ (upd H d (.frz od u))) := ⟨fun pins s σ H D I hw => by
  rcases hw with hw | ⟨d, u, hd, mu, hw⟩
  · exact h.run pins s σ H D I hw
  · obtain ⟨od, I1⟩ := I.lock hd mu
    exact h.run pins s σ _ D I1 (hw od)⟩
mutual
theorem sS {X : Cx} {W : WX} {fb : Str → Bool} (G : Good T F n X) (tk : Takes X W) (hf : ∀ x, fb x = true → X.fn x = true) : ∀ (s : Sm) {st : Stmt}, mS T X.N X.env.scope fb s st = true → PS X st (TSx T W (wpS (CN F n) s))
  | .asg tg e, st, h => by
    unfold mS at h
    split at h
    · rename_i t v q e1
      obtain rfl := asAsg_is e1
      obtain ⟨h, h3⟩ := b1 h
      obtain ⟨h1, h2⟩ := b1 h
      have pv := sE G tk e h2
      have pg := sG G.calm G.nd hf h1
      cases tg with
      | names is =>
        have hv : isTupD v = false := nt h3
        unfold mT at h1
        dsimp only at h1
        split at h1
        · rename_i es e2
          obtain ⟨k, p, rfl⟩ := asTup_is e2
          exact (ps_asg pv pg (sws_other rfl) (stores_plain hv) rfl).imp fun D σ H q => asg_out (X := X) q
        · cases h1
      | name i =>
        obtain ⟨hc, hce⟩ := b1 h3
        unfold mT at h1
        dsimp only at h1
        split at h1
        · rename_i y e2
          obtain ⟨py, rfl⟩ := asName_is e2
          cases hv : isComp v with
          | false => exact (ps_asg pv pg (sws_plain hv) stores_name rfl).imp fun D σ H q => asg_out (X := X) q
          | true =>
            obtain ⟨h4, h5⟩ := b1 h1
            rw [hv] at hce
            obtain ⟨e0, gs, s0, pos, rfl, c1, c2, c3⟩ := compStore_is hc hv
            · rcases c3 with yl | c3
              · cases e with
                | comp fz elt tg it cond own =>
                  unfold mE at h2
                  split at h2
                  · rename_i e00 t0 i0 cs s00 e3
                    obtain ⟨p3, e4⟩ := asLC_is e3
                    cases e4
                    obtain ⟨h2, g8⟩ := b1 h2
                    obtain ⟨h2, g7⟩ := b1 h2
                    obtain ⟨h2, g6⟩ := b1 h2
                    obtain ⟨h2, g5⟩ := b1 h2
                    obtain ⟨h2, g4⟩ := b1 h2
                    obtain ⟨h2, g3⟩ := b1 h2
                    obtain ⟨g1, g2⟩ := b1 h2
                    have ok := blkOk_by g3
                    have ow : (ownOf X.N own).map (·.2) = own := of_decide_eq_true g4
                    have pts : ∀ (s : Shared) (H : Hp) (C : Addr) (cl : List (Str × Addr)) (fp : List Addr), PTs (X.blk s H s0 (compEnvC s0 cl C X.env) fp) cs (TTx T (fun _ _ _ _ => False) (wpT (CN F n) cond)) := fun s H C cl fp => by
                      split at g6
                      · cases cond <;> first | (cases g6; done) | skip
                        have q : PTs (X.blk s H s0 (compEnvC s0 cl C X.env) fp) [] tYes := pts_nil
                        exact ⟨fun pins s σ H Q I ⟨ρ, h, re, rh, w⟩ => q.run pins s σ H Q I (w _ rh .refl)⟩
                      · obtain ⟨_, g6⟩ := b1 g6
                        exact pts_one (sT (G.blk ok.kind) takes0 cond g6)
                      · cases g6
                    refine (ps_setLc G.calm G.nd (of_decide_eq_true h4) yl (sw_true G.kind yl c1 c2) (sI G tk it g1) ok (fun s H C cl fp => sG G.calm G.nd (fun x hx => hx) g5) pts (fun s H C cl fp => sE (G.blk ok.kind) takes0 elt g7) (fold_plain (nt g2))).imp fun D σ H q => ?_
                    obtain ⟨ρ, h, re, rh, w⟩ := q
                    rw [ow]
                    refine sLC (T := T) (W := W) (fz := fz) (CN_mono F n) (tgOwn_is g8) ?_
                    refine stepE (CN_mono F n) re rh w (kex re) fun v h1 V H1 re1 rh1 st1 rv w => ?_
                    obtain ⟨ρ1, e5, w⟩ := optW_ex w
                    cases e5
                    exact w _ H1 (re1.set i rv) rh1 st1
                  · cases h2
                | _ => cases hce
              · exact (ps_asg pv pg (sw_cell c3) stores_name rfl).imp fun D σ H q => asg_out (X := X) q
        · cases h1
    · cases h
  | .asgI o i e, st, h => by
    unfold mS at h
    split at h
    · rename_i t v q e1
      obtain rfl := asAsg_is e1
      split at h
      · rename_i x y e2
        obtain ⟨tp, rfl⟩ := asSub_is e2
        obtain ⟨h, h5⟩ := b1 h
        obtain ⟨h, h4⟩ := b1 h
        obtain ⟨h, h3⟩ := b1 h
        obtain ⟨h1, h2⟩ := b1 h
        refine (ps_asg (sE G tk e h5) (pg_sub (sE G tk o h3) (sE G tk i h4) (set_any (Nat.lt_trans (by omega) G.room.units)) (asg_sub (nt h1))) (sws_other rfl) stores_sub rfl).imp fun D σ H ⟨ρ, h, re, rh, w⟩ => ?_
        refine stepE (CN_mono F n) re rh w (kex re) fun v h1 V H1 re1 rh1 st1 rv w => ?_
        refine stepE (CN_mono F n) re1 rh1 w (fun _ _ k => (kex re _ _ k).later st1) fun u h2 U H2 re2 rh2 st2 ru w => ?_
        refine stepE (CN_mono F n) re2 rh2 w (fun _ _ k => (kex re _ _ k).later (st1.trans st2)) fun z h3 Z H3 re3 rh3 st3 rz w => ?_
        exact sound_set rh3 (RV.keep st3 ru) rz (RV.keep (st2.trans st3) rv) w fun h' H' rh' st' k => k _ _ (re3.keep st') rh' (st1.trans (st2.trans (st3.trans st')))
      · cases h
    · cases h
  | .ex e, st, h => by
    unfold mS at h
    split at h
    · rename_i v q e1
      obtain rfl := asExp_is e1
      obtain ⟨h1, h2⟩ := b1 h
      refine (ps_expr (sE G tk e h2) (sw_plain (nt h1))).imp fun D σ H ⟨ρ, h, re, rh, w⟩ => ?_
      exact stepE (CN_mono F n) re rh w (kex re) fun v h1 V H1 re1 rh1 st1 rv w => w σ H1 re1 rh1 st1
    · cases h
  | .ret e, st, h => by
    unfold mS at h
    split at h
    · rename_i v e1
      obtain ⟨p, rfl⟩ := asRet_is e1
      refine (ps_ret (sE G tk e h)).imp fun D σ H ⟨ρ, h, re, rh, w⟩ => ?_
      exact stepE (CN_mono F n) re rh w (kex re) fun v h1 V H1 re1 rh1 st1 rv w => w _ _ rh1 st1 rv
    · cases h
  | .retN, st, h => by
    unfold mS at h
    split at h
    · rename_i e1
      obtain ⟨p, rfl⟩ := asRet_is e1
      exact ps_retN.imp fun D σ H ⟨ρ, h, re, rh, w⟩ => w _ _ rh .refl rfl
    · cases h
  | .ite t a b, st, h => by
    unfold mS at h
    split at h
    · rename_i x y z e1
      obtain ⟨p, rfl⟩ := asIfS_is e1
      obtain ⟨h, h3⟩ := b1 h
      obtain ⟨h1, h2⟩ := b1 h
      refine (ps_if (sT G tk t h1) (sSs G tk hf a h2) (sSs G tk hf b h3)).imp fun D σ H ⟨ρ, h, re, rh, w⟩ => ?_
      refine stepT (CN_mono F n) re rh w (kex re) fun k h1 H1 re1 rh1 st1 w => ?_
      cases k with
      | true => exact ⟨ρ, h1, re1, rh1, (wpSs_mono (CN_mono F n) a).go w (KD.later st1)⟩
      | false => exact ⟨ρ, h1, re1, rh1, (wpSs_mono (CN_mono F n) b).go w (KD.later st1)⟩
    · cases h
  | .for tg it b, st, h => by
    unfold mS at h
    split at h
    · rename_i x y z e1
      obtain ⟨p, rfl⟩ := asFor_is e1
      obtain ⟨h, h4⟩ := b1 h
      obtain ⟨h, h3⟩ := b1 h
      obtain ⟨h1, h2⟩ := b1 h
      exact (ps_for G.own G.calm (sI G tk it h2) (sG G.calm G.nd hf h1) (sSs G tk hf b h4) (fold_plain (nt h3))).imp fun D σ H q => sFor (X := X) (CN_mono F n) q
    · cases h
  | .whl t b, st, h => by
    unfold mS at h
    split at h
    · rename_i x y e1
      obtain ⟨p, rfl⟩ := asWhl_is e1
      obtain ⟨h1, h2⟩ := b1 h
      exact (ps_while G.own (sT G tk t h1) (sSs G tk hf b h2)).imp fun D σ H q => sWhl (X := X) (CN_mono F n) q
    · cases h
  | .never, st, h => ps_never.imp fun D σ H ⟨ρ, h, re, rh, w⟩ => w
  | .pass, st, h => by
    obtain ⟨p, rfl⟩ := asPass_is (by simpa [mS] using h)
    exact ps_pass.imp fun D σ H ⟨ρ, h, re, rh, w⟩ => w σ H re rh .refl
  | .kill i, st, h => by simp [mS] at h
  | .fzv i, st, h => by simp [mS] at h
termination_by s => sizeOf s
theorem sSs {X : Cx} {W : WX} {fb : Str → Bool} (G : Good T F n X) (tk : Takes X W) (hf : ∀ x, fb x = true → X.fn x = true) : ∀ (s : Sms) {sts : List Stmt}, mSs T X.N X.env.scope fb s sts = true → PSs X sts (TSx T W (wpSs (CN F n) s))
  | .nil, [], _ => pss_nil.imp fun D σ H ⟨ρ, h, re, rh, w⟩ => w σ H re rh .refl
  | .nil, _ :: _, h => by simp [mSs] at h
  | .cons s r, sts, h => by
    by_cases hk : ∃ i, s = .kill i
    · obtain ⟨i, rfl⟩ := hk
      have h' : mSs T X.N X.env.scope fb r sts = true := by
        unfold mSs at h
        exact h
      refine (sSs G tk hf r h').imp fun D σ H ⟨ρ, h, re, rh, w⟩ => ?_
      obtain ⟨a, e, w⟩ := optW_ex (show optW ((lk ρ i).bind refOf) (fun a => wpSs (CN F n) r (KD T h H D W) ρ (er h a)) from w)
      exact ⟨ρ, er h a, re.keep Stab.er, rh.er, (wpSs_mono (CN_mono F n) r).go w (KD.later Stab.er)⟩
    by_cases hz : ∃ i, s = .fzv i
    · obtain ⟨i, rfl⟩ := hz
      have h' : mSs T X.N X.env.scope fb r sts = true := by
        unfold mSs at h
        exact h
      refine (pss_lock (sSs G tk hf r h')).imp fun D σ H ⟨ρ, h, re, rh, w⟩ => ?_
      obtain ⟨a, e, w⟩ := optW_ex (show optW ((lk ρ i).bind refOf) (fun a => optW (cellO h a) fun c => wpSs (CN F n) r (KD T h H D W) (ρ.set i (some (lockC c))) (er h a)) from w)
      obtain ⟨c, ec, w⟩ := optW_ex w
      have ec : h a = some c := ec
      obtain ⟨v, ev, ea⟩ := Option.bind_eq_some_iff.mp e
      have hv : v = .ref a := by cases v <;> first | (cases ea; done) | (cases ea; rfl)
      subst hv
      obtain ⟨x, ex, rx⟩ := re.2 i _ (lk_eq _ _ _ ev)
      cases (show x = .ref a from rx)
      have hset : ∀ (H' : Hp) (v : Val), Stab h H (er h a) H' → RV (er h a) H' v (.ref a) → RE (er h a) H' (ρ.set i (some v)) σ := fun H' v st r => by
        refine ⟨by rw [List.length_set]; exact re.1, fun j u ej => ?_⟩
        by_cases hij : i = j
        · subst hij
          have hl : i < ρ.length := (List.getElem?_eq_some_iff.mp (lk_eq _ _ _ ev)).1
          rw [List.getElem?_set_self hl] at ej
          cases ej
          exact ⟨_, ex, r⟩
        · rw [List.getElem?_set_ne hij] at ej
          obtain ⟨y, ey, ry⟩ := re.2 j u ej
          exact ⟨y, ey, RV.keep st ry⟩
      cases c with
      | lst xs =>
        obtain ⟨vs, q1, q2⟩ := rh a _ ec
        exact .inl ⟨_, er h a, hset H (.fl xs) Stab.er ⟨a, vs, rfl, er_same, q1, RVs.keep Stab.er q2⟩, rh.er, (wpSs_mono (CN_mono F n) r).go w (KD.later Stab.er)⟩
      | dic kvs =>
        obtain ⟨us, q1, q2⟩ := rh a _ ec
        refine .inr ⟨a, .dK us, q1, True.intro, fun od => ?_⟩
        have st : Stab h H (er h a) (upd H a (.frz od (.dK us))) := fun b u e m => by
          have hb : b ≠ a := ne_of_live' ec m
          exact ⟨by rw [upd_ne hb]; exact e, by rw [er_ne hb]; exact m⟩
        have rh' : RH (er h a) (upd H a (.frz od (.dK us))) := fun b c' e => by
          by_cases hb : b = a
          · subst hb; rw [er_same] at e; cases e
          · rw [er_ne hb] at e
            exact (rh b c' e).keep st (upd_ne hb)
        exact ⟨_, er h a, hset _ (wdOf kvs) st ⟨a, us, rfl, er_same, ⟨od, upd_same⟩, q2.1, RVs.keep st q2.2⟩, rh', (wpSs_mono (CN_mono F n) r).go w (KD.later st)⟩
    · cases sts with
      | nil => exfalso; unfold mSs at h; split at h <;> simp_all
      | cons st sts =>
        have h' : mS T X.N X.env.scope fb s st = true ∧ mSs T X.N X.env.scope fb r sts = true := by
          cases s <;> first | exact b1 (by simpa [mSs] using h) | exact absurd ⟨_, rfl⟩ hk | exact absurd ⟨_, rfl⟩ hz
        refine (pss_cons (sS G tk hf s h'.1) (sSs G tk hf r h'.2)).imp fun D σ H ⟨ρ, h, re, rh, w⟩ => ⟨ρ, h, re, rh, ?_⟩
        refine (wpS_mono (CN_mono F n) s).go w ⟨fun ρ' h' k σ' H' re' rh' st' => ⟨ρ', h', re', rh', (wpSs_mono (CN_mono F n) r).go k (KD.later st')⟩, fun _ _ k => k, fun _ _ _ k => k⟩
termination_by s => sizeOf s
end
end
end L3

set_option Elab.async false
set_option linter.all false
set_option maxRecDepth 100000
/-! L3, part 11: THE DEFS, and a law's end. -/
namespace L3
open PySem PySem.Spec PyProof.Rows L2

/-- a def of the text, in one of its editions -/
structure DD where
  id : Nat
  py : Str
  st : Stmt
  N : List Str
  ps : List Str
  df : Df
def nmOf (L : List DD) (f : Nat) : Option Str := (L.find? fun d => d.id == f).map (·.py)
def FOf (L : List DD) : Fs := fun f => (L.find? fun d => d.id == f).map (·.df)
def tbOf (L : List DD) (con : Str → Option Val) (xc : Nat → Addr) : Tb := ⟨nmOf L, con, xc⟩
def scopeB (N ps : List Str) (sc : Scope) : Bool :=
  (match sc.kind with | .function => true | _ => false) && !sc.isCoroutine && !sc.isGenerator && decide N.Nodup && decide (N.take ps.length = ps) &&
    (ps.all fun x => decide (sc.names.lookup x = some .local) || decide (sc.names.lookup x = some .cell)) && sc.names.all fun y => decide (y.2 ≠ .free)
theorem scopeB_is {N ps : List Str} {sc : Scope} (h : scopeB N ps sc = true) : FnScope N ps sc := by
  unfold scopeB at h
  simp only [Bool.and_eq_true, Bool.not_eq_true', decide_eq_true_eq, List.all_eq_true, Bool.or_eq_true] at h
  obtain ⟨⟨⟨⟨⟨⟨h1, h2⟩, h3⟩, h4⟩, h5⟩, h6⟩, h7⟩ := h
  refine ⟨?_, h2, h3, h4, h5, h6, h7⟩
  split at h1
  · assumption
  · cases h1
/-- the def says what its text says -/
def okDD (T : Tb) (d : DD) : Bool := scopeB d.N d.ps (defScope d.st) && decide (d.df.ps = d.ps.length) && decide (d.df.ns = d.N.length) && mSs T d.N (defScope d.st) (fun _ => true) d.df.body (defBody d.st)
/-- how its arguments come -/
def BindOk (d : DD) : Prop := ∀ (kV doc pm : Value) (an : Option Addr) (cdv ct : Value) (us : List Value), us.length = d.ps.length → bindArgs (PySem.W.fnOf d.py d.py (defArgs d.st) (defBody d.st) (defScope d.st) .none kV doc pm an cdv ct) ⟨us, []⟩ = pure (d.ps.zip us)

theorem find_of {L : List DD} {f : Nat} {d : DD} (h : L.find? (fun d => d.id == f) = some d) : d ∈ L := List.mem_of_find?_eq_some h
section
variable [Mo] {L : List DD} {con : Str → Option Val} {xc : Nat → Addr} {P : Program} {w : World} {K : PySem.W.Frag} {mg : Str → Option Value} {base : Heap}
/-- where a def stands -/
def At (K : PySem.W.Frag) (mg : Str → Option Value) (d : DD) : Prop := ∃ a fd, mg d.py = some (.ref a) ∧ FunD K d.py d.py (defArgs d.st) (defBody d.st) (defScope d.st) [] [] a fd
theorem all_ok (kk : K = Mo.K) (hall : L.all (okDD (tbOf L con xc)) = true) (hb : ∀ d ∈ L, BindOk d) (hat : ∀ d ∈ L, At K mg d) (blt : ∀ x ∈ bltNames, mg x = none) (hcon : ∀ x v, con x = some v → ∃ u, mg x = some u ∧ RelV (flV v) u) :
    ∀ (n f : Nat) (d : DD), L.find? (fun d => d.id == f) = some d → ∀ a fd, mg d.py = some (.ref a) → FunD K d.py d.py (defArgs d.st) (defBody d.st) (defScope d.st) [] [] a fd →
      FnOk P w K mg base (L2.CX P w) n a fd d.ps (spOf (tbOf L con xc) (FOf L) n f) := by
  intro n
  induction n with
  | zero => exact fun f d e a fd _ _ => ⟨fun vs H Q E ⟨_, _, _, _, z⟩ => z.elim, fun _ _ _ _ _ _ _ _ _ _ _ _ _ ⟨_, _, _, _, z⟩ => z.elim⟩
  | succ n ih =>
    intro f d e a fd hm FD
    have ok := List.all_eq_true.mp hall d (find_of e)
    unfold okDD at ok
    obtain ⟨ok, o4⟩ := b1 ok
    obtain ⟨ok, o3⟩ := b1 ok
    obtain ⟨o1, o2⟩ := b1 ok
    have S := scopeB_is o1
    have hF : FOf L f = some d.df := by unfold FOf; rw [e]; rfl
    have len : ∀ (vs : List V) (H : Hp) (Q : VK) (E : XK), spOf (tbOf L con xc) (FOf L) (n + 1) f vs H Q E → vs.length = d.ps.length := fun vs H Q E ⟨args, h, rv, rh, z⟩ => by
      obtain ⟨df, e1, z⟩ := optW_ex z
      rw [hF] at e1
      cases e1
      rw [← rv.length, z.1]
      exact of_decide_eq_true o2
    refine FD.ok (CX := L2.CX P w) S len fun cdv A outer s H vs Q E hr hsp => ?_
    have hl := len vs H Q E hsp
    obtain ⟨args, h, rv, rh, z⟩ := hsp
    obtain ⟨df, e1, z1, z⟩ := optW_ex z
    rw [hF] at e1
    cases e1
    have G : Good (tbOf L con xc) (FOf L) n (cxOf (L2.CX P w) P w K mg base d.N d.py (defScope d.st) a cdv A outer s H E) :=
      ⟨rfl, hr, S.nd, S.kind, fun g x hx => by
        have hx' : nmOf L g = some x := hx
        unfold nmOf at hx'
        obtain ⟨d', e', rfl⟩ := Option.map_eq_some_iff.mp hx'
        obtain ⟨a', fd', q1, q2⟩ := hat d' (find_of e')
        exact ⟨a', fd', d'.ps, q1, q2.kp, q2.bindsN (hb d' (find_of e')), ih g d' e' a' fd' q1 q2⟩, blt, hcon, PassesOwn.leaving, kk⟩
    refine ⟨_, sSs (fb := fun _ => true) G (takes_of rfl rfl rfl rfl) (fun _ _ => rfl) d.df.body o4, ?_⟩
    have o2' := of_decide_eq_true o2
    have o3' := of_decide_eq_true o3
    refine ⟨_, h, ⟨?_, fun i v ev => ?_⟩, rh, (wpSs_mono (CN_mono (FOf L) n) d.df.body).go z ⟨fun ρ' h' k σ' H' _ rh' st' => k _ H' rh' st' rfl, fun _ _ k => k, fun x _ h' k σ' H' _ rh' st' => k H' rh' st'⟩⟩
    · show (args.map some ++ List.replicate (d.df.ns - d.df.ps) none).length = (L2.start d.N vs).length
      unfold L2.start
      simp only [List.length_append, List.length_map, List.length_replicate]
      rw [rv.length, o2', o3', hl]
    · by_cases hi : i < args.length
      · rw [List.getElem?_append_left (by simpa using hi), List.getElem?_map] at ev
        cases q : args[i]? with
        | none => rw [q] at ev; cases ev
        | some u =>
          rw [q] at ev
          cases ev
          obtain ⟨x, e2, r2⟩ := rv.get q
          refine ⟨x, ?_, r2⟩
          show (L2.start d.N vs)[i]? = some (some x)
          unfold L2.start
          rw [List.getElem?_append_left (by rw [List.length_map, ← rv.length]; exact hi), List.getElem?_map, e2]
          rfl
      · rw [List.getElem?_append_right (by rw [List.length_map]; omega), List.getElem?_replicate] at ev
        split at ev <;> cases ev
end

/-! ### a law's end -/
/-- no exception leaves a law -/
theorem cx_none {P : Program} {w : World} {H : Hp} {s : Shared} {e : Value} {s' : Shared} (h : L2.CX P w [] H s (fun _ _ _ => False) e s') : False := by
  obtain ⟨_, _, _, _, _, _, _, _, _, _, _, _, z⟩ := h
  exact z
/-- the law's call, from the evaluator's -/
theorem law_walk {l : PySem.W.OpenLaw} {q : Program} {loose : List Str} {XP : (Str → Option Value) → Heap → Prop} {fn : List He.DefD} {fa : List He.Fa} {m : Nat} {d : DefRec} {L : List DD} {con : PySem.W.Frag → Str → Option Val} {xc : PySem.W.Frag → Nat → Addr} {n id : Nat} {dl : DD}
    (hn : l.most = some 63) (hdf : d.params.defaults = []) (hr : Room n callerA) (hnm : d.name = dl.py) (hps : dl.ps = [Str.ofString "_law_script"])
    (hid : L.find? (fun d => d.id == id) = some dl)
    (hall : ∀ K : PySem.W.Frag, L.all (okDD (tbOf L (con K) (xc K))) = true) (hb : ∀ d ∈ L, BindOk d)
    (hfacts : ∀ (K : PySem.W.Frag) (h : Heap) (mg : Str → Option Value), K.In h → h.Ns mainGlobals mg → He.SaysD fa fn K → (∀ d ∈ L, At K mg d) ∧ (∀ x ∈ bltNames, mg x = none) ∧ ∀ x v, con K x = some v → ∃ u, mg x = some u ∧ RelV (flV v) u)
    (hlaw : ∀ (ns : List Int) (h : Hq), ns.length ≤ 63 → (∀ a, h a = none) → CN (FOf L) n id [.sc ns] h (fun v _ => v = .bl true) (fun _ _ => False)) :
    PySem.W.WalkO q loose XP (He.hookD m fa fn).says l.row.toRowW d [] (fun f vs => PySem.call f vs) := by
  refine Att.attach_call hn hdf fun w s0 s1 mg mb f0 o pm cd doc a vs ns Gr Yw hob hdat hcod hmg hlst hint hlen hgen => ?_
  obtain ⟨K, KX, says⟩ := Yw
  obtain ⟨hat, hblt, hcon⟩ := hfacts K _ mg KX Gr.T.g says
  obtain ⟨a', fd, q1, q2⟩ := hat dl (find_of hid)
  have ea : a' = f0 := by
    rw [hnm, q1] at hmg
    cases hmg
    rfl
  subst ea
  letI : Mo := ⟨K⟩
  have FO := fun base : Heap => all_ok (kk := rfl) (P := l.prog) (w := w) (base := base) (hall K) hb hat hblt hcon n id dl hid a' fd q1 q2
  rw [hps] at FO
  have bd : ∀ (s : Shared) (u : Value), BindsTo s fd ⟨[u], []⟩ [(Str.ofString "_law_script", u)] := fun s u => by
    have z := q2.bindsA (hb dl (find_of hid)) s [u] (by rw [hps]; rfl)
    rw [hps] at z
    exact z
  refine law_call KX Gr.T.g Gr.T.b Gr.T.builtins Gr.T.nolimit hgen hlst hint (Nat.le_trans hlen (by decide)) hr (fun base _ _ => FO base) bd (fun H hO hS => ?_) fun H e s' z => cx_none z
  refine ⟨[.sc ns], fun _ => none, .cons ⟨a, rfl, ?_⟩ .nil, fun _ _ z => by (cases z), CN_mono (FOf L) n _ _ _ _ _ _ _ (fun v h' e V H' _ _ rv => ?_) (fun _ _ z => z.elim) (hlaw ns _ hlen fun _ => rfl)⟩
  · rcases hS with hS | hS
    · refine .inl ⟨rfl, ?_⟩
      rcases hO a with z | ⟨o', xs, z⟩
      · rcases hS with y | ⟨o', y⟩
        · rw [z] at y; cases y
        · rw [z] at y; cases y
      · rcases hS with y | ⟨o2, y⟩
        · rw [z] at y; cases y
        · exact ⟨o2, y⟩
    · exact .inr fun H' => .inr hS
  · rw [e] at rv
    exact rv
end L3

set_option Elab.async false
set_option linter.all false
set_option maxRecDepth 100000
/-! L3, part 12: a law's facts, by lists. -/
namespace L3
open PySem PySem.Spec PyProof.Rows L2
def mkD (d : DD) : He.DefD := ⟨(d.py, none), d.py, d.py, defArgs d.st, defBody d.st, defScope d.st, [], []⟩
/-- one datum for each def, however many editions it has -/
def uniq : List DD → List DD
  | [] => []
  | d :: ds => if ds.any (fun e => decide (e.py = d.py)) then uniq ds else d :: uniq ds
/-- the module's constants -/
def conFa : List (Str × Val) → List He.Fa
  | [] => []
  | (x, .int i) :: r => .int x i :: conFa r
  | (x, .str s) :: r => .str x s :: conFa r
  | _ :: r => conFa r
def conOk : Val → Bool | .int _ => true | .str _ => true | _ => false
def conOf (cs : List (Str × Val)) : Str → Option Val := fun x => cs.lookup x
def faOf (L : List DD) (cs : List (Str × Val)) : List He.Fa := (uniq L).map (fun d => .glo d.py) ++ bltNames.map .free ++ conFa cs
def fnOf3 (L : List DD) : List He.DefD := (uniq L).map mkD
/-- editions of one def have its text -/
def Same3 (L : List DD) : Prop := ∀ d ∈ L, ∃ e ∈ uniq L, e.py = d.py ∧ e.st = d.st
section
variable {fa : List He.Fa} {fn : List He.DefD} {K : PySem.W.Frag}
theorem says_fact (c : He.SaysD fa fn K) {f : He.Fa} (h : f ∈ fa) : f.ok K = true := by
  obtain ⟨i, hi⟩ := List.getElem?_of_mem h
  exact c.fact i hi
theorem says_def (c : He.SaysD fa fn K) {d : He.DefD} (h : d ∈ fn) : ∃ fd, FunD K d.name d.qual d.params d.body d.scope (d.dvs K) (d.kws K) (He.fAd K d.at_) fd := by
  obtain ⟨i, hi⟩ := List.getElem?_of_mem h
  exact c.def_ i hi
theorem lookup_mem {cs : List (Str × Val)} {x : Str} {v : Val} (h : cs.lookup x = some v) : (x, v) ∈ cs := by
  induction cs with
  | nil => cases h
  | cons p r ih =>
    obtain ⟨y, u⟩ := p
    rw [List.lookup_cons] at h
    cases q : x == y with
    | true =>
      rw [q] at h
      cases h
      rw [show x = y from eq_of_beq q]
      exact List.mem_cons_self
    | false =>
      rw [q] at h
      exact List.mem_cons_of_mem _ (ih h)
theorem conFa_mem : ∀ {cs : List (Str × Val)} {x : Str} {v : Val}, (x, v) ∈ cs → conOk v = true → (∃ i, v = .int i ∧ He.Fa.int x i ∈ conFa cs) ∨ ∃ s, v = .str s ∧ He.Fa.str x s ∈ conFa cs
  | (y, u) :: r, x, v, h, o => by
    rcases List.mem_cons.mp h with e | h
    · cases e
      cases u <;> first | (cases o; done) | exact .inl ⟨_, rfl, List.mem_cons_self⟩ | exact .inr ⟨_, rfl, List.mem_cons_self⟩
    · rcases conFa_mem h o with ⟨i, e, m⟩ | ⟨s, e, m⟩
      · refine .inl ⟨i, e, ?_⟩
        cases u <;> first | exact m | exact List.mem_cons_of_mem _ m
      · refine .inr ⟨s, e, ?_⟩
        cases u <;> first | exact m | exact List.mem_cons_of_mem _ m
theorem facts3 {L : List DD} {cs : List (Str × Val)} (hs : Same3 L) (hc : (cs.all fun p => conOk p.2) = true) {h : Heap} {mg : Str → Option Value} (X : K.In h) (G : h.Ns mainGlobals mg) (c : He.SaysD (faOf L cs) (fnOf3 L) K) :
    (∀ d ∈ L, At K mg d) ∧ (∀ x ∈ bltNames, mg x = none) ∧ ∀ x v, conOf cs x = some v → ∃ u, mg x = some u ∧ RelV (flV v) u := by
  refine ⟨fun d hd => ?_, fun x hx => ?_, fun x v e => ?_⟩
  · obtain ⟨e, he, e1, e2⟩ := hs d hd
    obtain ⟨fd, q⟩ := says_def c (d := mkD e) (List.mem_map.mpr ⟨e, he, rfl⟩)
    have g := He.glo_ok X G (says_fact c (f := .glo e.py) (List.mem_append_left _ (List.mem_append_left _ (List.mem_map.mpr ⟨e, he, rfl⟩))))
    refine ⟨_, fd, by rw [← e1]; exact g, ?_⟩
    rw [← e1, ← e2]
    exact q
  · exact He.free_ok X G (says_fact c (f := .free x) (List.mem_append_left _ (List.mem_append_right _ (List.mem_map.mpr ⟨x, hx, rfl⟩))))
  · have m := lookup_mem e
    have o := List.all_eq_true.mp hc _ m
    rcases conFa_mem m o with ⟨i, rfl, f⟩ | ⟨s, rfl, f⟩
    · obtain ⟨t, q⟩ := He.int_ok X G (says_fact c (List.mem_append_right _ f))
      exact ⟨_, q, t, rfl⟩
    · obtain ⟨t, q⟩ := He.str_ok X G (says_fact c (List.mem_append_right _ f))
      exact ⟨_, q, t, rfl⟩
end
/-- all that a law's end asks, by its list of defs and its constants -/
theorem law_walk3 {l : PySem.W.OpenLaw} {q : Program} {loose : List Str} {XP : (Str → Option Value) → Heap → Prop} {m : Nat} {d : DefRec} {L : List DD} {cs : List (Str × Val)} {n id : Nat} {dl : DD}
    (hn : l.most = some 63) (hdf : d.params.defaults = []) (hr : Room n callerA) (hnm : d.name = dl.py) (hps : dl.ps = [Str.ofString "_law_script"]) (hid : L.find? (fun d => d.id == id) = some dl)
    (hall : L.all (okDD (tbOf L (conOf cs) (fun _ => 0))) = true) (hb : ∀ d ∈ L, BindOk d) (hs : Same3 L) (hc : (cs.all fun p => conOk p.2) = true)
    (hlaw : ∀ (ns : List Int) (h : Hq), ns.length ≤ 63 → (∀ a, h a = none) → CN (FOf L) n id [.sc ns] h (fun v _ => v = .bl true) (fun _ _ => False)) :
    PySem.W.WalkO q loose XP (He.hookD m (faOf L cs) (fnOf3 L)).says l.row.toRowW d [] (fun f vs => PySem.call f vs) :=
  law_walk (con := fun _ => conOf cs) (xc := fun _ _ => 0) hn hdf hr hnm hps hid (fun _ => hall) hb (fun K h mg X G c => facts3 hs hc X G c) hlaw
end L3

set_option Elab.async false
set_option linter.all false
set_option maxRecDepth 100000
/-! L3, part U: rules for whoever walks a body. -/
namespace L3
open PySem PySem.Spec PyProof.Rows L2
section
variable {h : Hq} {Q : QV} {fz : Bool} {i j : Int} {a b : Addr} {x y : Val} {xs ys : List Val}
theorem alc_fz : alc true xs h Q = Q (.fl xs) h := rfl
theorem alc_lv : alc false xs h Q = ∀ p, h p = none → Q (.ref p) (up h p (.lst xs)) := rfl
theorem t_and (c : Prop) : (True ∧ c) = c := propext ⟨fun x => x.2, fun x => ⟨trivial, x⟩⟩
theorem w_add : prW (binR .add fz (.int i) (.int j) h) Q = Q (.int (i + j)) h := t_and _
theorem w_addS {s t : Str} : prW (binR .add fz (.str s) (.str t) h) Q = (s.length + t.length ≤ 1000000 ∧ Q (.str (s ++ t)) h) := rfl
theorem w_addL : prW (binR .add fz (.fl xs) (.fl ys) h) Q = (xs.length + ys.length ≤ 1000000 ∧ alc fz (xs ++ ys) h Q) := rfl
theorem w_addT : prW (binR .add fz (.tup xs) (.tup ys) h) Q = (xs.length + ys.length ≤ 1000000 ∧ Q (.tup (xs ++ ys)) h) := rfl
theorem w_slcT {lo hi : Option Int} : prW (slcR fz (.tup xs) lo hi h) Q = Q (.tup (cutL xs lo hi)) h := t_and _
theorem w_insert (e : h a = some (.lst xs)) : prW (mthR .insert (.ref a) [.int i, x] h) Q = ((0 ≤ i ∧ i ≤ 1000000 ∧ xs.length < 1000000) ∧ Q .non (up h a (.lst (xs.take i.toNat ++ [x] ++ xs.drop i.toNat)))) := by
  simp only [mthR, lstAt, e, Option.bind_some, lmR, prW, optW_some, Out.w]
theorem w_lrange : prW (o1R .lrange fz (.int i) h) Q = ((i ≤ 1000000 ∧ -1000000 ≤ i) ∧ alc fz ((List.range i.toNat).map fun k => Val.int ((k : Nat) : Int)) h Q) := rfl
theorem w_revF : prW (o1R .rev fz (.fl xs) h) Q = alc fz xs.reverse h Q := t_and _
theorem w_revR (e : h a = some (.lst xs)) : prW (o1R .rev fz (.ref a) h) Q = alc fz xs.reverse h Q := by
  simp only [o1R, ls, lv, e, Option.map_some, prW, optW_some, Out.w, t_and]
theorem w_tmul : prW (o2R .tmul fz (.tup xs) (.int j) h) Q = ((xs ≠ [] ∧ 1 ≤ j ∧ j ≤ 1000 ∧ xs.length ≤ 1000) ∧ Q (.tup (List.replicate j.toNat xs).flatten) h) := rfl
theorem w_sub : prW (binR .sub fz (.int i) (.int j) h) Q = Q (.int (i - j)) h := t_and _
theorem w_mul : prW (binR .mul fz (.int i) (.int j) h) Q = (((-18446744073709551616 < i ∧ i < 18446744073709551616) ∨ (-18446744073709551616 < j ∧ j < 18446744073709551616) ∨ CMulW i j) ∧ Q (.int (i * j)) h) := rfl
theorem w_fdiv : prW (binR .fdiv fz (.int i) (.int j) h) Q = ((0 < j ∧ j < 2 ^ 250) ∧ Q (.int (i / j)) h) := rfl
theorem w_mod : prW (binR .mod fz (.int i) (.int j) h) Q = (0 < j ∧ Q (.int (i % j)) h) := rfl
theorem w_pow : prW (binR .pow fz (.int i) (.int j) h) Q = ((0 ≤ j ∧ j ≤ 1000000 ∧ -18446744073709551616 < i ∧ i < 18446744073709551616) ∧ Q (.int (i ^ j.toNat)) h) := rfl
theorem w_shl : prW (binR .shl fz (.int i) (.int j) h) Q = ((0 ≤ j ∧ j ≤ 1000000 ∧ -18446744073709551616 < i ∧ i < 18446744073709551616) ∧ Q (.int (i * 2 ^ j.toNat)) h) := rfl
theorem w_shr : prW (binR .shr fz (.int i) (.int j) h) Q = (0 ≤ j ∧ Q (.int (i / 2 ^ j.toNat)) h) := rfl
theorem w_band : prW (binR .band fz (.int i) (.int j) h) Q = Q (.int (Builtin.bitAnd i j)) h := t_and _
theorem w_eqI : prW (cmpR .eq (.int i) (.int j) h) Q = Q (.bl (decide (i = j))) h := t_and _
theorem w_neI : prW (cmpR .ne (.int i) (.int j) h) Q = Q (.bl (!decide (i = j))) h := t_and _
theorem w_eqS {s t : Str} : prW (cmpR .eq (.str s) (.str t) h) Q = Q (.bl (decide (s = t))) h := t_and _
theorem w_neS {s t : Str} : prW (cmpR .ne (.str s) (.str t) h) Q = Q (.bl (!decide (s = t))) h := t_and _
theorem w_lt : prW (cmpR .lt (.int i) (.int j) h) Q = Q (.bl (decide (i < j))) h := t_and _
theorem w_le : prW (cmpR .le (.int i) (.int j) h) Q = Q (.bl (decide (i ≤ j))) h := t_and _
theorem w_gt : prW (cmpR .gt (.int i) (.int j) h) Q = Q (.bl (decide (j < i))) h := t_and _
theorem w_ge : prW (cmpR .ge (.int i) (.int j) h) Q = Q (.bl (decide (j ≤ i))) h := t_and _
theorem w_is : prW (cmpR .is x .non h) Q = Q (.bl (isN x)) h := t_and _
theorem w_isnot : prW (cmpR .isnot x .non h) Q = Q (.bl (!isN x)) h := t_and _
theorem w_idxR (e : h a = some (.lst xs)) : prW (idxR (.ref a) (.int i) h) Q = optW (atI xs i) fun v => Q v h := by
  simp only [idxR, dr_lst e, sq, ls, lv, e, Option.bind_some, prW]; cases atI xs i <;> simp [optW, Out.w]
theorem w_idxF : prW (idxR (.fl xs) (.int i) h) Q = optW (atI xs i) fun v => Q v h := by
  simp only [idxR, dr, sq, ls, lv, Option.bind_some, prW]; cases atI xs i <;> simp [optW, Out.w]
theorem w_idxT : prW (idxR (.tup xs) (.int i) h) Q = optW (atI xs i) fun v => Q v h := by
  simp only [idxR, dr, sq, Option.bind_some, prW]; cases atI xs i <;> simp [optW, Out.w]
theorem w_idxS {ns : List Int} : prW (idxR (.sc ns) (.int i) h) Q = optW (atI (ns.map Val.int) i) fun v => Q v h := by
  simp only [idxR, dr, sq, ls, Option.bind_some, prW]; cases atI (ns.map Val.int) i <;> simp [optW, Out.w]
theorem w_idxD {k : Key} {kvs : KVs} (e : dr h x = some kvs) (hk : keyOf y = some k) : prW (idxR x y h) Q = optW (dg kvs k) fun v => Q v h := by
  simp only [idxR, e, hk, Option.bind_some, prW]; cases dg kvs k <;> simp [optW, Out.w]
theorem w_inD {k : Key} {kvs : KVs} (e : dr h y = some kvs) (hk : keyOf x = some k) : prW (cmpR .isin x y h) Q = Q (.bl (dg kvs k).isSome) h := by
  simp only [cmpR, inR, e, hk, Option.map_some, prW, optW_some, Out.w, t_and, Bool.false_eq_true, if_false]
theorem w_notinD {k : Key} {kvs : KVs} (e : dr h y = some kvs) (hk : keyOf x = some k) : prW (cmpR .notin x y h) Q = Q (.bl (!(dg kvs k).isSome)) h := by
  simp only [cmpR, inR, e, hk, Option.map_some, prW, optW_some, Out.w, t_and, if_true]
theorem w_okD {kvs : KVs} {K : Unit → Prop} (e : h a = some (.dic kvs)) : optW (mOk .dget (.ref a) h) K = K () := by
  simp only [mOk, dr, e, Option.map_some, optW_some]
theorem w_okDF {kvs : KVs} {K : Unit → Prop} : optW (mOk .dget (fdOf kvs) h) K = K () := rfl
theorem w_cellO {c : Cell} {K : Cell → Prop} (e : h a = some c) : optW (cellO h a) K = K c := by
  simp only [cellO, e, optW_some]
theorem lockC_dic {kvs : KVs} : lockC (.dic kvs) = wdOf kvs := rfl
theorem lockC_lst : lockC (.lst xs) = .fl xs := rfl
theorem wdK_wd {kvs : KVs} {K : List Key → Prop} : optW (wdK (wdOf kvs)) K = K (kvs.map (·.1)) := rfl
theorem w_okU {kvs : KVs} {K : Unit → Prop} (e : h a = some (.dic kvs)) : optW (mOk .dupd (.ref a) h) K = K () := by
  simp only [mOk, dicAt, e, Option.map_some, optW_some]
theorem w_get1 {k : Key} {kvs : KVs} (e : dr h x = some kvs) (hk : keyOf y = some k) : prW (mthR .dget x [y] h) Q = Q ((dg kvs k).getD .non) h := by
  cases y <;> first | (cases hk; done) | skip
  all_goals
    cases hk
    simp only [mthR, dgR, e, keyOf, Option.bind_some, Option.map_some, prW, optW_some, Out.w, t_and]
theorem w_get2 {k : Key} {kvs : KVs} {d : Val} (e : dr h x = some kvs) (hk : keyOf y = some k) : prW (mthR .dget x [y, d] h) Q = Q ((dg kvs k).getD d) h := by
  cases y <;> first | (cases hk; done) | skip
  all_goals
    cases hk
    simp only [mthR, dgR, e, keyOf, Option.bind_some, Option.map_some, prW, optW_some, Out.w, t_and]
theorem w_get1N {kvs : KVs} (e : dr h x = some kvs) : prW (mthR .dget x [.non] h) Q = Q .non h := by
  simp only [mthR, dgR, e, Option.bind_some, prW, optW_some, Out.w, t_and]
theorem w_get2N {kvs : KVs} {d : Val} (e : dr h x = some kvs) : prW (mthR .dget x [.non, d] h) Q = Q d h := by
  simp only [mthR, dgR, e, Option.bind_some, prW, optW_some, Out.w, t_and]
theorem w_upd {kvs more : KVs} (e : h a = some (.dic kvs)) (hd : dr h y = some more) : prW (mthR .dupd (.ref a) [y] h) Q = ((y ≠ .ref a ∧ kvs.length + more.length ≤ 1000000) ∧ Q .non (up h a (.dic (dmerge kvs more)))) := by
  simp only [mthR, duR, dicAt, e, hd, Option.bind_some, Option.map_some, prW, optW_some, Out.w]
theorem w_putD {k : Key} {kvs : KVs} {K : Hq → Prop} (e : h a = some (.dic kvs)) (hk : keyOf x = some k) : setW (.ref a) x y h K = (kvs.length < 1000000 ∧ K (up h a (.dic (dp kvs k y)))) := by
  simp only [setW, dicAt, e, hk, optW_some]
theorem w_frzD' {kvs : KVs} (e : h a = some (.dic kvs)) : frzW (.ref a) h Q = Q (fdOf kvs) (er h a) := by
  simp only [frzW, cellAt, e, Option.map_some, optW_some, frzC]
theorem alcD_fz {kvs : KVs} : alcD true kvs h Q = Q (fdOf kvs) h := rfl
theorem alcD_lv {kvs : KVs} : alcD false kvs h Q = ∀ p, h p = none → Q (.ref p) (up h p (.dic kvs)) := rfl
theorem keyOf_int : keyOf (.int i) = some (.inl i) := rfl
theorem keyOf_str {s : Str} : keyOf (.str s) = some (.inr s) := rfl
theorem w_rep {xs : List Val} : prW (binR .mul fz (.fl xs) (.int j) h) Q = (((-4611686018427387904 ≤ j ∧ j < 4611686018427387904) ∧ xs.length * j.toNat ≤ 1000000) ∧ alc fz (List.replicate j.toNat xs).flatten h Q) := rfl
theorem w_slcF {lo hi : Option Int} : prW (slcR fz (.fl xs) lo hi h) Q = alc fz (cutL xs lo hi) h Q := t_and _
theorem w_slcR {lo hi : Option Int} (e : h a = some (.lst xs)) : prW (slcR fz (.ref a) lo hi h) Q = alc fz (cutL xs lo hi) h Q := by
  simp only [slcR, ls, lv, e, Option.map_some, prW, optW_some, Out.w, t_and]
theorem w_oi1 {v : Val} {K : Option Int → Prop} : optW (optI (isNop .nop) v) K = K none := rfl
theorem w_oi2 {e : Ex} {K : Option Int → Prop} (n : isNop e = false) : optW (optI (isNop e) (.int i)) K = K (some i) := by rw [n]; rfl
theorem cutL_to {k : Nat} (hk : k ≤ xs.length) : cutL xs none (some (k : Int)) = xs.take k := by
  unfold cutL
  rw [HT.sIx_nat, HT.sIx_none, Nat.min_eq_left hk, List.drop_zero, Nat.sub_zero]
theorem cutL_from {k : Nat} (hk : k ≤ xs.length) : cutL xs (some (k : Int)) none = xs.drop k := by
  unfold cutL
  rw [HT.sIx_nat, HT.sIx_none, Nat.min_eq_left hk, List.take_of_length_le (by rw [List.length_drop]; exact Nat.le_refl _)]
theorem w_addRF (e : h a = some (.lst xs)) : prW (binR .add fz (.ref a) (.fl ys) h) Q = (xs.length + ys.length ≤ 1000000 ∧ alc fz (xs ++ ys) h Q) := by
  simp only [binR, lv, e, prW, optW_some, Out.w]
theorem w_lenR (e : h a = some (.lst xs)) : prW (bltR .len fz [.ref a] h) Q = Q (.int xs.length) h := by
  simp only [bltR, sq, ls, lv, e, Option.map_some, prW, optW_some, Out.w, t_and]
theorem w_lenF : prW (bltR .len fz [.fl xs] h) Q = Q (.int xs.length) h := t_and _
theorem w_lenT : prW (bltR .len fz [.tup xs] h) Q = Q (.int xs.length) h := t_and _
theorem w_lenS {ns : List Int} : prW (bltR .len fz [.sc ns] h) Q = Q (.int ns.length) h := by
  simp only [bltR, sq, ls, Option.map_some, prW, optW_some, Out.w, t_and, List.length_map]
theorem w_lenD {kvs : KVs} (e : h a = some (.dic kvs)) : prW (bltR .len fz [.ref a] h) Q = Q (.int (kvs.length : Nat)) h := by
  have l0 : sq h (.ref a) = none := by simp only [sq, ls, lv, e]
  simp only [bltR, l0, dr, e, Option.map_some, prW, optW_some, Out.w, t_and]
theorem w_neD0 {kvs : KVs} (e : h a = some (.dic kvs)) : prW (cmpR .ne (.ref a) (fdOf []) h) Q = Q (.bl (!kvs.isEmpty)) h := by
  have d1 : dr h (fdOf []) = some [] := dr_fd h []
  have d2 : dr h (.ref a) = some kvs := dr_ref e
  have d3 : dt h (.ref a) = none := by simp only [dt, e]
  have d4 : dtN 6 h (.ref a) = none := by simp only [dtN, pd, e]
  have d5 : ls h (.ref a) = none := by simp only [ls, lv, e]
  simp only [cmpR, eqR, d1, d2, d3, d4, d5, List.isEmpty_nil, Bool.or_true, Bool.and_true, if_true, prW, optW_some, Out.w, t_and]
theorem w_lenDF {kvs : KVs} : prW (bltR .len fz [fdOf kvs] h) Q = Q (.int (kvs.length : Nat)) h := by
  have l0 : sq h (fdOf kvs) = none := rfl
  simp only [bltR, l0, show dr h (fdOf kvs) = some kvs from congrArg some (zip_map kvs), Option.map_some, prW, optW_some, Out.w, t_and]
theorem w_lenDW {kvs : KVs} : prW (bltR .len fz [wdOf kvs] h) Q = Q (.int (kvs.length : Nat)) h := by
  have l0 : sq h (wdOf kvs) = none := rfl
  simp only [bltR, l0, show dr h (wdOf kvs) = some kvs from congrArg some (zip_map kvs), Option.map_some, prW, optW_some, Out.w, t_and]
theorem w_isBT {xs : List Val} {c : Bool} : prW (cmpR .is (.tup xs) (.bl c) h) Q = Q (.bl false) h := t_and _
theorem w_isBN {c : Bool} : prW (cmpR .is .non (.bl c) h) Q = Q (.bl false) h := t_and _
theorem w_isBL {xs : List Val} {c : Bool} : prW (cmpR .is (.fl xs) (.bl c) h) Q = Q (.bl false) h := t_and _
theorem w_isB {b c : Bool} : prW (cmpR .is (.bl b) (.bl c) h) Q = Q (.bl (decide (b = c))) h := t_and _
theorem w_isnotB {b c : Bool} : prW (cmpR .isnot (.bl b) (.bl c) h) Q = Q (.bl (!decide (b = c))) h := t_and _
theorem isN_wd {kvs : KVs} : isN (wdOf kvs) = false := rfl
theorem w_abs : prW (bltR .abs fz [.int i] h) Q = Q (.int (if i < 0 then -i else i)) h := t_and _
theorem w_max2 : prW (bltR .max fz [.int i, .int j] h) Q = Q (.int (if j > i then j else i)) h := t_and _
theorem w_min2 : prW (bltR .min fz [.int i, .int j] h) Q = Q (.int (if j < i then j else i)) h := t_and _
theorem w_listF : prW (bltR .list fz [.fl xs] h) Q = alc fz xs h Q := t_and _
theorem w_listT : prW (bltR .list fz [.tup xs] h) Q = alc fz xs h Q := t_and _
theorem w_listR (e : h a = some (.lst xs)) : prW (bltR .list fz [.ref a] h) Q = alc fz xs h Q := by
  simp only [bltR, sq, ls, lv, e, Option.map_some, prW, optW_some, Out.w, t_and]
theorem w_tupleF : prW (bltR .tuple fz [.fl xs] h) Q = Q (.tup xs) h := t_and _
theorem w_int : prW (bltR .int fz [.int i] h) Q = Q (.int i) h := t_and _
theorem w_intB {k : Bool} : prW (bltR .int fz [.bl k] h) Q = Q (.int (if k then 1 else 0)) h := t_and _
theorem w_isi {ts us : List Ty} (e : tyOf h x = some us) : prW (bltR (.isi ts) fz [x] h) Q = Q (.bl (ts.any fun t => decide (t ∈ us))) h := by
  simp only [bltR, e, Option.map_some, prW, optW_some, Out.w, t_and]
theorem w_ok_append {K : Unit → Prop} (e : h a = some (.lst xs)) : optW (mOk .append (.ref a) h) K = K () := by simp only [mOk, lstAt, e, Option.map_some, optW_some]
theorem w_ok_extend {K : Unit → Prop} (e : h a = some (.lst xs)) : optW (mOk .extend (.ref a) h) K = K () := by simp only [mOk, lstAt, e, Option.map_some, optW_some]
theorem w_ok_pop {K : Unit → Prop} (e : h a = some (.lst xs)) : optW (mOk .pop (.ref a) h) K = K () := by simp only [mOk, lstAt, e, Option.map_some, optW_some]
theorem w_ok_insert {K : Unit → Prop} (e : h a = some (.lst xs)) : optW (mOk .insert (.ref a) h) K = K () := by simp only [mOk, lstAt, e, Option.map_some, optW_some]
theorem w_ok_reverse {K : Unit → Prop} (e : h a = some (.lst xs)) : optW (mOk .reverse (.ref a) h) K = K () := by simp only [mOk, lstAt, e, Option.map_some, optW_some]
theorem w_ok_clear {K : Unit → Prop} (e : h a = some (.lst xs)) : optW (mOk .clear (.ref a) h) K = K () := by simp only [mOk, lstAt, e, Option.map_some, optW_some]
theorem w_ok_index {K : Unit → Prop} (e : h a = some (.lst xs)) : optW (mOk .index (.ref a) h) K = K () := by simp only [mOk, ls, lv, e, Option.map_some, optW_some]
theorem w_ok_indexF {K : Unit → Prop} : optW (mOk .index (.fl xs) h) K = K () := rfl
theorem eqV_ints {i j : Int} : eqV (flV (.int i)) (flV (.int j)) = decide (i = j) := by
  by_cases e : i = j
  · subst e; simp [flV, eqV]
  · simp [flV, eqV, e]
theorem all_flt (ns : List Int) : (ns.map Val.int).all flt = true := by rw [List.all_map]; exact List.all_eq_true.mpr fun _ _ => rfl
theorem w_inI {ns : List Int} : prW (cmpR .isin (.int i) (.fl (ns.map .int)) h) Q = Q (.bl (decide (i ∈ ns))) h := by
  have e : (ns.map Val.int).any (fun z => eqV (flV z) (flV (.int i))) = decide (i ∈ ns) := by
    rw [List.any_map]
    induction ns with
    | nil => rfl
    | cons n ns ih =>
      rw [List.any_cons, ih]
      show (eqV (flV (.int n)) (flV (.int i)) || _) = _
      rw [eqV_ints]
      by_cases h1 : n = i <;> by_cases h2 : i ∈ ns <;> simp [h1, h2]
      exact fun z => h1 z.symm
  simp only [cmpR, inR, dr, sq, ls, lv, all_flt, flt, Bool.and_self, if_true, prW, optW_some, Out.w, t_and, Bool.false_eq_true, if_false, e]
theorem w_notinI {ns : List Int} : prW (cmpR .notin (.int i) (.fl (ns.map .int)) h) Q = Q (.bl (!decide (i ∈ ns))) h := by
  have e : (ns.map Val.int).any (fun z => eqV (flV z) (flV (.int i))) = decide (i ∈ ns) := by
    rw [List.any_map]
    induction ns with
    | nil => rfl
    | cons n ns ih =>
      rw [List.any_cons, ih]
      show (eqV (flV (.int n)) (flV (.int i)) || _) = _
      rw [eqV_ints]
      by_cases h1 : n = i <;> by_cases h2 : i ∈ ns <;> simp [h1, h2]
      exact fun z => h1 z.symm
  simp only [cmpR, inR, dr, sq, ls, lv, all_flt, flt, Bool.and_self, if_true, prW, optW_some, Out.w, t_and, e]
theorem w_ok_count {K : Unit → Prop} (e : h a = some (.lst xs)) : optW (mOk .count (.ref a) h) K = K () := by simp only [mOk, lstAt, e, Option.map_some, optW_some]
theorem w_append (e : h a = some (.lst xs)) : prW (mthR .append (.ref a) [x] h) Q = (xs.length < 1000000 ∧ Q .non (up h a (.lst (xs ++ [x])))) := by
  simp only [mthR, lstAt, e, Option.bind_some, lmR, prW, optW_some, Out.w]
theorem w_popAt (e : h a = some (.lst xs)) {k : Nat} (hk : ixN xs.length i = some k) (hx : xs[k]? = some x) : prW (mthR .pop (.ref a) [.int i] h) Q = Q x (up h a (.lst (xs.eraseIdx k))) := by
  simp only [mthR, lstAt, e, Option.bind_some, lmR, prW, optW_some, Out.w, hk, hx, Option.map_some, t_and]
theorem w_pop (e : h a = some (.lst xs)) (hx : xs[xs.length - 1]? = some x) : prW (mthR .pop (.ref a) [] h) Q = Q x (up h a (.lst xs.dropLast)) := by
  simp only [mthR, lstAt, e, Option.bind_some, lmR, prW, optW_some, Out.w, hx, Option.map_some, t_and]
theorem w_extend (e : h a = some (.lst xs)) (hx : lv h x = some ys) : prW (mthR .extend (.ref a) [x] h) Q = (xs.length + ys.length ≤ 1000000 ∧ Q .non (up h a (.lst (xs ++ ys)))) := by
  simp only [mthR, lstAt, e, Option.bind_some, lmR, prW, optW_some, Out.w, hx, Option.map_some]
theorem w_reverse (e : h a = some (.lst xs)) : prW (mthR .reverse (.ref a) [] h) Q = Q .non (up h a (.lst xs.reverse)) := by
  simp only [mthR, lstAt, e, Option.bind_some, lmR, prW, optW_some, Out.w, t_and]
theorem w_clear (e : h a = some (.lst xs)) : prW (mthR .clear (.ref a) [] h) Q = Q .non (up h a (.lst [])) := by
  simp only [mthR, lstAt, e, Option.bind_some, lmR, prW, optW_some, Out.w, t_and]
theorem w_frz (e : h a = some (.lst xs)) : frzW (.ref a) h Q = Q (.fl xs) (er h a) := by
  simp only [frzW, cellAt, e, Option.map_some, optW_some, frzC]
theorem w_set (e : h a = some (.lst xs)) {k : Nat} {K : Hq → Prop} (hk : ixN xs.length i = some k) : setW (.ref a) (.int i) x h K = K (up h a (.lst (xs.set k x))) := by
  simp only [setW, dicAt, lstAt, e, optW_some, intOf, hk]
theorem w_blOf {k : Bool} {K : Bool → Prop} : optW (blOf (.bl k)) K = K k := rfl
theorem w_intOf {K : Int → Prop} : optW (intOf (.int i)) K = K i := rfl
theorem w_refOf {K : Addr → Prop} : optW (refOf (.ref a)) K = K a := rfl
theorem w_truB {k : Bool} {K : Bool → Prop} : truW (.bl k) h K = K k := rfl
theorem w_truI {K : Bool → Prop} : truW (.int i) h K = K (i != 0) := rfl
theorem w_truF {K : Bool → Prop} : truW (.fl xs) h K = K (!xs.isEmpty) := rfl
theorem w_truT {K : Bool → Prop} : truW (.tup xs) h K = K (!xs.isEmpty) := rfl
theorem w_truN {K : Bool → Prop} : truW .non h K = K false := rfl
theorem isN_non : isN .non = true := rfl
theorem isN_int : isN (.int i) = false := rfl
theorem isN_tup : isN (.tup xs) = false := rfl
theorem isN_fl : isN (.fl xs) = false := rfl
theorem isN_ref : isN (.ref a) = false := rfl
theorem lv_up : lv (up h a (.lst xs)) (.ref a) = some xs := by simp [lv, up_same]
theorem ls_up : ls (up h a (.lst xs)) (.ref a) = some xs := lv_up
theorem sq_up : sq (up h a (.lst xs)) (.ref a) = some xs := lv_up
theorem tyOf_fl : tyOf h (.fl xs) = some [.list] := rfl
theorem tyOf_int : tyOf h (.int i) = some [.int] := rfl
theorem tyOf_tup : tyOf h (.tup xs) = some [.tuple] := rfl
theorem tyOf_bl {k : Bool} : tyOf h (.bl k) = some [.bool, .int] := rfl
theorem tyOf_ref (e : h a = some (.lst xs)) : tyOf h (.ref a) = some [.list] := by simp [tyOf, e]
theorem lstO_ref (e : h a = some (.lst xs)) : lstO h a = some xs := lstO_some.mpr e
end
/-! places in lists -/
section
variable {α : Type} {x y z u : α} {xs : List α}
theorem ixN_nat {n k : Nat} (hk : k < n) : ixN n (k : Int) = some k := by
  unfold ixN; rw [if_pos (Int.natCast_nonneg k), if_pos (by omega)]; rfl
theorem ixN_of {n : Nat} {i : Int} (h0 : 0 ≤ i) (h1 : i < n) : ixN n i = some i.toNat := by
  unfold ixN; rw [if_pos h0, if_pos h1]
theorem atI0 : atI (x :: xs) 0 = some x := by
  unfold atI; rw [show ixN (x :: xs).length 0 = some 0 from ixN_of (by decide) (by simp only [List.length_cons]; omega)]; rfl
theorem atI1 : atI (x :: y :: xs) 1 = some y := by
  unfold atI; rw [show ixN (x :: y :: xs).length 1 = some 1 from ixN_of (by decide) (by simp only [List.length_cons]; omega)]; rfl
theorem atI2 : atI (x :: y :: z :: xs) 2 = some z := by
  unfold atI; rw [show ixN (x :: y :: z :: xs).length 2 = some 2 from ixN_of (by decide) (by simp only [List.length_cons]; omega)]; rfl
theorem atI3 : atI (x :: y :: z :: u :: xs) 3 = some u := by
  unfold atI; rw [show ixN (x :: y :: z :: u :: xs).length 3 = some 3 from ixN_of (by decide) (by simp only [List.length_cons]; omega)]; rfl
theorem atI_of {i : Int} (h0 : 0 ≤ i) (h1 : i < xs.length) : ∃ v, atI xs i = some v ∧ xs[i.toNat]? = some v := by
  have hl : i.toNat < xs.length := by omega
  exact ⟨xs[i.toNat], by unfold atI; rw [ixN_of h0 h1]; simp [hl], by simp [hl]⟩
theorem ixN_len1 : ixN (x :: xs).length 0 = some 0 := ixN_of (by decide) (by simp only [List.length_cons]; omega)
theorem ixN_len2 : ixN (x :: y :: xs).length 1 = some 1 := ixN_of (by decide) (by simp only [List.length_cons]; omega)
theorem ixN_len3 : ixN (x :: y :: z :: xs).length 2 = some 2 := ixN_of (by decide) (by simp only [List.length_cons]; omega)
end
/-! ### calls -/
theorem CN_go {F : Fs} {n f : Nat} {d : Df} {vs : List Val} {h : Hq} {Q : QV} {E : QE} (hf : F f = some d) (hl : vs.length = d.ps)
    (w : wpSs (CN F n) d.body { nx := fun _ h' => Q .non h', rt := Q, ex := fun x _ h' => E x h' } (vs.map some ++ List.replicate (d.ns - d.ps) none) h) : CN F (n + 1) f vs h Q E := by
  simp only [CN, hf]; exact ⟨hl, w⟩
/-! ### the walk's head, rule by rule -/
section
variable {ρ : Env3} {h : Hq} {y v : Val} {K : Env3 → Prop} {L : Val → Prop} {H : Hq → Prop} {n : Nat} {is : List Nat} {ys : List Val} {a : Addr}
theorem w_lk0 : optW (lk (some v :: ρ) 0) L = L v := rfl
theorem w_lkS {x : Option Val} : optW (lk (x :: ρ) (n + 1)) L = optW (lk ρ n) L := by cases x <;> rfl
theorem w_bs : optW (bindT (.names is) (.tup ys) ρ) K = optW (bindL3 is ys ρ) K := rfl
theorem w_bl0 : optW (bindL3 [] [] ρ) K = K ρ := rfl
theorem w_bl1 : optW (bindL3 (n :: is) (y :: ys) ρ) K = optW (bindT (.name n) y ρ) fun ρ' => optW (bindL3 is ys ρ') K := rfl
theorem w_k1 {K' : Addr → Prop} : optW ((lk (some v :: ρ) 0).bind refOf) K' = optW (refOf v) K' := rfl
theorem w_kS {K' : Addr → Prop} {x : Option Val} : optW ((lk (x :: ρ) (n + 1)).bind refOf) K' = optW ((lk ρ n).bind refOf) K' := by cases x <;> rfl
theorem w_b0 {x0 : Option Val} : optW (bindT (.name 0) y (x0 :: ρ)) K = K (some y :: ρ) := rfl
theorem w_b1 {x0 x1 : Option Val} : optW (bindT (.name 1) y (x0 :: x1 :: ρ)) K = K (x0 :: some y :: ρ) := rfl
theorem w_b2 {x0 x1 x2 : Option Val} : optW (bindT (.name 2) y (x0 :: x1 :: x2 :: ρ)) K = K (x0 :: x1 :: some y :: ρ) := rfl
theorem w_b3 {x0 x1 x2 x3 : Option Val} : optW (bindT (.name 3) y (x0 :: x1 :: x2 :: x3 :: ρ)) K = K (x0 :: x1 :: x2 :: some y :: ρ) := rfl
theorem w_b4 {x0 x1 x2 x3 x4 : Option Val} : optW (bindT (.name 4) y (x0 :: x1 :: x2 :: x3 :: x4 :: ρ)) K = K (x0 :: x1 :: x2 :: x3 :: some y :: ρ) := rfl
theorem w_b5 {x0 x1 x2 x3 x4 x5 : Option Val} : optW (bindT (.name 5) y (x0 :: x1 :: x2 :: x3 :: x4 :: x5 :: ρ)) K = K (x0 :: x1 :: x2 :: x3 :: x4 :: some y :: ρ) := rfl
theorem w_b6 {x0 x1 x2 x3 x4 x5 x6 : Option Val} : optW (bindT (.name 6) y (x0 :: x1 :: x2 :: x3 :: x4 :: x5 :: x6 :: ρ)) K = K (x0 :: x1 :: x2 :: x3 :: x4 :: x5 :: some y :: ρ) := rfl
theorem w_b7 {x0 x1 x2 x3 x4 x5 x6 x7 : Option Val} : optW (bindT (.name 7) y (x0 :: x1 :: x2 :: x3 :: x4 :: x5 :: x6 :: x7 :: ρ)) K = K (x0 :: x1 :: x2 :: x3 :: x4 :: x5 :: x6 :: some y :: ρ) := rfl
theorem w_b8 {x0 x1 x2 x3 x4 x5 x6 x7 x8 : Option Val} : optW (bindT (.name 8) y (x0 :: x1 :: x2 :: x3 :: x4 :: x5 :: x6 :: x7 :: x8 :: ρ)) K = K (x0 :: x1 :: x2 :: x3 :: x4 :: x5 :: x6 :: x7 :: some y :: ρ) := rfl
theorem w_b9 {x0 x1 x2 x3 x4 x5 x6 x7 x8 x9 : Option Val} : optW (bindT (.name 9) y (x0 :: x1 :: x2 :: x3 :: x4 :: x5 :: x6 :: x7 :: x8 :: x9 :: ρ)) K = K (x0 :: x1 :: x2 :: x3 :: x4 :: x5 :: x6 :: x7 :: x8 :: some y :: ρ) := rfl
theorem w_b10 {x0 x1 x2 x3 x4 x5 x6 x7 x8 x9 x10 : Option Val} : optW (bindT (.name 10) y (x0 :: x1 :: x2 :: x3 :: x4 :: x5 :: x6 :: x7 :: x8 :: x9 :: x10 :: ρ)) K = K (x0 :: x1 :: x2 :: x3 :: x4 :: x5 :: x6 :: x7 :: x8 :: x9 :: some y :: ρ) := rfl
theorem w_b11 {x0 x1 x2 x3 x4 x5 x6 x7 x8 x9 x10 x11 : Option Val} : optW (bindT (.name 11) y (x0 :: x1 :: x2 :: x3 :: x4 :: x5 :: x6 :: x7 :: x8 :: x9 :: x10 :: x11 :: ρ)) K = K (x0 :: x1 :: x2 :: x3 :: x4 :: x5 :: x6 :: x7 :: x8 :: x9 :: x10 :: some y :: ρ) := rfl
theorem w_b12 {x0 x1 x2 x3 x4 x5 x6 x7 x8 x9 x10 x11 x12 : Option Val} : optW (bindT (.name 12) y (x0 :: x1 :: x2 :: x3 :: x4 :: x5 :: x6 :: x7 :: x8 :: x9 :: x10 :: x11 :: x12 :: ρ)) K = K (x0 :: x1 :: x2 :: x3 :: x4 :: x5 :: x6 :: x7 :: x8 :: x9 :: x10 :: x11 :: some y :: ρ) := rfl
theorem w_b13 {x0 x1 x2 x3 x4 x5 x6 x7 x8 x9 x10 x11 x12 x13 : Option Val} : optW (bindT (.name 13) y (x0 :: x1 :: x2 :: x3 :: x4 :: x5 :: x6 :: x7 :: x8 :: x9 :: x10 :: x11 :: x12 :: x13 :: ρ)) K = K (x0 :: x1 :: x2 :: x3 :: x4 :: x5 :: x6 :: x7 :: x8 :: x9 :: x10 :: x11 :: x12 :: some y :: ρ) := rfl
theorem w_b14 {x0 x1 x2 x3 x4 x5 x6 x7 x8 x9 x10 x11 x12 x13 x14 : Option Val} : optW (bindT (.name 14) y (x0 :: x1 :: x2 :: x3 :: x4 :: x5 :: x6 :: x7 :: x8 :: x9 :: x10 :: x11 :: x12 :: x13 :: x14 :: ρ)) K = K (x0 :: x1 :: x2 :: x3 :: x4 :: x5 :: x6 :: x7 :: x8 :: x9 :: x10 :: x11 :: x12 :: x13 :: some y :: ρ) := rfl
theorem w_b15 {x0 x1 x2 x3 x4 x5 x6 x7 x8 x9 x10 x11 x12 x13 x14 x15 : Option Val} : optW (bindT (.name 15) y (x0 :: x1 :: x2 :: x3 :: x4 :: x5 :: x6 :: x7 :: x8 :: x9 :: x10 :: x11 :: x12 :: x13 :: x14 :: x15 :: ρ)) K = K (x0 :: x1 :: x2 :: x3 :: x4 :: x5 :: x6 :: x7 :: x8 :: x9 :: x10 :: x11 :: x12 :: x13 :: x14 :: some y :: ρ) := rfl
theorem w_b16 {x0 x1 x2 x3 x4 x5 x6 x7 x8 x9 x10 x11 x12 x13 x14 x15 x16 : Option Val} : optW (bindT (.name 16) y (x0 :: x1 :: x2 :: x3 :: x4 :: x5 :: x6 :: x7 :: x8 :: x9 :: x10 :: x11 :: x12 :: x13 :: x14 :: x15 :: x16 :: ρ)) K = K (x0 :: x1 :: x2 :: x3 :: x4 :: x5 :: x6 :: x7 :: x8 :: x9 :: x10 :: x11 :: x12 :: x13 :: x14 :: x15 :: some y :: ρ) := rfl
theorem w_b17 {x0 x1 x2 x3 x4 x5 x6 x7 x8 x9 x10 x11 x12 x13 x14 x15 x16 x17 : Option Val} : optW (bindT (.name 17) y (x0 :: x1 :: x2 :: x3 :: x4 :: x5 :: x6 :: x7 :: x8 :: x9 :: x10 :: x11 :: x12 :: x13 :: x14 :: x15 :: x16 :: x17 :: ρ)) K = K (x0 :: x1 :: x2 :: x3 :: x4 :: x5 :: x6 :: x7 :: x8 :: x9 :: x10 :: x11 :: x12 :: x13 :: x14 :: x15 :: x16 :: some y :: ρ) := rfl
theorem w_b18 {x0 x1 x2 x3 x4 x5 x6 x7 x8 x9 x10 x11 x12 x13 x14 x15 x16 x17 x18 : Option Val} : optW (bindT (.name 18) y (x0 :: x1 :: x2 :: x3 :: x4 :: x5 :: x6 :: x7 :: x8 :: x9 :: x10 :: x11 :: x12 :: x13 :: x14 :: x15 :: x16 :: x17 :: x18 :: ρ)) K = K (x0 :: x1 :: x2 :: x3 :: x4 :: x5 :: x6 :: x7 :: x8 :: x9 :: x10 :: x11 :: x12 :: x13 :: x14 :: x15 :: x16 :: x17 :: some y :: ρ) := rfl
theorem w_b19 {x0 x1 x2 x3 x4 x5 x6 x7 x8 x9 x10 x11 x12 x13 x14 x15 x16 x17 x18 x19 : Option Val} : optW (bindT (.name 19) y (x0 :: x1 :: x2 :: x3 :: x4 :: x5 :: x6 :: x7 :: x8 :: x9 :: x10 :: x11 :: x12 :: x13 :: x14 :: x15 :: x16 :: x17 :: x18 :: x19 :: ρ)) K = K (x0 :: x1 :: x2 :: x3 :: x4 :: x5 :: x6 :: x7 :: x8 :: x9 :: x10 :: x11 :: x12 :: x13 :: x14 :: x15 :: x16 :: x17 :: x18 :: some y :: ρ) := rfl
theorem w_b20 {x0 x1 x2 x3 x4 x5 x6 x7 x8 x9 x10 x11 x12 x13 x14 x15 x16 x17 x18 x19 x20 : Option Val} : optW (bindT (.name 20) y (x0 :: x1 :: x2 :: x3 :: x4 :: x5 :: x6 :: x7 :: x8 :: x9 :: x10 :: x11 :: x12 :: x13 :: x14 :: x15 :: x16 :: x17 :: x18 :: x19 :: x20 :: ρ)) K = K (x0 :: x1 :: x2 :: x3 :: x4 :: x5 :: x6 :: x7 :: x8 :: x9 :: x10 :: x11 :: x12 :: x13 :: x14 :: x15 :: x16 :: x17 :: x18 :: x19 :: some y :: ρ) := rfl
theorem w_b21 {x0 x1 x2 x3 x4 x5 x6 x7 x8 x9 x10 x11 x12 x13 x14 x15 x16 x17 x18 x19 x20 x21 : Option Val} : optW (bindT (.name 21) y (x0 :: x1 :: x2 :: x3 :: x4 :: x5 :: x6 :: x7 :: x8 :: x9 :: x10 :: x11 :: x12 :: x13 :: x14 :: x15 :: x16 :: x17 :: x18 :: x19 :: x20 :: x21 :: ρ)) K = K (x0 :: x1 :: x2 :: x3 :: x4 :: x5 :: x6 :: x7 :: x8 :: x9 :: x10 :: x11 :: x12 :: x13 :: x14 :: x15 :: x16 :: x17 :: x18 :: x19 :: x20 :: some y :: ρ) := rfl
theorem w_b22 {x0 x1 x2 x3 x4 x5 x6 x7 x8 x9 x10 x11 x12 x13 x14 x15 x16 x17 x18 x19 x20 x21 x22 : Option Val} : optW (bindT (.name 22) y (x0 :: x1 :: x2 :: x3 :: x4 :: x5 :: x6 :: x7 :: x8 :: x9 :: x10 :: x11 :: x12 :: x13 :: x14 :: x15 :: x16 :: x17 :: x18 :: x19 :: x20 :: x21 :: x22 :: ρ)) K = K (x0 :: x1 :: x2 :: x3 :: x4 :: x5 :: x6 :: x7 :: x8 :: x9 :: x10 :: x11 :: x12 :: x13 :: x14 :: x15 :: x16 :: x17 :: x18 :: x19 :: x20 :: x21 :: some y :: ρ) := rfl
theorem w_b23 {x0 x1 x2 x3 x4 x5 x6 x7 x8 x9 x10 x11 x12 x13 x14 x15 x16 x17 x18 x19 x20 x21 x22 x23 : Option Val} : optW (bindT (.name 23) y (x0 :: x1 :: x2 :: x3 :: x4 :: x5 :: x6 :: x7 :: x8 :: x9 :: x10 :: x11 :: x12 :: x13 :: x14 :: x15 :: x16 :: x17 :: x18 :: x19 :: x20 :: x21 :: x22 :: x23 :: ρ)) K = K (x0 :: x1 :: x2 :: x3 :: x4 :: x5 :: x6 :: x7 :: x8 :: x9 :: x10 :: x11 :: x12 :: x13 :: x14 :: x15 :: x16 :: x17 :: x18 :: x19 :: x20 :: x21 :: x22 :: some y :: ρ) := rfl
theorem w_b24 {x0 x1 x2 x3 x4 x5 x6 x7 x8 x9 x10 x11 x12 x13 x14 x15 x16 x17 x18 x19 x20 x21 x22 x23 x24 : Option Val} : optW (bindT (.name 24) y (x0 :: x1 :: x2 :: x3 :: x4 :: x5 :: x6 :: x7 :: x8 :: x9 :: x10 :: x11 :: x12 :: x13 :: x14 :: x15 :: x16 :: x17 :: x18 :: x19 :: x20 :: x21 :: x22 :: x23 :: x24 :: ρ)) K = K (x0 :: x1 :: x2 :: x3 :: x4 :: x5 :: x6 :: x7 :: x8 :: x9 :: x10 :: x11 :: x12 :: x13 :: x14 :: x15 :: x16 :: x17 :: x18 :: x19 :: x20 :: x21 :: x22 :: x23 :: some y :: ρ) := rfl
theorem w_b25 {x0 x1 x2 x3 x4 x5 x6 x7 x8 x9 x10 x11 x12 x13 x14 x15 x16 x17 x18 x19 x20 x21 x22 x23 x24 x25 : Option Val} : optW (bindT (.name 25) y (x0 :: x1 :: x2 :: x3 :: x4 :: x5 :: x6 :: x7 :: x8 :: x9 :: x10 :: x11 :: x12 :: x13 :: x14 :: x15 :: x16 :: x17 :: x18 :: x19 :: x20 :: x21 :: x22 :: x23 :: x24 :: x25 :: ρ)) K = K (x0 :: x1 :: x2 :: x3 :: x4 :: x5 :: x6 :: x7 :: x8 :: x9 :: x10 :: x11 :: x12 :: x13 :: x14 :: x15 :: x16 :: x17 :: x18 :: x19 :: x20 :: x21 :: x22 :: x23 :: x24 :: some y :: ρ) := rfl
variable {α : Type} {M : α → Prop} {p q r s : α} {xs : List α}
theorem w_at0 : optW (atI (p :: xs) 0) M = M p := by rw [atI0]; rfl
theorem w_at1 : optW (atI (p :: q :: xs) 1) M = M q := by rw [atI1]; rfl
theorem w_at2 : optW (atI (p :: q :: r :: xs) 2) M = M r := by rw [atI2]; rfl
theorem w_at3 : optW (atI (p :: q :: r :: s :: xs) 3) M = M s := by rw [atI3]; rfl
variable {u w z : Val}
theorem w_set0 (e : h a = some (.lst (u :: ys))) : setW (.ref a) (.int 0) y h H = H (up h a (.lst (y :: ys))) := by rw [w_set e (k := 0) ixN_len1]; rfl
theorem w_set1 (e : h a = some (.lst (u :: v :: ys))) : setW (.ref a) (.int 1) y h H = H (up h a (.lst (u :: y :: ys))) := by rw [w_set e (k := 1) ixN_len2]; rfl
theorem w_set2 (e : h a = some (.lst (u :: v :: w :: ys))) : setW (.ref a) (.int 2) y h H = H (up h a (.lst (u :: v :: y :: ys))) := by rw [w_set e (k := 2) ixN_len3]; rfl
end
end L3

set_option Elab.async false
set_option linter.all false
set_option maxRecDepth 100000
/-! L3, part V: loops, comprehensions, equality, for whoever proves a contract. -/
namespace L3
open PySem PySem.Spec PyProof.Rows L2

theorem moS (F : Fs) (n : Nat) (b : Sms) : MonoS (wpSs (CN F n) b) (wpSs (CN F n) b) := wpSs_mono (CN_mono F n) b
theorem moT (F : Fs) (n : Nat) (e : Ex) (ρ : Env3) (h : Hq) (Q Q' : Bool → Hq → Prop) (E : QE) (k : ∀ b h, Q b h → Q' b h) (w : wpT (CN F n) e ρ h Q E) : wpT (CN F n) e ρ h Q' E := wpT_mono (CN_mono F n) e ρ h Q Q' E E k (fun _ _ z => z) w
/-- a for, by what holds at each turn -/
theorem for_inv {tg : Tg} {b : WS} {keep : Hq → Prop} {D : Dn} (mb : MonoS b b) (I : Nat → Env3 → Hq → Prop) (xs : List Val)
    (hs : ∀ i x ρ h, xs[i]? = some x → I i ρ h → keep h ∧ ∃ ρ1, bindT tg x ρ = some ρ1 ∧ b { D with nx := I (i + 1) } ρ1 h) (hd : ∀ ρ h, I xs.length ρ h → keep h ∧ D.nx ρ h) {ρ : Env3} {h : Hq} (h0 : I 0 ρ h) : forW tg b keep D xs ρ h := by
  have go : ∀ (k i : Nat), i + k = xs.length → ∀ ρ h, I i ρ h → forW tg b keep D (xs.drop i) ρ h := by
    intro k
    induction k with
    | zero =>
      intro i e ρ h hi
      rw [List.drop_eq_nil_of_le (by omega)]
      have : i = xs.length := by omega
      subst this
      exact hd ρ h hi
    | succ k ih =>
      intro i e ρ h hi
      have hlt : i < xs.length := by omega
      rw [List.drop_eq_getElem_cons hlt]
      obtain ⟨kp, ρ1, e1, w⟩ := hs i xs[i] ρ h (List.getElem?_eq_getElem hlt) hi
      refine ⟨kp, ?_⟩
      rw [e1]
      exact mb.go w ⟨fun ρ' h' q => ih (i + 1) (by omega) ρ' h' q, fun _ _ q => q, fun _ _ _ q => q⟩
  have := go xs.length 0 (by omega) ρ h h0
  simpa using this
/-- .. over the items of a list of one's own kind -/
theorem for_map {α : Type} {tg : Tg} {b : WS} {keep : Hq → Prop} {D : Dn} (mb : MonoS b b) (I : List α → Env3 → Hq → Prop) (φ : α → Val) (ys : List α)
    (hs : ∀ pre y post ρ h, ys = pre ++ y :: post → I pre ρ h → keep h ∧ ∃ ρ1, bindT tg (φ y) ρ = some ρ1 ∧ b { D with nx := I (pre ++ [y]) } ρ1 h) (hd : ∀ ρ h, I ys ρ h → keep h ∧ D.nx ρ h) {ρ : Env3} {h : Hq} (h0 : I [] ρ h) : forW tg b keep D (ys.map φ) ρ h := by
  refine for_inv mb (fun i ρ h => I (ys.take i) ρ h) (ys.map φ) (fun i x ρ h e q => ?_) (fun ρ h q => hd ρ h (by rw [List.length_map, List.take_length] at q; exact q)) (by simpa using h0)
  rw [List.getElem?_map] at e
  obtain ⟨y, e1, rfl⟩ := Option.map_eq_some_iff.mp e
  obtain ⟨hi, e2⟩ := List.getElem?_eq_some_iff.mp e1
  have e3 : ys = ys.take i ++ y :: ys.drop (i + 1) := by
    rw [← e2, ← List.drop_eq_getElem_cons hi, List.take_append_drop]
  have e4 : ys.take (i + 1) = ys.take i ++ [y] := by rw [List.take_add_one, e1]; rfl
  have := hs (ys.take i) y (ys.drop (i + 1)) ρ h e3 q
  rw [← e4] at this
  exact this
/-- a while, by what holds and a number that falls -/
theorem whl_inv {tst : Env3 → Hq → (Bool → Hq → Prop) → Prop} {b : WS} {D : Dn} (mt : ∀ ρ h Q Q', (∀ c h, Q c h → Q' c h) → tst ρ h Q → tst ρ h Q') (mb : MonoS b b) (I : Nat → Env3 → Hq → Prop)
    (hs : ∀ m ρ h, I m ρ h → tst ρ h fun c h1 => if c = true then b { D with nx := fun ρ' h' => ∃ m', m' < m ∧ I m' ρ' h' } ρ h1 else D.nx ρ h1) {m : Nat} {ρ : Env3} {h : Hq} (h0 : I m ρ h) : ∃ n, whlW tst b D n ρ h := by
  have go : ∀ (n m : Nat), m < n → ∀ ρ h, I m ρ h → whlW tst b D n ρ h := by
    intro n
    induction n with
    | zero => intro m hm; omega
    | succ n ih =>
      intro m hm ρ h q
      refine mt _ _ _ _ (fun c h1 q => ?_) (hs m ρ h q)
      cases c with
      | true => exact mb.go q ⟨fun ρ' h' ⟨m', l, q⟩ => ih m' (by omega) ρ' h' q, fun _ _ q => q, fun _ _ _ q => q⟩
      | false => exact q
  exact ⟨m + 1, go (m + 1) m (by omega) ρ h h0⟩
/-- a comprehension whose tests and elements change nothing -/
theorem comp_ok {β : Type} {fz : Bool} {tg : Tg} {tst : Env3 → Hq → (Bool → Hq → Prop) → Prop} {el : Env3 → Hq → QV → Prop} {keep : Hq → Prop} {ρw : Env3} {h : Hq} {Q : QV}
    (mt : ∀ ρ h Q Q', (∀ c h, Q c h → Q' c h) → tst ρ h Q → tst ρ h Q') (me : ∀ ρ h Q Q', (∀ c h, Q c h → Q' c h) → el ρ h Q → el ρ h Q')
    (φ : β → Val) (ys : List β) (g : β → Option Val) (hl : ys.length < 1000000)
    (hstep : ∀ p acc, h p = none → keep (up h p (.lst acc)) ∧ ∀ y ∈ ys, ∃ ρ1, bindT tg (φ y) ρw = some ρ1 ∧ ∀ K : Option Val → Hq → Prop, K (g y) (up h p (.lst acc)) → tst ρ1 (up h p (.lst acc)) fun b h1 => if b = true then el ρ1 h1 fun v h2 => K (some v) h2 else K none h1)
    (hq : alc fz (ys.filterMap g) h Q) : ∀ p, h p = none → compW tg tst el keep p (compFin fz p Q) ρw (ys.map φ) (up h p (.lst [])) := by
  intro p hp
  have go : ∀ (zs : List β) (acc : List Val), acc.length + zs.length < 1000000 → (∀ z ∈ zs, z ∈ ys) → alc fz (acc ++ zs.filterMap g) h Q → compW tg tst el keep p (compFin fz p Q) ρw (zs.map φ) (up h p (.lst acc)) := by
    intro zs
    induction zs with
    | nil =>
      intro acc _ _ w
      refine ⟨(hstep p acc hp).1, ?_⟩
      simp only [List.filterMap_nil, List.append_nil] at w
      cases fz with
      | true =>
        show optW (lstO (up h p (.lst acc)) p) _
        rw [lstO_some.mpr up_same]
        show Q (.fl acc) (er (up h p (.lst acc)) p)
        rw [er_up hp]
        exact w
      | false => exact w p hp
    | cons z zs ih =>
      intro acc hlen hm w
      obtain ⟨kp, st⟩ := hstep p acc hp
      obtain ⟨ρ1, e1, st⟩ := st z (hm z List.mem_cons_self)
      refine ⟨kp, ?_⟩
      show optW (bindT tg (φ z) ρw) _
      rw [e1]
      have hm' : ∀ y ∈ zs, y ∈ ys := fun y hy => hm y (List.mem_cons_of_mem _ hy)
      refine mt _ _ _ _ (fun c h1 q => ?_) (st (fun o h' => match o with
        | some v => ∃ acc', lstO h' p = some acc' ∧ acc'.length < 1000000 ∧ compW tg tst el keep p (compFin fz p Q) ρw (zs.map φ) (up h' p (.lst (acc' ++ [v])))
        | none => compW tg tst el keep p (compFin fz p Q) ρw (zs.map φ) h') ?_)
      · cases c with
        | true => exact me _ _ _ _ (fun v h2 ⟨acc', e2, l, q⟩ => by rw [e2]; exact ⟨l, q⟩) q
        | false => exact q
      · rw [List.filterMap_cons] at w
        cases e2 : g z with
        | none =>
          rw [e2] at w
          exact ih acc (by rw [List.length_cons] at hlen; omega) hm' w
        | some v =>
          rw [e2] at w
          refine ⟨acc, lstO_some.mpr up_same, by omega, ?_⟩
          rw [up_up]
          exact ih (acc ++ [v]) (by rw [List.length_append, List.length_singleton]; rw [List.length_cons] at hlen; omega) hm' (by rw [List.append_assoc]; exact w)
  exact go ys [] (by rw [List.length_nil]; omega) (fun z hz => hz) hq

/-! ### equality of data -/
theorem pds_ints : ∀ ns : List Int, pds (ns.map Val.int) = some (ns.map PyData.int)
  | [] => rfl
  | n :: ns => by simp [pds, pd, pds_ints ns]
theorem canLay_ints : ∀ ns : List Int, PyData.canLayAll0 (ns.map PyData.int) = true
  | [] => rfl
  | n :: ns => by simp [PyData.canLayAll0, PyData.canLay0, canLay_ints ns]
theorem depth_ints : ∀ ns : List Int, PyData.depthAll (ns.map PyData.int) = 0
  | [] => rfl
  | n :: ns => by simp [PyData.depthAll, PyData.depth, depth_ints ns]
theorem shaped_ints (ns : List Int) : SeqAt.shaped (.list (ns.map PyData.int)) = true := by
  simp [SeqAt.shaped, PyData.canLay0, canLay_ints, PyData.depth, depth_ints]
/-- lists of lists of ints -/
def dLL (xss : List (List Int)) : PyData := .list (xss.map fun xs => .list (xs.map PyData.int))
theorem canLay_ll : ∀ xss : List (List Int), PyData.canLayAll0 (xss.map fun xs => PyData.list (xs.map PyData.int)) = true
  | [] => rfl
  | x :: xss => by simp [PyData.canLayAll0, PyData.canLay0, canLay_ints, canLay_ll xss]
theorem depth_ll : ∀ xss : List (List Int), PyData.depthAll (xss.map fun xs => PyData.list (xs.map PyData.int)) ≤ 1
  | [] => by simp [PyData.depthAll]
  | x :: xss => by
    have := depth_ll xss
    simp [PyData.depthAll, PyData.depth, depth_ints]
    omega
theorem shaped_ll (xss : List (List Int)) : SeqAt.shaped (dLL xss) = true := by
  have := depth_ll xss
  simp [SeqAt.shaped, dLL, PyData.canLay0, canLay_ll, PyData.depth]
  omega
theorem pds_ll : ∀ xss : List (List Int), pds (xss.map fun xs => Val.fl (xs.map Val.int)) = some (xss.map fun xs => PyData.list (xs.map PyData.int))
  | [] => rfl
  | x :: xss => by simp [pds, pd, pds_ints, pds_ll xss]
theorem dt_ints (h : Hq) (ns : List Int) : dt h (.fl (ns.map Val.int)) = some (.list (ns.map PyData.int)) := by simp [dt, pd, pds_ints]
theorem dt_ll (h : Hq) (xss : List (List Int)) : dt h (.fl (xss.map fun xs => Val.fl (xs.map Val.int))) = some (dLL xss) := by simp [dt, pd, pds_ll, dLL]
theorem dt_nil (h : Hq) : dt h (.fl []) = some (.list []) := rfl
theorem mapO_ints (ns : List Int) : mapO pd (ns.map Val.int) = some (ns.map PyData.int) := by
  induction ns with
  | nil => rfl
  | cons n ns ih => simp [mapO, pd, ih]
/-- a live list of ints -/
theorem dt_ref {h : Hq} {a : Addr} {ns : List Int} (e : h a = some (.lst (ns.map Val.int))) : dt h (.ref a) = some (.list (ns.map PyData.int)) := by
  have : ∀ ns : List Int, mapO (dt1 h) (ns.map Val.int) = some (ns.map PyData.int) := by
    intro ns
    induction ns with
    | nil => rfl
    | cons n ns ih => simp [mapO, dt1, pd, ih]
  simp [dt, e, this]
section
variable {h : Hq} {Q : QV} {x y : Val} {d e : PyData}
theorem w_eqD (ex : dt h x = some d) (ey : dt h y = some e) (sx : SeqAt.shaped d = true) (sy : SeqAt.shaped e = true) (hx : ∀ i, x ≠ .int i) (hs : ∀ i, x ≠ .str i) (q : Q (.bl (PyData.eqv d e)) h) : prW (cmpR .eq x y h) Q := by
  have : cmpR .eq x y h = eqR false x y h := by
    unfold cmpR; dsimp only; split
    · exact absurd rfl (hx _)
    · exact absurd rfl (hs _)
    · rfl
  rw [this]
  simp only [eqR, ex, ey, prW, optW_some]
  exact ⟨⟨sx, sy⟩, q⟩
theorem w_neD (ex : dt h x = some d) (ey : dt h y = some e) (sx : SeqAt.shaped d = true) (sy : SeqAt.shaped e = true) (hx : ∀ i, x ≠ .int i) (hs : ∀ i, x ≠ .str i) (q : Q (.bl (!PyData.eqv d e)) h) : prW (cmpR .ne x y h) Q := by
  have : cmpR .ne x y h = eqR true x y h := by
    unfold cmpR; dsimp only; split
    · exact absurd rfl (hx _)
    · exact absurd rfl (hs _)
    · rfl
  rw [this]
  simp only [eqR, ex, ey, prW, optW_some]
  exact ⟨⟨sx, sy⟩, q⟩
end
theorem eqvAll_ints : ∀ ns ms : List Int, PyData.eqvAll (ns.map PyData.int) (ms.map PyData.int) = decide (ns = ms)
  | [], [] => rfl
  | [], _ :: _ => rfl
  | _ :: _, [] => rfl
  | n :: ns, m :: ms => by
    simp only [List.map_cons, PyData.eqvAll, PyData.eqv, eqvAll_ints ns ms, List.cons.injEq]
    by_cases h1 : n = m <;> by_cases h2 : ns = ms <;> simp [h1, h2]
theorem eqv_ints (ns ms : List Int) : PyData.eqv (.list (ns.map PyData.int)) (.list (ms.map PyData.int)) = decide (ns = ms) := by
  simp only [PyData.eqv, eqvAll_ints]
theorem eqvAll_ll : ∀ ns ms : List (List Int), PyData.eqvAll (ns.map fun xs => PyData.list (xs.map PyData.int)) (ms.map fun xs => PyData.list (xs.map PyData.int)) = decide (ns = ms)
  | [], [] => rfl
  | [], _ :: _ => rfl
  | _ :: _, [] => rfl
  | n :: ns, m :: ms => by
    simp only [List.map_cons, PyData.eqvAll, eqv_ints, eqvAll_ll ns ms, List.cons.injEq]
    by_cases h1 : n = m <;> by_cases h2 : ns = ms <;> simp [h1, h2]
theorem eqv_ll (ns ms : List (List Int)) : PyData.eqv (dLL ns) (dLL ms) = decide (ns = ms) := by
  simp only [dLL, PyData.eqv, eqvAll_ll]

section
variable {h : Hq} {Q : QV} {ns ms : List Int}
theorem w_neI_L : prW (cmpR .ne (.fl (ns.map .int)) (.fl (ms.map .int)) h) Q = Q (.bl (!decide (ns = ms))) h := by
  simp only [cmpR, eqR, dt_ints, prW, optW_some, Out.w, shaped_ints, eqv_ints, and_self, true_and, if_true]
theorem w_eqI_L : prW (cmpR .eq (.fl (ns.map .int)) (.fl (ms.map .int)) h) Q = Q (.bl (decide (ns = ms))) h := by
  simp only [cmpR, eqR, dt_ints, prW, optW_some, Out.w, shaped_ints, eqv_ints, and_self, true_and, Bool.false_eq_true, if_false]
theorem w_eqLL {ns ms : List (List Int)} : prW (cmpR .eq (.fl (ns.map fun xs => .fl (xs.map .int))) (.fl (ms.map fun xs => .fl (xs.map .int))) h) Q = Q (.bl (decide (ns = ms))) h := by
  simp only [cmpR, eqR, dt_ll, prW, optW_some, Out.w, shaped_ll, eqv_ll, and_self, true_and, Bool.false_eq_true, if_false]
end
end L3
namespace L3
open PySem PySem.Spec PyProof.Rows L2
/-! ### heaps -/
/-- all but a is as it was -/
def Ex1 (a : Addr) (h h' : Hq) : Prop := ∀ q, q ≠ a → h' q = h q
theorem Ex1.refl {a : Addr} {h : Hq} : Ex1 a h h := fun _ _ => rfl
theorem Ex1.trans {a : Addr} {h h1 h2 : Hq} (x : Ex1 a h h1) (y : Ex1 a h1 h2) : Ex1 a h h2 := fun q n => (y q n).trans (x q n)
theorem Ex1.up {a : Addr} {h : Hq} {c : Cell} : Ex1 a h (up h a c) := fun q n => up_ne n
/-- what was live is as it was -/
def Grow (h h' : Hq) : Prop := ∀ a c, h a = some c → h' a = some c
theorem Grow.refl {h : Hq} : Grow h h := fun _ _ e => e
theorem Grow.trans {h h1 h2 : Hq} (x : Grow h h1) (y : Grow h1 h2) : Grow h h2 := fun a c e => y a c (x a c e)
theorem Grow.up {h : Hq} {p : Addr} {c : Cell} (n : h p = none) : Grow h (up h p c) := fun a d e => (up_ne (ne_of_live e n)).trans e
/-- a live list of live lists, all of them new -/
structure NL (h0 h : Hq) (p : Addr) (ps : List Addr) (cs : List (List Val)) : Prop where
  fresh : h0 p = none
  fresh' : ∀ q ∈ ps, h0 q = none
  nd : ps.Nodup
  np : p ∉ ps
  len : ps.length = cs.length
  top : h p = some (.lst (ps.map .ref))
  at_ : ∀ (i : Nat) q c, ps[i]? = some q → cs[i]? = some c → h q = some (.lst c)
  rest : ∀ q, q ≠ p → q ∉ ps → h q = h0 q
section
variable {h0 h : Hq} {p : Addr} {ps : List Addr} {cs : List (List Val)}
theorem NL.new (n : h0 p = none) : NL h0 (up h0 p (.lst [])) p [] [] :=
  ⟨n, (fun _ h => by cases h), List.nodup_nil, (by simp), rfl, up_same, (fun i q c e => by simp at e), fun q nq _ => up_ne nq⟩
theorem NL.live (N : NL h0 h p ps cs) {q : Addr} (hq : q ∈ ps) : ∃ c, h q = some (.lst c) := by
  obtain ⟨i, hi⟩ := List.getElem?_of_mem hq
  have hl : i < cs.length := by rw [← N.len]; exact (List.getElem?_eq_some_iff.mp hi).1
  exact ⟨_, N.at_ i q _ hi (List.getElem?_eq_getElem hl)⟩
theorem NL.out (N : NL h0 h p ps cs) {q : Addr} (n : h q = none) : q ≠ p ∧ q ∉ ps ∧ h0 q = none := by
  have n1 : q ≠ p := fun e => by rw [e, N.top] at n; cases n
  have n2 : q ∉ ps := fun e => by obtain ⟨c, z⟩ := N.live e; rw [z] at n; cases n
  exact ⟨n1, n2, by rw [← N.rest q n1 n2]; exact n⟩
theorem NL.push (N : NL h0 h p ps cs) {q : Addr} {c : List Val} (n : h q = none) : NL h0 (up (up h q (.lst c)) p (.lst (ps.map .ref ++ [.ref q]))) p (ps ++ [q]) (cs ++ [c]) := by
  obtain ⟨n1, n2, n3⟩ := N.out n
  refine ⟨N.fresh, fun r hr => ?_, ?_, ?_, by simp [N.len], ?_, fun i r d e1 e2 => ?_, fun r h1 h2 => ?_⟩
  · rcases List.mem_append.mp hr with h | h
    · exact N.fresh' r h
    · rw [List.mem_singleton.mp h]; exact n3
  · rw [List.nodup_append]
    exact ⟨N.nd, by simp, fun a ha b hb e => n2 (by rw [← List.mem_singleton.mp hb, ← e]; exact ha)⟩
  · intro h
    rcases List.mem_append.mp h with h | h
    · exact N.np h
    · exact n1 (List.mem_singleton.mp h).symm
  · rw [up_same, List.map_append]; rfl
  · have hr : r ≠ p := fun e => by
      have : r ∈ ps ++ [q] := List.mem_of_getElem? e1
      rcases List.mem_append.mp this with h | h
      · exact N.np (e ▸ h)
      · exact n1 ((List.mem_singleton.mp h).symm.trans e)
    rw [up_ne hr]
    by_cases hi : i < ps.length
    · rw [List.getElem?_append_left hi] at e1
      rw [List.getElem?_append_left (by rw [← N.len]; exact hi)] at e2
      rw [up_ne (fun e => n2 (by rw [← e]; exact List.mem_of_getElem? e1))]
      exact N.at_ i r d e1 e2
    · rw [List.getElem?_append_right (by omega)] at e1
      rw [List.getElem?_append_right (by rw [← N.len]; omega), ← N.len] at e2
      have hj : i - ps.length = 0 := by
        by_cases hz : i - ps.length = 0
        · exact hz
        · rw [List.getElem?_eq_none (by simp; omega)] at e1; cases e1
      rw [hj] at e1 e2
      cases e1
      cases e2
      exact up_same
  · rw [up_ne h1, up_ne (fun e => h2 (List.mem_append_right _ (List.mem_singleton.mpr e)))]
    exact N.rest r h1 fun z => h2 (List.mem_append_left _ z)
theorem NL.write (N : NL h0 h p ps cs) {i : Nat} {q : Addr} {c : List Val} (e : ps[i]? = some q) : NL h0 (up h q (.lst c)) p ps (cs.set i c) := by
  have hq : q ∈ ps := List.mem_of_getElem? e
  have n1 : p ≠ q := fun z => N.np (z ▸ hq)
  have hi : i < ps.length := (List.getElem?_eq_some_iff.mp e).1
  refine ⟨N.fresh, N.fresh', N.nd, N.np, by simp [N.len], by rw [up_ne n1]; exact N.top, fun j r d e1 e2 => ?_, fun r h1 h2 => ?_⟩
  · by_cases hj : i = j
    · subst hj
      rw [e] at e1
      cases e1
      rw [List.getElem?_set_self (by rw [← N.len]; exact hi)] at e2
      cases e2
      exact up_same
    · rw [List.getElem?_set_ne hj] at e2
      have hr : r ≠ q := fun z => by
        subst z
        obtain ⟨l1, e3⟩ := List.getElem?_eq_some_iff.mp e
        obtain ⟨l2, e4⟩ := List.getElem?_eq_some_iff.mp e1
        exact hj ((List.getElem_inj N.nd).mp (e3.trans e4.symm))
      rw [up_ne hr]
      exact N.at_ j r d e1 e2
  · rw [up_ne fun z => h2 (by rw [z]; exact hq)]
    exact N.rest r h1 h2
theorem NL.grow (N : NL h0 h p ps cs) : Grow h0 h := fun a c e => by
  have n1 : a ≠ p := ne_of_live e N.fresh
  have n2 : a ∉ ps := fun z => by rw [N.fresh' a z] at e; cases e
  rw [N.rest a n1 n2]; exact e
theorem NL.dt {css : List (List Int)} (N : NL h0 h p ps (css.map fun xs => xs.map .int)) : dt h (.ref p) = some (dLL css) := by
  have go : ∀ (ps : List Addr) (css : List (List Int)), ps.length = css.length → (∀ (i : Nat) q c, ps[i]? = some q → css[i]? = some c → h q = some (.lst (c.map .int))) → mapO (dt1 h) (ps.map .ref) = some (css.map fun xs => PyData.list (xs.map PyData.int)) := by
    intro ps
    induction ps with
    | nil => intro css e _; cases css <;> first | rfl | cases e
    | cons q ps ih =>
      intro css e at_
      cases css with
      | nil => cases e
      | cons c css =>
        have e1 := at_ 0 q c rfl rfl
        have e2 := ih css (by simpa using e) (fun i q c a b => at_ (i + 1) q c (by simpa using a) (by simpa using b))
        simp only [List.map_cons, mapO, dt1, e1, mapO_ints, Option.map_some, e2]
  have e3 := go ps css (by rw [N.len, List.length_map]) (fun i q c a b => N.at_ i q _ a (by rw [List.getElem?_map, b]; rfl))
  simp only [L3.dt, N.top, e3, Option.map_some, dLL]
end
/-- an item of a written list at an open place -/
theorem atI_open {α : Type} {xs : List α} {i : Int} (h0 : 0 ≤ i) (h1 : i < xs.length) : ∃ v, v ∈ xs ∧ atI xs i = some v := by
  obtain ⟨v, e1, e2⟩ := atI_of h0 h1
  exact ⟨v, List.mem_of_getElem? e2, e1⟩
section
variable {h : Hq} {Q : QV} {ns ms : List Int} {a : Addr}
theorem w_neRL (e : h a = some (.lst (ns.map .int))) : prW (cmpR .ne (.ref a) (.fl (ms.map .int)) h) Q = Q (.bl (!decide (ns = ms))) h := by
  simp only [cmpR, eqR, dt_ints, dt_ref e, prW, optW_some, Out.w, shaped_ints, eqv_ints, and_self, true_and, if_true]
theorem w_neR0 (e : h a = some (.lst (ns.map .int))) : prW (cmpR .ne (.ref a) (.fl []) h) Q = Q (.bl (!decide (ns = []))) h := w_neRL (ms := []) e
theorem w_eqRL (e : h a = some (.lst (ns.map .int))) : prW (cmpR .eq (.ref a) (.fl (ms.map .int)) h) Q = Q (.bl (decide (ns = ms))) h := by
  simp only [cmpR, eqR, dt_ints, dt_ref e, prW, optW_some, Out.w, shaped_ints, eqv_ints, and_self, true_and, Bool.false_eq_true, if_false]
end
theorem pick {α : Type} {xs : List α} {i : Int} {K : α → Prop} (z0 : 0 ≤ i) (z1 : i < xs.length) (z2 : ∀ v ∈ xs, K v) : optW (atI xs i) K := by
  obtain ⟨v, hv, e⟩ := atI_open z0 z1
  rw [e]; exact z2 v hv
section
variable {h : Hq} {Q : QV} {ns ms : List Int} {a : Addr}
theorem w_neF0 : prW (cmpR .ne (.fl (ns.map .int)) (.fl []) h) Q = Q (.bl (!decide (ns = []))) h := w_neI_L (ms := [])
theorem w_eqF0 : prW (cmpR .eq (.fl (ns.map .int)) (.fl []) h) Q = Q (.bl (decide (ns = []))) h := w_eqI_L (ms := [])
theorem w_neDL {ns ms : List (List Int)} (e : dt h (.ref a) = some (dLL ns)) : prW (cmpR .ne (.ref a) (.fl (ms.map fun xs => .fl (xs.map .int))) h) Q = Q (.bl (!decide (ns = ms))) h := by
  simp only [cmpR, eqR, dt_ll, e, prW, optW_some, Out.w, shaped_ll, eqv_ll, and_self, true_and, if_true]
theorem w_eqDL {ns ms : List (List Int)} (e : dt h (.ref a) = some (dLL ns)) : prW (cmpR .eq (.ref a) (.fl (ms.map fun xs => .fl (xs.map .int))) h) Q = Q (.bl (decide (ns = ms))) h := by
  simp only [cmpR, eqR, dt_ll, e, prW, optW_some, Out.w, shaped_ll, eqv_ll, and_self, true_and, Bool.false_eq_true, if_false]
end
theorem moE (F : Fs) (n : Nat) (e : Ex) (ρ : Env3) (h : Hq) (Q Q' : QV) (E : QE) (k : ∀ b h, Q b h → Q' b h) (w : wpE (CN F n) e ρ h Q E) : wpE (CN F n) e ρ h Q' E := wpE_mono (CN_mono F n) e ρ h Q Q' E E k (fun _ _ z => z) w
theorem filterMap_if {α β : Type} (c : α → Prop) [DecidablePred c] (f : α → β) : ∀ l : List α, l.filterMap (fun p => if c p then some (f p) else none) = (l.filter fun p => decide (c p)).map f
  | [] => rfl
  | x :: l => by
    by_cases h : c x
    · rw [List.filterMap_cons_some (by rw [if_pos h]), filterMap_if c f l]; simp [h]
    · rw [List.filterMap_cons_none (by rw [if_neg h]), filterMap_if c f l]; simp [h]
theorem filterMap_one {α β : Type} (f : α → β) : ∀ l : List α, l.filterMap (fun p => some (f p)) = l.map f
  | [] => rfl
  | x :: l => by rw [List.filterMap_cons, filterMap_one f l]; rfl
theorem grow_er {h h' : Hq} {p : Addr} (g : Grow h h') (n : h p = none) : Grow h (er h' p) := fun a c e => (er_ne (ne_of_live e n)).trans (g a c e)
theorem grow_up {h h' : Hq} {p : Addr} {c : Cell} (g : Grow h h') (n : h p = none) : Grow h (up h' p c) := fun a d e => (up_ne (ne_of_live e n)).trans (g a d e)
section
variable {h : Hq} {Q : QV} {fz : Bool} {a : Addr} {ns : List Int}
theorem mapO_int : ∀ ns : List Int, mapO intOf (ns.map Val.int) = some ns
  | [] => rfl
  | n :: ns => by simp [mapO, intOf, mapO_int ns]
theorem w_sortR (e : h a = some (.lst (ns.map .int))) : prW (bltR .sorted fz [.ref a] h) Q = alc fz ((sortI ns).map .int) h Q := by
  simp only [bltR, ls, lv, e, Option.bind_some, mapO_int, Option.map_some, prW, optW_some, Out.w, t_and]
theorem w_sortF : prW (bltR .sorted fz [.fl (ns.map .int)] h) Q = alc fz ((sortI ns).map .int) h Q := by
  simp only [bltR, ls, lv, Option.bind_some, mapO_int, Option.map_some, prW, optW_some, Out.w, t_and]
theorem w_sumF : prW (bltR .sum fz [.fl (ns.map .int)] h) Q = Q (.int ns.sum) h := by
  simp only [bltR, ls, lv, Option.bind_some, mapO_int, Option.map_some, prW, optW_some, Out.w, t_and]
end
/-- what stands live at a is a pen -/
def PenAt (h : Hq) (a : Addr) : Prop := ∃ x y z, h a = some (.lst [.int x, .int y, .int z]) ∧ 0 ≤ x
theorem PenAt.up {g : Hq} {a q : Addr} {c : Cell} (z : q ≠ a) (p : PenAt g a) : PenAt (up g q c) a := by
  obtain ⟨x, y, w, e, l⟩ := p
  exact ⟨x, y, w, by rw [up_ne (Ne.symm z)]; exact e, l⟩
theorem PenAt.er {g : Hq} {a q : Addr} (z : q ≠ a) (p : PenAt g a) : PenAt (er g q) a := by
  obtain ⟨x, y, w, e, l⟩ := p
  exact ⟨x, y, w, by rw [er_ne (Ne.symm z)]; exact e, l⟩
theorem PenAt.ne {g : Hq} {a q : Addr} (p : PenAt g a) (n : g q = none) : q ≠ a := fun z => by obtain ⟨_, _, _, e, _⟩ := p; rw [← z, n] at e; cases e
theorem PenAt.grow {g g' : Hq} {a : Addr} (k : Grow g g') (p : PenAt g a) : PenAt g' a := by
  obtain ⟨x, y, w, e, l⟩ := p
  exact ⟨x, y, w, k a _ e, l⟩
end L3

set_option Elab.async false
set_option linter.all false
set_option maxRecDepth 100000
/-! L4: search trees, in plain words. -/
namespace L3
open PySem PySem.Spec PyProof.Rows L2
inductive Tr where
  | nil | nd (l : Tr) (k : Int) (r : Tr)
  deriving DecidableEq
namespace Tr
def tv : Tr → Val
  | .nil => .non
  | .nd l k r => .tup [l.tv, .int k, r.tv]
def ht : Tr → Nat
  | .nil => 0
  | .nd l _ r => 1 + max l.ht r.ht
def keys : Tr → List Int
  | .nil => []
  | .nd l k r => l.keys ++ k :: r.keys
def put : Tr → Int → Tr
  | .nil, k => .nd .nil k .nil
  | .nd l j r, k => if k < j then .nd (l.put k) j r else .nd l j (r.put k)
def size : Tr → Nat
  | .nil => 0
  | .nd l _ r => l.size + 1 + r.size
theorem keys_len : ∀ t : Tr, t.keys.length = t.size
  | .nil => rfl
  | .nd l k r => by simp [keys, size, keys_len l, keys_len r]; omega
theorem ht_le : ∀ t : Tr, t.ht ≤ t.size
  | .nil => Nat.le_refl _
  | .nd l k r => by
    have := ht_le l
    have := ht_le r
    simp only [ht, size]; omega
theorem put_perm : ∀ (t : Tr) (k : Int), (t.put k).keys.Perm (k :: t.keys)
  | .nil, k => by simp [put, keys]
  | .nd l j r, k => by
    unfold put
    split
    · have := (put_perm l k).append_right (j :: r.keys)
      simpa [keys] using this
    · have := (put_perm r k)
      refine (List.Perm.append_left l.keys (this.cons j)).trans ?_
      refine (List.Perm.append_left l.keys (List.Perm.swap k j r.keys)).trans ?_
      exact List.perm_middle
theorem put_size (t : Tr) (k : Int) : (t.put k).size = t.size + 1 := by
  rw [← keys_len, ← keys_len, (put_perm t k).length_eq]; rfl
/-- rising -/
abbrev Up (ks : List Int) : Prop := ks.Pairwise (· ≤ ·)
theorem uniq {as bs : List Int} (p : as.Perm bs) (h1 : Up as) (h2 : Up bs) : as = bs := List.Perm.eq_of_pairwise (le := (· ≤ ·)) (fun a b _ _ h h' => Int.le_antisymm h h') h1 h2 p
theorem put_up : ∀ (t : Tr) (k : Int), Up t.keys → Up (t.put k).keys
  | .nil, k, _ => by simp [put, keys, Up]
  | .nd l j r, k, h => by
    have h' := h
    unfold Up keys at h
    rw [List.pairwise_append, List.pairwise_cons] at h
    obtain ⟨h1, ⟨h2, h3⟩, h4⟩ := h
    unfold put
    split
    · rename_i c
      unfold Up keys
      rw [List.pairwise_append, List.pairwise_cons]
      refine ⟨put_up l k h1, ⟨h2, h3⟩, fun a ha b hb => ?_⟩
      rcases List.mem_cons.mp ((put_perm l k).mem_iff.mp ha) with e | e
      · subst e
        rcases List.mem_cons.mp hb with e | e
        · omega
        · have := h2 b e; omega
      · exact h4 a e b hb
    · rename_i c
      unfold Up keys
      rw [List.pairwise_append, List.pairwise_cons]
      refine ⟨h1, ⟨fun a ha => ?_, put_up r k h3⟩, fun a ha b hb => ?_⟩
      · rcases List.mem_cons.mp ((put_perm r k).mem_iff.mp ha) with e | e
        · omega
        · exact h2 a e
      · rcases List.mem_cons.mp hb with e | e
        · subst e; exact h4 a ha _ List.mem_cons_self
        · rcases List.mem_cons.mp ((put_perm r k).mem_iff.mp e) with e | e
          · subst e; have := h4 a ha j List.mem_cons_self; omega
          · exact h4 a ha b (List.mem_cons_of_mem _ e)
/-! trees as data -/
def td : Tr → PyData
  | .nil => .none
  | .nd l k r => .tuple [l.td, .int k, r.td]
theorem pd_tv : ∀ t : Tr, pd t.tv = some t.td
  | .nil => rfl
  | .nd l k r => by simp [tv, td, pd, pds, pd_tv l, pd_tv r]
theorem td_lay : ∀ t : Tr, t.td.canLay0 = true
  | .nil => rfl
  | .nd l k r => by simp [td, PyData.canLay0, PyData.canLayAll0, td_lay l, td_lay r]
theorem td_depth : ∀ t : Tr, t.td.depth = t.ht
  | .nil => rfl
  | .nd l k r => by simp [td, PyData.depth, PyData.depthAll, td_depth l, td_depth r, ht]; omega
theorem td_eqv : ∀ s t : Tr, PyData.eqv s.td t.td = decide (s = t)
  | .nil, .nil => rfl
  | .nil, .nd _ _ _ => rfl
  | .nd _ _ _, .nil => rfl
  | .nd l k r, .nd l' k' r' => by
    simp only [td, PyData.eqv, PyData.eqvAll, td_eqv l l', td_eqv r r']
    by_cases h1 : l = l' <;> by_cases h2 : k = k' <;> by_cases h3 : r = r' <;> simp [h1, h2, h3]
end Tr
theorem mapO_map {α β γ : Type} (f : β → Option γ) (g : α → β) (k : α → γ) (h : ∀ x, f (g x) = some (k x)) : ∀ xs : List α, mapO f (xs.map g) = some (xs.map k)
  | [] => rfl
  | x :: xs => by simp only [List.map_cons, mapO, h, mapO_map f g k h xs]
theorem lay_map {α : Type} (k : α → PyData) (xs : List α) (h : ∀ x ∈ xs, (k x).canLay0 = true) : PyData.canLayAll0 (xs.map k) = true := by
  induction xs with
  | nil => rfl
  | cons x xs ih => simp only [List.map_cons, PyData.canLayAll0, h x List.mem_cons_self, ih (fun y hy => h y (List.mem_cons_of_mem _ hy)), Bool.and_self]
theorem depth_map {α : Type} (k : α → PyData) (n : Nat) (xs : List α) (h : ∀ x ∈ xs, (k x).depth ≤ n) : PyData.depthAll (xs.map k) ≤ n := by
  induction xs with
  | nil => exact Nat.zero_le _
  | cons x xs ih =>
    have h1 := h x List.mem_cons_self
    have h2 := ih fun y hy => h y (List.mem_cons_of_mem _ hy)
    simp only [List.map_cons, PyData.depthAll]; omega
/-- a live list of data against [] -/
theorem w_neT0 {h : Hq} {Q : QV} {a : Addr} {α : Type} {g : α → Val} {k : α → PyData} {xs : List α} (e : h a = some (.lst (xs.map g))) (hd : ∀ x, dt1 h (g x) = some (k x)) (hl : ∀ x ∈ xs, (k x).canLay0 = true ∧ (k x).depth ≤ 63) :
    prW (cmpR .ne (.ref a) (.fl []) h) Q = Q (.bl (!decide (xs = []))) h := by
  have d1 : dt h (.ref a) = some (.list (xs.map k)) := by simp only [dt, e, mapO_map _ _ _ hd, Option.map_some]
  have s1 : SeqAt.shaped (.list (xs.map k)) = true := by
    have h1 := lay_map k xs fun x hx => (hl x hx).1
    have h2 := depth_map k 63 xs fun x hx => (hl x hx).2
    simp [SeqAt.shaped, PyData.canLay0, PyData.depth, h1]; omega
  have s2 : SeqAt.shaped (.list []) = true := rfl
  have e2 : PyData.eqv (.list (xs.map k)) (.list []) = decide (xs = []) := by cases xs <;> simp [PyData.eqv, PyData.eqvAll]
  simp only [cmpR, eqR, d1, dt_nil, prW, optW_some, Out.w, s1, s2, e2, and_self, true_and, if_true]
theorem sortI_up' (ns : List Int) : (sortI ns).Pairwise (· ≤ ·) := by
  have := List.pairwise_mergeSort (le := fun (a b : Int) => decide (a ≤ b)) (fun a b c h1 h2 => by simp at *; omega) (fun a b => by simp; omega) ns
  exact this.imp (fun h => by simpa using h)
theorem sortI_is {as bs : List Int} (p : as.Perm bs) (h : Tr.Up bs) : sortI as = bs := Tr.uniq ((List.mergeSort_perm _ _).trans p) (sortI_up' as) h
end L3

set_option Elab.async false
set_option linter.all false
set_option maxRecDepth 100000
/-! L5: data of plain kinds, their values, their comparisons. -/
namespace L3
open PySem PySem.Spec PyProof.Rows L2
open PySem.W (alike dataLt AllAlike Sortable dataLe)
/-- a kind of data: its values -/
class Enc (α : Type) where
  val : α → Val
  dat : α → PyData
  pdv : ∀ a, pd (val a) = some (dat a)
  lay : ∀ a, (dat a).canLay0 = true
  dep : ∀ a, (dat a).depth ≤ 20
  eqv : ∀ a b, PyData.eqv (dat a) (dat b) = true ↔ a = b
abbrev ev {α : Type} [Enc α] : α → Val := Enc.val
instance : Enc (Int × Int) where
  val m := .tup [.int m.1, .int m.2]
  dat m := .tuple [.int m.1, .int m.2]
  pdv m := by simp [pd, pds]
  lay m := by simp [PyData.canLay0, PyData.canLayAll0]
  dep m := by simp [PyData.depth, PyData.depthAll]
  eqv a b := by simp [PyData.eqv, PyData.eqvAll, Prod.ext_iff]
instance : Enc (Int × Int × Int) where
  val m := .tup [.int m.1, .int m.2.1, .int m.2.2]
  dat m := .tuple [.int m.1, .int m.2.1, .int m.2.2]
  pdv m := by simp [pd, pds]
  lay m := by simp [PyData.canLay0, PyData.canLayAll0]
  dep m := by simp [PyData.depth, PyData.depthAll]
  eqv a b := by simp [PyData.eqv, PyData.eqvAll, Prod.ext_iff]
instance : Enc (List Int) where
  val m := .fl (m.map .int)
  dat m := .list (m.map .int)
  pdv m := by simp [pd, pds_ints]
  lay m := by simp [PyData.canLay0, canLay_ints]
  dep m := by simp [PyData.depth, depth_ints]
  eqv a b := by rw [eqv_ints]; simp
def Tr.top : Tr → Int
  | .nil => 0
  | .nd _ k _ => k
theorem tv_ne {t : Tr} (h : t ≠ .nil) : ∃ l k r, t = .nd l k r := by
  cases t with
  | nil => exact absurd rfl h
  | nd l k r => exact ⟨_, _, _, rfl⟩
theorem dt1_tv (h : Hq) (t : Tr) : dt1 h t.tv = some t.td := by
  have := Tr.pd_tv t
  unfold dt1
  split
  · rename_i e; rw [e] at this; cases this
  · exact this
theorem map_int {α : Type} (xs : List α) (f : α → Int) : xs.map (fun a => Val.int (f a)) = (xs.map f).map Val.int := by rw [List.map_map]; rfl
theorem map_ev {α β : Type} [Enc β] (xs : List α) (f : α → β) : xs.map (fun a => (Enc.val (f a) : Val)) = (xs.map f).map Enc.val := by rw [List.map_map]; rfl
theorem range_at {n : Nat} {pre post : List Nat} {y : Nat} (e : List.range n = pre ++ y :: post) : y = pre.length := by
  have h1 : (List.range n)[pre.length]? = some y := by rw [e]; simp
  have h2 : pre.length < n := by
    have := congrArg List.length e
    simp only [List.length_range, List.length_append, List.length_cons] at this
    omega
  rw [List.getElem?_range h2] at h1
  exact (Option.some.inj h1).symm
/-- a walk over two things -/
theorem for_two {i : Nat} {b : WS} {keep : Hq → Prop} {D : Dn} {x y : Val} {ρ : Env3} {h : Hq} (h0 : keep h)
    (w : b { D with nx := fun ρ1 h1 => keep h1 ∧ b { D with nx := fun ρ2 h2 => keep h2 ∧ D.nx ρ2 h2 } (ρ1.set i (some y)) h1 } (ρ.set i (some x)) h) : forW (.name i) b keep D [x, y] ρ h := ⟨h0, w⟩
theorem ev2 (m : Int × Int) : (Enc.val m : Val) = .tup [.int m.1, .int m.2] := rfl
theorem ev3 (m : Int × Int × Int) : (Enc.val m : Val) = .tup [.int m.1, .int m.2.1, .int m.2.2] := rfl
section
variable {α : Type} [Enc α]
theorem pds_ev : ∀ xs : List α, pds (xs.map Enc.val) = some (xs.map Enc.dat)
  | [] => rfl
  | x :: xs => by rw [List.map_cons, pds, pds_ev xs, Enc.pdv]; rfl
theorem dt_ev (h : Hq) (xs : List α) : dt h (.fl (xs.map Enc.val)) = some (.list (xs.map Enc.dat)) := by simp [dt, pd, pds_ev]
theorem dt1_val (h : Hq) (x : α) : dt1 h (Enc.val x) = some (Enc.dat x) := by
  have := Enc.pdv x
  unfold dt1
  split
  · rename_i e; rw [e] at this; cases this
  · exact this
theorem dt_val (h : Hq) (x : α) : dt h (Enc.val x) = some (Enc.dat x) := by
  have := Enc.pdv x
  unfold dt
  split
  · rename_i e; rw [e] at this; cases this
  · exact this
theorem dt_refE {h : Hq} {a : Addr} {xs : List α} (e : h a = some (.lst (xs.map Enc.val))) : dt h (.ref a) = some (.list (xs.map Enc.dat)) := by
  have : mapO (dt1 h) (xs.map Enc.val) = some (xs.map Enc.dat) := mapO_map (dt1 h) Enc.val Enc.dat (dt1_val h) xs
  simp only [dt, e, this, Option.map_some]
theorem shaped_ev (xs : List α) : SeqAt.shaped (.list (xs.map (Enc.dat : α → PyData))) = true := by
  have h1 := lay_map (Enc.dat : α → PyData) xs fun x _ => Enc.lay x
  have h2 := depth_map (Enc.dat : α → PyData) 20 xs fun x _ => Enc.dep x
  simp [SeqAt.shaped, PyData.canLay0, PyData.depth, h1]; omega
theorem shaped_one (x : α) : SeqAt.shaped (Enc.dat x) = true := by
  have h1 := Enc.lay x
  have h2 := Enc.dep x
  simp [SeqAt.shaped, h1]; omega
theorem eqvAll_ev [DecidableEq α] : ∀ xs ys : List α, PyData.eqvAll (xs.map Enc.dat) (ys.map Enc.dat) = decide (xs = ys)
  | [], [] => by simp [PyData.eqvAll]
  | [], _ :: _ => by simp [PyData.eqvAll]
  | _ :: _, [] => by simp [PyData.eqvAll]
  | x :: xs, y :: ys => by
    have h1 := Enc.eqv x y
    have h2 := eqvAll_ev xs ys
    rw [List.map_cons, List.map_cons, PyData.eqvAll, h2]
    by_cases e : x = y
    · simp [e, (Enc.eqv y y).mpr rfl]
    · have : PyData.eqv (Enc.dat x) (Enc.dat y) = false := by
        cases q : PyData.eqv (Enc.dat x) (Enc.dat y) with
        | false => rfl
        | true => exact absurd (h1.mp q) e
      simp [e, this]
theorem eqv_ev [DecidableEq α] (xs ys : List α) : PyData.eqv (.list (xs.map Enc.dat)) (.list (ys.map Enc.dat)) = decide (xs = ys) := by rw [PyData.eqv, eqvAll_ev]
theorem any_ev [DecidableEq α] (x : α) : ∀ xs : List α, ((xs.map Enc.dat).any fun z => PyData.eqv z (Enc.dat x)) = decide (x ∈ xs)
  | [] => by simp
  | y :: ys => by
    rw [List.map_cons, List.any_cons, any_ev x ys]
    by_cases e : y = x
    · simp [e, (Enc.eqv x x).mpr rfl]
    · have : PyData.eqv (Enc.dat y) (Enc.dat x) = false := by
        cases q : PyData.eqv (Enc.dat y) (Enc.dat x) with
        | false => rfl
        | true => exact absurd ((Enc.eqv y x).mp q) e
      have e' : ¬ x = y := fun z => e z.symm
      simp [e', this]
variable [DecidableEq α] {h : Hq} {Q : QV} {fz : Bool} {a : Addr} {xs ys : List α}
theorem w_eqEE : prW (cmpR .eq (.fl (xs.map Enc.val)) (.fl (ys.map Enc.val)) h) Q = Q (.bl (decide (xs = ys))) h := by
  simp only [cmpR, eqR, dt_ev, prW, optW_some, Out.w, shaped_ev, eqv_ev, and_self, t_and, Bool.false_eq_true, if_false]
theorem w_neEE : prW (cmpR .ne (.fl (xs.map Enc.val)) (.fl (ys.map Enc.val)) h) Q = Q (.bl (!decide (xs = ys))) h := by
  simp only [cmpR, eqR, dt_ev, prW, optW_some, Out.w, shaped_ev, eqv_ev, and_self, t_and, if_true]
theorem w_eqE0 : prW (cmpR .eq (.fl (xs.map Enc.val)) (.fl []) h) Q = Q (.bl (decide (xs = []))) h := w_eqEE (ys := [])
theorem w_neE0 : prW (cmpR .ne (.fl (xs.map Enc.val)) (.fl []) h) Q = Q (.bl (!decide (xs = []))) h := w_neEE (ys := [])
theorem w_eqRE (e : h a = some (.lst (xs.map Enc.val))) : prW (cmpR .eq (.ref a) (.fl (ys.map Enc.val)) h) Q = Q (.bl (decide (xs = ys))) h := by
  simp only [cmpR, eqR, dt_ev, dt_refE e, prW, optW_some, Out.w, shaped_ev, eqv_ev, and_self, t_and, Bool.false_eq_true, if_false]
theorem w_neRE (e : h a = some (.lst (xs.map Enc.val))) : prW (cmpR .ne (.ref a) (.fl (ys.map Enc.val)) h) Q = Q (.bl (!decide (xs = ys))) h := by
  simp only [cmpR, eqR, dt_ev, dt_refE e, prW, optW_some, Out.w, shaped_ev, eqv_ev, and_self, t_and, if_true]
theorem w_inE {x : α} (hf : flt (Enc.val x) = false) : prW (cmpR .isin (Enc.val x) (.fl (xs.map Enc.val)) h) Q = Q (.bl (decide (x ∈ xs))) h := by
  simp only [cmpR, inR, dr, sq, ls, lv, hf, Bool.false_and, Bool.false_eq_true, if_false, dt_ev, dt_val, prW, optW_some, Out.w, shaped_ev, shaped_one, any_ev, and_self, t_and]
theorem w_notinE {x : α} (hf : flt (Enc.val x) = false) : prW (cmpR .notin (Enc.val x) (.fl (xs.map Enc.val)) h) Q = Q (.bl (!decide (x ∈ xs))) h := by
  simp only [cmpR, inR, dr, sq, ls, lv, hf, Bool.false_and, Bool.false_eq_true, if_false, dt_ev, dt_val, prW, optW_some, Out.w, shaped_ev, shaped_one, any_ev, and_self, t_and, if_true]
end
section
variable {h : Hq} {Q : QV} {fz : Bool} {a : Addr} {ns : List Int}
theorem w_maxF : prW (bltR .max fz [.fl (ns.map .int)] h) Q = (ns ≠ [] ∧ Q (.int (maxL ns)) h) := by
  simp only [bltR, ls, lv, Option.bind_some, mapO_int, prW, optW_some, Out.w]
theorem w_minF : prW (bltR .min fz [.fl (ns.map .int)] h) Q = (ns ≠ [] ∧ Q (.int (minL ns)) h) := by
  simp only [bltR, ls, lv, Option.bind_some, mapO_int, Option.map_some, prW, optW_some, Out.w]
theorem mapO_bls : ∀ bs : List Bool, mapO blOf (bs.map Val.bl) = some bs
  | [] => rfl
  | b :: bs => by simp only [List.map_cons, mapO, blOf, mapO_bls bs]
theorem w_allF {bs : List Bool} : prW (bltR .all fz [.fl (bs.map .bl)] h) Q = Q (.bl (bs.all id)) h := by
  simp only [bltR, ls, lv, Option.bind_some, mapO_bls, Option.map_some, prW, optW_some, Out.w, t_and]
theorem w_anyF {bs : List Bool} : prW (bltR .any fz [.fl (bs.map .bl)] h) Q = Q (.bl (bs.any id)) h := by
  simp only [bltR, ls, lv, Option.bind_some, mapO_bls, Option.map_some, prW, optW_some, Out.w, t_and]
theorem mapO_tups (L : List (Int × Int)) : mapO tupI (L.map Enc.val) = some (L.map fun m => [m.1, m.2]) := mapO_map tupI _ _ (fun m => rfl) L
theorem mapO_intO_tup (m : Int × Int) (L : List (Int × Int)) : mapO intOf ((m :: L).map Enc.val) = none := rfl
end
/-! ### sorted, greatest of pairs -/
def leP (p q : Int × Int) : Bool := decide (p.1 < q.1 ∨ (p.1 = q.1 ∧ p.2 ≤ q.2))
def sortP (L : List (Int × Int)) : List (Int × Int) := L.mergeSort leP
theorem sortP_perm (L : List (Int × Int)) : (sortP L).Perm L := List.mergeSort_perm _ _
theorem sortP_up (L : List (Int × Int)) : (sortP L).Pairwise fun a b => leP a b = true :=
  List.pairwise_mergeSort (le := leP) (fun a b c h1 h2 => by simp only [leP, decide_eq_true_eq] at *; omega) (fun a b => by simp only [leP, Bool.or_eq_true, decide_eq_true_eq]; omega) L
theorem leP_anti {a b : Int × Int} (h1 : leP a b = true) (h2 : leP b a = true) : a = b := by
  simp only [leP, decide_eq_true_eq] at h1 h2
  exact Prod.ext (by omega) (by omega)
theorem sortP_uniq {L M : List (Int × Int)} (p : L.Perm M) (h : M.Pairwise fun a b => leP a b = true) : sortP L = M :=
  List.Perm.eq_of_pairwise (le := fun a b => leP a b = true) (fun a b _ _ h1 h2 => leP_anti h1 h2) (sortP_up L) h ((sortP_perm L).trans p)
theorem sortP_eq {L M : List (Int × Int)} (p : L.Perm M) : sortP L = sortP M := sortP_uniq (p.trans (sortP_perm M).symm) (sortP_up M)
theorem mapO_dt1 {α : Type} [Enc α] (h : Hq) (xs : List α) : mapO (dt1 h) (xs.map Enc.val) = some (xs.map Enc.dat) := mapO_map (dt1 h) Enc.val Enc.dat (dt1_val h) xs
theorem dtD_val {α : Type} [Enc α] (h : Hq) (x : α) : dtD h (Enc.val x) = Enc.dat x := by unfold dtD; rw [dt1_val]; rfl
theorem ordL_P {fz : Bool} {h : Hq} {Q : QV} (L : List (Int × Int)) : prW (ordL fz (L.map Enc.val) h) Q = alc fz ((sortP L).map Enc.val) h Q := by
  have c1 : AllAlike (L.map (Enc.dat : Int × Int → PyData)) := PySem.W.AllAlike.of fun b b' => by simp [Enc.dat, alike, PySem.W.alikeAll]
  have c2 : Sortable (L.map (Enc.dat : Int × Int → PyData)) := PySem.W.Sortable.tuples fun b => ⟨_, _, rfl⟩
  have c3 : shp (L.map (Enc.dat : Int × Int → PyData)) := fun d hd => by
    obtain ⟨x, _, rfl⟩ := List.mem_map.mp hd
    exact shaped_one x
  have e : (L.map Enc.val).mergeSort (dataLe false (dtD h)) = (sortP L).map Enc.val := by
    unfold sortP
    rw [List.map_mergeSort]
    intro a _ b _
    have := congrFun (congrFun (PySem.W.dataLe_ii (β := Int × Int) (·.1) (·.2)) a) b
    rw [PySem.W.dataLe_eq] at this ⊢
    show leP a b = (bif false then !dataLt (dtD h (Enc.val a)) (dtD h (Enc.val b)) else !dataLt (dtD h (Enc.val b)) (dtD h (Enc.val a)))
    rw [dtD_val, dtD_val]
    exact this.symm
  simp only [ordL, mapO_dt1, Option.map_some, prW, optW_some, Out.w, c1, c2, c3, and_self, t_and, e]
theorem w_sortPF {fz : Bool} {h : Hq} {Q : QV} {L : List (Int × Int)} : prW (bltR .sorted fz [.fl (L.map Enc.val)] h) Q = alc fz ((sortP L).map Enc.val) h Q := by
  cases L with
  | nil => simp only [bltR, ls, lv, Option.bind_some, List.map_nil, mapO, sortP, sortI, List.mergeSort_nil, prW, optW_some, Out.w, t_and]
  | cons m L =>
    simp only [bltR, ls, lv, Option.bind_some, mapO_intO_tup]
    exact ordL_P (m :: L)
theorem w_sortPR {fz : Bool} {h : Hq} {Q : QV} {a : Addr} {L : List (Int × Int)} (e : h a = some (.lst (L.map Enc.val))) : prW (bltR .sorted fz [.ref a] h) Q = alc fz ((sortP L).map Enc.val) h Q := by
  cases L with
  | nil => simp only [bltR, ls, lv, e, Option.bind_some, List.map_nil, mapO, sortP, sortI, List.mergeSort_nil, prW, optW_some, Out.w, t_and]
  | cons m L =>
    simp only [bltR, ls, lv, e, Option.bind_some, mapO_intO_tup]
    exact ordL_P (m :: L)
theorem maxL_drop (m x : Int) (r : List Int) (h : x ≤ m) : max m (maxL (x :: r)) = maxL (m :: r) := by
  cases r with
  | nil => simp only [maxL]; omega
  | cons y r =>
    show max m (max x (maxL (y :: r))) = max m (maxL (y :: r))
    omega
theorem maxL_le (x : Int) (r : List Int) : x ≤ maxL (x :: r) := by
  cases r with
  | nil => exact Int.le_refl _
  | cons y r => exact Int.le_max_left _ _
theorem bestL_fst : ∀ (L : List (Int × Int)) (m : Int × Int), ∃ b, bestL [m.1, m.2] (L.map fun m => [m.1, m.2]) = [maxL (m.1 :: L.map (·.1)), b]
  | [], m => ⟨m.2, rfl⟩
  | x :: L, m => by
    unfold bestL
    rw [List.map_cons, List.foldl_cons]
    by_cases c : [m.1, m.2] < [x.1, x.2]
    · rw [if_pos c]
      obtain ⟨b, e⟩ := bestL_fst L x
      refine ⟨b, ?_⟩
      have e' : List.foldl (fun a y => if a < y then y else a) [x.1, x.2] (L.map fun m => [m.1, m.2]) = [maxL (x.1 :: L.map (·.1)), b] := e
      rw [e', List.map_cons]
      have h1 := maxL_le x.1 (L.map (·.1))
      have h2 : m.1 ≤ x.1 := by
        rw [List.cons_lt_cons_iff] at c
        omega
      show [maxL (x.1 :: L.map (·.1)), b] = [max m.1 (maxL (x.1 :: L.map (·.1))), b]
      rw [Int.max_eq_right (by omega)]
    · rw [if_neg c]
      obtain ⟨b, e⟩ := bestL_fst L m
      refine ⟨b, ?_⟩
      have e' : List.foldl (fun a y => if a < y then y else a) [m.1, m.2] (L.map fun m => [m.1, m.2]) = [maxL (m.1 :: L.map (·.1)), b] := e
      rw [e', List.map_cons]
      show [maxL (m.1 :: L.map (·.1)), b] = [max m.1 (maxL (x.1 :: L.map (·.1))), b]
      rw [maxL_drop]
      rw [List.cons_lt_cons_iff] at c
      omega
theorem w_maxP {L : List (Int × Int)} (hL : L ≠ []) : ∃ b : Int, ∀ (fz : Bool) (h : Hq) (Q : QV), prW (bltR .max fz [.fl (L.map Enc.val)] h) Q = Q (.tup [.int (maxL (L.map (·.1))), .int b]) h := by
  cases L with
  | nil => exact absurd rfl hL
  | cons m L =>
    obtain ⟨b, e⟩ := bestL_fst L m
    refine ⟨b, fun fz h Q => ?_⟩
    simp only [bltR, ls, lv, Option.bind_some, mapO_intO_tup, mxD, mapO_tups]
    show prW (some (True, Out.v (.tup ((bestL [m.1, m.2] (L.map fun m => [m.1, m.2])).map .int)) h)) Q = _
    rw [e]
    exact t_and _
/-! ### comprehensions, once more -/
section
variable {F : Fs} {n : Nat} {β : Type} {fz : Bool} {elt cond : Ex} {tg : Tg} {keep : Hq → Prop} {ρw : Env3} {h : Hq} {Q : QV}
/-- [e for y in ys] -/
theorem comp_map (φ : β → Val) (ys : List β) (f : β → Val) (hl : ys.length < 1000000)
    (hs : ∀ p acc, h p = none → keep (up h p (.lst acc)) ∧ ∀ y ∈ ys, ∃ ρ1, bindT tg (φ y) ρw = some ρ1 ∧ ∀ K : QV, K (f y) (up h p (.lst acc)) → wpE (CN F n) elt ρ1 (up h p (.lst acc)) K fun _ _ => False)
    (hq : alc fz (ys.map f) h Q) : ∀ p, h p = none → compW tg (fun ρ1 h2 K => wpT (CN F n) .nop ρ1 h2 K fun _ _ => False) (fun ρ1 h2 K => wpE (CN F n) elt ρ1 h2 K fun _ _ => False) keep p (compFin fz p Q) ρw (ys.map φ) (up h p (.lst [])) := by
  refine comp_ok (fun ρ h Q Q' k w => moT F n .nop ρ h Q Q' (fun _ _ => False) k w) (fun ρ h Q Q' k w => moE F n elt ρ h Q Q' (fun _ _ => False) k w) φ ys (fun y => some (f y)) hl (fun p acc hp => ⟨(hs p acc hp).1, fun y hy => ?_⟩) (by rw [filterMap_one]; exact hq)
  obtain ⟨ρ1, e, w⟩ := (hs p acc hp).2 y hy
  exact ⟨ρ1, e, fun K q => w (fun v h2 => K (some v) h2) q⟩
/-- .. as the walk leaves it -/
theorem comp_map' (φ : β → Val) (ys : List β) (f : β → Val) (hl : ys.length < 1000000)
    (hs : ∀ p acc, h p = none → keep (up h p (.lst acc)) ∧ ∀ y ∈ ys, ∃ ρ1, bindT tg (φ y) ρw = some ρ1 ∧ ∀ K : QV, K (f y) (up h p (.lst acc)) → wpE (CN F n) elt ρ1 (up h p (.lst acc)) K fun _ _ => False)
    (hq : alc fz (ys.map f) h Q) : ∀ p, h p = none → compW tg (fun ρ1 h2 K => K true h2) (fun ρ1 h2 K => wpE (CN F n) elt ρ1 h2 K fun _ _ => False) keep p (compFin fz p Q) ρw (ys.map φ) (up h p (.lst [])) :=
  comp_map φ ys f hl hs hq
/-- [e for y in ys if c] -/
theorem comp_filter (φ : β → Val) (ys : List β) (c : β → Bool) (f : β → Val) (hl : ys.length < 1000000)
    (hs : ∀ p acc, h p = none → keep (up h p (.lst acc)) ∧ ∀ y ∈ ys, ∃ ρ1, bindT tg (φ y) ρw = some ρ1 ∧ (∀ K : Bool → Hq → Prop, K (c y) (up h p (.lst acc)) → wpT (CN F n) cond ρ1 (up h p (.lst acc)) K fun _ _ => False) ∧
      (c y = true → ∀ K : QV, K (f y) (up h p (.lst acc)) → wpE (CN F n) elt ρ1 (up h p (.lst acc)) K fun _ _ => False))
    (hq : alc fz ((ys.filter c).map f) h Q) : ∀ p, h p = none → compW tg (fun ρ1 h2 K => wpT (CN F n) cond ρ1 h2 K fun _ _ => False) (fun ρ1 h2 K => wpE (CN F n) elt ρ1 h2 K fun _ _ => False) keep p (compFin fz p Q) ρw (ys.map φ) (up h p (.lst [])) := by
  refine comp_ok (fun ρ h Q Q' k w => moT F n cond ρ h Q Q' (fun _ _ => False) k w) (fun ρ h Q Q' k w => moE F n elt ρ h Q Q' (fun _ _ => False) k w) φ ys (fun y => if c y = true then some (f y) else none) hl (fun p acc hp => ⟨(hs p acc hp).1, fun y hy => ?_⟩) ?_
  · obtain ⟨ρ1, e, w1, w2⟩ := (hs p acc hp).2 y hy
    refine ⟨ρ1, e, fun K q => w1 _ ?_⟩
    cases hc : c y with
    | true =>
      rw [hc] at q
      simp only [if_true] at q ⊢
      exact w2 hc (fun v h2 => K (some v) h2) q
    | false =>
      rw [hc] at q
      simp only [Bool.false_eq_true, if_false] at q ⊢
      exact q
  · rw [filterMap_if (fun y => c y = true)]
    simpa using hq
end
/-- a cut of a list of any kind -/
def cutG {α : Type} (xs : List α) (lo hi : Option Int) : List α := (xs.drop (HT.sIx xs.length 0 lo)).take (HT.sIx xs.length xs.length hi - HT.sIx xs.length 0 lo)
theorem cutG_map {α : Type} (f : α → Val) (xs : List α) (lo hi : Option Int) : cutL (xs.map f) lo hi = (cutG xs lo hi).map f := by
  unfold cutL cutG
  rw [List.length_map, ← List.map_drop, ← List.map_take]
theorem cutG_len {α : Type} (xs : List α) (lo hi : Option Int) : (cutG xs lo hi).length ≤ xs.length := by
  unfold cutG
  rw [List.length_take, List.length_drop]; omega
theorem cutG_mem {α : Type} {xs : List α} {lo hi : Option Int} {x : α} (h : x ∈ cutG xs lo hi) : x ∈ xs := List.mem_of_mem_drop (List.mem_of_mem_take h)
theorem w_slcFm {α : Type} {f : α → Val} {fz : Bool} {xs : List α} {lo hi : Option Int} {h : Hq} {Q : QV} : prW (slcR fz (.fl (xs.map f)) lo hi h) Q = alc fz ((cutG xs lo hi).map f) h Q := by
  rw [w_slcF, cutG_map]
theorem cutG_to {α : Type} {xs : List α} {k : Nat} (hk : k ≤ xs.length) : cutG xs none (some (k : Int)) = xs.take k := by
  unfold cutG
  rw [HT.sIx_nat, HT.sIx_none, Nat.min_eq_left hk, List.drop_zero, Nat.sub_zero]
theorem cutG_from {α : Type} {xs : List α} {k : Nat} (hk : k ≤ xs.length) : cutG xs (some (k : Int)) none = xs.drop k := by
  unfold cutG
  rw [HT.sIx_nat, HT.sIx_none, Nat.min_eq_left hk, List.take_of_length_le (by rw [List.length_drop]; exact Nat.le_refl _)]
/-! ### dicts -/
theorem dg_dp (kvs : KVs) (k j : Key) (v : Val) : dg (dp kvs k v) j = if j = k then some v else dg kvs j := by
  unfold dp
  split
  · rename_i h
    induction kvs with
    | nil => simp at h
    | cons p r ih =>
      obtain ⟨i, w⟩ := p
      by_cases e : i = k
      · subst e
        by_cases e2 : j = i
        · subst e2; simp [dg]
        · have e3 : ¬ i = j := fun z => e2 z.symm
          simp only [dg, List.map_cons, if_pos, List.find?_cons, e3, decide_false, if_neg e2]
          congr 1
          clear h ih
          induction r with
          | nil => rfl
          | cons q r ih2 =>
            obtain ⟨i2, w2⟩ := q
            by_cases e4 : i2 = i
            · subst e4; simp [List.find?_cons, e3, ih2]
            · by_cases e5 : i2 = j
              · subst e5; simp [List.find?_cons, e4]
              · simp [List.find?_cons, e4, e5, ih2]
      · have h' : r.any (fun kv => decide (kv.1 = k)) = true := by simpa [e] using h
        by_cases e2 : i = j
        · subst e2
          simp [dg, e]
        · have := ih h'
          simp only [dg, List.map_cons, if_neg e, List.find?_cons, e2, decide_false] at this ⊢
          exact this
  · rename_i h
    by_cases e : j = k
    · subst e
      have : kvs.find? (fun kv => decide (kv.1 = j)) = none := by
        rw [List.find?_eq_none]
        intro x hx
        simp only [List.any_eq_true, not_exists, not_and] at h
        exact h x hx
      simp [dg, List.find?_append, this]
    · have e' : ¬ k = j := fun z => e z.symm
      simp [dg, List.find?_append, e, e', List.find?_cons]
theorem dp_len (kvs : KVs) (k : Key) (v : Val) : (dp kvs k v).length ≤ kvs.length + 1 := by
  unfold dp
  split
  · rw [List.length_map]; omega
  · rw [List.length_append]; exact Nat.le_refl _
theorem dp_nodup (kvs : KVs) (k : Key) (v : Val) (h : (kvs.map (·.1)).Nodup) : ((dp kvs k v).map (·.1)).Nodup := by
  unfold dp
  split
  · rw [List.map_map]
    have : ((fun x : Key × Val => x.1) ∘ fun kv : Key × Val => if kv.1 = k then (kv.1, v) else kv) = (·.1) := by
      funext kv; simp only [Function.comp]; split <;> rfl
    rw [this]; exact h
  · rename_i c
    rw [List.map_append, List.nodup_append]
    refine ⟨h, by simp, fun a ha b hb => ?_⟩
    obtain ⟨q, hq, rfl⟩ := List.mem_map.mp ha
    simp only [List.map_cons, List.map_nil, List.mem_singleton] at hb
    subst hb
    intro z
    exact c (List.any_eq_true.mpr ⟨q, hq, decide_eq_true z⟩)
theorem dmerge_ok : ∀ (more kvs : KVs), (more.map (·.1)).Nodup → (kvs.map (·.1)).Nodup → (∀ j, dg (dmerge kvs more) j = (dg more j).or (dg kvs j)) ∧ ((dmerge kvs more).map (·.1)).Nodup ∧ (dmerge kvs more).length ≤ kvs.length + more.length
  | [], kvs, _, h => ⟨fun j => by simp [dmerge, dg], h, by simp [dmerge]⟩
  | (k, v) :: r, kvs, hm, h => by
    rw [List.map_cons, List.nodup_cons] at hm
    obtain ⟨i1, i2, i3⟩ := dmerge_ok r (dp kvs k v) hm.2 (dp_nodup kvs k v h)
    have hl := dp_len kvs k v
    refine ⟨fun j => ?_, i2, ?_⟩
    · show dg (dmerge (dp kvs k v) r) j = _
      rw [i1, dg_dp]
      by_cases e : j = k
      · subst e
        have : dg r j = none := by
          unfold dg
          rw [List.find?_eq_none.mpr fun x hx => by
            intro z
            exact hm.1 (List.mem_map.mpr ⟨x, hx, of_decide_eq_true z⟩)]
          rfl
        rw [this, if_pos rfl]
        simp [dg]
      · have e' : ¬ k = j := fun z => e z.symm
        rw [if_neg e]
        simp [dg, List.find?_cons, e']
    · show (dmerge (dp kvs k v) r).length ≤ _
      rw [List.length_cons]
      omega
theorem w_dictPF {fz : Bool} {T : List (Int × Int × Int)} {h : Hq} {Q : QV} : prW (o1R .dictP fz (.fl (T.map fun r => Val.tup [.int r.1, Enc.val r.2])) h) Q = (T.length ≤ 1000000 ∧ alcD fz (dmerge [] (T.map fun r => (Sum.inl r.1, Enc.val r.2))) h Q) := by
  have : mapO pairOf (T.map fun r => Val.tup [.int r.1, Enc.val r.2]) = some (T.map fun r => (Sum.inl r.1, Enc.val r.2)) := mapO_map pairOf _ _ (fun r => rfl) T
  simp only [o1R, ls, lv, this, Option.map_some, prW, optW_some, Out.w, List.length_map]
theorem ordR_P {f : PyData → PyData → Bool} {a b : Int × Int} {h : Hq} {Q : QV} : prW (ordR f (Enc.val a) (Enc.val b) h) Q = Q (.bl (f (Enc.dat a) (Enc.dat b))) h := by
  have h1 : alike (Enc.dat a : PyData) (Enc.dat b) = true := by simp [Enc.dat, alike, PySem.W.alikeAll]
  have h2 : (Enc.dat a : PyData) ≠ .none := by intro z; cases z
  simp only [ordR, dt_val, prW, optW_some, Out.w, h1, shaped_one, and_self, true_and, ne_eq, h2, not_false_eq_true]
theorem dLt_P (a b : Int × Int) : dataLt (Enc.dat a) (Enc.dat b) = !leP b a := by
  have := congrFun (congrFun (PySem.W.dataLe_ii (β := Int × Int) (·.1) (·.2)) b) a
  rw [PySem.W.dataLe_eq] at this
  have e : (!dataLt (Enc.dat a) (Enc.dat b)) = leP b a := this
  rw [← e, Bool.not_not]
theorem w_gtP {a b : Int × Int} {h : Hq} {Q : QV} : prW (cmpR .gt (Enc.val a) (Enc.val b) h) Q = Q (.bl (!leP a b)) h := by
  show prW (ordR (fun d e => dataLt e d) (Enc.val a) (Enc.val b) h) Q = _
  rw [ordR_P, dLt_P]
theorem w_leP {a b : Int × Int} {h : Hq} {Q : QV} : prW (cmpR .le (Enc.val a) (Enc.val b) h) Q = Q (.bl (leP a b)) h := by
  show prW (ordR (fun d e => !dataLt e d) (Enc.val a) (Enc.val b) h) Q = _
  rw [ordR_P, dLt_P, Bool.not_not]
theorem eqv_bl (a b : Bool) : PyData.eqv (.bool a) (.bool b) = decide (a = b) := by cases a <;> cases b <;> rfl
theorem w_eqB {a b : Bool} {h : Hq} {Q : QV} : prW (cmpR .eq (.bl a) (.bl b) h) Q = Q (.bl (decide (a = b))) h := by
  have s1 : SeqAt.shaped (.bool a) = true := rfl
  have s2 : SeqAt.shaped (.bool b) = true := rfl
  simp only [cmpR, eqR, dt, pd, prW, optW_some, Out.w, s1, s2, eqv_bl, and_self, t_and, Bool.false_eq_true, if_false]
theorem w_neB {a b : Bool} {h : Hq} {Q : QV} : prW (cmpR .ne (.bl a) (.bl b) h) Q = Q (.bl (!decide (a = b))) h := by
  have s1 : SeqAt.shaped (.bool a) = true := rfl
  have s2 : SeqAt.shaped (.bool b) = true := rfl
  simp only [cmpR, eqR, dt, pd, prW, optW_some, Out.w, s1, s2, eqv_bl, and_self, t_and, if_true]
end L3

set_option Elab.async false
set_option linter.all false
set_option maxRecDepth 100000
namespace L3
open PySem PySem.Spec PyProof.Rows L2
local macro_rules | `(tactic| walk_at "d") => `(tactic| first | assumption | exact up_same | exact dr_fd _ _ | exact dr_wd _ _ | exact dr_ref (by assumption) | exact dr_ref up_same | exact keyOf_int | (exact (rfl : isNop _ = false)) | exact keyOf_str | exact tyOf_fl | exact tyOf_int | exact tyOf_tup | exact tyOf_bl | exact tyOf_ref (by assumption) | exact tyOf_ref up_same | (intro z; cases z))
local macro_rules | `(tactic| walk_at "w") => `(tactic| try simp -implicitDefEqProofs (disch := walk_at "d") only [↓wpE, ↓wpA, ↓wpB, ↓wpT, ↓wpTs, ↓wpI, ↓wpS, ↓wpSs, ↓optW_some, ↓w_lk0, ↓w_lkS, ↓w_bs, ↓w_bl0, ↓w_bl1, ↓w_k1, ↓w_kS, ↓w_b0, ↓w_b1, ↓w_b2, ↓w_b3, ↓w_b4, ↓w_b5, ↓w_b6, ↓w_b7, ↓w_b8, ↓w_b9, ↓w_b10, ↓w_b11, ↓w_b12, ↓w_b13, ↓w_b14, ↓w_b15, ↓w_b16, ↓w_b17, ↓w_b18, ↓w_b19, ↓w_b20, ↓w_b21, ↓w_b22, ↓w_b23, ↓w_b24, ↓w_b25, ↓alc_fz, ↓alc_lv, ↓w_add, ↓w_addS, ↓w_addL, ↓w_addT, ↓w_sub, ↓w_mul, ↓w_fdiv, ↓w_mod, ↓w_pow, ↓w_shl, ↓w_shr, ↓w_band, ↓w_eqI, ↓w_neI, ↓w_eqS, ↓w_neS, ↓w_lt, ↓w_le, ↓w_gt, ↓w_ge, ↓w_is, ↓w_isnot, ↓w_isB, ↓w_isnotB, ↓w_neF0, ↓w_eqF0, ↓w_neI_L, ↓w_eqI_L, ↓w_eqLL, ↓w_neDL, ↓w_eqDL, ↓w_idxR, ↓w_slcF, ↓w_slcT, ↓w_insert, ↓w_lrange, ↓w_revF, ↓w_revR, ↓w_tmul, ↓w_ok_indexF, ↓w_inI, ↓w_notinI, ↓w_eqEE, ↓w_neEE, ↓w_eqE0, ↓w_neE0, ↓w_eqRE, ↓w_neRE, ↓w_maxF, ↓w_minF, ↓w_eqB, ↓w_neB, ↓w_sortPF, ↓w_allF, ↓w_anyF, ↓w_slcR, ↓w_oi1, ↓w_oi2, ↓w_idxD, ↓w_inD, ↓w_notinD, ↓w_okD, ↓w_okDF, ↓w_okU, ↓w_get1N, ↓w_get2N, ↓w_get1, ↓w_get2, ↓w_upd, ↓w_putD, ↓w_frzD', ↓alcD_fz, ↓alcD_lv, ↓w_rep, ↓w_sortR, ↓w_sortF, ↓w_sumF, ↓w_idxF, ↓w_idxT, ↓w_idxS, ↓w_lenR, ↓w_lenF, ↓w_lenT, ↓w_lenS, ↓w_abs, ↓w_max2, ↓w_min2, ↓w_listF, ↓w_listT, ↓w_listR, ↓w_tupleF, ↓w_int, ↓w_intB, ↓w_isi, ↓w_ok_append, ↓w_ok_extend, ↓w_ok_pop, ↓w_ok_insert, ↓w_ok_reverse, ↓w_ok_clear, ↓w_ok_index, ↓w_ok_count, ↓w_append, ↓w_extend, ↓w_reverse, ↓w_clear, ↓w_frz, ↓w_set0, ↓w_set1, ↓w_set2, ↓w_at0, ↓w_at1, ↓w_at2, ↓w_at3, ↓w_blOf, ↓w_intOf, ↓w_refOf, ↓w_cellO, ↓wdK_wd, ↓w_lenDW, lockC_dic, lockC_lst, isN_wd, ↓w_truB, ↓w_truI, ↓w_truF, ↓w_truT, ↓w_truN, ↓optI, ↓isNop, optW_some, isN_non, isN_int, isN_tup, isN_fl, isN_ref, lv_fl, ls_fl, sq_fl, sq_tup, ls_sc, sq_sc, lv_up, ls_up, sq_up, tyOf_fl, tyOf_int, tyOf_tup, tyOf_bl, tyOf_ref, Option.bind_some, List.length_cons, List.length_nil, reduceIte, Bool.false_eq_true, if_true, if_false, List.map_cons, List.map_nil, List.replicate, List.cons_append, List.nil_append, Nat.reduceSub, Nat.reduceAdd, Nat.reduceLeDiff, Int.reduceLT, Int.reduceLE, Int.reduceNeg, Int.reduceToNat, Int.reducePow, and_true, true_and, or_true, true_or, decide_eq_true_eq, Bool.not_eq_true', decide_eq_false_iff_not, up_up, decide_true, decide_false, not_true_eq_false, not_false_eq_true, Bool.not_true, Bool.not_false, List.any_cons, List.any_nil, Bool.or_false, Bool.or_true, Bool.true_or, Bool.false_or, List.mem_cons, List.not_mem_nil, or_false, false_or, reduceCtorEq, sq_ref, lv_ref, ls_ref])
local macro_rules | `(tactic| walk_at "e") => `(tactic| simp only [List.map_cons, List.map_nil, List.replicate, List.cons_append, List.nil_append, Nat.reduceSub])
local macro_rules | `(tactic| walk_at "i") => `(tactic| try simp only [Bool.true_eq_false, Bool.false_eq_true, Bool.not_true, Bool.not_false, Bool.and_true, Bool.true_and, Bool.and_false, Bool.false_and, if_false, if_true, reduceIte, decide_true, decide_false, not_true_eq_false, not_false_eq_true, eq_self])
theorem w_eqNN {h : Hq} {Q : QV} : prW (cmpR .eq .non .non h) Q = Q (.bl true) h := by
  have s1 : SeqAt.shaped .none = true := rfl
  have s2 : PyData.eqv .none .none = true := rfl
  simp only [cmpR, eqR, dt, pd, prW, optW_some, Out.w, s1, s2, and_self, t_and, Bool.false_eq_true, if_false]
theorem w_at {α : Type} {f : α → Val} {xs : List α} {i : Nat} (hi : i < xs.length) {h : Hq} {Q : QV} : prW (idxR (.fl (xs.map f)) (.int (i : Nat)) h) Q = Q (f xs[i]) h := by
  rw [w_idxF]
  unfold atI
  rw [List.length_map, ixN_nat hi]
  simp only [List.getElem?_map, List.getElem?_eq_getElem hi, Option.map_some, Option.bind_some, optW_some]
theorem evL (c : List Int) : (Enc.val c : Val) = .fl (c.map .int) := rfl
theorem w_isbN {fz : Bool} {h : Hq} {Q : QV} : prW (bltR (.isi [.bool]) fz [.non] h) Q = Q (.bl false) h := t_and _
theorem enl_len {xs : List Val} : (enumL xs).length = xs.length := by unfold enumL; simp
theorem enl_get {xs : List Val} {i : Nat} {u : Val} (e : xs[i]? = some u) : (enumL xs)[i]? = some (.tup [.int (i : Nat), u]) := by
  have hi := (List.getElem?_eq_some_iff.mp e).1
  unfold enumL
  rw [List.getElem?_zipWith, List.getElem?_range hi, e]
theorem for_enum {α : Type} {tg : Tg} {b : WS} {keep : Hq → Prop} {D : Dn} (mb : MonoS b b) (I : List α → Env3 → Hq → Prop) (φ : α → Val) (ys : List α)
    (hs : ∀ pre y post ρ h, ys = pre ++ y :: post → I pre ρ h → keep h ∧ ∃ ρ1, bindT tg (.tup [.int (pre.length : Nat), φ y]) ρ = some ρ1 ∧ b { D with nx := I (pre ++ [y]) } ρ1 h) (hd : ∀ ρ h, I ys ρ h → keep h ∧ D.nx ρ h) {ρ : Env3} {h : Hq} (h0 : I [] ρ h) : forW tg b keep D (enumL (ys.map φ)) ρ h := by
  refine for_inv mb (fun i ρ h => I (ys.take i) ρ h) (enumL (ys.map φ)) (fun i x ρ h e q => ?_) (fun ρ h q => hd ρ h (by rw [enl_len, List.length_map, List.take_length] at q; exact q)) (by simpa using h0)
  have hi : i < ys.length := by have := (List.getElem?_eq_some_iff.mp e).1; rw [enl_len, List.length_map] at this; exact this
  have e1 : ys[i]? = some ys[i] := List.getElem?_eq_getElem hi
  rw [enl_get (u := φ ys[i]) (by rw [List.getElem?_map, e1]; rfl)] at e
  have e := (Option.some.inj e).symm
  subst e
  have e3 : ys = ys.take i ++ ys[i] :: ys.drop (i + 1) := by rw [← List.drop_eq_getElem_cons hi, List.take_append_drop]
  have e4 : ys.take (i + 1) = ys.take i ++ [ys[i]] := by rw [List.take_add_one, e1]; rfl
  have := hs (ys.take i) ys[i] (ys.drop (i + 1)) ρ h e3 q
  rw [List.length_take, Nat.min_eq_left (by omega)] at this
  rw [e4]
  exact this
theorem enl_zip {α : Type} (φ : α → Val) (xs : List α) : enumL (xs.map φ) = xs.zipIdx.map fun z => .tup [.int (z.2 : Nat), φ z.1] := by
  refine List.ext_getElem? fun i => ?_
  cases e : xs[i]? with
  | none =>
    have hi : xs.length ≤ i := List.getElem?_eq_none_iff.mp e
    rw [List.getElem?_eq_none (by rw [enl_len, List.length_map]; exact hi), List.getElem?_eq_none (by rw [List.length_map, List.length_zipIdx]; exact hi)]
  | some x =>
    rw [enl_get (u := φ x) (by rw [List.getElem?_map, e]; rfl), List.getElem?_map, List.getElem?_zipIdx, e]
    simp

theorem perm_map_of {α β : Type} (f : α → β) : ∀ {ys xs : List β}, ys.Perm xs → ∀ as : List α, xs = as.map f → ∃ bs : List α, bs.Perm as ∧ ys = bs.map f := by
  intro ys xs p
  induction p with
  | nil => intro as e; exact ⟨as, .refl _, e⟩
  | cons x p ih =>
    intro as e
    cases as with
    | nil => cases e
    | cons a as =>
      injection e with e1 e2
      obtain ⟨bs, b1, b2⟩ := ih as e2
      exact ⟨a :: bs, b1.cons a, by rw [e1, b2]; rfl⟩
  | swap x y l =>
    intro as e
    match as, e with
    | a :: b :: as, e =>
      injection e with e1 e2
      injection e2 with e2 e3
      exact ⟨b :: a :: as, .swap _ _ _, by rw [e1, e2, e3]; rfl⟩
  | trans p q ih1 ih2 =>
    intro as e
    obtain ⟨bs, b1, b2⟩ := ih2 as e
    obtain ⟨cs, c1, c2⟩ := ih1 bs b2
    exact ⟨cs, c1.trans b1, c2⟩

/-- [e for y in ys], where e may write -/
theorem comp_effF {β : Type} {fz : Bool} {F : Fs} {n : Nat} {tg : Tg} {elt : Ex} {keep : Hq → Prop} {ρw : Env3} {h : Hq} {Q : QV} (φ : β → Val) (ys : List β) (hl : ys.length < 1000000) (I : Addr → List β → List Val → Hq → Prop)
    (hs : ∀ p pre y post acc h', ys = pre ++ y :: post → h' p = some (.lst acc) → I p pre acc h' → keep h' ∧ ∃ ρ1, bindT tg (φ y) ρw = some ρ1 ∧ ∀ K : QV, (∀ v h2, h2 p = some (.lst acc) → I p (pre ++ [y]) (acc ++ [v]) (up h2 p (.lst (acc ++ [v]))) → K v h2) → wpE (CN F n) elt ρ1 h' K fun _ _ => False)
    (hi : ∀ p, h p = none → I p [] [] (up h p (.lst [])))
    (hq : ∀ p acc h', h p = none → h' p = some (.lst acc) → I p ys acc h' → keep h' ∧ if fz = true then Q (.fl acc) (er h' p) else Q (.ref p) h') : ∀ p, h p = none → compW tg (fun ρ1 h2 K => K true h2) (fun ρ1 h2 K => wpE (CN F n) elt ρ1 h2 K fun _ _ => False) keep p (compFin fz p Q) ρw (ys.map φ) (up h p (.lst [])) := by
  intro p hp
  have go : ∀ (zs pre : List β) (acc : List Val) (h' : Hq), ys = pre ++ zs → acc.length = pre.length → h' p = some (.lst acc) → I p pre acc h' → compW tg (fun ρ1 h2 K => K true h2) (fun ρ1 h2 K => wpE (CN F n) elt ρ1 h2 K fun _ _ => False) keep p (compFin fz p Q) ρw (zs.map φ) h' := by
    intro zs
    induction zs with
    | nil =>
      intro pre acc h' e al hv i
      rw [List.append_nil] at e
      obtain ⟨q1, q2⟩ := hq p acc h' hp hv (e ▸ i)
      refine ⟨q1, ?_⟩
      show compFin fz p Q h'
      unfold compFin
      rw [lstO_some.mpr hv]
      exact q2
    | cons z zs ih =>
      intro pre acc h' e al hv i
      obtain ⟨k1, ρ1, b, w⟩ := hs p pre z zs acc h' e hv i
      refine ⟨k1, ?_⟩
      show optW (bindT tg (φ z) ρw) _
      rw [b]
      refine w _ fun v h2 hv2 i2 => ?_
      rw [lstO_some.mpr hv2]
      refine ⟨?_, ih (pre ++ [z]) (acc ++ [v]) _ (by rw [e]; simp) (by simp [al]) up_same i2⟩
      have := congrArg List.length e
      simp only [List.length_append, List.length_cons] at this
      omega
  exact go ys [] [] _ rfl rfl up_same (hi p hp)
/-- .. frozen at last -/
theorem comp_eff {β : Type} {F : Fs} {n : Nat} {tg : Tg} {elt : Ex} {keep : Hq → Prop} {ρw : Env3} {h : Hq} {Q : QV} (φ : β → Val) (ys : List β) (hl : ys.length < 1000000) (I : Addr → List β → List Val → Hq → Prop)
    (hs : ∀ p pre y post acc h', ys = pre ++ y :: post → h' p = some (.lst acc) → I p pre acc h' → keep h' ∧ ∃ ρ1, bindT tg (φ y) ρw = some ρ1 ∧ ∀ K : QV, (∀ v h2, h2 p = some (.lst acc) → I p (pre ++ [y]) (acc ++ [v]) (up h2 p (.lst (acc ++ [v]))) → K v h2) → wpE (CN F n) elt ρ1 h' K fun _ _ => False)
    (hi : ∀ p, h p = none → I p [] [] (up h p (.lst [])))
    (hq : ∀ p acc h', h p = none → h' p = some (.lst acc) → I p ys acc h' → keep h' ∧ Q (.fl acc) (er h' p)) : ∀ p, h p = none → compW tg (fun ρ1 h2 K => K true h2) (fun ρ1 h2 K => wpE (CN F n) elt ρ1 h2 K fun _ _ => False) keep p (compFin true p Q) ρw (ys.map φ) (up h p (.lst [])) :=
  comp_effF φ ys hl I hs hi fun p acc h' a b c => ⟨(hq p acc h' a b c).1, by rw [if_pos rfl]; exact (hq p acc h' a b c).2⟩
theorem cut1 (xs : List Int) : cutG xs (some 1) none = xs.drop 1 := by
  cases xs with
  | nil => unfold cutG; simp
  | cons x xs => exact cutG_from (k := 1) (by simp)
theorem zipL_map {α β : Type} (f : α → Val) (g : β → Val) (xs : List α) (ys : List β) : zipL (xs.map f) (ys.map g) = (xs.zip ys).map fun z => .tup [f z.1, g z.2] := by
  unfold zipL
  rw [List.zipWith_map]
  induction xs generalizing ys with
  | nil => rfl
  | cons x xs ih => cases ys with
    | nil => rfl
    | cons y ys => simp [ih]
theorem w_notinIR {p : Addr} {i : Int} {ns : List Int} {h : Hq} {Q : QV} (e0 : h p = some (.lst (ns.map .int))) : prW (cmpR .notin (.int i) (.ref p) h) Q = Q (.bl (!decide (i ∈ ns))) h := by
  have e : (ns.map Val.int).any (fun z => eqV (flV z) (flV (.int i))) = decide (i ∈ ns) := by
    rw [List.any_map]
    induction ns with
    | nil => rfl
    | cons n ns ih =>
      rw [List.any_cons]
      have ih : (ns.any ((fun z => eqV (flV z) (flV (.int i))) ∘ Val.int)) = decide (i ∈ ns) := by
        clear e0 ih
        induction ns with
        | nil => rfl
        | cons n ns ih =>
          rw [List.any_cons, ih]
          show (eqV (flV (.int n)) (flV (.int i)) || _) = _
          rw [eqV_ints]
          by_cases h1 : n = i <;> by_cases h2 : i ∈ ns <;> simp [h1, h2]
          exact fun z => h1 z.symm
      rw [ih]
      show (eqV (flV (.int n)) (flV (.int i)) || _) = _
      rw [eqV_ints]
      by_cases h1 : n = i <;> by_cases h2 : i ∈ ns <;> simp [h1, h2]
      exact fun z => h1 z.symm
  have d0 : dr h (.ref p) = none := by simp only [dr, dicAt, e0]
  simp only [cmpR, inR, d0, sq_ref e0, all_flt, flt, Bool.and_self, if_true, prW, optW_some, Out.w, t_and, e]
/-- a dict of numbers -/
def dTrue (L : List Int) : KVs := L.map fun i => (.inl i, .bl true)
theorem dTrue_any (i : Int) (L : List Int) : (dTrue L).any (fun kv => decide (kv.1 = .inl i)) = decide (i ∈ L) := by
  unfold dTrue
  rw [Bool.eq_iff_iff]
  simp only [List.any_eq_true, List.mem_map, decide_eq_true_eq]
  constructor
  · rintro ⟨kv, ⟨j, hj, rfl⟩, e⟩
    injection e with e
    rw [← e]; exact hj
  · intro h
    exact ⟨_, ⟨i, h, rfl⟩, rfl⟩
theorem dTrue_dp {i : Int} {L : List Int} (h : i ∉ L) : dp (dTrue L) (.inl i) (.bl true) = dTrue (L ++ [i]) := by
  unfold dp
  rw [dTrue_any]
  simp only [h, decide_false, Bool.false_eq_true, if_false, dTrue, List.map_append]
  rfl
theorem dTrue_dg (i : Int) (L : List Int) : (dg (dTrue L) (.inl i)).isSome = decide (i ∈ L) := by
  rw [← dTrue_any]
  unfold dg
  rw [Option.isSome_map, Bool.eq_iff_iff, List.find?_isSome, List.any_eq_true]
/-- the knots on the way to a key -/
def Tr.path : Tr → Int → List Tr
  | .nil, _ => []
  | .nd l x r, k => .nd l x r :: (if k < x then l.path k else if k > x then r.path k else [])
def Tr.way (t : Tr) (k : Int) : List Int := (t.path k).map Tr.top
/-- the up of a key -/
def _root_.L3.Tr.upAt : Val → Tr → Int → Option Val
  | _, .nil, _ => none
  | u, .nd l k r, j => if j = k then some u else (Tr.upAt (.int k) l j).or (Tr.upAt (.int k) r j)
theorem upAt_none : ∀ (u : Val) (t : Tr) (j : Int), j ∉ t.keys → Tr.upAt u t j = none
  | _, .nil, _, _ => rfl
  | u, .nd l k r, j, h => by
    simp only [Tr.keys, List.mem_append, List.mem_cons, not_or] at h
    rw [Tr.upAt, if_neg h.2.1, upAt_none _ l j h.1, upAt_none _ r j h.2.2]; rfl
theorem upAt_some : ∀ (u : Val) (t : Tr) (j : Int), j ∈ t.keys → t.keys.Nodup → ∃ v, Tr.upAt u t j = some v ∧ (v = u ∨ ∃ i, v = .int i ∧ i ∈ t.keys)
  | _, .nil, _, h, _ => by simp [Tr.keys] at h
  | u, .nd l k r, j, h, hd => by
    simp only [Tr.keys] at hd
    rw [List.nodup_append, List.nodup_cons] at hd
    obtain ⟨n1, ⟨n2, n4⟩, n3⟩ := hd
    simp only [Tr.keys, List.mem_append, List.mem_cons] at h
    rw [Tr.upAt]
    by_cases e : j = k
    · rw [if_pos e]; exact ⟨u, rfl, .inl rfl⟩
    · rw [if_neg e]
      rcases h with h | h | h
      · obtain ⟨v, e1, e2⟩ := upAt_some (.int k) l j h n1
        refine ⟨v, by rw [e1]; rfl, .inr ?_⟩
        rcases e2 with rfl | ⟨i, rfl, hi⟩
        · exact ⟨k, rfl, by simp [Tr.keys]⟩
        · exact ⟨i, rfl, by simp [Tr.keys, hi]⟩
      · exact absurd h e
      · obtain ⟨v, e1, e2⟩ := upAt_some (.int k) r j h n4
        refine ⟨v, by rw [upAt_none _ l j (fun z => n3 j z j (by simp [h]) rfl), e1]; rfl, .inr ?_⟩
        rcases e2 with rfl | ⟨i, rfl, hi⟩
        · exact ⟨k, rfl, by simp [Tr.keys]⟩
        · exact ⟨i, rfl, by simp [Tr.keys, hi]⟩
/-- a pen of two cells -/
def Pen2 (h : Hq) (a : Addr) : Prop := ∃ x z : Int, h a = some (.lst [.int x, .int z])
theorem Pen2.up {g : Hq} {a q : Addr} {c : Cell} (z : q ≠ a) (p : Pen2 g a) : Pen2 (up g q c) a := by
  obtain ⟨x, y, e⟩ := p
  exact ⟨x, y, by rw [up_ne (Ne.symm z)]; exact e⟩
theorem Pen2.er {g : Hq} {a q : Addr} (z : q ≠ a) (p : Pen2 g a) : Pen2 (er g q) a := by
  obtain ⟨x, y, e⟩ := p
  exact ⟨x, y, by rw [er_ne (Ne.symm z)]; exact e⟩
theorem Pen2.ne {g : Hq} {a q : Addr} (p : Pen2 g a) (n : g q = none) : q ≠ a := fun z => by obtain ⟨_, _, e⟩ := p; rw [← z, n] at e; cases e

/-! ### more rules -/
theorem w_dictZ {fz : Bool} {ks : List Int} {vs : List Val} {h : Hq} {Q : QV} : prW (o2R .dictZ fz (.fl (ks.map .int)) (.fl vs) h) Q = alcD fz (dmerge [] ((ks.map fun k => (Sum.inl k : Key)).zip vs)) h Q := by
  have e : mapO keyOf (ks.map Val.int) = some (ks.map fun k => (Sum.inl k : Key)) := mapO_map keyOf _ _ (fun r => rfl) ks
  simp only [o2R, ls, lv, Option.bind_some, e, Option.map_some, prW, optW_some, Out.w, t_and]
theorem find_int (i : Int) (ns : List Int) : (ns.map Val.int).findIdx? (fun z => eqV (flV z) (flV (.int i))) = ns.findIdx? fun j => decide (j = i) := by
  induction ns with
  | nil => rfl
  | cons n ns ih => 
    rw [List.map_cons, List.findIdx?_cons, List.findIdx?_cons, ih, eqV_ints]
theorem find_at {i : Int} : ∀ {pre post : List Int}, i ∉ pre → (pre ++ i :: post).findIdx? (fun j => decide (j = i)) = some pre.length
  | [], post, _ => by simp [List.findIdx?_cons]
  | x :: pre, post, h => by
    have h1 : ¬ x = i := fun z => h (by simp [z])
    rw [List.cons_append, List.findIdx?_cons, find_at (fun z => h (by simp [z]))]
    simp [h1]
theorem w_indexF {pre post : List Int} {i : Int} (hi : i ∉ pre) {h : Hq} {Q : QV} : prW (mthR .index (.fl ((pre ++ i :: post).map .int)) [.int i] h) Q = Q (.int (pre.length : Nat)) h := by
  have e := (find_int i (pre ++ i :: post)).trans (find_at hi)
  simp only [mthR, ixR, ls, lv, Option.bind_some, e, Option.map_some, prW, optW_some, Out.w, all_flt, flt, and_self, t_and]
/-- the tree of a key -/
def _root_.L3.Tr.at_ : Tr → Int → Tr
  | .nil, _ => .nil
  | .nd l x r, k => if k = x then .nd l x r else if k < x then l.at_ k else r.at_ k
theorem at_keys : ∀ {t : Tr} {k : Int}, k ∈ t.keys → t.keys.Pairwise (· < ·) → ∃ l r, t.at_ k = .nd l k r ∧ ∀ j ∈ (t.at_ k).keys, j ∈ t.keys
  | .nil, _, h, _ => by simp [Tr.keys] at h
  | .nd l x r, k, h, hu => by
    simp only [Tr.keys] at hu
    rw [List.pairwise_append, List.pairwise_cons] at hu
    obtain ⟨u1, ⟨u2, u3⟩, u4⟩ := hu
    unfold Tr.at_
    by_cases e : k = x
    · rw [if_pos e]; subst e; exact ⟨l, r, rfl, fun j hj => hj⟩
    · rw [if_neg e]
      simp only [Tr.keys, List.mem_append, List.mem_cons] at h
      by_cases c : k < x
      · rw [if_pos c]
        have hl : k ∈ l.keys := by
          rcases h with h | h | h
          · exact h
          · exact absurd h e
          · have := u2 k h; omega
        obtain ⟨a, b, e1, e2⟩ := at_keys hl u1
        exact ⟨a, b, e1, fun j hj => by simp [Tr.keys, e2 j hj]⟩
      · rw [if_neg c]
        have hr : k ∈ r.keys := by
          rcases h with h | h | h
          · have := u4 k h x (by simp); omega
          · exact absurd h e
          · exact h
        obtain ⟨a, b, e1, e2⟩ := at_keys hr u3
        exact ⟨a, b, e1, fun j hj => by simp [Tr.keys, e2 j hj]⟩

theorem path_last : ∀ {t : Tr} {k : Int}, t.keys.Pairwise (· < ·) → k ∈ t.keys → ∃ pre, t.path k = pre ++ [t.at_ k]
  | .nil, _, _, h => by simp [Tr.keys] at h
  | .nd l x r, k, hu, h => by
    simp only [Tr.keys] at hu
    rw [List.pairwise_append, List.pairwise_cons] at hu
    obtain ⟨u1, ⟨u2, u3⟩, u4⟩ := hu
    simp only [Tr.keys, List.mem_append, List.mem_cons] at h
    unfold Tr.path Tr.at_
    by_cases e : k = x
    · subst e
      rw [if_neg (by omega), if_neg (by omega), if_pos rfl]
      exact ⟨[], rfl⟩
    · rw [if_neg e]
      by_cases c : k < x
      · rw [if_pos c, if_pos c]
        have hl : k ∈ l.keys := by
          rcases h with h | h | h
          · exact h
          · exact absurd h e
          · have := u2 k h; omega
        obtain ⟨pre, ep⟩ := path_last u1 hl
        exact ⟨.nd l x r :: pre, by rw [ep]; rfl⟩
      · rw [if_neg c, if_neg c, if_pos (by omega)]
        have hr : k ∈ r.keys := by
          rcases h with h | h | h
          · have := u4 k h x (by simp); omega
          · exact absurd h e
          · exact h
        obtain ⟨pre, ep⟩ := path_last u3 hr
        exact ⟨.nd l x r :: pre, by rw [ep]; rfl⟩
/-! ### data over live lists, deep -/
section
variable {h : Hq}
theorem dtN_pd {v : Val} {d : PyData} (e : pd v = some d) : ∀ n, dtN n h v = some d
  | 0 => e
  | n + 1 => by unfold dtN; rw [e]
theorem dtN_ref {p : Addr} {xs : List Val} {ds : List PyData} {n : Nat} (e : h p = some (.lst xs)) (q : mapO (dtN n h) xs = some ds) : dtN (n + 1) h (.ref p) = some (.list ds) := by
  unfold dtN
  simp only [pd, e, q, Option.map_some]
theorem dtN_evR {α : Type} [Enc α] {p : Addr} {xs : List α} {n : Nat} (e : h p = some (.lst (xs.map Enc.val))) : dtN (n + 1) h (.ref p) = some (.list (xs.map Enc.dat)) :=
  dtN_ref e (mapO_map _ _ _ (fun x => dtN_pd (Enc.pdv x) n) xs)
theorem dtN_tup {xs : List Val} {ds : List PyData} {n : Nat} (q : mapO (dtN n h) xs = some ds) (q0 : ∀ es, pds xs = some es → es = ds) : dtN (n + 1) h (.tup xs) = some (.tuple ds) := by
  unfold dtN
  cases e : pds xs with
  | none => simp only [pd, e, Option.map_none, q, Option.map_some]
  | some es => simp only [pd, e, Option.map_some, q0 es e]
theorem NL.dtN {α : Type} [Enc α] {h0 : Hq} {p : Addr} {ps : List Addr} {css : List (List α)} {n : Nat} (N : NL h0 h p ps (css.map fun xs => xs.map Enc.val)) : L3.dtN (n + 2) h (.ref p) = some (.list (css.map fun xs => .list (xs.map Enc.dat))) := by
  have go : ∀ (ps : List Addr) (css : List (List α)), ps.length = css.length → (∀ (i : Nat) q c, ps[i]? = some q → css[i]? = some c → h q = some (.lst (c.map Enc.val))) → mapO (L3.dtN (n + 1) h) (ps.map .ref) = some (css.map fun xs => PyData.list (xs.map Enc.dat)) := by
    intro ps
    induction ps with
    | nil => intro css e _; cases css <;> first | rfl | cases e
    | cons q ps ih =>
      intro css e at_
      cases css with
      | nil => cases e
      | cons c css =>
        have e1 := at_ 0 q c rfl rfl
        have e2 := ih css (by simpa using e) (fun i q c a b => at_ (i + 1) q c (by simpa using a) (by simpa using b))
        simp only [List.map_cons, mapO, dtN_evR e1, e2]
  exact dtN_ref N.top (go ps css (by rw [N.len, List.length_map]) (fun i q c a b => N.at_ i q _ a (by rw [List.getElem?_map, b]; rfl)))
theorem w_eqTT {xs ys : List Val} {d : PyData} {Q : QV} (e1 : dtN 6 h (.tup xs) = some d) (e2 : dtN 6 h (.tup ys) = some d) (s : SeqAt.shaped d = true) (l : d.canLay0 = true) :
    (Q (.bl true) h → prW (cmpR .eq (.tup xs) (.tup ys) h) Q) ∧ (Q (.bl false) h → prW (cmpR .ne (.tup xs) (.tup ys) h) Q) := by
  have go : ∀ zs, dtN 6 h (.tup zs) = some d → dt h (.tup zs) = none ∨ dt h (.tup zs) = some d := by
    intro zs e
    show pd (.tup zs) = none ∨ pd (.tup zs) = some d
    cases q : pd (.tup zs) with
    | none => exact .inl rfl
    | some d' => rw [dtN_pd q] at e; exact .inr e
  have r := SeqAt.eqv_refl d l
  have f : ∀ neg, eqR neg (.tup xs) (.tup ys) h = some (SeqAt.shaped d = true ∧ SeqAt.shaped d = true, .v (.bl (if neg then false else true)) h) := by
    intro neg
    unfold eqR
    rcases go xs e1 with a | a <;> rcases go ys e2 with b | b <;> simp only [a, b, e1, e2, r, Bool.not_true]
  constructor
  · intro q
    show prW (eqR false (.tup xs) (.tup ys) h) Q
    rw [f]
    exact ⟨⟨s, s⟩, q⟩
  · intro q
    show prW (eqR true (.tup xs) (.tup ys) h) Q
    rw [f]
    exact ⟨⟨s, s⟩, q⟩
end

/-! ### a layout, however it is laid -/
/-- x tells P, and goes on doing so -/
def LayV (h : Hq) (x : Val) (P : List (List Int)) : Prop := ∃ ys : List (List Int × Val), ys.map (·.1) = P ∧ ∀ h', Grow h h' → lv h' x = some (ys.map (·.2)) ∧ ∀ y ∈ ys, sq h' y.2 = some (y.1.map .int)
theorem layV_fl (h : Hq) (P : List (List Int)) : LayV h (.fl (P.map Enc.val)) P :=
  ⟨P.map fun c => (c, Enc.val c), by rw [List.map_map]; exact List.map_id' P, fun h' _ => ⟨by rw [List.map_map]; rfl, fun y hy => by
    obtain ⟨c, _, rfl⟩ := List.mem_map.mp hy
    rfl⟩⟩
theorem LayV.grow {h h1 : Hq} {x : Val} {P : List (List Int)} (l : LayV h x P) (g : Grow h h1) : LayV h1 x P := by
  obtain ⟨ys, e, q⟩ := l
  exact ⟨ys, e, fun h' g' => q h' (g.trans g')⟩
theorem NL.layV {h0 h : Hq} {p : Addr} {ps : List Addr} {css : List (List Int)} (N : NL h0 h p ps (css.map fun c => c.map .int)) : LayV h (.ref p) css := by
  have hl := N.len
  rw [List.length_map] at hl
  refine ⟨css.zip (ps.map .ref), List.map_fst_zip (by rw [List.length_map]; omega), fun h' g => ⟨?_, fun y hy => ?_⟩⟩
  · rw [List.map_snd_zip (by rw [List.length_map]; omega)]
    exact lv_ref (g _ _ N.top)
  · obtain ⟨i, hi⟩ := List.getElem?_of_mem hy
    rw [List.getElem?_zip_eq_some] at hi
    obtain ⟨h1, h2⟩ := hi
    rw [List.getElem?_map] at h2
    obtain ⟨q, e1, e2⟩ := Option.map_eq_some_iff.mp h2
    rw [← e2]
    exact sq_ref (g _ _ (N.at_ i q _ e1 (by rw [List.getElem?_map, h1]; rfl)))
theorem w_lenQ {fz : Bool} {h : Hq} {Q : QV} {v : Val} {xs : List Val} (e : sq h v = some xs) : prW (bltR .len fz [v] h) Q = Q (.int (xs.length : Nat)) h := by
  simp only [bltR, e, prW, optW_some, Out.w, t_and]
/-! ### the trees within a tree -/
def _root_.L3.Tr.subs : Tr → List Tr
  | .nil => []
  | .nd l k r => .nd l k r :: (l.subs ++ r.subs)
theorem subs_self {t : Tr} (h : t ≠ .nil) : t ∈ t.subs := by
  obtain ⟨l, k, r, rfl⟩ := tv_ne h
  simp [Tr.subs]
theorem subs_ne {s : Tr} : ∀ {t : Tr}, s ∈ t.subs → s ≠ .nil
  | .nil, h => by simp [Tr.subs] at h
  | .nd l k r, h => by
    simp only [Tr.subs, List.mem_cons, List.mem_append] at h
    rcases h with rfl | h | h
    · exact fun z => by cases z
    · exact subs_ne h
    · exact subs_ne h
theorem subs_trans {u s : Tr} : ∀ {t : Tr}, u ∈ s.subs → s ∈ t.subs → u ∈ t.subs
  | .nil, _, h => by simp [Tr.subs] at h
  | .nd l k r, hu, h => by
    simp only [Tr.subs, List.mem_cons, List.mem_append] at h ⊢
    rcases h with rfl | h | h
    · simpa only [Tr.subs, List.mem_cons, List.mem_append] using hu
    · exact .inr (.inl (subs_trans hu h))
    · exact .inr (.inr (subs_trans hu h))
theorem subs_l {l r : Tr} {k : Int} {t : Tr} (h : .nd l k r ∈ t.subs) (hl : l ≠ .nil) : l ∈ t.subs := subs_trans (by simp [Tr.subs, subs_self hl]) h
theorem subs_r {l r : Tr} {k : Int} {t : Tr} (h : .nd l k r ∈ t.subs) (hl : r ≠ .nil) : r ∈ t.subs := subs_trans (by simp [Tr.subs, subs_self hl]) h
theorem subs_keys {s : Tr} : ∀ {t : Tr}, s ∈ t.subs → s.keys.Sublist t.keys
  | .nil, h => by simp [Tr.subs] at h
  | .nd l k r, h => by
    simp only [Tr.subs, List.mem_cons, List.mem_append] at h
    rcases h with rfl | h | h
    · exact List.Sublist.refl _
    · exact (subs_keys h).trans (by simp only [Tr.keys]; exact List.sublist_append_left _ _)
    · exact (subs_keys h).trans (by simp only [Tr.keys]; exact (List.sublist_cons_self _ _).trans (List.sublist_append_right _ _))
theorem subs_ht {s : Tr} : ∀ {t : Tr}, s ∈ t.subs → s.ht ≤ t.ht
  | .nil, h => by simp [Tr.subs] at h
  | .nd l k r, h => by
    simp only [Tr.subs, List.mem_cons, List.mem_append] at h
    rcases h with rfl | h | h
    · exact Nat.le_refl _
    · have := subs_ht h; simp only [Tr.ht]; omega
    · have := subs_ht h; simp only [Tr.ht]; omega
theorem subs_top {s t : Tr} (h : s ∈ t.subs) : s.top ∈ t.keys := by
  obtain ⟨l, k, r, rfl⟩ := tv_ne (subs_ne h)
  exact (subs_keys h).mem (by simp [Tr.keys, Tr.top])

end L3

set_option Elab.async false
set_option linter.all false
set_option maxRecDepth 100000
namespace L3
open PySem PySem.Spec PyProof.Rows L2
def f_kids_of : Nat := 1000
def f_mark_by : Nat := 1001
def f_mark_all : Nat := 1004
def f_keys_of : Nat := 1008
def f_marks_known : Nat := 1009
def f_marks : Nat := 1012
def f_marks_L : Nat := 1014
def e_kids_of_1 : Ex := (.var 1)
def p_kids_of_1 : Ex := (.cmp .isnot (.var 1) .non)
def d_kids_of : Df := ⟨1, 2, (.cons (.ret (.comp true e_kids_of_1 (.name 1) (.seq (.tup (.cons (.idx (.var 0) (.int 0)) (.cons (.idx (.var 0) (.int 2)) .nil)))) p_kids_of_1 [1])) .nil)⟩
-- ['tree', 'side']
def e_mark_by_1 : Ex := (.idx (.var 3) (.int 0))
def e_mark_by_2 : Ex := (.idx (.var 3) (.int 1))
def p_mark_by_2 : Ex := (.cmp .eq (.idx (.var 3) (.int 0)) (.var 2))
def d_mark_by : Df := ⟨2, 5, (.cons (.ite (.cmp .eq (.var 1) (.lst true .nil)) (.cons (.ret (.tup (.cons (.int 1) (.cons (.int 1) .nil)))) .nil) .nil) (.cons (.asg (.name 2) (.blt .max true (.cons (.comp true e_mark_by_1 (.name 3) (.seq (.var 1)) .nop [3]) .nil))) (.cons (.asg (.name 4) (.bin .add true (.int 1) (.blt .sum true (.cons (.comp true e_mark_by_2 (.name 3) (.seq (.var 1)) p_mark_by_2 [3]) .nil)))) (.cons (.ite (.cmp .le (.var 4) (.var 0)) (.cons (.ret (.tup (.cons (.var 2) (.cons (.var 4) .nil)))) .nil) .nil) (.cons (.ret (.tup (.cons (.bin .add true (.var 2) (.int 1)) (.cons (.int 1) .nil)))) .nil)))))⟩
-- ['room', 'kids', 'level', 'mark', 'size']
def b_mark_all_1 : Sms := (.cons (.ex (.call f_mark_all (.cons (.var 3) (.cons (.var 1) (.cons (.var 2) .nil))))) .nil)
def e_mark_all_1 : Ex := (.idx (.var 2) (.idx (.var 4) (.int 1)))
def c_mark_all_1 : Sms := (.cons (.asgI (.var 2) (.idx (.var 0) (.int 1)) (.call f_mark_by (.cons (.var 1) (.cons (.comp true e_mark_all_1 (.name 4) (.seq (.call f_kids_of (.cons (.var 0) .nil))) .nop [4]) .nil)))) .nil)
def d_mark_all : Df := ⟨3, 5, (.cons (.ite (.cmp .isnot (.var 0) .non) (.cons (.for (.name 3) (.seq (.tup (.cons (.idx (.var 0) (.int 0)) (.cons (.idx (.var 0) (.int 2)) .nil)))) b_mark_all_1) c_mark_all_1) .nil) .nil)⟩
-- ['tree', 'room', 'found', 'side', 'kid']
def d_keys_of : Df := ⟨1, 4, (.cons (.ite (.cmp .is (.var 0) .non) (.cons (.ret (.lst true .nil)) .nil) .nil) (.cons (.asg (.names [1, 2, 3]) (.var 0)) (.cons (.ret (.bin .add true (.bin .add true (.call f_keys_of (.cons (.var 1) .nil)) (.lst true (.cons (.var 2) .nil))) (.call f_keys_of (.cons (.var 3) .nil)))) .nil)))⟩
-- ['tree', 'left', 'key', 'right']
def d_marks_known : Df := ⟨2, 3, (.cons (.asg (.name 2) (.dic0 false)) (.cons (.ex (.call f_mark_all (.cons (.var 0) (.cons (.var 1) (.cons (.var 2) .nil))))) (.cons (.ret (.frz (.var 2))) .nil)))⟩
-- ['tree', 'room', 'found']
def e_marks_1 : Ex := (.tup (.cons (.var 3) (.cons (.idx (.idx (.var 2) (.var 3)) (.int 0)) (.cons (.idx (.idx (.var 2) (.var 3)) (.int 1)) .nil))))
def d_marks : Df := ⟨2, 4, (.cons (.asg (.name 2) (.call f_marks_known (.cons (.var 0) (.cons (.var 1) .nil)))) (.cons (.ret (.comp true e_marks_1 (.name 3) (.seq (.call f_keys_of (.cons (.var 0) .nil))) .nop [3])) .nil))⟩
-- ['tree', 'room', 'known', 'key']
def e_marks_L_1 : Ex := (.tup (.cons (.var 3) (.cons (.idx (.idx (.var 2) (.var 3)) (.int 0)) (.cons (.idx (.idx (.var 2) (.var 3)) (.int 1)) .nil))))
def d_marks_L : Df := ⟨2, 4, (.cons (.asg (.name 2) (.call f_marks_known (.cons (.var 0) (.cons (.var 1) .nil)))) (.cons (.ret (.comp false e_marks_L_1 (.name 3) (.seq (.call f_keys_of (.cons (.var 0) .nil))) .nop [3])) .nil))⟩
-- ['tree', 'room', 'known', 'key']
end L3

set_option Elab.async false
set_option linter.all false
set_option maxRecDepth 100000
namespace L3
open PySem PySem.Spec PyProof.Rows L2
local macro_rules | `(tactic| walk_at "d") => `(tactic| first | assumption | exact up_same | exact dr_fd _ _ | exact dr_wd _ _ | exact dr_ref (by assumption) | exact dr_ref up_same | exact keyOf_int | (exact (rfl : isNop _ = false)) | exact keyOf_str | exact tyOf_fl | exact tyOf_int | exact tyOf_tup | exact tyOf_bl | exact tyOf_ref (by assumption) | exact tyOf_ref up_same | (intro z; cases z))
local macro_rules | `(tactic| walk_at "w") => `(tactic| try simp -implicitDefEqProofs (disch := walk_at "d") only [↓wpE, ↓wpA, ↓wpB, ↓wpT, ↓wpTs, ↓wpI, ↓wpS, ↓wpSs, ↓optW_some, ↓w_lk0, ↓w_lkS, ↓w_bs, ↓w_bl0, ↓w_bl1, ↓w_k1, ↓w_kS, ↓w_b0, ↓w_b1, ↓w_b2, ↓w_b3, ↓w_b4, ↓w_b5, ↓w_b6, ↓w_b7, ↓w_b8, ↓w_b9, ↓w_b10, ↓w_b11, ↓w_b12, ↓w_b13, ↓w_b14, ↓w_b15, ↓w_b16, ↓w_b17, ↓w_b18, ↓w_b19, ↓w_b20, ↓w_b21, ↓w_b22, ↓w_b23, ↓w_b24, ↓w_b25, ↓alc_fz, ↓alc_lv, ↓w_dictZ, ↓w_eqNN, ↓w_add, ↓w_addS, ↓w_addL, ↓w_addT, ↓w_sub, ↓w_mul, ↓w_fdiv, ↓w_mod, ↓w_pow, ↓w_shl, ↓w_shr, ↓w_band, ↓w_eqI, ↓w_neI, ↓w_eqS, ↓w_neS, ↓w_lt, ↓w_le, ↓w_gt, ↓w_ge, ↓w_is, ↓w_isnot, ↓w_isB, ↓w_isnotB, ↓w_neF0, ↓w_eqF0, ↓w_neI_L, ↓w_eqI_L, ↓w_eqLL, ↓w_neDL, ↓w_eqDL, ↓w_idxR, ↓w_slcF, ↓w_slcT, ↓w_insert, ↓w_lrange, ↓w_revF, ↓w_revR, ↓w_tmul, ↓w_ok_indexF, ↓w_inI, ↓w_notinI, ↓w_eqEE, ↓w_neEE, ↓w_eqE0, ↓w_neE0, ↓w_eqRE, ↓w_neRE, ↓w_maxF, ↓w_minF, ↓w_eqB, ↓w_neB, ↓w_sortPF, ↓w_allF, ↓w_anyF, ↓w_slcR, ↓w_oi1, ↓w_oi2, ↓w_idxD, ↓w_inD, ↓w_notinD, ↓w_okD, ↓w_okDF, ↓w_okU, ↓w_get1N, ↓w_get2N, ↓w_get1, ↓w_get2, ↓w_upd, ↓w_putD, ↓w_frzD', ↓alcD_fz, ↓alcD_lv, ↓w_rep, ↓w_sortR, ↓w_sortF, ↓w_sumF, ↓w_idxF, ↓w_idxT, ↓w_idxS, ↓w_lenR, ↓w_lenF, ↓w_lenT, ↓w_lenS, ↓w_abs, ↓w_max2, ↓w_min2, ↓w_listF, ↓w_listT, ↓w_listR, ↓w_tupleF, ↓w_int, ↓w_intB, ↓w_isi, ↓w_ok_append, ↓w_ok_extend, ↓w_ok_pop, ↓w_ok_insert, ↓w_ok_reverse, ↓w_ok_clear, ↓w_ok_index, ↓w_ok_count, ↓w_append, ↓w_extend, ↓w_reverse, ↓w_clear, ↓w_frz, ↓w_set0, ↓w_set1, ↓w_set2, ↓w_at0, ↓w_at1, ↓w_at2, ↓w_at3, ↓w_blOf, ↓w_intOf, ↓w_refOf, ↓w_cellO, ↓wdK_wd, ↓w_lenDW, lockC_dic, lockC_lst, isN_wd, ↓w_truB, ↓w_truI, ↓w_truF, ↓w_truT, ↓w_truN, ↓optI, ↓isNop, optW_some, isN_non, isN_int, isN_tup, isN_fl, isN_ref, lv_fl, ls_fl, sq_fl, sq_tup, ls_sc, sq_sc, lv_up, ls_up, sq_up, tyOf_fl, tyOf_int, tyOf_tup, tyOf_bl, tyOf_ref, Option.bind_some, List.length_cons, List.length_nil, reduceIte, Bool.false_eq_true, if_true, if_false, List.map_cons, List.map_nil, List.replicate, List.cons_append, List.nil_append, Nat.reduceSub, Nat.reduceAdd, Nat.reduceLeDiff, Int.reduceLT, Int.reduceLE, Int.reduceNeg, Int.reduceToNat, Int.reducePow, and_true, true_and, or_true, true_or, decide_eq_true_eq, Bool.not_eq_true', decide_eq_false_iff_not, up_up, decide_true, decide_false, not_true_eq_false, not_false_eq_true, Bool.not_true, Bool.not_false, List.any_cons, List.any_nil, Bool.or_false, Bool.or_true, Bool.true_or, Bool.false_or, List.mem_cons, List.not_mem_nil, or_false, false_or, reduceCtorEq, sq_ref, lv_ref, ls_ref])
local macro_rules | `(tactic| walk_at "e") => `(tactic| simp only [List.map_cons, List.map_nil, List.replicate, List.cons_append, List.nil_append, Nat.reduceSub])
local macro_rules | `(tactic| walk_at "i") => `(tactic| try simp only [Bool.true_eq_false, Bool.false_eq_true, Bool.not_true, Bool.not_false, Bool.and_true, Bool.true_and, Bool.and_false, Bool.false_and, if_false, if_true, reduceIte, decide_true, decide_false, not_true_eq_false, not_false_eq_true, eq_self])
/-! ### marks in plain words -/
namespace Tr
/-- the rule -/
def ruleM (room : Int) (ms : List (Int × Int)) : Int × Int :=
  if ms = [] then (1, 1) else
    if 1 + ((ms.filter fun m => decide (m.1 = maxL (ms.map (·.1)))).map (·.2)).sum ≤ room then (maxL (ms.map (·.1)), 1 + ((ms.filter fun m => decide (m.1 = maxL (ms.map (·.1)))).map (·.2)).sum)
    else (maxL (ms.map (·.1)) + 1, 1)
def sides : Tr → List Tr
  | .nil => []
  | .nd l _ r => [l, r].filter fun t => decide (t ≠ .nil)
theorem sides_ne {l r : Tr} {k : Int} {s : Tr} (h : s ∈ sides (.nd l k r)) : s ≠ .nil ∧ (s = l ∨ s = r) := by
  simp only [sides, List.mem_filter, List.mem_cons, List.not_mem_nil, or_false, decide_eq_true_eq] at h
  exact ⟨h.2, h.1⟩
theorem sides_len (l r : Tr) (k : Int) : (sides (.nd l k r)).length ≤ 2 := List.length_filter_le (fun t => decide (t ≠ Tr.nil)) [l, r]
def mk (room : Int) : Tr → Int × Int
  | .nil => (0, 0)
  | .nd l _ r => ruleM room ((if l = .nil then [] else [mk room l]) ++ (if r = .nil then [] else [mk room r]))
theorem mk_nd (room : Int) (l r : Tr) (k : Int) : mk room (.nd l k r) = ruleM room ((sides (.nd l k r)).map (mk room)) := by
  rw [mk]
  unfold sides
  cases l <;> cases r <;> simp
/-- the rows, by key -/
def rows (room : Int) : Tr → List (Int × Int × Int)
  | .nil => []
  | .nd l k r => rows room l ++ (k, (mk room (.nd l k r)).1, (mk room (.nd l k r)).2) :: rows room r
/-- the mark of a key -/
def mkAt (room : Int) : Tr → Int → Option (Int × Int)
  | .nil, _ => none
  | .nd l k r, j => if j = k then some (mk room (.nd l k r)) else (mkAt room l j).or (mkAt room r j)
theorem mkAt_none (room : Int) : ∀ (t : Tr) (j : Int), j ∉ t.keys → mkAt room t j = none
  | .nil, _, _ => rfl
  | .nd l k r, j, h => by
    simp only [keys, List.mem_append, List.mem_cons, not_or] at h
    rw [mkAt, if_neg h.2.1, mkAt_none room l j h.1, mkAt_none room r j h.2.2]; rfl
theorem mkAt_some (room : Int) : ∀ (t : Tr) (j : Int), j ∈ t.keys → ∃ m, mkAt room t j = some m
  | .nil, _, h => by simp [keys] at h
  | .nd l k r, j, h => by
    simp only [keys, List.mem_append, List.mem_cons] at h
    rw [mkAt]
    split
    · exact ⟨_, rfl⟩
    · rename_i c
      rcases h with h | h | h
      · obtain ⟨m, e⟩ := mkAt_some room l j h
        exact ⟨m, by rw [e]; rfl⟩
      · exact absurd h c
      · obtain ⟨m, e⟩ := mkAt_some room r j h
        cases q : mkAt room l j with
        | none => exact ⟨m, by rw [e]; rfl⟩
        | some m' => exact ⟨m', rfl⟩
/-- rows, from the marks of the keys -/
theorem rows_eq (room : Int) (f : Int → Int × Int) : ∀ t : Tr, t.keys.Nodup → (∀ j ∈ t.keys, mkAt room t j = some (f j)) → rows room t = t.keys.map fun j => (j, (f j).1, (f j).2)
  | .nil, _, _ => rfl
  | .nd l k r, hn, h => by
    simp only [keys] at hn h ⊢
    rw [List.nodup_append] at hn
    obtain ⟨n1, n2, n3⟩ := hn
    rw [List.nodup_cons] at n2
    have kl : k ∉ l.keys := fun z => n3 k z k List.mem_cons_self rfl
    rw [rows, List.map_append, List.map_cons]
    have hk := h k (by simp)
    rw [mkAt, if_pos rfl] at hk
    have hk' := Option.some.inj hk
    rw [hk']
    have h1 := rows_eq room f l n1 fun j hj => by
      have := h j (by simp [hj])
      rw [mkAt, if_neg (fun z : j = k => kl (z ▸ hj)), mkAt_none room r j (fun z => n3 j hj j (by simp [z]) rfl), Option.or_none] at this
      exact this
    have h2 := rows_eq room f r n2.2 fun j hj => by
      have := h j (by simp [hj])
      rw [mkAt, if_neg (fun z : j = k => n2.1 (z ▸ hj)), mkAt_none room l j (fun z => n3 j z j (by simp [hj]) rfl)] at this
      exact this
    rw [h1, h2]
end Tr

end L3

set_option Elab.async false
set_option linter.all false
set_option maxRecDepth 100000
namespace L3
open PySem PySem.Spec PyProof.Rows L2
local macro_rules | `(tactic| walk_at "d") => `(tactic| first | assumption | exact up_same | exact dr_fd _ _ | exact dr_wd _ _ | exact dr_ref (by assumption) | exact dr_ref up_same | exact keyOf_int | (exact (rfl : isNop _ = false)) | exact keyOf_str | exact tyOf_fl | exact tyOf_int | exact tyOf_tup | exact tyOf_bl | exact tyOf_ref (by assumption) | exact tyOf_ref up_same | (intro z; cases z))
local macro_rules | `(tactic| walk_at "w") => `(tactic| try simp -implicitDefEqProofs (disch := walk_at "d") only [↓wpE, ↓wpA, ↓wpB, ↓wpT, ↓wpTs, ↓wpI, ↓wpS, ↓wpSs, ↓optW_some, ↓w_lk0, ↓w_lkS, ↓w_bs, ↓w_bl0, ↓w_bl1, ↓w_k1, ↓w_kS, ↓w_b0, ↓w_b1, ↓w_b2, ↓w_b3, ↓w_b4, ↓w_b5, ↓w_b6, ↓w_b7, ↓w_b8, ↓w_b9, ↓w_b10, ↓w_b11, ↓w_b12, ↓w_b13, ↓w_b14, ↓w_b15, ↓w_b16, ↓w_b17, ↓w_b18, ↓w_b19, ↓w_b20, ↓w_b21, ↓w_b22, ↓w_b23, ↓w_b24, ↓w_b25, ↓alc_fz, ↓alc_lv, ↓w_dictZ, ↓w_eqNN, ↓w_add, ↓w_addS, ↓w_addL, ↓w_addT, ↓w_sub, ↓w_mul, ↓w_fdiv, ↓w_mod, ↓w_pow, ↓w_shl, ↓w_shr, ↓w_band, ↓w_eqI, ↓w_neI, ↓w_eqS, ↓w_neS, ↓w_lt, ↓w_le, ↓w_gt, ↓w_ge, ↓w_is, ↓w_isnot, ↓w_isB, ↓w_isnotB, ↓w_neF0, ↓w_eqF0, ↓w_neI_L, ↓w_eqI_L, ↓w_eqLL, ↓w_neDL, ↓w_eqDL, ↓w_idxR, ↓w_slcF, ↓w_slcT, ↓w_insert, ↓w_lrange, ↓w_revF, ↓w_revR, ↓w_tmul, ↓w_ok_indexF, ↓w_inI, ↓w_notinI, ↓w_eqEE, ↓w_neEE, ↓w_eqE0, ↓w_neE0, ↓w_eqRE, ↓w_neRE, ↓w_maxF, ↓w_minF, ↓w_eqB, ↓w_neB, ↓w_sortPF, ↓w_allF, ↓w_anyF, ↓w_slcR, ↓w_oi1, ↓w_oi2, ↓w_idxD, ↓w_inD, ↓w_notinD, ↓w_okD, ↓w_okDF, ↓w_okU, ↓w_get1N, ↓w_get2N, ↓w_get1, ↓w_get2, ↓w_upd, ↓w_putD, ↓w_frzD', ↓alcD_fz, ↓alcD_lv, ↓w_rep, ↓w_sortR, ↓w_sortF, ↓w_sumF, ↓w_idxF, ↓w_idxT, ↓w_idxS, ↓w_lenR, ↓w_lenF, ↓w_lenT, ↓w_lenS, ↓w_abs, ↓w_max2, ↓w_min2, ↓w_listF, ↓w_listT, ↓w_listR, ↓w_tupleF, ↓w_int, ↓w_intB, ↓w_isi, ↓w_ok_append, ↓w_ok_extend, ↓w_ok_pop, ↓w_ok_insert, ↓w_ok_reverse, ↓w_ok_clear, ↓w_ok_index, ↓w_ok_count, ↓w_append, ↓w_extend, ↓w_reverse, ↓w_clear, ↓w_frz, ↓w_set0, ↓w_set1, ↓w_set2, ↓w_at0, ↓w_at1, ↓w_at2, ↓w_at3, ↓w_blOf, ↓w_intOf, ↓w_refOf, ↓w_cellO, ↓wdK_wd, ↓w_lenDW, lockC_dic, lockC_lst, isN_wd, ↓w_truB, ↓w_truI, ↓w_truF, ↓w_truT, ↓w_truN, ↓optI, ↓isNop, optW_some, isN_non, isN_int, isN_tup, isN_fl, isN_ref, lv_fl, ls_fl, sq_fl, sq_tup, ls_sc, sq_sc, lv_up, ls_up, sq_up, tyOf_fl, tyOf_int, tyOf_tup, tyOf_bl, tyOf_ref, Option.bind_some, List.length_cons, List.length_nil, reduceIte, Bool.false_eq_true, if_true, if_false, List.map_cons, List.map_nil, List.replicate, List.cons_append, List.nil_append, Nat.reduceSub, Nat.reduceAdd, Nat.reduceLeDiff, Int.reduceLT, Int.reduceLE, Int.reduceNeg, Int.reduceToNat, Int.reducePow, and_true, true_and, or_true, true_or, decide_eq_true_eq, Bool.not_eq_true', decide_eq_false_iff_not, up_up, decide_true, decide_false, not_true_eq_false, not_false_eq_true, Bool.not_true, Bool.not_false, List.any_cons, List.any_nil, Bool.or_false, Bool.or_true, Bool.true_or, Bool.false_or, List.mem_cons, List.not_mem_nil, or_false, false_or, reduceCtorEq, sq_ref, lv_ref, ls_ref])
local macro_rules | `(tactic| walk_at "e") => `(tactic| simp only [List.map_cons, List.map_nil, List.replicate, List.cons_append, List.nil_append, Nat.reduceSub])
local macro_rules | `(tactic| walk_at "i") => `(tactic| try simp only [Bool.true_eq_false, Bool.false_eq_true, Bool.not_true, Bool.not_false, Bool.and_true, Bool.true_and, Bool.and_false, Bool.false_and, if_false, if_true, reduceIte, decide_true, decide_false, not_true_eq_false, not_false_eq_true, eq_self])
def HasMk (F : Fs) : Prop := F f_kids_of = some d_kids_of ∧ F f_mark_by = some d_mark_by ∧ F f_mark_all = some d_mark_all ∧ F f_marks_known = some d_marks_known
section
variable {F : Fs}
theorem kids_ok (hF : F f_kids_of = some d_kids_of) {h : Hq} {E : QE} {l r : Tr} {k : Int} {n : Nat} {Q : QV} (q : Q (.fl (((Tr.nd l k r).sides).map Tr.tv)) h) : CN F (n + 1) f_kids_of [(Tr.nd l k r).tv] h Q E := by
  refine CN_go hF rfl ?_
  unfold d_kids_of
  simp only [Tr.tv]
  walk_at "e"
  walk_at "w"
  refine comp_ok (fun ρ h Q Q' k w => moT F n p_kids_of_1 ρ h Q Q' (fun _ _ => False) k w) (fun ρ h Q Q' k w => moE F n e_kids_of_1 ρ h Q Q' (fun _ _ => False) k w) Tr.tv [l, r] (fun t => if t ≠ .nil then some t.tv else none) (by simp) ?_ ?_
  · intro p acc hp
    refine ⟨trivial, fun s hs => ⟨[some (Tr.nd l k r).tv, some s.tv], rfl, fun K q => ?_⟩⟩
    unfold p_kids_of_1
    walk_at "w"
    cases s with
    | nil => simpa [Tr.tv, isN] using q
    | nd a b c =>
      unfold e_kids_of_1
      simp only [Tr.tv, isN_tup]
      walk_at "w"
      simpa [Tr.tv] using q
  · rw [filterMap_if, alc_fz]
    exact q
theorem mark_by_ok (hF : F f_mark_by = some d_mark_by) {h : Hq} {E : QE} {room : Int} {ms : List (Int × Int)} {n : Nat} {Q : QV} (hl : ms.length ≤ 100) (q : Q (Enc.val (Tr.ruleM room ms)) h) : CN F (n + 1) f_mark_by [.int room, .fl (ms.map Enc.val)] h Q E := by
  refine CN_go hF rfl ?_
  unfold d_mark_by
  walk_at "e"
  walk_at "w"
  unfold Tr.ruleM at q
  split
  · rename_i e
    rw [if_pos e] at q
    exact q
  · rename_i hne
    rw [if_neg hne] at q
    refine comp_ok (fun ρ h Q Q' k w => moT F n .nop ρ h Q Q' (fun _ _ => False) k w) (fun ρ h Q Q' k w => moE F n e_mark_by_1 ρ h Q Q' (fun _ _ => False) k w) Enc.val ms (fun m => some (Val.int m.1)) (by omega) ?_ ?_
    · intro p acc hp
      refine ⟨trivial, fun m hm => ⟨[some (.int room), some (.fl (ms.map Enc.val)), none, some (Enc.val m), none], rfl, fun K q => ?_⟩⟩
      unfold e_mark_by_1
      rw [ev2]
      walk_at "w"
      exact q
    · rw [filterMap_one, alc_fz, show (ms.map fun m : Int × Int => Val.int m.1) = (ms.map (·.1)).map Val.int by rw [List.map_map]; rfl]
      walk_at "w"
      refine ⟨by simpa using hne, ?_⟩
      generalize maxL (ms.map (·.1)) = L at q ⊢
      refine comp_ok (fun ρ h Q Q' k w => moT F n p_mark_by_2 ρ h Q Q' (fun _ _ => False) k w) (fun ρ h Q Q' k w => moE F n e_mark_by_2 ρ h Q Q' (fun _ _ => False) k w) Enc.val ms (fun m => if m.1 = L then some (Val.int m.2) else none) (by omega) ?_ ?_
      · intro p acc hp
        refine ⟨trivial, fun m hm => ⟨[some (.int room), some (.fl (ms.map Enc.val)), some (.int L), some (Enc.val m), none], rfl, fun K q => ?_⟩⟩
        unfold p_mark_by_2
        rw [ev2]
        walk_at "w"
        unfold e_mark_by_2
        walk_at "w"
        by_cases c : m.1 = L
        · simpa [c] using q
        · simpa [c] using q
      · rw [filterMap_if, alc_fz, show ((ms.filter fun p => decide (p.1 = L)).map fun m : Int × Int => Val.int m.2) = ((ms.filter fun p => decide (p.1 = L)).map (·.2)).map Val.int by rw [List.map_map]; rfl]
        walk_at "w"
        split
        · rename_i c
          rw [if_pos c] at q
          exact q
        · rename_i c
          rw [if_neg c] at q
          exact q
theorem keys_of_ok (hF : F f_keys_of = some d_keys_of) {h : Hq} {E : QE} : ∀ (t : Tr) (n : Nat) {Q : QV}, t.ht < n → t.size ≤ 1000 → Q (.fl (t.keys.map .int)) h → CN F n f_keys_of [t.tv] h Q E
  | t, 0, Q, hn, _, q => by omega
  | .nil, n + 1, Q, hn, _, q => by
    refine CN_go hF rfl ?_
    unfold d_keys_of
    simp only [Tr.tv]
    walk_at "e"
    walk_at "w"
    exact q
  | .nd l j r, n + 1, Q, hn, hs, q => by
    refine CN_go hF rfl ?_
    unfold d_keys_of
    simp only [Tr.tv]
    walk_at "e"
    walk_at "w"
    simp only [Tr.ht] at hn
    simp only [Tr.size] at hs
    have h1 := Tr.keys_len l
    have h2 := Tr.keys_len r
    refine keys_of_ok hF l n (by omega) (by omega) ?_
    walk_at "w"
    refine ⟨by rw [List.length_map]; omega, ?_⟩
    refine keys_of_ok hF r n (by omega) (by omega) ?_
    walk_at "w"
    refine ⟨by simp only [List.length_append, List.length_map, List.length_cons, List.length_nil]; omega, ?_⟩
    simpa [Tr.keys] using q
end
section
variable {F : Fs}
theorem mkAt_top (room : Int) {t : Tr} (h : t ≠ .nil) : Tr.mkAt room t t.top = some (Tr.mk room t) ∧ t.top ∈ t.keys := by
  cases t with
  | nil => exact absurd rfl h
  | nd l k r => exact ⟨by rw [Tr.mkAt, Tr.top, if_pos rfl], by simp [Tr.keys, Tr.top]⟩
theorem mark_all_ok (hm : HasMk F) {a : Addr} {room : Int} {E : QE} : ∀ (t : Tr) (n : Nat) {h : Hq} {kvs : KVs} {Q : QV}, t.ht + 1 < n → t.keys.Nodup → h a = some (.dic kvs) → kvs.length + t.size ≤ 1000 →
    (∀ kvs', (∀ j : Int, dg kvs' (.inl j) = ((Tr.mkAt room t j).map Enc.val).or (dg kvs (.inl j))) → kvs'.length ≤ kvs.length + t.size → Q .non (up h a (.dic kvs'))) → CN F n f_mark_all [t.tv, .int room, .ref a] h Q E
  | t, 0, h, kvs, Q, hn, _, _, _, q => by omega
  | .nil, n + 1, h, kvs, Q, hn, _, hl, _, q => by
    obtain ⟨m1, m2, m3, m4⟩ := hm
    refine CN_go m3 rfl ?_
    unfold d_mark_all
    simp only [Tr.tv]
    walk_at "e"
    walk_at "w"
    have := q kvs (fun j => by simp [Tr.mkAt]) (by omega)
    rw [up_id hl] at this
    exact this
  | .nd l k r, n + 1, h, kvs, Q, hn, hd, hl, hz, q => by
    have hm' := hm
    obtain ⟨m1, m2, m3, m4⟩ := hm
    refine CN_go m3 rfl ?_
    unfold d_mark_all
    simp only [Tr.tv]
    walk_at "e"
    walk_at "w"
    simp only [Tr.ht] at hn
    simp only [Tr.size] at hz
    simp only [Tr.keys] at hd
    rw [List.nodup_append] at hd
    obtain ⟨n1, n2, n3⟩ := hd
    rw [List.nodup_cons] at n2
    have kl : k ∉ l.keys := fun z => n3 k z k List.mem_cons_self rfl
    have lr : ∀ j, j ∈ l.keys → j ∉ r.keys := fun j h1 h2 => n3 j h1 j (by simp [h2]) rfl
    obtain ⟨n, rfl⟩ : ∃ m, n = m + 1 := ⟨n - 1, by omega⟩
    refine for_two trivial ?_
    simp only [List.set]
    unfold b_mark_all_1
    walk_at "w"
    refine mark_all_ok hm' l (n + 1) (by omega) n1 hl (by omega) fun kvs1 g1 z1 => ?_
    simp only [List.set]
    walk_at "w"
    refine mark_all_ok hm' r (n + 1) (by omega) n2.2 up_same (by omega) fun kvs2 g2 z2 => ?_
    rw [up_up]
    unfold c_mark_all_1
    walk_at "w"
    rw [show (Val.tup [l.tv, .int k, r.tv]) = (Tr.nd l k r).tv from rfl]
    refine kids_ok m1 ?_
    walk_at "w"
    have look : ∀ s ∈ Tr.sides (.nd l k r), dg kvs2 (.inl s.top) = some (Enc.val (Tr.mk room s)) := by
      intro s hs
      obtain ⟨s1, s2⟩ := Tr.sides_ne hs
      obtain ⟨t1, t2⟩ := mkAt_top room s1
      rw [g2]
      rcases s2 with rfl | rfl
      · rw [Tr.mkAt_none room r _ (lr _ t2), g1, t1]; rfl
      · rw [t1]; rfl
    refine comp_ok (fun ρ h Q Q' k w => moT F (n + 1) .nop ρ h Q Q' (fun _ _ => False) k w) (fun ρ h Q Q' k w => moE F (n + 1) e_mark_all_1 ρ h Q Q' (fun _ _ => False) k w) Tr.tv (Tr.sides (.nd l k r)) (fun s => some (Enc.val (Tr.mk room s))) (by have := Tr.sides_len l r k; omega) ?_ ?_
    · intro p acc hp
      refine ⟨trivial, fun s hs => ⟨[some (Tr.nd l k r).tv, some (.int room), some (.ref a), some r.tv, some s.tv], rfl, fun K q => ?_⟩⟩
      unfold e_mark_all_1
      have lk := look s hs
      obtain ⟨sl, sk, sr, rfl⟩ := tv_ne (Tr.sides_ne hs).1
      simp only [Tr.tv]
      have e5 : (up (up h a (.dic kvs2)) p (.lst acc)) a = some (.dic kvs2) := by
        rw [up_ne (fun z => by rw [← z, up_same] at hp; cases hp), up_same]
      walk_at "w"
      rw [show dg kvs2 (.inl sk) = some (Enc.val (Tr.mk room (.nd sl sk sr))) from lk]
      exact q
    · rw [filterMap_one, alc_fz, show ((Tr.sides (.nd l k r)).map fun s => (Enc.val (Tr.mk room s) : Val)) = ((Tr.sides (.nd l k r)).map (Tr.mk room)).map Enc.val by rw [List.map_map]; rfl]
      refine mark_by_ok m2 (by have := Tr.sides_len l r k; rw [List.length_map]; omega) ?_
      rw [← Tr.mk_nd]
      walk_at "w"
      refine ⟨by omega, ?_⟩
      refine q _ (fun j => ?_) (by have := dp_len kvs2 (.inl k) (Enc.val (Tr.mk room (.nd l k r))); simp only [Tr.size]; omega)
      rw [dg_dp, Tr.mkAt]
      by_cases e : j = k
      · subst e; rw [if_pos rfl, if_pos rfl]; rfl
      · rw [if_neg (fun z => e (Sum.inl.inj z)), if_neg e, g2, g1]
        by_cases c : j ∈ l.keys
        · rw [Tr.mkAt_none room r j (lr j c)]; simp
        · rw [Tr.mkAt_none room l j c]; simp
theorem marks_known_ok (hm : HasMk F) {room : Int} {E : QE} {t : Tr} {n : Nat} {h : Hq} {Q : QV} (hn : t.ht + 2 < n) (hd : t.keys.Nodup) (hz : t.size ≤ 1000)
    (q : ∀ kvs, (∀ j : Int, dg kvs (.inl j) = (Tr.mkAt room t j).map Enc.val) → Q (fdOf kvs) h) : CN F n f_marks_known [t.tv, .int room] h Q E := by
  obtain ⟨n, rfl⟩ : ∃ m, n = m + 1 := ⟨n - 1, by omega⟩
  have hm' := hm
  obtain ⟨m1, m2, m3, m4⟩ := hm
  refine CN_go m4 rfl ?_
  unfold d_marks_known
  walk_at "e"
  walk_at "w"
  intro p hp
  refine mark_all_ok hm' t n (by omega) hd up_same (by simpa using hz) fun kvs g z => ?_
  rw [up_up]
  walk_at "w"
  rw [er_up hp]
  exact q kvs fun j => by rw [g]; simp [dg]
theorem marks_e (room : Int) {t : Tr} {kvs : KVs} (g : ∀ j : Int, dg kvs (.inl j) = (Tr.mkAt room t j).map Enc.val) (hd : t.keys.Nodup) :
    ∃ f : Int → Int × Int, (∀ j ∈ t.keys, dg kvs (.inl j) = some (Enc.val (f j))) ∧ t.keys.map (fun j => (j, (f j).1, (f j).2)) = Tr.rows room t ∧ ∀ j ∈ t.keys, Tr.mkAt room t j = some (f j) := by
  have hf : ∀ j ∈ t.keys, Tr.mkAt room t j = some ((Tr.mkAt room t j).getD (0, 0)) := fun j hj => by
    obtain ⟨m, e⟩ := Tr.mkAt_some room t j hj
    rw [e]; rfl
  refine ⟨fun j => (Tr.mkAt room t j).getD (0, 0), fun j hj => ?_, ?_, hf⟩
  · have := hf j hj
    rw [g, this]; rfl
  · exact (Tr.rows_eq room (fun j => (Tr.mkAt room t j).getD (0, 0)) t hd hf).symm
theorem marks_ok (hm : HasMk F) (hK : F f_keys_of = some d_keys_of) (hF : F f_marks = some d_marks) {room : Int} {E : QE} {t : Tr} {n : Nat} {h : Hq} {Q : QV} (hn : t.ht + 3 < n) (hd : t.keys.Nodup) (hz : t.size ≤ 1000)
    (q : Q (.fl ((Tr.rows room t).map Enc.val)) h) : CN F n f_marks [t.tv, .int room] h Q E := by
  obtain ⟨n, rfl⟩ : ∃ m, n = m + 1 := ⟨n - 1, by omega⟩
  refine CN_go hF rfl ?_
  unfold d_marks
  walk_at "e"
  walk_at "w"
  refine marks_known_ok hm (by omega) hd hz fun kvs g => ?_
  walk_at "w"
  refine keys_of_ok hK t n (by omega) hz ?_
  walk_at "w"
  obtain ⟨f, f1, f2, f3⟩ := marks_e room g hd
  refine comp_ok (fun ρ h Q Q' k w => moT F n .nop ρ h Q Q' (fun _ _ => False) k w) (fun ρ h Q Q' k w => moE F n e_marks_1 ρ h Q Q' (fun _ _ => False) k w) Val.int t.keys (fun j => some (Enc.val (j, (f j).1, (f j).2))) (by have := Tr.keys_len t; omega) ?_ ?_
  · intro p acc hp
    refine ⟨trivial, fun j hj => ⟨[some t.tv, some (.int room), some (fdOf kvs), some (.int j)], rfl, fun K q => ?_⟩⟩
    unfold e_marks_1
    walk_at "w"
    rw [f1 j hj, ev2]
    walk_at "w"
    exact q
  · rw [filterMap_one, alc_fz, show (t.keys.map fun j => (Enc.val (j, (f j).1, (f j).2) : Val)) = (t.keys.map fun j => (j, (f j).1, (f j).2)).map Enc.val by rw [List.map_map]; rfl, f2]
    exact q
theorem marks_L_ok (hm : HasMk F) (hK : F f_keys_of = some d_keys_of) (hF : F f_marks_L = some d_marks_L) {room : Int} {E : QE} {t : Tr} {n : Nat} {h : Hq} {Q : QV} (hn : t.ht + 3 < n) (hd : t.keys.Nodup) (hz : t.size ≤ 1000)
    (q : ∀ p, h p = none → Q (.ref p) (up h p (.lst ((Tr.rows room t).map Enc.val)))) : CN F n f_marks_L [t.tv, .int room] h Q E := by
  obtain ⟨n, rfl⟩ : ∃ m, n = m + 1 := ⟨n - 1, by omega⟩
  refine CN_go hF rfl ?_
  unfold d_marks_L
  walk_at "e"
  walk_at "w"
  refine marks_known_ok hm (by omega) hd hz fun kvs g => ?_
  walk_at "w"
  refine keys_of_ok hK t n (by omega) hz ?_
  walk_at "w"
  obtain ⟨f, f1, f2, f3⟩ := marks_e room g hd
  refine comp_ok (fun ρ h Q Q' k w => moT F n .nop ρ h Q Q' (fun _ _ => False) k w) (fun ρ h Q Q' k w => moE F n e_marks_L_1 ρ h Q Q' (fun _ _ => False) k w) Val.int t.keys (fun j => some (Enc.val (j, (f j).1, (f j).2))) (by have := Tr.keys_len t; omega) ?_ ?_
  · intro p acc hp
    refine ⟨trivial, fun j hj => ⟨[some t.tv, some (.int room), some (fdOf kvs), some (.int j)], rfl, fun K q => ?_⟩⟩
    unfold e_marks_L_1
    walk_at "w"
    rw [f1 j hj, ev2]
    walk_at "w"
    exact q
  · rw [filterMap_one, alc_lv, show (t.keys.map fun j => (Enc.val (j, (f j).1, (f j).2) : Val)) = (t.keys.map fun j => (j, (f j).1, (f j).2)).map Enc.val by rw [List.map_map]; rfl, f2]
    exact q
end

end L3

set_option Elab.async false
set_option linter.all false
set_option maxRecDepth 100000
namespace L3
open PySem PySem.Spec PyProof.Rows L2
def f_weight_by : Nat := 1045
def f_burden_by : Nat := 1046
def f_burden : Nat := 1047
def d_weight_by : Df := ⟨2, 2, (.cons (.ret (.op2 .dictZ true (.call f_keys_of (.cons (.var 0) .nil)) (.var 1))) .nil)⟩
-- ['tree', 'weights']
def d_burden_by : Df := ⟨2, 2, (.cons (.ite (.cmp .is (.var 0) .non) (.cons (.ret (.int 0)) .nil) .nil) (.cons (.ret (.bin .add true (.bin .add true (.call f_burden_by (.cons (.idx (.var 0) (.int 0)) (.cons (.var 1) .nil))) (.idx (.var 1) (.idx (.var 0) (.int 1)))) (.call f_burden_by (.cons (.idx (.var 0) (.int 2)) (.cons (.var 1) .nil))))) .nil))⟩
-- ['tree', 'by']
def b_burden_1 : Sms := (.cons (.ite (.cmp .lt (.var 2) (.idx (.var 3) (.int 1))) (.cons (.asg (.name 3) (.idx (.var 3) (.int 0))) .nil) (.cons (.asg (.name 3) (.idx (.var 3) (.int 2))) .nil)) .nil)
def t_burden_1 : Ex := (.cmp .ne (.idx (.var 3) (.int 1)) (.var 2))
def c_burden_1 : Sms := (.cons (.ret (.call f_burden_by (.cons (.var 3) (.cons (.call f_weight_by (.cons (.var 0) (.cons (.var 1) .nil))) .nil)))) .nil)
def d_burden : Df := ⟨3, 4, (.cons (.asg (.name 3) (.var 0)) (.cons (.whl t_burden_1 b_burden_1) c_burden_1))⟩
-- ['tree', 'weights', 'key', 'here']
end L3

set_option Elab.async false
set_option linter.all false
set_option maxRecDepth 100000
namespace L3
open PySem PySem.Spec PyProof.Rows L2
local macro_rules | `(tactic| walk_at "d") => `(tactic| first | assumption | exact up_same | exact dr_fd _ _ | exact dr_wd _ _ | exact dr_ref (by assumption) | exact dr_ref up_same | exact keyOf_int | (exact (rfl : isNop _ = false)) | exact keyOf_str | exact tyOf_fl | exact tyOf_int | exact tyOf_tup | exact tyOf_bl | exact tyOf_ref (by assumption) | exact tyOf_ref up_same | (intro z; cases z))
local macro_rules | `(tactic| walk_at "w") => `(tactic| try simp -implicitDefEqProofs (disch := walk_at "d") only [↓wpE, ↓wpA, ↓wpB, ↓wpT, ↓wpTs, ↓wpI, ↓wpS, ↓wpSs, ↓optW_some, ↓w_lk0, ↓w_lkS, ↓w_bs, ↓w_bl0, ↓w_bl1, ↓w_k1, ↓w_kS, ↓w_b0, ↓w_b1, ↓w_b2, ↓w_b3, ↓w_b4, ↓w_b5, ↓w_b6, ↓w_b7, ↓w_b8, ↓w_b9, ↓w_b10, ↓w_b11, ↓w_b12, ↓w_b13, ↓w_b14, ↓w_b15, ↓w_b16, ↓w_b17, ↓w_b18, ↓w_b19, ↓w_b20, ↓w_b21, ↓w_b22, ↓w_b23, ↓w_b24, ↓w_b25, ↓alc_fz, ↓alc_lv, ↓w_dictZ, ↓w_eqNN, ↓w_add, ↓w_addS, ↓w_addL, ↓w_addT, ↓w_sub, ↓w_mul, ↓w_fdiv, ↓w_mod, ↓w_pow, ↓w_shl, ↓w_shr, ↓w_band, ↓w_eqI, ↓w_neI, ↓w_eqS, ↓w_neS, ↓w_lt, ↓w_le, ↓w_gt, ↓w_ge, ↓w_is, ↓w_isnot, ↓w_isB, ↓w_isnotB, ↓w_neF0, ↓w_eqF0, ↓w_neI_L, ↓w_eqI_L, ↓w_eqLL, ↓w_neDL, ↓w_eqDL, ↓w_idxR, ↓w_slcF, ↓w_slcT, ↓w_insert, ↓w_lrange, ↓w_revF, ↓w_revR, ↓w_tmul, ↓w_ok_indexF, ↓w_inI, ↓w_notinI, ↓w_eqEE, ↓w_neEE, ↓w_eqE0, ↓w_neE0, ↓w_eqRE, ↓w_neRE, ↓w_maxF, ↓w_minF, ↓w_eqB, ↓w_neB, ↓w_sortPF, ↓w_allF, ↓w_anyF, ↓w_slcR, ↓w_oi1, ↓w_oi2, ↓w_idxD, ↓w_inD, ↓w_notinD, ↓w_okD, ↓w_okDF, ↓w_okU, ↓w_get1N, ↓w_get2N, ↓w_get1, ↓w_get2, ↓w_upd, ↓w_putD, ↓w_frzD', ↓alcD_fz, ↓alcD_lv, ↓w_rep, ↓w_sortR, ↓w_sortF, ↓w_sumF, ↓w_idxF, ↓w_idxT, ↓w_idxS, ↓w_lenR, ↓w_lenF, ↓w_lenT, ↓w_lenS, ↓w_abs, ↓w_max2, ↓w_min2, ↓w_listF, ↓w_listT, ↓w_listR, ↓w_tupleF, ↓w_int, ↓w_intB, ↓w_isi, ↓w_ok_append, ↓w_ok_extend, ↓w_ok_pop, ↓w_ok_insert, ↓w_ok_reverse, ↓w_ok_clear, ↓w_ok_index, ↓w_ok_count, ↓w_append, ↓w_extend, ↓w_reverse, ↓w_clear, ↓w_frz, ↓w_set0, ↓w_set1, ↓w_set2, ↓w_at0, ↓w_at1, ↓w_at2, ↓w_at3, ↓w_blOf, ↓w_intOf, ↓w_refOf, ↓w_cellO, ↓wdK_wd, ↓w_lenDW, lockC_dic, lockC_lst, isN_wd, ↓w_truB, ↓w_truI, ↓w_truF, ↓w_truT, ↓w_truN, ↓optI, ↓isNop, optW_some, isN_non, isN_int, isN_tup, isN_fl, isN_ref, lv_fl, ls_fl, sq_fl, sq_tup, ls_sc, sq_sc, lv_up, ls_up, sq_up, tyOf_fl, tyOf_int, tyOf_tup, tyOf_bl, tyOf_ref, Option.bind_some, List.length_cons, List.length_nil, reduceIte, Bool.false_eq_true, if_true, if_false, List.map_cons, List.map_nil, List.replicate, List.cons_append, List.nil_append, Nat.reduceSub, Nat.reduceAdd, Nat.reduceLeDiff, Int.reduceLT, Int.reduceLE, Int.reduceNeg, Int.reduceToNat, Int.reducePow, and_true, true_and, or_true, true_or, decide_eq_true_eq, Bool.not_eq_true', decide_eq_false_iff_not, up_up, decide_true, decide_false, not_true_eq_false, not_false_eq_true, Bool.not_true, Bool.not_false, List.any_cons, List.any_nil, Bool.or_false, Bool.or_true, Bool.true_or, Bool.false_or, List.mem_cons, List.not_mem_nil, or_false, false_or, reduceCtorEq, sq_ref, lv_ref, ls_ref])
local macro_rules | `(tactic| walk_at "e") => `(tactic| simp only [List.map_cons, List.map_nil, List.replicate, List.cons_append, List.nil_append, Nat.reduceSub])
local macro_rules | `(tactic| walk_at "i") => `(tactic| try simp only [Bool.true_eq_false, Bool.false_eq_true, Bool.not_true, Bool.not_false, Bool.and_true, Bool.true_and, Bool.and_false, Bool.false_and, if_false, if_true, reduceIte, decide_true, decide_false, not_true_eq_false, not_false_eq_true, eq_self])
/-- the weight of a key -/
def wf : List Int → List Int → Int → Int
  | k :: ks, w :: ws, j => if j = k then w else wf ks ws j
  | _, _, _ => 0
theorem wf_map : ∀ {ks ws : List Int}, ks.Nodup → ks.length = ws.length → ks.map (wf ks ws) = ws
  | [], [], _, _ => rfl
  | [], _ :: _, _, h => by simp at h
  | _ :: _, [], _, h => by simp at h
  | k :: ks, w :: ws, hn, hl => by
    rw [List.nodup_cons] at hn
    have ih := wf_map (ws := ws) hn.2 (by simpa using hl)
    have e : ks.map (wf (k :: ks) (w :: ws)) = ks.map (wf ks ws) := List.map_congr_left fun j hj => by
      have : ¬ j = k := fun z => hn.1 (z ▸ hj)
      simp [wf, this]
    rw [List.map_cons, e, ih]
    simp [wf]
def wKV (ks ws : List Int) : KVs := (ks.map fun k => (Sum.inl k : Key)).zip (ws.map Val.int)
theorem wf_dg : ∀ {ks ws : List Int} {k : Int}, ks.length = ws.length → k ∈ ks → dg (wKV ks ws) (.inl k) = some (.int (wf ks ws k))
  | [], _, _, _, h => by simp at h
  | _ :: _, [], _, h, _ => by simp at h
  | j :: ks, w :: ws, k, hl, h => by
    by_cases e : k = j
    · subst e; simp [wKV, dg, wf]
    · have h' : k ∈ ks := by simpa [e] using h
      have ih := wf_dg (ks := ks) (ws := ws) (k := k) (by simpa using hl) h'
      have e' : ¬ j = k := fun z => e z.symm
      rw [wf, if_neg e, ← ih]
      simp [wKV, dg, List.find?_cons, e']
theorem wKV_keys {ks ws : List Int} (hn : ks.Nodup) : ((wKV ks ws).map (·.1)).Nodup := by
  unfold wKV
  have e : ∀ (ks : List Int) (vs : List Val), (((ks.map fun k => (Sum.inl k : Key)).zip vs).map (·.1)) = (ks.take vs.length).map fun k => (Sum.inl k : Key) := by
    intro ks
    induction ks with
    | nil => intro vs; simp
    | cons k ks ih => intro vs; cases vs with
      | nil => rfl
      | cons v vs => simp [ih vs]
  rw [e]
  exact List.Pairwise.map _ (fun x y n z => n (Sum.inl.inj z)) (hn.sublist (List.take_sublist _ _))
def byD (ks ws : List Int) : KVs := dmerge [] (wKV ks ws)
theorem byD_dg {ks ws : List Int} (hn : ks.Nodup) (hl : ks.length = ws.length) {k : Int} (hk : k ∈ ks) : dg (byD ks ws) (.inl k) = some (.int (wf ks ws k)) := by
  have := (dmerge_ok (wKV ks ws) [] (wKV_keys hn) (by simp)).1 (.inl k)
  rw [byD, this, wf_dg hl hk]
  rfl
section
variable {F : Fs}
theorem weight_by_ok (hF : F f_weight_by = some d_weight_by) (hK : F f_keys_of = some d_keys_of) {t : Tr} {ws : List Int} {n : Nat} {h : Hq} {Q : QV} {E : QE} (hn : t.ht < n) (hz : t.size ≤ 1000) (q : Q (fdOf (byD t.keys ws)) h) :
    CN F (n + 1) f_weight_by [t.tv, .fl (ws.map .int)] h Q E := by
  refine CN_go hF rfl ?_
  unfold d_weight_by
  walk_at "e"
  walk_at "w"
  refine keys_of_ok hK t n hn hz ?_
  walk_at "w"
  exact q
theorem burden_by_ok (hF : F f_burden_by = some d_burden_by) {f : Int → Int} {kvs : KVs} {h : Hq} {E : QE} : ∀ (t : Tr) (n : Nat) {Q : QV}, t.ht < n → (∀ k ∈ t.keys, dg kvs (.inl k) = some (.int (f k))) → Q (.int ((t.keys.map f).sum)) h → CN F n f_burden_by [t.tv, fdOf kvs] h Q E
  | .nil, n, Q, hn, hk, q => by
    obtain ⟨n, rfl⟩ : ∃ m, n = m + 1 := ⟨n - 1, by omega⟩
    refine CN_go hF rfl ?_
    unfold d_burden_by
    simp only [Tr.tv]
    walk_at "e"
    walk_at "w"
    exact q
  | .nd l k r, n, Q, hn, hk, q => by
    obtain ⟨n, rfl⟩ : ∃ m, n = m + 1 := ⟨n - 1, by omega⟩
    simp only [Tr.ht] at hn
    refine CN_go hF rfl ?_
    unfold d_burden_by
    simp only [Tr.tv]
    walk_at "e"
    walk_at "w"
    refine burden_by_ok hF l n (by omega) (fun j hj => hk j (by simp [Tr.keys, hj])) ?_
    rw [hk k (by simp [Tr.keys])]
    walk_at "w"
    refine burden_by_ok hF r n (by omega) (fun j hj => hk j (by simp [Tr.keys, hj])) ?_
    walk_at "w"
    have e : ((Tr.nd l k r).keys.map f).sum = (l.keys.map f).sum + f k + (r.keys.map f).sum := by
      simp only [Tr.keys, List.map_append, List.map_cons, List.sum_append, List.sum_cons]; omega
    rw [← e]
    exact q
theorem burden_ok (hF : F f_burden = some d_burden) (hB : F f_burden_by = some d_burden_by) (hW : F f_weight_by = some d_weight_by) (hK : F f_keys_of = some d_keys_of) {t : Tr} {ws : List Int} {k : Int} {n : Nat} {h : Hq} {Q : QV} {E : QE} (hz : t.size ≤ 100) (hn : 102 ≤ n)
    (hu : t.keys.Pairwise (· < ·)) (hl : t.keys.length = ws.length) (hk : k ∈ t.keys) (q : Q (.int (((t.at_ k).keys.map (wf t.keys ws)).sum)) h) : CN F (n + 1) f_burden [t.tv, .fl (ws.map .int), .int k] h Q E := by
  have hd : t.keys.Nodup := hu.imp fun h => Int.ne_of_lt h
  have ht := t.ht_le
  refine CN_go hF rfl ?_
  unfold d_burden
  walk_at "e"
  walk_at "w"
  refine whl_inv (fun ρ h Q Q' k w => moT F n _ ρ h Q Q' _ k w) (moS F n _) (fun j ρ h' => ∃ s : Tr, h' = h ∧ ρ = [some t.tv, some (.fl (ws.map .int)), some (.int k), some s.tv] ∧ s.size = j ∧ s.keys.Pairwise (· < ·) ∧ k ∈ s.keys ∧ s.at_ k = t.at_ k ∧ s.keys.Sublist t.keys) (m := t.size) ?_ ?_
  · intro j ρ h' ⟨s, e1, e2, e3, su, sk, sa, sm⟩
    subst e1 e2
    cases s with
    | nil => simp [Tr.keys] at sk
    | nd l x r =>
      unfold t_burden_1
      simp only [Tr.tv]
      walk_at "w"
      have su' := su
      simp only [Tr.keys] at su
      rw [List.pairwise_append, List.pairwise_cons] at su
      obtain ⟨u1, ⟨u2, u3⟩, u4⟩ := su
      simp only [Tr.size] at e3
      split
      · rename_i hne
        unfold b_burden_1
        walk_at "w"
        simp only [Tr.keys, List.mem_append, List.mem_cons] at sk
        have hne : ¬ k = x := fun z => hne z.symm
        split
        · rename_i c
          refine ⟨l.size, by omega, l, rfl, rfl, u1, ?_, ?_, List.Sublist.trans (by simp only [Tr.keys]; exact List.sublist_append_left _ _) sm⟩
          · rcases sk with h | h | h
            · exact h
            · exact absurd h hne
            · have := u2 k h; omega
          · rw [← sa, Tr.at_, if_neg hne, if_pos c]
        · rename_i c
          refine ⟨r.size, by omega, r, rfl, rfl, u3, ?_, ?_, List.Sublist.trans (by simp only [Tr.keys]; exact (List.sublist_cons_self _ _).trans (List.sublist_append_right _ _)) sm⟩
          · rcases sk with h | h | h
            · have := u4 k h x (by simp); omega
            · exact absurd h hne
            · exact h
          · rw [← sa, Tr.at_, if_neg hne, if_neg c]
      · rename_i hne
        have hne : x = k := Classical.not_not.mp hne
        unfold c_burden_1
        walk_at "w"
        obtain ⟨m, rfl⟩ : ∃ m, n = m + 1 := ⟨n - 1, by omega⟩
        refine weight_by_ok hW hK (by omega) (by omega) ?_
        have es : t.at_ k = .nd l x r := by rw [← sa, Tr.at_, if_pos hne.symm]
        rw [show Val.tup [l.tv, .int x, r.tv] = (Tr.nd l x r).tv from rfl]
        have hle : (Tr.nd l x r).ht ≤ (Tr.nd l x r).size := Tr.ht_le _
        have hsz : (Tr.nd l x r).size ≤ t.size := by
          rw [← Tr.keys_len, ← Tr.keys_len]
          exact sm.length_le
        refine burden_by_ok hB (f := wf t.keys ws) (Tr.nd l x r) (m + 1) (by omega) (fun j hj => byD_dg hd hl (sm.mem hj)) ?_
        rw [← es]
        exact q
  · exact ⟨t, rfl, rfl, rfl, hu, hk, rfl, List.Sublist.refl _⟩
end

end L3

set_option Elab.async false
set_option linter.all false
set_option maxRecDepth 100000
namespace L3
open PySem PySem.Spec PyProof.Rows L2
def f_side_with : Nat := 1107
def f_side_of : Nat := 1108
def f_costs_made : Nat := 1109
def f_is_shown : Nat := 1110
def f_least_by : Nat := 1111
def f_put_pages : Nat := 1112
def f_put_costs : Nat := 1113
def f_shows_cost : Nat := 1115
def f_cheapest : Nat := 1118
def d_side_with : Df := ⟨2, 2, (.cons (.ret (.bin .add true (.tup (.cons (.bin .add true (.var 0) (.idx (.var 1) (.neg (.int 1)))) .nil)) (.slc true (.var 1) .nop (.neg (.int 1))))) .nil)⟩
-- ['heavy', 'costs']
def d_side_of : Df := ⟨4, 4, (.cons (.ite (.cmp .is (.var 0) .non) (.cons (.ret (.op2 .tmul true (.tup (.cons (.int 0) .nil)) (.var 1))) .nil) .nil) (.cons (.ret (.call f_side_with (.cons (.call f_burden_by (.cons (.var 0) (.cons (.var 2) .nil))) (.cons (.idx (.var 3) (.idx (.var 0) (.int 1))) .nil)))) .nil))⟩
-- ['tree', 'room', 'by', 'costs']
def e_costs_made_1 : Ex := (.bin .add true (.idx (.var 0) (.var 4)) (.idx (.var 1) (.bin .sub true (.var 3) (.var 4))))
def b_costs_made_1 : Sms := (.cons (.ex (.mth .append (.var 2) (.cons (.blt .min true (.cons (.comp true e_costs_made_1 (.name 4) (.range1 (.bin .add true (.var 3) (.int 1))) .nop [4]) .nil)) .nil))) .nil)
def c_costs_made_1 : Sms := (.cons (.ret (.blt .tuple true (.cons (.var 2) .nil))) .nil)
def d_costs_made : Df := ⟨2, 5, (.cons (.asg (.name 2) (.lst false .nil)) (.cons (.for (.name 3) (.range1 (.blt .len true (.cons (.var 0) .nil))) b_costs_made_1) c_costs_made_1))⟩
-- ['left', 'right', 'made', 'k', 'i']
def b_is_shown_1 : Sms := (.cons (.ite (.bop false (.cons (.cmp .gt (.idx (.var 4) (.var 6)) (.idx (.var 5) (.var 6))) (.cons (.bop true (.cons (.cmp .gt (.var 6) (.int 0)) (.cons (.cmp .gt (.idx (.var 4) (.var 6)) (.idx (.var 4) (.bin .sub true (.var 6) (.int 1)))) .nil))) .nil))) (.cons (.ret (.bl false)) .nil) .nil) .nil)
def c_is_shown_1 : Sms := (.cons (.ret (.bop true (.cons (.call f_is_shown (.cons (.idx (.var 0) (.int 0)) (.cons (.var 1) (.cons (.var 2) (.cons (.var 3) .nil))))) (.cons (.call f_is_shown (.cons (.idx (.var 0) (.int 2)) (.cons (.var 1) (.cons (.var 2) (.cons (.var 3) .nil))))) .nil)))) .nil)
def d_is_shown : Df := ⟨4, 7, (.cons (.ite (.cmp .is (.var 0) .non) (.cons (.ret (.bl true)) .nil) .nil) (.cons (.asg (.name 4) (.idx (.var 3) (.idx (.var 0) (.int 1)))) (.cons (.asg (.name 5) (.call f_costs_made (.cons (.call f_side_of (.cons (.idx (.var 0) (.int 0)) (.cons (.var 1) (.cons (.var 2) (.cons (.var 3) .nil))))) (.cons (.call f_side_of (.cons (.idx (.var 0) (.int 2)) (.cons (.var 1) (.cons (.var 2) (.cons (.var 3) .nil))))) .nil)))) (.cons (.for (.name 6) (.range1 (.var 1)) b_is_shown_1) c_is_shown_1))))⟩
-- ['tree', 'room', 'by', 'costs', 'own', 'made', 'k']
def d_least_by : Df := ⟨3, 3, (.cons (.ite (.cmp .is (.var 0) .non) (.cons (.ret (.int 0)) .nil) .nil) (.cons (.ret (.bin .add true (.call f_burden_by (.cons (.var 0) (.cons (.var 1) .nil))) (.idx (.idx (.var 2) (.idx (.var 0) (.int 1))) (.neg (.int 1))))) .nil))⟩
-- ['tree', 'by', 'costs']
def e_put_pages_1 : Ex := (.bin .add true (.idx (.var 9) (.var 12)) (.idx (.var 10) (.bin .sub true (.bin .sub true (.var 7) (.int 1)) (.var 12))))
def b_put_pages_1 : Sms := (.cons (.ite (.bop true (.cons (.cmp .isnot (.var 13) .non) (.cons (.cmp .gt (.var 14) (.int 0)) .nil))) (.cons (.ex (.mth .append (.var 5) (.cons (.tup (.cons (.var 13) (.cons (.var 14) (.cons (.var 8) .nil)))) .nil))) .nil) (.cons (.ite (.cmp .isnot (.var 13) .non) (.cons (.ex (.mth .append (.var 5) (.cons (.tup (.cons (.var 13) (.cons (.var 1) (.cons (.blt .len true (.cons (.var 4) .nil)) .nil)))) .nil))) (.cons (.ex (.mth .append (.var 4) (.cons (.lst false .nil) .nil))) .nil)) .nil) .nil)) .nil)
def b_put_pages_2 : Sms := (.cons (.asg (.names [6, 7, 8]) (.mth .pop (.var 5) .nil)) (.cons (.ex (.mth .append (.idx (.var 4) (.var 8)) (.cons (.idx (.var 6) (.int 1)) .nil))) (.cons (.asg (.name 9) (.call f_side_of (.cons (.idx (.var 6) (.int 0)) (.cons (.var 1) (.cons (.var 2) (.cons (.var 3) .nil)))))) (.cons (.asg (.name 10) (.call f_side_of (.cons (.idx (.var 6) (.int 2)) (.cons (.var 1) (.cons (.var 2) (.cons (.var 3) .nil)))))) (.cons (.asg (.name 11) (.comp true e_put_pages_1 (.name 12) (.range1 (.var 7)) .nop [12])) (.cons (.asg (.name 12) (.mth .index (.var 11) (.cons (.blt .min true (.cons (.var 11) .nil)) .nil))) (.cons (.for (.names [13, 14]) (.seq (.tup (.cons (.tup (.cons (.idx (.var 6) (.int 0)) (.cons (.var 12) .nil))) (.cons (.tup (.cons (.idx (.var 6) (.int 2)) (.cons (.bin .sub true (.bin .sub true (.var 7) (.int 1)) (.var 12)) .nil))) .nil)))) b_put_pages_1) .nil)))))))
def t_put_pages_2 : Ex := (.cmp .ne (.var 5) (.lst true .nil))
def d_put_pages : Df := ⟨5, 15, (.cons (.asg (.name 5) (.lst false (.cons (.tup (.cons (.var 0) (.cons (.var 1) (.cons (.blt .len true (.cons (.var 4) .nil)) .nil)))) .nil))) (.cons (.ex (.mth .append (.var 4) (.cons (.lst false .nil) .nil))) (.cons (.whl t_put_pages_2 b_put_pages_2) .nil)))⟩
-- ['tree', 'room', 'by', 'costs', 'pages', 'waiting', 'here', 'many', 'page', 'left', 'right', 'sums', 'i', 'side', 'some']
def d_put_costs : Df := ⟨4, 4, (.cons (.ite (.cmp .isnot (.var 0) .non) (.cons (.ex (.call f_put_costs (.cons (.idx (.var 0) (.int 0)) (.cons (.var 1) (.cons (.var 2) (.cons (.var 3) .nil)))))) (.cons (.ex (.call f_put_costs (.cons (.idx (.var 0) (.int 2)) (.cons (.var 1) (.cons (.var 2) (.cons (.var 3) .nil)))))) (.cons (.asgI (.var 3) (.idx (.var 0) (.int 1)) (.call f_costs_made (.cons (.call f_side_of (.cons (.idx (.var 0) (.int 0)) (.cons (.var 1) (.cons (.var 2) (.cons (.var 3) .nil))))) (.cons (.call f_side_of (.cons (.idx (.var 0) (.int 2)) (.cons (.var 1) (.cons (.var 2) (.cons (.var 3) .nil))))) .nil)))) .nil))) .nil) .nil)⟩
-- ['tree', 'room', 'by', 'costs']
def e_shows_cost_1 : Ex := (.var 5)
def d_shows_cost : Df := ⟨5, 8, (.cons (.ite (.cmp .ne (.comp true e_shows_cost_1 (.names [5, 6]) (.seq (.var 3)) .nop [5, 6]) (.call f_keys_of (.cons (.var 0) .nil))) (.cons (.ret (.bl false)) .nil) .nil) (.cons (.asg (.name 7) (.call f_weight_by (.cons (.var 0) (.cons (.var 2) .nil)))) (.cons (.asg (.name 6) (.op1 .dictP true (.var 3))) (.cons (.ret (.bop true (.cons (.call f_is_shown (.cons (.var 0) (.cons (.var 1) (.cons (.var 7) (.cons (.var 6) .nil))))) (.cons (.cmp .le (.var 4) (.call f_least_by (.cons (.var 0) (.cons (.var 7) (.cons (.var 6) .nil))))) .nil)))) .nil))))⟩
-- ['tree', 'room', 'weights', 'table', 'number', 'key', 'costs', 'by']
def c_cheapest_1 : Sms := (.cons (.ret (.tup (.cons (.call f_least_by (.cons (.var 0) (.cons (.var 3) (.cons (.var 4) .nil)))) (.cons (.var 5) (.cons (.op1 .itemsS true (.var 4)) .nil))))) .nil)
def d_cheapest : Df := ⟨3, 6, (.cons (.asg (.name 3) (.call f_weight_by (.cons (.var 0) (.cons (.var 2) .nil)))) (.cons (.asg (.name 4) (.dic0 false)) (.cons (.ex (.call f_put_costs (.cons (.var 0) (.cons (.var 1) (.cons (.var 3) (.cons (.var 4) .nil)))))) (.cons (.asg (.name 5) (.lst false .nil)) (.cons (.ite (.cmp .isnot (.var 0) .non) (.cons (.ex (.call f_put_pages (.cons (.var 0) (.cons (.var 1) (.cons (.var 3) (.cons (.var 4) (.cons (.var 5) .nil))))))) .nil) .nil) c_cheapest_1)))))⟩
-- ['tree', 'room', 'weights', 'by', 'costs', 'pages']
end L3

set_option Elab.async false
set_option linter.all false
set_option maxRecDepth 100000
namespace L3
open PySem PySem.Spec PyProof.Rows L2
local macro_rules | `(tactic| walk_at "d") => `(tactic| first | assumption | exact up_same | exact dr_fd _ _ | exact dr_wd _ _ | exact dr_ref (by assumption) | exact dr_ref up_same | exact keyOf_int | (exact (rfl : isNop _ = false)) | exact keyOf_str | exact tyOf_fl | exact tyOf_int | exact tyOf_tup | exact tyOf_bl | exact tyOf_ref (by assumption) | exact tyOf_ref up_same | (intro z; cases z))
local macro_rules | `(tactic| walk_at "w") => `(tactic| try simp -implicitDefEqProofs (disch := walk_at "d") only [↓wpE, ↓wpA, ↓wpB, ↓wpT, ↓wpTs, ↓wpI, ↓wpS, ↓wpSs, ↓optW_some, ↓w_lk0, ↓w_lkS, ↓w_bs, ↓w_bl0, ↓w_bl1, ↓w_k1, ↓w_kS, ↓w_b0, ↓w_b1, ↓w_b2, ↓w_b3, ↓w_b4, ↓w_b5, ↓w_b6, ↓w_b7, ↓w_b8, ↓w_b9, ↓w_b10, ↓w_b11, ↓w_b12, ↓w_b13, ↓w_b14, ↓w_b15, ↓w_b16, ↓w_b17, ↓w_b18, ↓w_b19, ↓w_b20, ↓w_b21, ↓w_b22, ↓w_b23, ↓w_b24, ↓w_b25, ↓alc_fz, ↓alc_lv, ↓w_dictZ, ↓w_eqNN, ↓w_add, ↓w_addS, ↓w_addL, ↓w_addT, ↓w_sub, ↓w_mul, ↓w_fdiv, ↓w_mod, ↓w_pow, ↓w_shl, ↓w_shr, ↓w_band, ↓w_eqI, ↓w_neI, ↓w_eqS, ↓w_neS, ↓w_lt, ↓w_le, ↓w_gt, ↓w_ge, ↓w_is, ↓w_isnot, ↓w_isB, ↓w_isnotB, ↓w_neF0, ↓w_eqF0, ↓w_neI_L, ↓w_eqI_L, ↓w_eqLL, ↓w_neDL, ↓w_eqDL, ↓w_idxR, ↓w_slcF, ↓w_slcT, ↓w_insert, ↓w_lrange, ↓w_revF, ↓w_revR, ↓w_tmul, ↓w_ok_indexF, ↓w_inI, ↓w_notinI, ↓w_eqEE, ↓w_neEE, ↓w_eqE0, ↓w_neE0, ↓w_eqRE, ↓w_neRE, ↓w_maxF, ↓w_minF, ↓w_eqB, ↓w_neB, ↓w_sortPF, ↓w_allF, ↓w_anyF, ↓w_slcR, ↓w_oi1, ↓w_oi2, ↓w_idxD, ↓w_inD, ↓w_notinD, ↓w_okD, ↓w_okDF, ↓w_okU, ↓w_get1N, ↓w_get2N, ↓w_get1, ↓w_get2, ↓w_upd, ↓w_putD, ↓w_frzD', ↓alcD_fz, ↓alcD_lv, ↓w_rep, ↓w_sortR, ↓w_sortF, ↓w_sumF, ↓w_idxF, ↓w_idxT, ↓w_idxS, ↓w_lenR, ↓w_lenF, ↓w_lenT, ↓w_lenS, ↓w_abs, ↓w_max2, ↓w_min2, ↓w_listF, ↓w_listT, ↓w_listR, ↓w_tupleF, ↓w_int, ↓w_intB, ↓w_isi, ↓w_ok_append, ↓w_ok_extend, ↓w_ok_pop, ↓w_ok_insert, ↓w_ok_reverse, ↓w_ok_clear, ↓w_ok_index, ↓w_ok_count, ↓w_append, ↓w_extend, ↓w_reverse, ↓w_clear, ↓w_frz, ↓w_set0, ↓w_set1, ↓w_set2, ↓w_at0, ↓w_at1, ↓w_at2, ↓w_at3, ↓w_blOf, ↓w_intOf, ↓w_refOf, ↓w_cellO, ↓wdK_wd, ↓w_lenDW, lockC_dic, lockC_lst, isN_wd, ↓w_truB, ↓w_truI, ↓w_truF, ↓w_truT, ↓w_truN, ↓optI, ↓isNop, optW_some, isN_non, isN_int, isN_tup, isN_fl, isN_ref, lv_fl, ls_fl, sq_fl, sq_tup, ls_sc, sq_sc, lv_up, ls_up, sq_up, tyOf_fl, tyOf_int, tyOf_tup, tyOf_bl, tyOf_ref, Option.bind_some, List.length_cons, List.length_nil, reduceIte, Bool.false_eq_true, if_true, if_false, List.map_cons, List.map_nil, List.replicate, List.cons_append, List.nil_append, Nat.reduceSub, Nat.reduceAdd, Nat.reduceLeDiff, Int.reduceLT, Int.reduceLE, Int.reduceNeg, Int.reduceToNat, Int.reducePow, and_true, true_and, or_true, true_or, decide_eq_true_eq, Bool.not_eq_true', decide_eq_false_iff_not, up_up, decide_true, decide_false, not_true_eq_false, not_false_eq_true, Bool.not_true, Bool.not_false, List.any_cons, List.any_nil, Bool.or_false, Bool.or_true, Bool.true_or, Bool.false_or, List.mem_cons, List.not_mem_nil, or_false, false_or, reduceCtorEq, sq_ref, lv_ref, ls_ref])
local macro_rules | `(tactic| walk_at "e") => `(tactic| simp only [List.map_cons, List.map_nil, List.replicate, List.cons_append, List.nil_append, Nat.reduceSub])
local macro_rules | `(tactic| walk_at "i") => `(tactic| try simp only [Bool.true_eq_false, Bool.false_eq_true, Bool.not_true, Bool.not_false, Bool.and_true, Bool.true_and, Bool.and_false, Bool.false_and, if_false, if_true, reduceIte, decide_true, decide_false, not_true_eq_false, not_false_eq_true, eq_self])
/-! ### rows of costs -/
instance : Enc (Int × List Int) where
  val m := .tup [.int m.1, .tup (m.2.map .int)]
  dat m := .tuple [.int m.1, .tuple (m.2.map .int)]
  pdv m := by simp [pd, pds, pds_ints]
  lay m := by simp [PyData.canLay0, PyData.canLayAll0, canLay_ints]
  dep m := by simp [PyData.depth, PyData.depthAll, depth_ints]
  eqv a b := by simp [PyData.eqv, PyData.eqvAll, eqvAll_ints, Prod.ext_iff]
abbrev Row := Int × List Int
theorem evR (m : Row) : (Enc.val m : Val) = .tup [.int m.1, .tup (m.2.map .int)] := rfl
theorem alikeAll_ints : ∀ xs ys : List Int, PySem.W.alikeAll (xs.map PyData.int) (ys.map PyData.int) = true
  | [], _ => by simp [PySem.W.alikeAll]
  | _ :: _, [] => by simp [PySem.W.alikeAll]
  | x :: xs, y :: ys => by simp [PySem.W.alikeAll, PySem.W.alike, alikeAll_ints xs ys]
def leR (p q : Row) : Bool := decide (p.1 < q.1 ∨ (p.1 = q.1 ∧ p.2 ≤ q.2))
theorem leR_is (p q : Row) : (!PySem.W.dataLt (Enc.dat q) (Enc.dat p)) = leR p q := by
  show (!PySem.W.dataLt (.tuple [.int q.1, .tuple (q.2.map .int)]) (.tuple [.int p.1, .tuple (p.2.map .int)])) = _
  rw [PySem.W.dataLt_pair (by simp [PySem.W.alike]) (by simp [PySem.W.alike, alikeAll_ints]), PySem.W.dataLt_int]
  have h2 : PySem.W.dataLt (.tuple (q.2.map .int)) (.tuple (p.2.map .int)) = decide (q.2 < p.2) := by
    rw [PySem.W.dataLt_tuple]; exact PySem.W.dataLt_ints _ _
  rw [h2]
  unfold leR
  by_cases e : q.1 = p.1
  · have e' : PyData.eqv (.int q.1) (.int p.1) = true := by simp [PyData.eqv, e]
    rw [if_pos e']
    have h3 : PyData.eqv (.tuple (q.2.map .int)) (.tuple (p.2.map .int)) = decide (q.2 = p.2) := by simp only [PyData.eqv, eqvAll_ints]
    rw [h3]
    by_cases e2 : q.2 = p.2
    · rw [if_pos (decide_eq_true e2)]
      simp [e, e2]
    · rw [if_neg (by simpa using e2)]
      by_cases e3 : q.2 < p.2
      · have : ¬ p.2 ≤ q.2 := fun z => absurd e3 (List.not_lt.mpr z)
        simp [e, e3, this]
      · have : p.2 ≤ q.2 := List.not_lt.mp e3
        simp [e, e3, this]
  · have e' : PyData.eqv (.int q.1) (.int p.1) = false := by simp [PyData.eqv, e]
    rw [if_neg (by rw [e']; decide)]
    have : ¬ p.1 = q.1 := fun z => e z.symm
    by_cases c : q.1 < p.1
    · have : ¬ p.1 < q.1 := by omega
      simp [c, this, ‹¬ p.1 = q.1›]
    · have : p.1 < q.1 := by omega
      simp [c, this]
theorem leR_up (L : List Row) : (L.mergeSort leR).Pairwise fun a b => leR a b = true := by
  refine List.pairwise_mergeSort (le := leR) (fun a b c h1 h2 => ?_) (fun a b => ?_) L
  · simp only [leR, decide_eq_true_eq] at *
    rcases h1 with h1 | ⟨h1, h3⟩ <;> rcases h2 with h2 | ⟨h2, h4⟩
    · left; omega
    · left; omega
    · left; omega
    · right; exact ⟨h1.trans h2, List.le_trans h3 h4⟩
  · simp only [leR, Bool.or_eq_true, decide_eq_true_eq]
    rcases Int.lt_trichotomy a.1 b.1 with h | h | h
    · exact .inl (.inl h)
    · rcases List.le_total a.2 b.2 with z | z
      · exact .inl (.inr ⟨h, z⟩)
      · exact .inr (.inr ⟨h.symm, z⟩)
    · exact .inr (.inl h)
theorem rows_up {M : List Row} (up : (M.map (·.1)).Pairwise (· < ·)) : M.Pairwise fun a b => a.1 < b.1 := List.pairwise_map.mp up
theorem sortR_uniq {L M : List Row} (p : L.Perm M) (up : (M.map (·.1)).Pairwise (· < ·)) : L.mergeSort leR = M := by
  have up := rows_up up
  refine List.Perm.eq_of_pairwise (le := fun a b => leR a b = true) (fun a b ha hb h1 h2 => ?_) (leR_up L) (up.imp fun h => by simp only [leR, decide_eq_true_eq]; exact .inl h) ((List.mergeSort_perm _ _).trans p)
  have ha : a ∈ M := ((List.mergeSort_perm _ _).trans p).mem_iff.mp ha
  by_cases e : a = b
  · exact e
  · have sym : ∀ a b : Row, a ∈ M → b ∈ M → a ≠ b → a.1 < b.1 ∨ b.1 < a.1 := fun a b ha hb e => by
      obtain ⟨i, hi, rfl⟩ := List.getElem_of_mem ha
      obtain ⟨j, hj, rfl⟩ := List.getElem_of_mem hb
      rcases Nat.lt_trichotomy i j with c | c | c
      · exact .inl (List.pairwise_iff_getElem.mp up i j hi hj c)
      · subst c; exact absurd rfl e
      · exact .inr (List.pairwise_iff_getElem.mp up j i hj hi c)
    simp only [leR, decide_eq_true_eq] at h1 h2
    rcases sym a b ha hb e with c | c <;> rcases h1 with h1 | h1 <;> rcases h2 with h2 | h2 <;> omega
theorem ordL_R {fz : Bool} {h : Hq} {Q : QV} {L M : List Row} (p : L.Perm M) (up : (M.map (·.1)).Pairwise (· < ·)) : prW (ordL fz (L.map Enc.val) h) Q = alc fz (M.map Enc.val) h Q := by
  have c1 : PySem.W.AllAlike (L.map (Enc.dat : Row → PyData)) := PySem.W.AllAlike.of fun b b' => by
    show PySem.W.alike (.tuple [.int b.1, .tuple (b.2.map .int)]) (.tuple [.int b'.1, .tuple (b'.2.map .int)]) = true
    simp [PySem.W.alike, PySem.W.alikeAll, alikeAll_ints]
  have c2 : PySem.W.Sortable (L.map (Enc.dat : Row → PyData)) := PySem.W.Sortable.tuples fun b => ⟨_, _, rfl⟩
  have c3 : shp (L.map (Enc.dat : Row → PyData)) := fun d hd => by
    obtain ⟨x, _, rfl⟩ := List.mem_map.mp hd
    exact shaped_one x
  have e : (L.map Enc.val).mergeSort (PySem.W.dataLe false (dtD h)) = M.map Enc.val := by
    rw [← sortR_uniq p up, List.map_mergeSort]
    intro a _ b _
    rw [PySem.W.dataLe_eq]
    show leR a b = (!PySem.W.dataLt (dtD h (Enc.val b)) (dtD h (Enc.val a)))
    rw [dtD_val, dtD_val, leR_is]
  simp only [ordL, mapO_dt1, Option.map_some, prW, optW_some, Out.w, c1, c2, c3, and_self, t_and, e]
/-- a dict of rows -/
def rKV (L : List Row) : KVs := L.map fun z => (.inl z.1, .tup (z.2.map .int))
theorem w_itemsR {fz : Bool} {h : Hq} {Q : QV} {x : Val} {L M : List Row} (e : dr h x = some (rKV L)) (p : L.Perm M) (up : (M.map (·.1)).Pairwise (· < ·)) : prW (o1R .itemsS fz x h) Q = alc fz (M.map Enc.val) h Q := by
  have e2 : (rKV L).map (fun kv => Val.tup [keyV kv.1, kv.2]) = L.map Enc.val := by unfold rKV; rw [List.map_map]; rfl
  rw [← ordL_R (fz := fz) (h := h) (Q := Q) p up, ← e2]
  simp only [o1R, e, Option.bind_some]
theorem rKV_app (a b : List Row) : rKV (a ++ b) = rKV a ++ rKV b := by unfold rKV; rw [List.map_append]
theorem dg_app (a b : KVs) (k : Key) : dg (a ++ b) k = (dg a k).or (dg b k) := by
  unfold dg
  rw [List.find?_append]
  cases a.find? fun kv => decide (kv.1 = k) <;> rfl
theorem dg_rnone {L : List Row} {k : Int} (h : ∀ z ∈ L, z.1 ≠ k) : dg (rKV L) (.inl k) = none := by
  unfold dg rKV
  rw [List.find?_eq_none.mpr]
  · rfl
  · intro kv hkv
    obtain ⟨z, hz, rfl⟩ := List.mem_map.mp hkv
    have := h z hz
    simp only [decide_eq_true_eq]
    exact fun e => this (Sum.inl.inj e)
theorem dg_rcons (z : Row) (L : List Row) (k : Int) : dg (rKV (z :: L)) (.inl k) = if z.1 = k then some (.tup (z.2.map .int)) else dg (rKV L) (.inl k) := by
  unfold dg rKV
  rw [List.map_cons, List.find?_cons]
  by_cases e : z.1 = k
  · simp [e]
  · have : ¬ (Sum.inl z.1 : Key) = .inl k := fun q => e (Sum.inl.inj q)
    simp [e, this]
theorem dp_rnew {L : List Row} {k : Int} {c : List Int} (h : ∀ z ∈ L, z.1 ≠ k) : dp (rKV L) (.inl k) (.tup (c.map .int)) = rKV (L ++ [(k, c)]) := by
  unfold dp
  rw [if_neg]
  · rw [rKV_app]; rfl
  · intro e
    obtain ⟨kv, hkv, e⟩ := List.any_eq_true.mp e
    obtain ⟨z, hz, rfl⟩ := List.mem_map.mp hkv
    exact h z hz (Sum.inl.inj (of_decide_eq_true e))
theorem dmerge_rows (L : List Row) : ∀ (acc : List Row), ((acc ++ L).map (·.1)).Nodup → dmerge (rKV acc) (rKV L) = rKV (acc ++ L) := by
  induction L with
  | nil => intro acc _; rw [List.append_nil]; rfl
  | cons z L ih =>
    intro acc hn
    have hz : ∀ y ∈ acc, y.1 ≠ z.1 := fun y hy e => by
      rw [List.map_append, List.nodup_append] at hn
      exact hn.2.2 _ (List.mem_map_of_mem hy) _ (by simp) e
    show dmerge (dp (rKV acc) (.inl z.1) (.tup (z.2.map .int))) (rKV L) = _
    rw [dp_rnew hz, ih (acc ++ [z]) (by simpa using hn)]
    simp
/-! ### costs of knots -/
/-- what a side comes to, with its top in no page told or one more knot in it -/
def sideW (heavy : Int) (c : List Int) : List Int := (heavy + c.getLastD 0) :: c.dropLast
def madeL (l r : List Int) : List Int := (List.range l.length).map fun k => minL ((List.range (k + 1)).map fun i => l.getD i 0 + r.getD (k - i) 0)
def burdF (f : Int → Int) (t : Tr) : Int := (t.keys.map f).sum
def sideF (room : Nat) (f : Int → Int) (C : Int → List Int) (t : Tr) : List Int := if t = .nil then List.replicate room 0 else sideW (burdF f t) (C t.top)
theorem sideW_len {heavy : Int} {c : List Int} (h : c ≠ []) : (sideW heavy c).length = c.length := by
  have := List.length_pos_iff.mpr h
  unfold sideW
  rw [List.length_cons, List.length_dropLast]; omega
theorem sideF_len {room : Nat} {f : Int → Int} {C : Int → List Int} {t : Tr} (h0 : 1 ≤ room) (h : t ≠ .nil → (C t.top).length = room) : (sideF room f C t).length = room := by
  unfold sideF
  split
  · exact List.length_replicate
  · rename_i z
    have := h z
    rw [sideW_len (fun e => by rw [e] at this; simp at this; omega)]
    exact this
theorem madeL_len (l r : List Int) : (madeL l r).length = l.length := by unfold madeL; rw [List.length_map, List.length_range]
theorem cutL_init {xs : List Val} : cutL xs none (some (-1)) = xs.dropLast := by
  unfold cutL HT.sIx
  show (xs.drop 0).take ((if (-1 : Int) < 0 then (-1 + (xs.length : Int)).toNat else _) - 0) = _
  rw [if_pos (by decide), List.drop_zero, List.dropLast_eq_take]
  congr 1
  omega
theorem atI_last {xs : List Int} (h : xs ≠ []) : atI (xs.map Val.int) (-1) = some (.int (xs.getLastD 0)) := by
  have hl := List.length_pos_iff.mpr h
  unfold atI ixN
  rw [if_neg (by omega), if_pos (by rw [List.length_map]; omega), List.length_map, show (-1 + (xs.length : Int)).toNat = xs.length - 1 by omega, Option.bind_some, List.getElem?_map, List.getElem?_eq_getElem (by omega)]
  rw [List.getLastD_eq_getLast?, List.getLast?_eq_getElem?, List.getElem?_eq_getElem (by omega)]
  rfl
theorem atI_getD {xs : List Int} {i : Nat} (h : i < xs.length) : atI (xs.map Val.int) (i : Nat) = some (.int (xs.getD i 0)) := by
  unfold atI
  rw [ixN_nat (by rw [List.length_map]; exact h), Option.bind_some, List.getElem?_map, List.getElem?_eq_getElem h, List.getD_eq_getElem?_getD, List.getElem?_eq_getElem h]
  rfl
theorem rep_one {v : Int} : ∀ n : Nat, (List.replicate n [Val.int v]).flatten = (List.replicate n v).map Val.int
  | 0 => rfl
  | n + 1 => by rw [List.replicate_succ, List.replicate_succ, List.flatten_cons, List.map_cons, rep_one n]; rfl
theorem w_tupleR {fz : Bool} {h : Hq} {Q : QV} {a : Addr} {xs : List Val} (e : h a = some (.lst xs)) : prW (bltR .tuple fz [.ref a] h) Q = Q (.tup xs) h := by
  simp only [bltR, sq_ref e, ls_ref e, Option.map_some, prW, optW_some, Out.w, t_and]
section
variable {F : Fs}
theorem side_with_ok (hF : F f_side_with = some d_side_with) {n : Nat} {heavy : Int} {c : List Int} {h : Hq} {Q : QV} {E : QE} (hc : c ≠ []) (hl : c.length ≤ 1000) (q : Q (.tup ((sideW heavy c).map .int)) h) : CN F (n + 1) f_side_with [.int heavy, .tup (c.map .int)] h Q E := by
  refine CN_go hF rfl ?_
  unfold d_side_with
  walk_at "e"
  walk_at "w"
  rw [atI_last hc]
  walk_at "w"
  rw [cutL_init]
  refine ⟨by rw [List.length_dropLast, List.length_map]; omega, ?_⟩
  have e : (sideW heavy c).map Val.int = Val.int (heavy + c.getLastD 0) :: (c.map Val.int).dropLast := by
    unfold sideW
    rw [List.map_cons, List.map_dropLast]
  rw [e] at q
  exact q
theorem side_of_ok (hF : F f_side_of = some d_side_of) (hW : F f_side_with = some d_side_with) (hB : F f_burden_by = some d_burden_by) {t : Tr} {room n : Nat} {f : Int → Int} {C : Int → List Int} {kw kvs : KVs} {x : Val} {h : Hq} {Q : QV} {E : QE} (h0 : 1 ≤ room) (h1 : room ≤ 1000)
    (hn : t.ht + 1 < n) (hk : ∀ k ∈ t.keys, dg kw (.inl k) = some (.int (f k))) (hx : dr h x = some kvs) (hc : t ≠ .nil → dg kvs (.inl t.top) = some (.tup ((C t.top).map .int)) ∧ (C t.top).length = room)
    (q : Q (.tup ((sideF room f C t).map .int)) h) : CN F n f_side_of [t.tv, .int (room : Nat), fdOf kw, x] h Q E := by
  obtain ⟨n, rfl⟩ : ∃ m, n = m + 1 := ⟨n - 1, by omega⟩
  refine CN_go hF rfl ?_
  unfold d_side_of
  cases t with
  | nil =>
    simp only [Tr.tv]
    walk_at "e"
    walk_at "w"
    refine ⟨⟨by simp, by omega, by omega⟩, ?_⟩
    unfold sideF at q
    rw [if_pos rfl] at q
    rw [rep_one, Int.toNat_natCast]
    exact q
  | nd l k r =>
    obtain ⟨c1, c2⟩ := hc (fun z => by cases z)
    simp only [Tr.top] at c1 c2
    simp only [Tr.tv]
    walk_at "e"
    walk_at "w"
    rw [show Val.tup [l.tv, .int k, r.tv] = (Tr.nd l k r).tv from rfl]
    refine burden_by_ok hB (Tr.nd l k r) n (by omega) hk ?_
    rw [w_idxD hx keyOf_int, c1, optW_some]
    obtain ⟨n, rfl⟩ : ∃ m, n = m + 1 := ⟨n - 1, by omega⟩
    refine side_with_ok hW (fun e => by rw [e] at c2; simp at c2; omega) (by omega) ?_
    unfold sideF at q
    rw [if_neg (fun z => by cases z)] at q
    exact q
theorem costs_made_ok (hF : F f_costs_made = some d_costs_made) {n : Nat} {l r : List Int} {h : Hq} {Q : QV} {E : QE} (hl : l.length ≤ 1000) (hr : r.length = l.length) (q : ∀ h', Grow h h' → Q (.tup ((madeL l r).map .int)) h') : CN F (n + 1) f_costs_made [.tup (l.map .int), .tup (r.map .int)] h Q E := by
  refine CN_go hF rfl ?_
  unfold d_costs_made
  walk_at "e"
  walk_at "w"
  intro p hp
  rw [List.length_map]
  refine ⟨⟨by omega, by omega⟩, ?_⟩
  refine for_map (moS F n b_costs_made_1) (fun pre ρ h' => ∃ (u v : Option Val), h' = up h p (.lst (((madeL l r).take pre.length).map .int)) ∧ ρ = [some (.tup (l.map .int)), some (.tup (r.map .int)), some (.ref p), u, v]) (fun i : Nat => Val.int (0 + (i : Nat))) (List.range ((l.length : Nat) : Int).toNat) ?_ ?_ ?_
  · intro pre k post ρ h' ey ⟨u, v, e1, e⟩
    subst e1 e
    have ek := range_at ey
    have el := congrArg List.length ey
    simp only [List.length_range, List.length_append, List.length_cons, Int.toNat_natCast] at el
    subst ek
    refine ⟨trivial, _, rfl, ?_⟩
    unfold b_costs_made_1
    simp only [List.set]
    walk_at "w"
    refine ⟨⟨by omega, by omega⟩, ?_⟩
    refine comp_map' (fun i : Nat => Val.int (0 + (i : Nat))) (List.range (0 + (pre.length : Int) + 1).toNat) (fun i => Val.int (l.getD i 0 + r.getD (pre.length - i) 0)) (by rw [List.length_range]; omega) (fun pc acc hpc => ⟨trivial, fun i hi => ⟨_, rfl, fun K q' => ?_⟩⟩) ?_
    · simp only [wipe3, List.set]
      have hi := List.mem_range.mp hi
      unfold e_costs_made_1
      walk_at "w"
      rw [Int.zero_add, atI_getD (by omega)]
      walk_at "w"
      rw [show (0 + (pre.length : Int) - (i : Nat)) = ((pre.length - i : Nat) : Int) by omega, atI_getD (by omega)]
      walk_at "w"
      exact q'
    · rw [show (0 + (pre.length : Int) + 1).toNat = pre.length + 1 by omega, show (List.range (pre.length + 1)).map (fun i => Val.int (l.getD i 0 + r.getD (pre.length - i) 0)) = ((List.range (pre.length + 1)).map fun i => l.getD i 0 + r.getD (pre.length - i) 0).map Val.int by rw [List.map_map]; rfl, alc_fz]
      walk_at "w"
      refine ⟨by simp, ?_, _, _, ?_, rfl⟩
      · simp only [List.length_map, List.length_take]; omega
      · have hlt : pre.length < (madeL l r).length := by rw [madeL_len]; omega
        rw [List.length_append, List.length_cons, List.length_nil, List.take_add_one, List.getElem?_eq_getElem hlt]
        unfold madeL
        simp
  · intro ρ h' ⟨u, v, e1, e⟩
    subst e1 e
    refine ⟨trivial, ?_⟩
    unfold c_costs_made_1
    walk_at "w"
    rw [w_tupleR up_same, List.length_range, Int.toNat_natCast, List.take_of_length_le (by rw [madeL_len]; exact Nat.le_refl _)]
    exact q _ (Grow.up hp)
  · exact ⟨none, none, rfl, rfl⟩
end
/-! ### the costs of a tree -/
def sideO (room : Nat) (f : Int → Int) (t : Tr) (c : List Int) : List Int := if t = .nil then List.replicate room 0 else sideW (burdF f t) c
def _root_.L3.Tr.cost (room : Nat) (f : Int → Int) : Tr → List Int
  | .nil => []
  | .nd l _ r => madeL (sideO room f l (l.cost room f)) (sideO room f r (r.cost room f))
def sideT (room : Nat) (f : Int → Int) (t : Tr) : List Int := sideO room f t (t.cost room f)
theorem cost_nd {room : Nat} {f : Int → Int} {l r : Tr} {k : Int} : (Tr.nd l k r).cost room f = madeL (sideT room f l) (sideT room f r) := rfl
theorem sideT_F {room : Nat} {f : Int → Int} {C : Int → List Int} {t : Tr} (h : t ≠ .nil → C t.top = t.cost room f) : sideF room f C t = sideT room f t := by
  unfold sideF sideT sideO
  by_cases e : t = .nil
  · rw [if_pos e, if_pos e]
  · rw [if_neg e, if_neg e, h e]
theorem sideT_len {room : Nat} {f : Int → Int} (h0 : 1 ≤ room) : ∀ t : Tr, (sideT room f t).length = room
  | .nil => by unfold sideT sideO; rw [if_pos rfl, List.length_replicate]
  | .nd l k r => by
    have h1 := sideT_len (f := f) h0 l
    have hc : ((Tr.nd l k r).cost room f).length = room := by rw [cost_nd, madeL_len, h1]
    unfold sideT sideO
    rw [if_neg (fun z => by cases z), sideW_len (fun e => by rw [e] at hc; simp at hc; omega), hc]
theorem cost_len {room : Nat} {f : Int → Int} (h0 : 1 ≤ room) {t : Tr} (h : t ≠ .nil) : (t.cost room f).length = room := by
  obtain ⟨l, k, r, rfl⟩ := tv_ne h
  rw [cost_nd, madeL_len, sideT_len h0]
def _root_.L3.Tr.rowsP (room : Nat) (f : Int → Int) : Tr → List Row
  | .nil => []
  | .nd l k r => l.rowsP room f ++ r.rowsP room f ++ [(k, (Tr.nd l k r).cost room f)]
def _root_.L3.Tr.rowsI (room : Nat) (f : Int → Int) : Tr → List Row
  | .nil => []
  | .nd l k r => l.rowsI room f ++ (k, (Tr.nd l k r).cost room f) :: r.rowsI room f
theorem rowsI_keys {room : Nat} {f : Int → Int} : ∀ t : Tr, (t.rowsI room f).map (·.1) = t.keys
  | .nil => rfl
  | .nd l k r => by simp only [Tr.rowsI, Tr.keys, List.map_append, List.map_cons, rowsI_keys l, rowsI_keys r]
theorem rowsP_perm {room : Nat} {f : Int → Int} : ∀ t : Tr, (t.rowsP room f).Perm (t.rowsI room f)
  | .nil => .refl _
  | .nd l k r => by
    simp only [Tr.rowsP, Tr.rowsI]
    refine List.Perm.trans ?_ ((rowsP_perm l).append ((rowsP_perm r).cons _))
    rw [List.append_assoc]
    exact List.Perm.append_left _ (List.perm_append_singleton _ _)
theorem rowsP_len {room : Nat} {f : Int → Int} (t : Tr) : (t.rowsP room f).length = t.keys.length := by rw [(rowsP_perm t).length_eq, ← rowsI_keys (room := room) (f := f) t, List.length_map]
theorem rowsP_mem {room : Nat} {f : Int → Int} {t : Tr} {z : Row} (h : z ∈ t.rowsP room f) : z.1 ∈ t.keys := by
  rw [← rowsI_keys (room := room) (f := f) t]
  exact List.mem_map_of_mem ((rowsP_perm t).mem_iff.mp h)
theorem rowsP_dg {room : Nat} {f : Int → Int} {s : Tr} : ∀ {t : Tr}, t.keys.Nodup → s ∈ t.subs → dg (rKV (t.rowsP room f)) (.inl s.top) = some (.tup ((s.cost room f).map .int))
  | .nil, _, h => by simp [Tr.subs] at h
  | .nd l k r, nd, h => by
    simp only [Tr.keys] at nd
    rw [List.nodup_append, List.nodup_cons] at nd
    obtain ⟨n1, ⟨n2, n4⟩, n3⟩ := nd
    simp only [Tr.rowsP]
    rw [rKV_app, rKV_app, dg_app, dg_app]
    simp only [Tr.subs, List.mem_cons, List.mem_append] at h
    rcases h with rfl | h | h
    · simp only [Tr.top]
      rw [dg_rnone (fun z hz e => n3 _ (rowsP_mem hz) k (by simp) e), dg_rnone (fun z hz e => by have := rowsP_mem hz; rw [e] at this; exact n2 this), dg_rcons, if_pos rfl]
      rfl
    · rw [rowsP_dg n1 h]; rfl
    · rw [dg_rnone (fun z hz e => n3 _ (rowsP_mem hz) s.top (by simp [subs_top h]) e), rowsP_dg n4 h]; rfl
section
variable {F : Fs}
/-- .. of a tree whose costs are told -/
theorem sideT_ok (hF : F f_side_of = some d_side_of) (hW : F f_side_with = some d_side_with) (hB : F f_burden_by = some d_burden_by) {t : Tr} {room n : Nat} {f : Int → Int} {kw kvs : KVs} {x : Val} {h : Hq} {Q : QV} {E : QE} (h0 : 1 ≤ room) (h1 : room ≤ 1000)
    (hn : t.ht + 1 < n) (hk : ∀ k ∈ t.keys, dg kw (.inl k) = some (.int (f k))) (hx : dr h x = some kvs) (hc : t ≠ .nil → dg kvs (.inl t.top) = some (.tup ((t.cost room f).map .int)))
    (q : Q (.tup ((sideT room f t).map .int)) h) : CN F n f_side_of [t.tv, .int (room : Nat), fdOf kw, x] h Q E :=
  side_of_ok hF hW hB (C := fun _ => t.cost room f) h0 h1 hn hk hx (fun z => ⟨hc z, cost_len h0 z⟩) (by rw [sideT_F fun _ => rfl]; exact q)
/-- the costs of all knots, put to a dict -/
theorem put_costs_ok (hP : F f_put_costs = some d_put_costs) (hM : F f_costs_made = some d_costs_made) (hF : F f_side_of = some d_side_of) (hW : F f_side_with = some d_side_with) (hB : F f_burden_by = some d_burden_by) {room : Nat} {f : Int → Int} {kw : KVs} {p : Addr} {E : QE} (h0 : 1 ≤ room) (h1 : room ≤ 1000) :
    ∀ (t : Tr) (n : Nat) (L : List Row) {h : Hq} {Q : QV}, t.ht + 3 < n → t.keys.Nodup → L.length + t.size < 1000 → (∀ z ∈ L, z.1 ∉ t.keys) → (∀ k ∈ t.keys, dg kw (.inl k) = some (.int (f k))) → h p = some (.dic (rKV L)) →
      (∀ h', h' p = some (.dic (rKV (L ++ t.rowsP room f))) → (∀ q c, q ≠ p → h q = some c → h' q = some c) → Q .non h') → CN F n f_put_costs [t.tv, .int (room : Nat), fdOf kw, .ref p] h Q E
  | .nil, n, L, h, Q, hn, _, _, _, _, e, q => by
    obtain ⟨n, rfl⟩ : ∃ m, n = m + 1 := ⟨n - 1, by omega⟩
    refine CN_go hP rfl ?_
    unfold d_put_costs
    simp only [Tr.tv]
    walk_at "e"
    walk_at "w"
    exact q h (by rw [Tr.rowsP, List.append_nil]; exact e) fun _ _ _ z => z
  | .nd l k r, n, L, h, Q, hn, nd, hz, hL, hk, e, q => by
    obtain ⟨n, rfl⟩ : ∃ m, n = m + 1 := ⟨n - 1, by omega⟩
    have nd' := nd
    simp only [Tr.keys] at nd
    rw [List.nodup_append, List.nodup_cons] at nd
    obtain ⟨n1, ⟨n2, n4⟩, n3⟩ := nd
    simp only [Tr.ht] at hn
    simp only [Tr.size] at hz
    have ll := rowsP_len (room := room) (f := f) l
    have lr := rowsP_len (room := room) (f := f) r
    rw [Tr.keys_len] at ll lr
    refine CN_go hP rfl ?_
    unfold d_put_costs
    simp only [Tr.tv]
    walk_at "e"
    walk_at "w"
    refine put_costs_ok hP hM hF hW hB h0 h1 l n L (by omega) n1 (by omega) (fun z hz q => hL z hz (by simp [Tr.keys, q])) (fun j hj => hk j (by simp [Tr.keys, hj])) e fun h2 e2 g2 => ?_
    walk_at "w"
    refine put_costs_ok hP hM hF hW hB h0 h1 r n (L ++ l.rowsP room f) (by omega) n4 (by rw [List.length_append]; omega) (fun z hz q => ?_) (fun j hj => hk j (by simp [Tr.keys, hj])) e2 fun h3 e3 g3 => ?_
    · rcases List.mem_append.mp hz with hz | hz
      · exact hL z hz (by simp [Tr.keys, q])
      · exact n3 _ (rowsP_mem hz) z.1 (by simp [q]) rfl
    walk_at "w"
    have look : ∀ s, s ∈ l.subs ∨ s ∈ r.subs → dg (rKV (L ++ l.rowsP room f ++ r.rowsP room f)) (.inl s.top) = some (.tup ((s.cost room f).map .int)) := fun s hs => by
      have hk' : s.top ∈ l.keys ∨ s.top ∈ r.keys := hs.imp subs_top subs_top
      rw [rKV_app, rKV_app, dg_app, dg_app, dg_rnone (fun z hz q => hL z hz (by simp only [Tr.keys, List.mem_append, List.mem_cons]; rw [q]; exact hk'.imp id .inr))]
      rcases hs with hs | hs
      · rw [rowsP_dg n1 hs]; rfl
      · rw [dg_rnone (fun z hz q => n3 _ (rowsP_mem hz) s.top (by simp [subs_top hs]) q), rowsP_dg n4 hs]; rfl
    refine sideT_ok hF hW hB h0 h1 (by omega) (fun j hj => hk j (by simp [Tr.keys, hj])) (dr_ref e3) (fun z => look l (.inl (subs_self z))) ?_
    refine sideT_ok hF hW hB h0 h1 (by omega) (fun j hj => hk j (by simp [Tr.keys, hj])) (dr_ref e3) (fun z => look r (.inr (subs_self z))) ?_
    obtain ⟨n, rfl⟩ : ∃ m, n = m + 1 := ⟨n - 1, by omega⟩
    refine costs_made_ok hM (by rw [sideT_len h0]; omega) (by rw [sideT_len h0, sideT_len h0]) fun h4 g4 => ?_
    have e4 := g4 _ _ e3
    walk_at "w"
    rw [← cost_nd (k := k), dp_rnew (fun z hz q => ?_)]
    · refine ⟨?_, ?_⟩
      · unfold rKV; rw [List.length_map, List.length_append, List.length_append]; omega
      · refine q _ (by rw [up_same]; simp only [Tr.rowsP, List.append_assoc]) fun q' c hq hc => ?_
        rw [up_ne hq]
        exact g4 _ _ (g3 _ _ hq (g2 _ _ hq hc))
    · rcases List.mem_append.mp hz with hz | hz
      · rcases List.mem_append.mp hz with hz | hz
        · exact hL z hz (by simp [Tr.keys, q])
        · exact n3 _ (rowsP_mem hz) k (by simp) q
      · exact n2 (q ▸ rowsP_mem hz)
end
/-! ### pages of least cost -/
abbrev Wt3 := Tr × Nat × Nat
def wv3 (x : Wt3) : Val := .tup [x.1.tv, .int (x.2.1 : Nat), .int (x.2.2 : Nat)]
def sums3 (L R : List Int) (m : Nat) : List Int := (List.range m).map fun i => L.getD i 0 + R.getD (m - 1 - i) 0
/-- the first least one's place -/
def bst (L R : List Int) (m : Nat) : Nat := (sums3 L R m).findIdx fun x => decide (x = minL (sums3 L R m))
def put1 (room : Nat) (st : List Wt3 × List (List Int)) (s : Tr) (i g : Nat) : List Wt3 × List (List Int) :=
  if s = .nil then st else if 0 < i then (st.1 ++ [(s, i, g)], st.2) else (st.1 ++ [(s, room, st.2.length)], st.2 ++ [[]])
def stp3 (room : Nat) (f : Int → Int) (W : List Wt3) (x : Wt3) (P : List (List Int)) : List Wt3 × List (List Int) := match x.1 with
  | .nil => (W, P)
  | .nd l k r => put1 room (put1 room (W, P.set x.2.2 (P.getD x.2.2 [] ++ [k])) l (bst (sideT room f l) (sideT room f r) x.2.1) x.2.2) r (x.2.1 - 1 - bst (sideT room f l) (sideT room f r) x.2.1) x.2.2
theorem minL_in : ∀ {ns : List Int}, ns ≠ [] → minL ns ∈ ns
  | [], h => absurd rfl h
  | [x], _ => by simp [minL]
  | x :: y :: r, _ => by
    have ih := minL_in (ns := y :: r) (by simp)
    show min x (minL (y :: r)) ∈ _
    rcases Int.le_total x (minL (y :: r)) with c | c
    · rw [Int.min_eq_left c]; simp
    · rw [Int.min_eq_right c]; exact List.mem_cons_of_mem _ ih
theorem minL_lb : ∀ {ns : List Int} {i : Int}, i ∈ ns → minL ns ≤ i
  | [], _, h => by simp at h
  | [x], i, h => by simp at h; subst h; exact Int.le_refl _
  | x :: y :: r, i, h => by
    show min x (minL (y :: r)) ≤ i
    rcases List.mem_cons.mp h with rfl | h
    · exact Int.min_le_left _ _
    · exact Int.le_trans (Int.min_le_right _ _) (minL_lb h)
theorem sums3_len (L R : List Int) (m : Nat) : (sums3 L R m).length = m := by unfold sums3; rw [List.length_map, List.length_range]
theorem bst_lt {L R : List Int} {m : Nat} (h : 1 ≤ m) : bst L R m < m := by
  have hl := sums3_len L R m
  have := minL_in (ns := sums3 L R m) (fun e => by rw [e] at hl; simp at hl; omega)
  unfold bst
  conv => rhs; rw [← hl]
  exact List.findIdx_lt_length_of_exists ⟨_, this, by simp⟩
theorem bst_is {L R : List Int} {m : Nat} (h : 1 ≤ m) : L.getD (bst L R m) 0 + R.getD (m - 1 - bst L R m) 0 = minL (sums3 L R m) := by
  have hb := bst_lt (L := L) (R := R) h
  have e : (sums3 L R m)[bst L R m]'(by rw [sums3_len]; exact hb) = minL (sums3 L R m) := by
    have := List.findIdx_getElem (xs := sums3 L R m) (p := fun x => decide (x = minL (sums3 L R m))) (w := by rw [sums3_len]; exact hb)
    exact of_decide_eq_true this
  rw [← e]
  unfold sums3
  simp
theorem find_le {p : Int → Bool} {xs : List Int} (h : xs.findIdx p < xs.length) : xs.findIdx? p = some (xs.findIdx p) := by
  rw [List.findIdx?_eq_some_iff_findIdx_eq]
  exact ⟨h, rfl⟩
theorem w_indexM {ns : List Int} (hne : ns ≠ []) {h : Hq} {Q : QV} : prW (mthR .index (.fl (ns.map .int)) [.int (minL ns)] h) Q = Q (.int ((ns.findIdx fun x => decide (x = minL ns) : Nat))) h := by
  have hl : ns.findIdx (fun x => decide (x = minL ns)) < ns.length := List.findIdx_lt_length_of_exists ⟨_, minL_in hne, by simp⟩
  have e := (find_int (minL ns) ns).trans (find_le hl)
  simp only [mthR, ixR, ls, lv, Option.bind_some, e, Option.map_some, prW, optW_some, Out.w, all_flt, flt, and_self, t_and]
/-- another cell beside the pages -/
theorem NL.other {h0 h : Hq} {p w : Addr} {ps : List Addr} {cs : List (List Val)} {c c' : Cell} (N : NL (up h0 w c) h p ps cs) : NL (up h0 w c') (up h w c') p ps cs := by
  have n1 : p ≠ w := fun e => by have := N.fresh; rw [e, up_same] at this; cases this
  have n2 : ∀ q ∈ ps, q ≠ w := fun q hq e => by have := N.fresh' q hq; rw [e, up_same] at this; cases this
  refine ⟨by rw [up_ne n1]; have := N.fresh; rwa [up_ne n1] at this, fun q hq => by have := N.fresh' q hq; rw [up_ne (n2 q hq)] at this ⊢; exact this, N.nd, N.np, N.len, by rw [up_ne n1]; exact N.top, fun i q d e1 e2 => by rw [up_ne (n2 q (List.mem_of_getElem? e1))]; exact N.at_ i q d e1 e2, fun q h1 h2 => ?_⟩
  by_cases e : q = w
  · subst e; rw [up_same, up_same]
  · rw [up_ne e, up_ne e]
    have := N.rest q h1 h2
    rw [up_ne e] at this
    exact this
def SzW (W : List Wt3) : Nat := (W.map fun x => x.1.size).sum
section
variable {F : Fs}
theorem push_ok {n room : Nat} {D : Dn} {h0 h : Hq} {p w : Addr} {ps : List Addr} {W : List Wt3} {P : List (List Int)} {s : Tr} {i g : Nat} {u0 u2 u3 u6 u7 u9 u10 u11 u12 : Option Val} (hl1 : W.length < 1000) (hl2 : P.length < 1000) 
    (N : NL (up h0 w (.lst (W.map wv3))) h p ps (P.map fun c => c.map .int))
    (k : ∀ h' ps', NL (up h0 w (.lst ((put1 room (W, P) s i g).1.map wv3))) h' p ps' ((put1 room (W, P) s i g).2.map fun c => c.map .int) → D.nx [u0, some (.int (room : Nat)), u2, u3, some (.ref p), some (.ref w), u6, u7, some (.int (g : Nat)), u9, u10, u11, u12, some s.tv, some (.int (i : Nat))] h') :
    wpSs (CN F n) b_put_pages_1 D [u0, some (.int (room : Nat)), u2, u3, some (.ref p), some (.ref w), u6, u7, some (.int (g : Nat)), u9, u10, u11, u12, some s.tv, some (.int (i : Nat))] h := by
  have n1 : p ≠ w := fun e => by have := N.fresh; rw [e, up_same] at this; cases this
  have hw : h w = some (.lst (W.map wv3)) := by rw [N.rest w (Ne.symm n1) (fun z => by have := N.fresh' w z; rw [up_same] at this; cases this), up_same]
  have hp := N.top
  unfold put1 at k
  unfold b_put_pages_1
  cases s with
  | nil =>
    simp only [Tr.tv]
    walk_at "w"
    simp only [if_pos] at k
    exact k h ps N
  | nd l j r =>
    rw [if_neg (fun z => by cases z)] at k
    simp only [Tr.tv] at k ⊢
    walk_at "w"
    have ei : ((0 : Int) < (i : Nat)) ↔ 0 < i := by omega
    by_cases c : 0 < i
    · rw [if_pos (ei.mpr c)]
      rw [if_pos c] at k
      refine ⟨by rw [List.length_map]; omega, ?_⟩
      refine k _ ps ?_
      have := N.other (c' := .lst ((W ++ [((Tr.nd l j r), i, g)]).map wv3))
      rw [List.map_append] at this
      rw [List.map_append]
      exact this
    · rw [if_neg (fun z => c (ei.mp z))]
      rw [if_neg c] at k
      have hpl : ps.length = P.length := by rw [N.len, List.length_map]
      rw [List.length_map, List.length_map, hpl]
      refine ⟨by omega, ?_⟩
      have N2 := N.other (c' := .lst ((W ++ [((Tr.nd l j r), room, P.length)]).map wv3))
      rw [List.map_append] at N2
      have hp2 : up h w (.lst (W.map wv3 ++ [.tup [.tup [l.tv, .int j, r.tv], .int (room : Nat), .int (P.length : Nat)]])) p = some (.lst (ps.map .ref)) := N2.top
      walk_at "w"
      intro q hq
      have hqp : q ≠ p := fun e => by rw [e, hp2] at hq; cases hq
      have hp3 : up (up h w (.lst (W.map wv3 ++ [.tup [.tup [l.tv, .int j, r.tv], .int (room : Nat), .int (P.length : Nat)]]))) q (.lst []) p = some (.lst (ps.map .ref)) := by rw [up_ne (Ne.symm hqp)]; exact hp2
      walk_at "w"
      refine ⟨by rw [List.length_map]; omega, ?_⟩
      refine k _ (ps ++ [q]) ?_
      have := N2.push (c := []) hq
      rw [List.map_append, List.map_append]
      exact this
end

def run3 (room : Nat) (f : Int → Int) : Nat → List Wt3 × List (List Int) → List (List Int)
  | 0, st => st.2
  | n + 1, st => match st.1.getLast? with
    | none => st.2
    | some x => run3 room f n (stp3 room f st.1.dropLast x st.2)
theorem run3_nil {room : Nat} {f : Int → Int} {P : List (List Int)} : ∀ n, run3 room f n ([], P) = P
  | 0 => rfl
  | n + 1 => rfl
theorem run3_cons {room : Nat} {f : Int → Int} {n : Nat} {W : List Wt3} {x : Wt3} {P : List (List Int)} : run3 room f (n + 1) (W ++ [x], P) = run3 room f n (stp3 room f W x P) := by
  simp only [run3, List.getLast?_append, List.getLast?_singleton, Option.some_or, List.dropLast_concat]
theorem put1_sz {room : Nat} {st : List Wt3 × List (List Int)} {s : Tr} {i g : Nat} : SzW (put1 room st s i g).1 = SzW st.1 + s.size := by
  unfold put1
  split
  · rename_i e; subst e; simp [Tr.size]
  · split <;> simp [SzW]
theorem put1_len {room : Nat} {st : List Wt3 × List (List Int)} {s : Tr} {i g : Nat} : (put1 room st s i g).1.length ≤ st.1.length + 1 ∧ st.2.length ≤ (put1 room st s i g).2.length ∧ (put1 room st s i g).2.length ≤ st.2.length + 1 ∧ (put1 room st s i g).1.length + (put1 room st s i g).2.length ≤ st.1.length + st.2.length + 2 := by
  unfold put1
  split
  · simp
  · split <;> simp <;> omega
theorem put1_fl {room : Nat} {st : List Wt3 × List (List Int)} {s : Tr} {i g : Nat} : (put1 room st s i g).2.flatten.length = st.2.flatten.length := by
  unfold put1
  split
  · rfl
  · split <;> simp
theorem flat_le : ∀ {P : List (List Int)} {g : Nat} (hg : g < P.length), P[g].length ≤ P.flatten.length
  | [], g, hg => by simp at hg
  | c :: P, 0, _ => by simp
  | c :: P, g + 1, hg => by
    have := flat_le (P := P) (g := g) (by simpa using hg)
    simp only [List.getElem_cons_succ, List.flatten_cons, List.length_append]
    omega
theorem flat_set : ∀ {P : List (List Int)} {g : Nat} {k : Int}, g < P.length → (P.set g (P.getD g [] ++ [k])).flatten.length = P.flatten.length + 1
  | [], g, _, hg => by simp at hg
  | c :: P, 0, k, _ => by simp; omega
  | c :: P, g + 1, k, hg => by
    have := flat_set (P := P) (g := g) (k := k) (by simpa using hg)
    simp only [List.set_cons_succ, List.getD_cons_succ, List.flatten_cons, List.length_append, this]
    omega
/-- what the waiting ones are -/
def OkW (t : Tr) (room : Nat) (W : List Wt3) (m : Nat) : Prop := ∀ x ∈ W, x.1 ∈ t.subs ∧ 1 ≤ x.2.1 ∧ x.2.1 ≤ room ∧ x.2.2 < m
theorem OkW.put {t s : Tr} {room i g : Nat} {st : List Wt3 × List (List Int)} (h0 : 1 ≤ room) (o : OkW t room st.1 st.2.length) (hs : s ≠ .nil → s ∈ t.subs) (hi : i ≤ room) (hg : g < st.2.length) : OkW t room (put1 room st s i g).1 (put1 room st s i g).2.length := by
  intro x hx
  have hm := put1_len (room := room) (st := st) (s := s) (i := i) (g := g)
  unfold put1 at hx
  split at hx
  · have := o x hx; exact ⟨this.1, this.2.1, this.2.2.1, by omega⟩
  · rename_i hne
    split at hx
    · rcases List.mem_append.mp hx with hx | hx
      · have := o x hx; exact ⟨this.1, this.2.1, this.2.2.1, by omega⟩
      · rw [List.mem_singleton.mp hx]; exact ⟨hs hne, by dsimp only; omega, hi, by dsimp only; omega⟩
    · rename_i hi0
      rcases List.mem_append.mp hx with hx | hx
      · have := o x hx; exact ⟨this.1, this.2.1, this.2.2.1, by omega⟩
      · rw [List.mem_singleton.mp hx]
        refine ⟨hs hne, h0, Nat.le_refl _, ?_⟩
        dsimp only
        unfold put1
        rw [if_neg hne, if_neg hi0, List.length_append]
        simp
section
variable {F : Fs}
/-- pages of the least cost -/
theorem put_pages_ok (hP : F f_put_pages = some d_put_pages) (hF : F f_side_of = some d_side_of) (hW : F f_side_with = some d_side_with) (hB : F f_burden_by = some d_burden_by) {t : Tr} {room n : Nat} {f : Int → Int} {kw : KVs} {L : List Row} {p dd : Addr} {h : Hq} {Q : QV} {E : QE} (h0 : 1 ≤ room) (h1 : room ≤ 1000)
    (hn : t.ht + 2 < n) (ht : t ≠ .nil) (hh : t.ht ≤ 60) (hz : t.size ≤ 200) (hk : ∀ k ∈ t.keys, dg kw (.inl k) = some (.int (f k))) (ed : h dd = some (.dic (rKV L))) (hL : ∀ s ∈ t.subs, dg (rKV L) (.inl s.top) = some (.tup ((s.cost room f).map .int))) (ep : h p = some (.lst []))
    (q : ∀ h' ps, NL (er h p) h' p ps ((run3 room f t.size ([(t, room, 0)], [[]])).map fun c => c.map .int) ∨ (∃ w c, h w = none ∧ NL (up (er h p) w c) h' p ps ((run3 room f t.size ([(t, room, 0)], [[]])).map fun c => c.map .int)) → Q .non h') : CN F (n + 1) f_put_pages [t.tv, .int (room : Nat), fdOf kw, .ref dd, .ref p] h Q E := by
  have hdp : dd ≠ p := fun e => by rw [e, ep] at ed; cases ed
  refine CN_go hP rfl ?_
  unfold d_put_pages
  walk_at "e"
  walk_at "w"
  intro w hw
  have hwp : w ≠ p := fun e => by rw [e, ep] at hw; cases hw
  have hwd : w ≠ dd := fun e => by rw [e, ed] at hw; cases hw
  have ep2 : up h w (.lst [.tup [t.tv, .int (room : Nat), .int ((0 : Nat) : Int)]]) p = some (.lst []) := by rw [up_ne (Ne.symm hwp)]; exact ep
  walk_at "w"
  intro q0 hq0
  have hqp : q0 ≠ p := fun e => by rw [e, up_ne (Ne.symm hwp), ep] at hq0; cases hq0
  have ep3 : up (up h w (.lst [.tup [t.tv, .int (room : Nat), .int ((0 : Nat) : Int)]])) q0 (.lst []) p = some (.lst []) := by rw [up_ne (Ne.symm hqp)]; exact ep2
  walk_at "w"
  have N0 : NL (up (er h p) w (.lst ([(t, room, 0)].map wv3))) (up (up (up h w (.lst ([(t, room, 0)].map wv3))) q0 (.lst [])) p (.lst ([].map .ref ++ [.ref q0]))) p [q0] ([[]].map fun c : List Int => c.map .int) := by
    have N := NL.new (h0 := up (er h p) w (.lst ([(t, room, 0)].map wv3))) (p := p) (by rw [up_ne (Ne.symm hwp), er_same])
    have e : up (up (er h p) w (.lst ([(t, room, 0)].map wv3))) p (.lst []) = up h w (.lst ([(t, room, 0)].map wv3)) := by
      funext b
      by_cases e1 : b = p
      · subst e1; rw [up_same, up_ne (Ne.symm hwp), ep]
      · rw [up_ne e1]
        by_cases e2 : b = w
        · subst e2; rw [up_same, up_same]
        · rw [up_ne e2, up_ne e2, er_ne e1]
    rw [e] at N
    exact N.push (c := []) hq0
  refine ⟨by decide, ?_⟩
  refine whl_inv (fun ρ h Q Q' k w => moT F n _ ρ h Q Q' _ k w) (moS F n _) (fun m ρ h' => ∃ (W : List Wt3) (P : List (List Int)) (ps : List Addr) (u6 u7 u8 u9 u10 u11 u12 u13 u14 : Option Val), SzW W = m ∧ OkW t room W P.length ∧ W.length + P.length + 4 * m ≤ 2 + 4 * t.size ∧ run3 room f m (W, P) = run3 room f t.size ([(t, room, 0)], [[]]) ∧ P.flatten.length + m = t.size ∧
      NL (up (er h p) w (.lst (W.map wv3))) h' p ps (P.map fun c => c.map .int) ∧ ρ = [some t.tv, some (.int (room : Nat)), some (fdOf kw), some (.ref dd), some (.ref p), some (.ref w), u6, u7, u8, u9, u10, u11, u12, u13, u14]) (m := t.size) ?_ ?_
  · intro m ρ h' ⟨W, P, ps, u6, u7, u8, u9, u10, u11, u12, u13, u14, em, ok, lw, er3, fl, N, e⟩
    subst e
    have hw' : h' w = some (.lst (W.map wv3)) := by rw [N.rest w hwp (fun z => by have := N.fresh' w z; rw [up_same] at this; cases this), up_same]
    have htop : ∀ x ∈ W, x.1.ht ≤ 60 := fun x hx => Nat.le_trans (subs_ht (ok x hx).1) hh
    have szp : ∀ x ∈ W, 0 < x.1.size := fun x hx => by
      obtain ⟨l, k, r, e⟩ := tv_ne (subs_ne (ok x hx).1)
      rw [e]; simp only [Tr.size]; omega
    unfold t_put_pages_2
    walk_at "w"
    rw [w_neT0 (k := fun x : Wt3 => PyData.tuple [x.1.td, .int (x.2.1 : Nat), .int (x.2.2 : Nat)]) hw' (fun x => by simp [wv3, dt1, pd, pds, Tr.pd_tv]) (fun x hx => by
        have h1 := htop x hx
        simp [PyData.canLay0, PyData.canLayAll0, PyData.depth, PyData.depthAll, Tr.td_lay, Tr.td_depth]; omega)]
    walk_at "w"
    split
    · rename_i hne
      rcases List.eq_nil_or_concat W with e | ⟨W', ⟨s, i, g⟩, e⟩
      · exact absurd e hne
      rw [List.concat_eq_append] at e
      subst e
      obtain ⟨hs, i0, i1, hg⟩ := ok (s, i, g) (by simp)
      dsimp only at hs i0 i1 hg
      obtain ⟨l, k, r, rfl⟩ := tv_ne (subs_ne hs)
      have hsk := subs_keys hs
      have hsh := subs_ht hs
      simp only [Tr.ht] at hsh
      have emS : SzW W' + (Tr.nd l k r).size = m := by rw [← em]; simp [SzW]
      simp only [Tr.size] at emS
      simp only [List.length_append, List.length_cons, List.length_nil] at lw
      have hpl : ps.length = P.length := by rw [N.len, List.length_map]
      unfold b_put_pages_2
      walk_at "w"
      rw [w_pop hw' (x := wv3 (Tr.nd l k r, i, g)) (by simp)]
      have dl : ((W' ++ [(Tr.nd l k r, i, g)]).map wv3).dropLast = W'.map wv3 := by simp
      rw [dl]
      rw [show wv3 (Tr.nd l k r, i, g) = .tup [.tup [l.tv, .int k, r.tv], .int (i : Nat), .int (g : Nat)] from rfl]
      have N1 := N.other (c' := .lst (W'.map wv3))
      have ep1 := N1.top
      have hgl : g < ps.length := by omega
      have hat := N1.at_ g ps[g] _ (List.getElem?_eq_getElem hgl) (by rw [List.getElem?_map, List.getElem?_eq_getElem hg]; rfl)
      have N2 := N1.write (c := (P[g] ++ [k]).map .int) (List.getElem?_eq_getElem hgl)
      generalize hqg : ps[g] = qg at *
      have eat : atI (ps.map Val.ref) ((g : Nat) : Int) = some (.ref qg) := by
        unfold atI
        rw [ixN_nat (by rw [List.length_map]; exact hgl), Option.bind_some, List.getElem?_map, List.getElem?_eq_getElem hgl, hqg]
        rfl
      walk_at "w"
      rw [eat]
      walk_at "w"
      refine ⟨by have := flat_le hg; rw [List.length_map]; omega, ?_⟩
      have hset : (P.map fun c => c.map Val.int).set g ((P[g] ++ [k]).map .int) = (P.set g (P.getD g [] ++ [k])).map fun c => c.map Val.int := by
        rw [List.map_set, List.getD_eq_getElem?_getD, List.getElem?_eq_getElem hg]; rfl
      rw [hset] at N2
      have e5 : (P[g].map Val.int ++ [Val.int k]) = (P[g] ++ [k]).map .int := by simp
      rw [e5]
      generalize up (up h' w (.lst (W'.map wv3))) qg (.lst ((P[g] ++ [k]).map .int)) = h2 at *
      have hd2 : h2 dd = some (.dic (rKV L)) := N2.grow _ _ (by rw [up_ne (Ne.symm hwd), er_ne hdp]; exact ed)
      have lkl : l ≠ .nil → dg (rKV L) (.inl l.top) = some (.tup ((l.cost room f).map .int)) := fun z => hL l (subs_l hs z)
      have lkr : r ≠ .nil → dg (rKV L) (.inl r.top) = some (.tup ((r.cost room f).map .int)) := fun z => hL r (subs_r hs z)
      refine sideT_ok hF hW hB h0 h1 (by omega) (fun j hj => hk j (hsk.mem (by simp [Tr.keys, hj]))) (dr_ref hd2) lkl ?_
      walk_at "w"
      refine sideT_ok hF hW hB h0 h1 (by omega) (fun j hj => hk j (hsk.mem (by simp [Tr.keys, hj]))) (dr_ref hd2) lkr ?_
      walk_at "w"
      have sl := sideT_len (f := f) h0 l
      have sr := sideT_len (f := f) h0 r
      refine ⟨⟨by omega, by omega⟩, ?_⟩
      refine comp_map' (fun i : Nat => Val.int (0 + (i : Nat))) (List.range ((i : Nat) : Int).toNat) (fun j => Val.int ((sideT room f l).getD j 0 + (sideT room f r).getD (i - 1 - j) 0)) (by rw [List.length_range]; omega) (fun pc acc hpc => ⟨trivial, fun j hj => ⟨_, rfl, fun K q' => ?_⟩⟩) ?_
      · simp only [wipe3, List.set]
        have hj := List.mem_range.mp hj
        unfold e_put_pages_1
        walk_at "w"
        rw [Int.zero_add, atI_getD (by omega)]
        walk_at "w"
        rw [show ((i : Nat) : Int) - 1 - ((j : Nat) : Int) = ((i - 1 - j : Nat) : Int) by omega, atI_getD (by omega)]
        walk_at "w"
        exact q'
      · rw [map_int, Int.toNat_natCast, alc_fz]
        have hsm : sums3 (sideT room f l) (sideT room f r) i ≠ [] := fun e => by have := sums3_len (sideT room f l) (sideT room f r) i; rw [e] at this; simp at this; omega
        rw [show ((List.range i).map fun j => (sideT room f l).getD j 0 + (sideT room f r).getD (i - 1 - j) 0) = sums3 (sideT room f l) (sideT room f r) i from rfl]
        walk_at "w"
        refine ⟨hsm, ?_⟩
        rw [w_indexM hsm]
        walk_at "w"
        have hb := bst_lt (L := sideT room f l) (R := sideT room f r) i0
        rw [show (sums3 (sideT room f l) (sideT room f r) i).findIdx (fun x => decide (x = minL (sums3 (sideT room f l) (sideT room f r) i))) = bst (sideT room f l) (sideT room f r) i from rfl]
        rw [show (i : Int) - 1 - ((bst (sideT room f l) (sideT room f r) i : Nat) : Int) = ((i - 1 - bst (sideT room f l) (sideT room f r) i : Nat) : Int) by omega]
        have st : stp3 room f W' (Tr.nd l k r, i, g) P = put1 room (put1 room (W', P.set g (P.getD g [] ++ [k])) l (bst (sideT room f l) (sideT room f r) i) g) r (i - 1 - bst (sideT room f l) (sideT room f r) i) g := rfl
        generalize bst (sideT room f l) (sideT room f r) i = b at *
        have pl1 := put1_len (room := room) (st := (W', P.set g (P.getD g [] ++ [k]))) (s := l) (i := b) (g := g)
        have pz1 := put1_sz (room := room) (st := (W', P.set g (P.getD g [] ++ [k]))) (s := l) (i := b) (g := g)
        have po1 := OkW.put (t := t) (room := room) (st := (W', P.set g (P.getD g [] ++ [k]))) (s := l) (i := b) (g := g) h0 (fun x hx => by rw [List.length_set]; exact ok x (by simp [hx])) (subs_l hs) (by omega) (by rw [List.length_set]; exact hg)
        have pf1 := put1_fl (room := room) (st := (W', P.set g (P.getD g [] ++ [k]))) (s := l) (i := b) (g := g)
        simp only [List.length_set] at pl1
        dsimp only at pz1
        refine ⟨trivial, ?_⟩
        show optW (bindT (.names [13, 14]) (.tup [l.tv, .int (b : Nat)]) _) _
        walk_at "w"
        refine push_ok (by omega) (by rw [List.length_set]; omega) N2 fun h3 ps3 N3 => ?_
        generalize put1 room (W', P.set g (P.getD g [] ++ [k])) l b g = st1 at *
        have pl2 := put1_len (room := room) (st := st1) (s := r) (i := i - 1 - b) (g := g)
        have pz2 := put1_sz (room := room) (st := st1) (s := r) (i := i - 1 - b) (g := g)
        have po2 := OkW.put (t := t) (room := room) (st := st1) (s := r) (i := i - 1 - b) (g := g) h0 po1 (subs_r hs) (by omega) (by omega)
        have pf2 := put1_fl (room := room) (st := st1) (s := r) (i := i - 1 - b) (g := g)
        refine ⟨trivial, ?_⟩
        show optW (bindT (.names [13, 14]) (.tup [r.tv, .int ((i - 1 - b : Nat) : Int)]) _) _
        walk_at "w"
        refine push_ok (W := st1.1) (P := st1.2) (by omega) (by omega) N3 fun h4 ps4 N4 => ?_
        refine ⟨trivial, m - 1, by omega, (put1 room st1 r (i - 1 - b) g).1, (put1 room st1 r (i - 1 - b) g).2, ps4, _, _, _, _, _, _, _, _, _, by omega, po2, by omega, ?_, ?_, N4, rfl⟩
        · rw [← er3, show m = (m - 1) + 1 by omega, run3_cons, st]
          rfl
        · rw [pf2, pf1]
          dsimp only
          rw [flat_set hg]
          omega
    · rename_i hne
      have hnil : W = [] := Classical.not_not.mp hne
      subst hnil
      have : m = 0 := by rw [← em]; rfl
      subst this
      rw [run3_nil] at er3
      rw [er3] at N
      exact q _ ps (.inr ⟨w, _, hw, N⟩)
  · exact ⟨[(t, room, 0)], [[]], [q0], _, _, _, _, _, _, _, _, _, by simp [SzW], fun x hx => by rw [List.mem_singleton.mp hx]; exact ⟨subs_self ht, h0, Nat.le_refl _, by simp⟩, by simp, rfl, by simp, N0, rfl⟩
end

/-! ### tables of costs -/
def rowOf (T : List Row) (j : Int) : List Int := match T.find? fun z => decide (z.1 = j) with
  | some z => z.2
  | none => []
theorem rowOf_dg {j : Int} : ∀ {T : List Row}, j ∈ T.map (·.1) → dg (rKV T) (.inl j) = some (.tup ((rowOf T j).map .int)) ∧ ∃ z ∈ T, z.2 = rowOf T j
  | [], h => by simp at h
  | z :: T, h => by
    rw [dg_rcons]
    unfold rowOf
    rw [List.find?_cons]
    by_cases e : z.1 = j
    · simp [e]
    · have h' : j ∈ T.map (·.1) := by
        rw [List.map_cons] at h
        rcases List.mem_cons.mp h with h | h
        · exact absurd h.symm e
        · exact h
      obtain ⟨h1, y, h2, h3⟩ := rowOf_dg h'
      unfold rowOf at h1 h3
      simp only [e, decide_false, if_false]
      exact ⟨h1, y, by simp [h2], h3⟩
theorem rowOf_mem {T : List Row} {z : Row} (nd : (T.map (·.1)).Nodup) (hz : z ∈ T) : rowOf T z.1 = z.2 := by
  induction T with
  | nil => simp at hz
  | cons y T ih =>
    rw [List.map_cons, List.nodup_cons] at nd
    unfold rowOf
    rw [List.find?_cons]
    rcases List.mem_cons.mp hz with rfl | hz
    · simp
    · have : ¬ y.1 = z.1 := fun e => nd.1 (by rw [e]; exact List.mem_map_of_mem hz)
      simp only [this, decide_false]
      exact ih nd.2 hz
def okAt (own made : List Int) (i : Nat) : Bool := decide (own.getD i 0 ≤ made.getD i 0) && (decide (i = 0) || decide (own.getD i 0 ≤ own.getD (i - 1) 0))
def holdsB (room : Nat) (f : Int → Int) (C : Int → List Int) : Tr → Bool
  | .nil => true
  | .nd l k r => (List.range room).all (okAt (C k) (madeL (sideF room f C l) (sideF room f C r))) && (holdsB room f C l && holdsB room f C r)
def leastF (f : Int → Int) (C : Int → List Int) (t : Tr) : Int := if t = .nil then 0 else burdF f t + (C t.top).getLastD 0
section
variable {F : Fs}
theorem least_by_ok (hF : F f_least_by = some d_least_by) (hB : F f_burden_by = some d_burden_by) {t : Tr} {n : Nat} {f : Int → Int} {C : Int → List Int} {kw kvs : KVs} {x : Val} {h : Hq} {Q : QV} {E : QE}
    (hn : t.ht < n) (hk : ∀ k ∈ t.keys, dg kw (.inl k) = some (.int (f k))) (hx : dr h x = some kvs) (hc : t ≠ .nil → dg kvs (.inl t.top) = some (.tup ((C t.top).map .int)) ∧ C t.top ≠ [])
    (q : Q (.int (leastF f C t)) h) : CN F (n + 1) f_least_by [t.tv, fdOf kw, x] h Q E := by
  refine CN_go hF rfl ?_
  unfold d_least_by
  cases t with
  | nil =>
    simp only [Tr.tv]
    walk_at "e"
    walk_at "w"
    exact q
  | nd l k r =>
    obtain ⟨c1, c2⟩ := hc (fun z => by cases z)
    simp only [Tr.top] at c1 c2
    simp only [Tr.tv]
    walk_at "e"
    walk_at "w"
    rw [show Val.tup [l.tv, .int k, r.tv] = (Tr.nd l k r).tv from rfl]
    refine burden_by_ok hB (Tr.nd l k r) n hn hk ?_
    rw [w_idxD hx keyOf_int, c1, optW_some]
    walk_at "w"
    rw [atI_last c2]
    walk_at "w"
    exact q
theorem is_shown_ok (hS : F f_is_shown = some d_is_shown) (hM : F f_costs_made = some d_costs_made) (hF : F f_side_of = some d_side_of) (hW : F f_side_with = some d_side_with) (hB : F f_burden_by = some d_burden_by) {room : Nat} {f : Int → Int} {C : Int → List Int} {kw kvs : KVs} {E : QE} (h0 : 1 ≤ room) (h1 : room ≤ 1000) :
    ∀ (t : Tr) (n : Nat) {h : Hq} {Q : QV}, t.ht + 3 < n → (∀ k ∈ t.keys, dg kw (.inl k) = some (.int (f k))) → (∀ k ∈ t.keys, dg kvs (.inl k) = some (.tup ((C k).map .int)) ∧ (C k).length = room) →
      (∀ h', Grow h h' → Q (.bl (holdsB room f C t)) h') → CN F n f_is_shown [t.tv, .int (room : Nat), fdOf kw, fdOf kvs] h Q E
  | .nil, n, h, Q, hn, _, _, q => by
    obtain ⟨n, rfl⟩ : ∃ m, n = m + 1 := ⟨n - 1, by omega⟩
    refine CN_go hS rfl ?_
    unfold d_is_shown
    simp only [Tr.tv]
    walk_at "e"
    walk_at "w"
    exact q h .refl
  | .nd l k r, n, h, Q, hn, hk, hc, q => by
    obtain ⟨n, rfl⟩ : ∃ m, n = m + 1 := ⟨n - 1, by omega⟩
    simp only [Tr.ht] at hn
    obtain ⟨c1, c2⟩ := hc k (by simp [Tr.keys])
    have hcl : ∀ j ∈ l.keys, dg kvs (.inl j) = some (.tup ((C j).map .int)) ∧ (C j).length = room := fun j hj => hc j (by simp [Tr.keys, hj])
    have hcr : ∀ j ∈ r.keys, dg kvs (.inl j) = some (.tup ((C j).map .int)) ∧ (C j).length = room := fun j hj => hc j (by simp [Tr.keys, hj])
    have tk : ∀ s : Tr, s ≠ .nil → s.top ∈ s.keys := fun s hs => subs_top (subs_self hs)
    refine CN_go hS rfl ?_
    unfold d_is_shown
    simp only [Tr.tv]
    walk_at "e"
    walk_at "w"
    rw [c1]
    walk_at "w"
    refine side_of_ok hF hW hB (C := C) h0 h1 (by omega) (fun j hj => hk j (by simp [Tr.keys, hj])) (dr_fd _ _) (fun z => hcl _ (tk l z)) ?_
    refine side_of_ok hF hW hB (C := C) h0 h1 (by omega) (fun j hj => hk j (by simp [Tr.keys, hj])) (dr_fd _ _) (fun z => hcr _ (tk r z)) ?_
    obtain ⟨n, rfl⟩ : ∃ m, n = m + 1 := ⟨n - 1, by omega⟩
    have sl := sideF_len (room := room) (f := f) (C := C) (t := l) h0 (fun z => (hcl _ (tk l z)).2)
    have sr := sideF_len (room := room) (f := f) (C := C) (t := r) h0 (fun z => (hcr _ (tk r z)).2)
    refine costs_made_ok hM (by omega) (by omega) fun h4 g4 => ?_
    have ml : (madeL (sideF room f C l) (sideF room f C r)).length = room := by rw [madeL_len]; exact sl
    unfold holdsB at q
    generalize madeL (sideF room f C l) (sideF room f C r) = md at *
    walk_at "w"
    refine ⟨⟨by omega, by omega⟩, ?_⟩
    refine for_map (moS F (n + 1) b_is_shown_1) (fun pre ρ h' => (pre.all (okAt (C k) md)) = true ∧ h' = h4 ∧ ∃ u : Option Val, ρ = [some (.tup [l.tv, .int k, r.tv]), some (.int (room : Nat)), some (fdOf kw), some (fdOf kvs), some (.tup ((C k).map .int)), some (.tup (md.map .int)), u]) (fun i : Nat => Val.int (0 + (i : Nat))) (List.range ((room : Nat) : Int).toNat) ?_ ?_ ?_
    · intro pre i post ρ h' ey ⟨hp, e1, u, e2⟩
      subst e1 e2
      have ei := range_at ey
      have el := congrArg List.length ey
      simp only [List.length_range, List.length_append, List.length_cons, Int.toNat_natCast] at el
      have hi : i < room := by omega
      refine ⟨trivial, _, rfl, ?_⟩
      unfold b_is_shown_1
      simp only [List.set]
      walk_at "w"
      rw [Int.zero_add, atI_getD (by omega)]
      walk_at "w"
      rw [atI_getD (by omega)]
      walk_at "w"
      have fin : okAt (C k) md i = false → Q (.bl false) h' := fun z => by
        have : (List.range room).all (okAt (C k) md) = false := by
          rw [List.all_eq_false]
          exact ⟨i, List.mem_range.mpr hi, by rw [z]; decide⟩
        rw [this] at q
        exact q h' g4
      have nxt : okAt (C k) md i = true → (pre ++ [i]).all (okAt (C k) md) = true := fun z => by
        rw [List.all_append, hp]
        simp [z]
      by_cases a : md.getD i 0 < (C k).getD i 0
      · simp only [a, if_true]
        exact fin (by unfold okAt; rw [decide_eq_false (by omega)]; rfl)
      · simp only [a, if_false]
        by_cases b : i = 0
        · subst b
          simp only [Int.natCast_zero, Int.lt_irrefl, if_false, if_true, not_true, not_false_eq_true]
          exact ⟨nxt (by unfold okAt; rw [decide_eq_true (p := (C k).getD 0 0 ≤ md.getD 0 0) (by omega)]; rfl), _, rfl⟩
        · have b' : (0 : Int) < (i : Nat) := by omega
          simp only [b', if_true, not_true, not_false_eq_true]
          rw [show ((i : Nat) : Int) - 1 = ((i - 1 : Nat) : Int) by omega, atI_getD (by omega)]
          walk_at "w"
          split
          · rename_i c
            exact fin (by unfold okAt; rw [decide_eq_false (p := (C k).getD i 0 ≤ (C k).getD (i - 1) 0) (by omega), decide_eq_false b, Bool.or_self, Bool.and_false])
          · rename_i c
            exact ⟨nxt (by unfold okAt; rw [decide_eq_true (p := (C k).getD i 0 ≤ (C k).getD (i - 1) 0) (by omega), decide_eq_true (p := (C k).getD i 0 ≤ md.getD i 0) (by omega), Bool.or_true, Bool.and_true]), _, rfl⟩
    · intro ρ h' ⟨hp, e1, u, e2⟩
      subst e1 e2
      refine ⟨trivial, ?_⟩
      rw [Int.toNat_natCast] at hp
      rw [hp, Bool.true_and] at q
      unfold c_is_shown_1
      walk_at "w"
      refine is_shown_ok hS hM hF hW hB h0 h1 l _ (by omega) (fun j hj => hk j (by simp [Tr.keys, hj])) hcl fun h5 g5 => ?_
      walk_at "w"
      cases e : holdsB room f C l with
      | false =>
        rw [e] at q
        simp only [Bool.false_eq_true, if_false]
        exact q h5 (g4.trans g5)
      | true =>
        rw [e, Bool.true_and] at q
        simp only [if_true]
        exact is_shown_ok hS hM hF hW hB h0 h1 r _ (by omega) (fun j hj => hk j (by simp [Tr.keys, hj])) hcr fun h6 g6 => q h6 ((g4.trans g5).trans g6)
    · exact ⟨rfl, rfl, _, rfl⟩
/-- what a table shows -/
def showB (room : Nat) (ws : List Int) (t : Tr) (T : List Row) (number : Int) : Bool :=
  decide (T.map (·.1) = t.keys) && (holdsB room (wf t.keys ws) (rowOf T) t && decide (number ≤ leastF (wf t.keys ws) (rowOf T) t))
theorem shows_cost_ok (hSc : F f_shows_cost = some d_shows_cost) (hK : F f_keys_of = some d_keys_of) (hWb : F f_weight_by = some d_weight_by) (hLb : F f_least_by = some d_least_by) (hS : F f_is_shown = some d_is_shown) (hM : F f_costs_made = some d_costs_made) (hF : F f_side_of = some d_side_of) (hW : F f_side_with = some d_side_with) (hB : F f_burden_by = some d_burden_by)
    {room : Nat} {t : Tr} {ws : List Int} {T : List Row} {number : Int} {n : Nat} {h : Hq} {Q : QV} {E : QE} (h0 : 1 ≤ room) (h1 : room ≤ 1000) (hz : t.size ≤ 100) (hn : 110 ≤ n) (nd : t.keys.Nodup) (hl : t.keys.length = ws.length) (hT : ∀ z ∈ T, z.2.length = room) (hTl : T.length ≤ 1000)
    (q : ∀ h', Grow h h' → Q (.bl (showB room ws t T number)) h') : CN F (n + 1) f_shows_cost [t.tv, .int (room : Nat), .fl (ws.map .int), .fl (T.map Enc.val), .int number] h Q E := by
  have ht := t.ht_le
  refine CN_go hSc rfl ?_
  unfold d_shows_cost
  walk_at "e"
  walk_at "w"
  refine comp_map' Enc.val T (fun z : Row => Val.int z.1) (by omega) (fun pc acc hpc => ⟨trivial, fun y hy => ⟨_, rfl, fun K q' => ?_⟩⟩) ?_
  · simp only [wipe3, List.set]
    unfold e_shows_cost_1
    walk_at "w"
    exact q'
  rw [map_int, alc_fz]
  refine keys_of_ok hK t n (by omega) (by omega) ?_
  walk_at "w"
  unfold showB at q
  by_cases e : T.map (·.1) = t.keys
  · simp only [e, not_true, if_false]
    rw [decide_eq_true e, Bool.true_and] at q
    obtain ⟨n, rfl⟩ : ∃ m, n = m + 1 := ⟨n - 1, by omega⟩
    refine weight_by_ok hWb hK (by omega) (by omega) ?_
    have epk : mapO pairOf (T.map Enc.val) = some (rKV T) := mapO_map pairOf _ _ (fun z => rfl) T
    have emg : dmerge [] (rKV T) = rKV T := dmerge_rows T [] (by rw [List.nil_append, e]; exact nd)
    have edp : ∀ (h : Hq) (Q : QV), prW (o1R .dictP true (.fl (T.map Enc.val)) h) Q = ((rKV T).length ≤ 1000000 ∧ Q (fdOf (rKV T)) h) := fun h Q => by
      simp only [o1R, ls_fl, epk, Option.map_some, prW, optW_some, Out.w, alcD_fz, emg]
    walk_at "w"
    rw [edp]
    refine ⟨by unfold rKV; rw [List.length_map]; omega, ?_⟩
    walk_at "w"
    have hk : ∀ k ∈ t.keys, dg (byD t.keys ws) (.inl k) = some (.int (wf t.keys ws k)) := fun k hk => byD_dg nd hl hk
    have hc : ∀ k ∈ t.keys, dg (rKV T) (.inl k) = some (.tup ((rowOf T k).map .int)) ∧ (rowOf T k).length = room := fun k hk => by
      obtain ⟨a1, z, a2, a3⟩ := rowOf_dg (T := T) (j := k) (by rw [e]; exact hk)
      exact ⟨a1, by rw [← a3]; exact hT z a2⟩
    refine is_shown_ok hS hM hF hW hB (C := rowOf T) h0 h1 t _ (by omega) hk hc fun h2 g2 => ?_
    walk_at "w"
    cases e2 : holdsB room (wf t.keys ws) (rowOf T) t with
    | false =>
      rw [e2] at q
      simp only [Bool.false_eq_true, if_false]
      exact q h2 g2
    | true =>
      rw [e2, Bool.true_and] at q
      simp only [if_true]
      refine least_by_ok hLb hB (C := rowOf T) (by omega) hk (dr_fd _ _) (fun z => ?_) ?_
      · have := hc _ (subs_top (subs_self z))
        exact ⟨this.1, fun z2 => by rw [z2] at this; have := this.2; simp at this; omega⟩
      · walk_at "w"
        exact q h2 g2
  · simp only [e, not_false_eq_true, if_true]
    rw [decide_eq_false e, Bool.false_and] at q
    exact q h .refl
end

section
variable {F : Fs}
/-- the least cost, its layout, the costs of all knots -/
theorem cheapest_ok (hCh : F f_cheapest = some d_cheapest) (hK : F f_keys_of = some d_keys_of) (hWb : F f_weight_by = some d_weight_by) (hLb : F f_least_by = some d_least_by) (hPc : F f_put_costs = some d_put_costs) (hPp : F f_put_pages = some d_put_pages) (hM : F f_costs_made = some d_costs_made) (hF : F f_side_of = some d_side_of) (hW : F f_side_with = some d_side_with) (hB : F f_burden_by = some d_burden_by)
    {room : Nat} {t : Tr} {ws : List Int} {n : Nat} {h : Hq} {Q : QV} {E : QE} (h0 : 1 ≤ room) (h1 : room ≤ 1000) (hz : t.size ≤ 60) (hn : 110 ≤ n) (upk : t.keys.Pairwise (· < ·)) (hl : t.keys.length = ws.length)
    (q : ∀ h' x, Grow h h' → LayV h' x (if t = .nil then [] else run3 room (wf t.keys ws) t.size ([(t, room, 0)], [[]])) → lv h' x ≠ none → (t = .nil → dt h' x = some (.list [])) → Q (.tup [.int (leastF (wf t.keys ws) (fun _ => t.cost room (wf t.keys ws)) t), x, .fl ((t.rowsI room (wf t.keys ws)).map Enc.val)]) h') :
    CN F (n + 1) f_cheapest [t.tv, .int (room : Nat), .fl (ws.map .int)] h Q E := by
  have ht := t.ht_le
  have nd : t.keys.Nodup := upk.imp fun h => Int.ne_of_lt h
  obtain ⟨n, rfl⟩ : ∃ m, n = m + 1 := ⟨n - 1, by omega⟩
  refine CN_go hCh rfl ?_
  unfold d_cheapest
  walk_at "e"
  walk_at "w"
  refine weight_by_ok hWb hK (by omega) (by omega) ?_
  walk_at "w"
  intro d hd
  have hk : ∀ k ∈ t.keys, dg (byD t.keys ws) (.inl k) = some (.int (wf t.keys ws k)) := fun k hk => byD_dg nd hl hk
  generalize hf : wf t.keys ws = f at *
  refine put_costs_ok hPc hM hF hW hB h0 h1 t _ [] (by omega) nd (by simp; omega) (fun z hz => by simp at hz) hk up_same fun h2 e2 g2 => ?_
  rw [List.nil_append] at e2
  have g2' : Grow h h2 := fun a c e => g2 a c (ne_of_live e hd) (by rw [up_ne (ne_of_live e hd)]; exact e)
  walk_at "w"
  intro p hp
  have hpd : p ≠ d := fun e => by rw [e, e2] at hp; cases hp
  have e3 : up h2 p (.lst []) d = some (.dic (rKV (t.rowsP room f))) := by rw [up_ne (Ne.symm hpd)]; exact e2
  have hL : ∀ s ∈ t.subs, dg (rKV (t.rowsP room f)) (.inl s.top) = some (.tup ((s.cost room f).map .int)) := fun s hs => rowsP_dg nd hs
  have J : ∀ h4 (P : List (List Int)), Grow h h4 → LayV h4 (.ref p) P → lv h4 (.ref p) ≠ none → (t = .nil → dt h4 (.ref p) = some (.list [])) → P = (if t = .nil then [] else run3 room f t.size ([(t, room, 0)], [[]])) → h4 d = some (.dic (rKV (t.rowsP room f))) →
      wpSs (CN F (n + 1)) c_cheapest_1 { nx := fun x h' => Q Val.non h', rt := Q, ex := fun x x_1 h' => E x h' } [some t.tv, some (.int (room : Nat)), some (.fl (ws.map .int)), some (fdOf (byD t.keys ws)), some (.ref d), some (.ref p)] h4 := by
    intro h4 P g4 l4 v4 n4 eP e4
    unfold c_cheapest_1
    walk_at "w"
    refine least_by_ok hLb hB (C := fun _ => t.cost room f) (by omega) hk (dr_ref e4) (fun z => ⟨hL t (subs_self z), fun z2 => by have := cost_len (f := f) h0 z; rw [z2] at this; simp at this; omega⟩) ?_
    walk_at "w"
    rw [w_itemsR (dr_ref e4) (rowsP_perm t) (by rw [rowsI_keys]; exact upk), alc_fz]
    walk_at "w"
    exact q h4 _ g4 (eP ▸ l4) v4 n4
  cases t with
  | nil =>
    simp only [Tr.tv] at J ⊢
    walk_at "w"
    have N := NL.new (h0 := h2) (p := p) hp
    have dn : dt (up h2 p (.lst [])) (.ref p) = some (.list []) := by simp only [dt, up_same]; rfl
    exact J _ [] (g2'.trans (Grow.up hp)) (N.layV (css := [])) (by rw [lv_up]; exact fun z => by cases z) (fun _ => dn) (by simp) e3
  | nd l k r =>
    simp only [Tr.tv] at J ⊢
    walk_at "w"
    rw [show Val.tup [l.tv, .int k, r.tv] = (Tr.nd l k r).tv from rfl]
    refine put_pages_ok hPp hF hW hB h0 h1 (by omega) (fun z => by cases z) (by omega) (by omega) hk e3 hL up_same fun h4 ps hN => ?_
    walk_at "w"
    rw [show (Tr.nd l k r).tv = Val.tup [l.tv, .int k, r.tv] from rfl]
    have er2 : er (up h2 p (.lst [])) p = h2 := er_up hp
    rw [er2] at hN
    have fin : ∀ g, Grow h2 g → g d = some (.dic (rKV ((Tr.nd l k r).rowsP room f))) → NL g h4 p ps ((run3 room f (Tr.nd l k r).size ([(Tr.nd l k r, room, 0)], [[]])).map fun c => c.map .int) → wpSs (CN F (n + 1)) c_cheapest_1 { nx := fun x h' => Q Val.non h', rt := Q, ex := fun x x_1 h' => E x h' } [some (.tup [l.tv, .int k, r.tv]), some (.int (room : Nat)), some (.fl (ws.map .int)), some (fdOf (byD (Tr.nd l k r).keys ws)), some (.ref d), some (.ref p)] h4 := fun g g3 gd N =>
      J h4 _ ((g2'.trans g3).trans N.grow) N.layV (by rw [lv_ref N.top]; exact fun z => by cases z) (fun z => by cases z) (by simp) (N.grow _ _ gd)
    rcases hN with N | ⟨w, c, hw, N⟩
    · exact fin h2 .refl e2 N
    · have hw2 : h2 w = none ∨ w = p := by
        by_cases e : w = p
        · exact .inr e
        · rw [up_ne e] at hw; exact .inl hw
      rcases hw2 with hw2 | hw2
      · exact fin _ (Grow.up hw2) (by rw [up_ne (ne_of_live e2 hw2)]; exact e2) N
      · rw [hw2, up_same] at hw; cases hw
end

end L3

set_option Elab.async false
set_option linter.all false
set_option maxRecDepth 100000
namespace L3
open PySem PySem.Spec PyProof.Rows L2
local macro_rules | `(tactic| walk_at "d") => `(tactic| first | assumption | exact up_same | exact dr_fd _ _ | exact dr_wd _ _ | exact dr_ref (by assumption) | exact dr_ref up_same | exact keyOf_int | (exact (rfl : isNop _ = false)) | exact keyOf_str | exact tyOf_fl | exact tyOf_int | exact tyOf_tup | exact tyOf_bl | exact tyOf_ref (by assumption) | exact tyOf_ref up_same | (intro z; cases z))
local macro_rules | `(tactic| walk_at "w") => `(tactic| try simp -implicitDefEqProofs (disch := walk_at "d") only [↓wpE, ↓wpA, ↓wpB, ↓wpT, ↓wpTs, ↓wpI, ↓wpS, ↓wpSs, ↓optW_some, ↓w_lk0, ↓w_lkS, ↓w_bs, ↓w_bl0, ↓w_bl1, ↓w_k1, ↓w_kS, ↓w_b0, ↓w_b1, ↓w_b2, ↓w_b3, ↓w_b4, ↓w_b5, ↓w_b6, ↓w_b7, ↓w_b8, ↓w_b9, ↓w_b10, ↓w_b11, ↓w_b12, ↓w_b13, ↓w_b14, ↓w_b15, ↓w_b16, ↓w_b17, ↓w_b18, ↓w_b19, ↓w_b20, ↓w_b21, ↓w_b22, ↓w_b23, ↓w_b24, ↓w_b25, ↓alc_fz, ↓alc_lv, ↓w_dictZ, ↓w_eqNN, ↓w_add, ↓w_addS, ↓w_addL, ↓w_addT, ↓w_sub, ↓w_mul, ↓w_fdiv, ↓w_mod, ↓w_pow, ↓w_shl, ↓w_shr, ↓w_band, ↓w_eqI, ↓w_neI, ↓w_eqS, ↓w_neS, ↓w_lt, ↓w_le, ↓w_gt, ↓w_ge, ↓w_is, ↓w_isnot, ↓w_isB, ↓w_isnotB, ↓w_neF0, ↓w_eqF0, ↓w_neI_L, ↓w_eqI_L, ↓w_eqLL, ↓w_neDL, ↓w_eqDL, ↓w_idxR, ↓w_slcF, ↓w_slcT, ↓w_insert, ↓w_lrange, ↓w_revF, ↓w_revR, ↓w_tmul, ↓w_ok_indexF, ↓w_inI, ↓w_notinI, ↓w_eqEE, ↓w_neEE, ↓w_eqE0, ↓w_neE0, ↓w_eqRE, ↓w_neRE, ↓w_maxF, ↓w_minF, ↓w_eqB, ↓w_neB, ↓w_sortPF, ↓w_allF, ↓w_anyF, ↓w_slcR, ↓w_oi1, ↓w_oi2, ↓w_idxD, ↓w_inD, ↓w_notinD, ↓w_okD, ↓w_okDF, ↓w_okU, ↓w_get1N, ↓w_get2N, ↓w_get1, ↓w_get2, ↓w_upd, ↓w_putD, ↓w_frzD', ↓alcD_fz, ↓alcD_lv, ↓w_rep, ↓w_sortR, ↓w_sortF, ↓w_sumF, ↓w_idxF, ↓w_idxT, ↓w_idxS, ↓w_lenR, ↓w_lenF, ↓w_lenT, ↓w_lenS, ↓w_abs, ↓w_max2, ↓w_min2, ↓w_listF, ↓w_listT, ↓w_listR, ↓w_tupleF, ↓w_int, ↓w_intB, ↓w_isi, ↓w_ok_append, ↓w_ok_extend, ↓w_ok_pop, ↓w_ok_insert, ↓w_ok_reverse, ↓w_ok_clear, ↓w_ok_index, ↓w_ok_count, ↓w_append, ↓w_extend, ↓w_reverse, ↓w_clear, ↓w_frz, ↓w_set0, ↓w_set1, ↓w_set2, ↓w_at0, ↓w_at1, ↓w_at2, ↓w_at3, ↓w_blOf, ↓w_intOf, ↓w_refOf, ↓w_cellO, ↓wdK_wd, ↓w_lenDW, lockC_dic, lockC_lst, isN_wd, ↓w_truB, ↓w_truI, ↓w_truF, ↓w_truT, ↓w_truN, ↓optI, ↓isNop, optW_some, isN_non, isN_int, isN_tup, isN_fl, isN_ref, lv_fl, ls_fl, sq_fl, sq_tup, ls_sc, sq_sc, lv_up, ls_up, sq_up, tyOf_fl, tyOf_int, tyOf_tup, tyOf_bl, tyOf_ref, Option.bind_some, List.length_cons, List.length_nil, reduceIte, Bool.false_eq_true, if_true, if_false, List.map_cons, List.map_nil, List.replicate, List.cons_append, List.nil_append, Nat.reduceSub, Nat.reduceAdd, Nat.reduceLeDiff, Int.reduceLT, Int.reduceLE, Int.reduceNeg, Int.reduceToNat, Int.reducePow, and_true, true_and, or_true, true_or, decide_eq_true_eq, Bool.not_eq_true', decide_eq_false_iff_not, up_up, decide_true, decide_false, not_true_eq_false, not_false_eq_true, Bool.not_true, Bool.not_false, List.any_cons, List.any_nil, Bool.or_false, Bool.or_true, Bool.true_or, Bool.false_or, List.mem_cons, List.not_mem_nil, or_false, false_or, reduceCtorEq, sq_ref, lv_ref, ls_ref])
local macro_rules | `(tactic| walk_at "e") => `(tactic| simp only [List.map_cons, List.map_nil, List.replicate, List.cons_append, List.nil_append, Nat.reduceSub])
local macro_rules | `(tactic| walk_at "i") => `(tactic| try simp only [Bool.true_eq_false, Bool.false_eq_true, Bool.not_true, Bool.not_false, Bool.and_true, Bool.true_and, Bool.and_false, Bool.false_and, if_false, if_true, reduceIte, decide_true, decide_false, not_true_eq_false, not_false_eq_true, eq_self])
/-! ### layouts of least cost -/
theorem upAt_sub : ∀ {t : Tr} (u : Val) {l r : Tr} {k : Int}, t.keys.Nodup → .nd l k r ∈ t.subs → (l ≠ .nil → Tr.upAt u t l.top = some (.int k)) ∧ (r ≠ .nil → Tr.upAt u t r.top = some (.int k))
  | .nil, _, _, _, _, _, h => by simp [Tr.subs] at h
  | .nd a j b, u, l, r, k, nd, h => by
    simp only [Tr.keys] at nd
    rw [List.nodup_append, List.nodup_cons] at nd
    obtain ⟨n1, ⟨n2, n4⟩, n3⟩ := nd
    simp only [Tr.subs, List.mem_cons, List.mem_append] at h
    have tl : ∀ s : Tr, s ≠ .nil → ∀ v, Tr.upAt v s s.top = some v := fun s hs v => by
      obtain ⟨x, y, z, e⟩ := tv_ne hs
      rw [e]; simp [Tr.upAt, Tr.top]
    rcases h with h | h | h
    · cases h
      refine ⟨fun hl => ?_, fun hr => ?_⟩
      · have m := subs_top (subs_self hl)
        rw [Tr.upAt, if_neg (fun e => n3 _ m j (by simp) e), tl a hl]; rfl
      · have m := subs_top (subs_self hr)
        rw [Tr.upAt, if_neg (fun e => n2 (by rw [← e]; exact m)), upAt_none _ a _ (fun z => n3 _ z b.top (by simp [m]) rfl), tl b hr]; rfl
    · obtain ⟨q1, q2⟩ := upAt_sub (.int j) n1 h
      have ks := subs_keys h
      have fin : ∀ s : Tr, s ≠ .nil → s.top ∈ a.keys → Tr.upAt (.int j) a s.top = some (.int k) → Tr.upAt u (.nd a j b) s.top = some (.int k) := fun s hs m e => by
        rw [Tr.upAt, if_neg (fun e => n3 _ m j (by simp) e), e]; rfl
      exact ⟨fun hl => fin l hl (subs_top (subs_l h hl)) (q1 hl), fun hr => fin r hr (subs_top (subs_r h hr)) (q2 hr)⟩
    · obtain ⟨q1, q2⟩ := upAt_sub (.int j) n4 h
      have fin : ∀ s : Tr, s ≠ .nil → s.top ∈ b.keys → Tr.upAt (.int j) b s.top = some (.int k) → Tr.upAt u (.nd a j b) s.top = some (.int k) := fun s hs m e => by
        rw [Tr.upAt, if_neg (fun e => n2 (by rw [← e]; exact m)), upAt_none _ a _ (fun z => n3 _ z s.top (by simp [m]) rfl), e]; rfl
      exact ⟨fun hl => fin l hl (subs_top (subs_l h hl)) (q1 hl), fun hr => fin r hr (subs_top (subs_r h hr)) (q2 hr)⟩
section
variable (room : Nat) (f : Int → Int) (pg : Int → Nat) (ds : Nat → Nat)
/-- the knots of a tree are laid by the costs, its top in page g with at most m knots of it there -/
def Laid : Tr → Nat → Nat → Prop
  | .nil, _, _ => True
  | .nd l k r, m, g => pg k = g ∧
    (l ≠ .nil → (0 < bst (sideT room f l) (sideT room f r) m → Laid l (bst (sideT room f l) (sideT room f r) m) g) ∧ (bst (sideT room f l) (sideT room f r) m = 0 → ∃ g', g < g' ∧ ds g' = ds g + 1 ∧ Laid l room g')) ∧
    (r ≠ .nil → (0 < m - 1 - bst (sideT room f l) (sideT room f r) m → Laid r (m - 1 - bst (sideT room f l) (sideT room f r) m) g) ∧ (m - 1 - bst (sideT room f l) (sideT room f r) m = 0 → ∃ g', g < g' ∧ ds g' = ds g + 1 ∧ Laid r room g'))
end
def SideOk (room : Nat) (f : Int → Int) (pg : Int → Nat) (ds : Nat → Nat) (s : Tr) (i g : Nat) : Prop :=
  s ≠ .nil → (0 < i → Laid room f pg ds s i g) ∧ (i = 0 → ∃ g', g < g' ∧ ds g' = ds g + 1 ∧ Laid room f pg ds s room g')
section
variable {room : Nat} {f : Int → Int} {pg : Int → Nat} {ds : Nat → Nat}
theorem laid_nd {l r : Tr} {k : Int} {m g : Nat} : Laid room f pg ds (.nd l k r) m g ↔ pg k = g ∧ SideOk room f pg ds l (bst (sideT room f l) (sideT room f r) m) g ∧ SideOk room f pg ds r (m - 1 - bst (sideT room f l) (sideT room f r) m) g := Iff.rfl
theorem sideT_nil_at {i : Nat} : (sideT room f .nil).getD i 0 = 0 := by
  unfold sideT sideO
  rw [if_pos rfl, List.getD_eq_getElem?_getD, List.getElem?_replicate]
  split <;> rfl
theorem sideT_zero {s : Tr} (h0 : 1 ≤ room) (h : s ≠ .nil) : (sideT room f s).getD 0 0 = burdF f s + (s.cost room f).getD (room - 1) 0 := by
  have hc := cost_len (f := f) h0 h
  unfold sideT sideO
  rw [if_neg h]
  show burdF f s + (s.cost room f).getLastD 0 = _
  rw [List.getLastD_eq_getLast?, List.getLast?_eq_getElem?, hc, List.getD_eq_getElem?_getD]
theorem sideT_succ {s : Tr} {i : Nat} (h0 : 1 ≤ room) (h : s ≠ .nil) (hi : 0 < i) (hi2 : i < room) : (sideT room f s).getD i 0 = (s.cost room f).getD (i - 1) 0 := by
  have hc := cost_len (f := f) h0 h
  obtain ⟨j, rfl⟩ : ∃ j, i = j + 1 := ⟨i - 1, by omega⟩
  unfold sideT sideO
  rw [if_neg h, sideW, List.getD_cons_succ, List.getD_eq_getElem?_getD, List.getElem?_dropLast, hc, if_pos (by omega), List.getD_eq_getElem?_getD]
  rfl
theorem cost_at {l r : Tr} {k : Int} {m : Nat} (h0 : 1 ≤ room) (hm : 1 ≤ m) (hm2 : m ≤ room) : ((Tr.nd l k r).cost room f).getD (m - 1) 0 = minL (sums3 (sideT room f l) (sideT room f r) m) := by
  rw [cost_nd, madeL, List.getD_eq_getElem?_getD, List.getElem?_map, sideT_len h0, List.getElem?_range (by omega)]
  show minL ((List.range (m - 1 + 1)).map _) = _
  rw [show m - 1 + 1 = m by omega]
  rfl
def dearF (f : Int → Int) (pg : Int → Nat) (ds : Nat → Nat) (s : Tr) : Int := (s.keys.map fun j => f j * ((ds (pg j) : Nat) : Int)).sum
theorem dearF_nd {l r : Tr} {k : Int} : dearF f pg ds (.nd l k r) = dearF f pg ds l + f k * ((ds (pg k) : Nat) : Int) + dearF f pg ds r := by
  unfold dearF
  simp only [Tr.keys, List.map_append, List.map_cons, List.sum_append, List.sum_cons]; omega
theorem burdF_nd {l r : Tr} {k : Int} : burdF f (.nd l k r) = burdF f l + f k + burdF f r := by
  unfold burdF
  simp only [Tr.keys, List.map_append, List.map_cons, List.sum_append, List.sum_cons]; omega
/-- what such a layout costs -/
theorem laid_cost (h0 : 1 ≤ room) : ∀ (s : Tr) (m g : Nat), s ≠ .nil → 1 ≤ m → m ≤ room → Laid room f pg ds s m g → dearF f pg ds s = burdF f s * ((ds g : Nat) : Int) + (s.cost room f).getD (m - 1) 0
  | .nil, _, _, h, _, _, _ => absurd rfl h
  | .nd l k r, m, g, _, hm, hm2, hl => by
    obtain ⟨e, q1, q2⟩ := laid_nd.mp hl
    have hb := bst_lt (L := sideT room f l) (R := sideT room f r) hm
    have hs := bst_is (L := sideT room f l) (R := sideT room f r) hm
    rw [cost_at h0 hm hm2, ← hs]
    generalize bst (sideT room f l) (sideT room f r) m = b at *
    have one : ∀ (s : Tr) (i : Nat), i < room → (s ≠ .nil → ∀ m g, 1 ≤ m → m ≤ room → Laid room f pg ds s m g → dearF f pg ds s = burdF f s * ((ds g : Nat) : Int) + (s.cost room f).getD (m - 1) 0) → SideOk room f pg ds s i g → dearF f pg ds s = burdF f s * ((ds g : Nat) : Int) + (sideT room f s).getD i 0 := by
      intro s i hi ih so
      by_cases hs : s = .nil
      · subst hs
        rw [sideT_nil_at]
        simp [dearF, burdF, Tr.keys]
      · obtain ⟨a1, a2⟩ := so hs
        by_cases hi0 : i = 0
        · obtain ⟨g', _, e2, q⟩ := a2 hi0
          rw [ih hs room g' h0 (Nat.le_refl _) q, hi0, sideT_zero h0 hs, e2]
          push_cast
          rw [Int.mul_add]; omega
        · rw [ih hs i g (by omega) (by omega) (a1 (by omega)), sideT_succ h0 hs (by omega) hi]
    have e1 := one l b (by omega) (fun hl m g => laid_cost h0 l m g hl) q1
    have e2 := one r (m - 1 - b) (by omega) (fun hr m g => laid_cost h0 r m g hr) q2
    rw [dearF_nd, burdF_nd, e1, e2, e, Int.add_mul, Int.add_mul]
    omega
theorem laid_top {s : Tr} {m g : Nat} (hs : s ≠ .nil) (q : Laid room f pg ds s m g) : pg s.top = g := by
  obtain ⟨x, y, w, e⟩ := tv_ne hs
  subst e
  exact (laid_nd.mp q).1
theorem laid_sub {x : Tr} : ∀ {t : Tr} {m g : Nat}, Laid room f pg ds t m g → x ∈ t.subs → ∃ m g, Laid room f pg ds x m g
  | .nil, _, _, _, h => by simp [Tr.subs] at h
  | .nd l k r, m, g, q, h => by
    have q0 := q
    obtain ⟨e, q1, q2⟩ := laid_nd.mp q
    simp only [Tr.subs, List.mem_cons, List.mem_append] at h
    have one : ∀ (s : Tr) (i : Nat), SideOk room f pg ds s i g → s ≠ .nil → ∃ m g, Laid room f pg ds s m g := fun s i so hs => by
      obtain ⟨a1, a2⟩ := so hs
      by_cases hi0 : i = 0
      · obtain ⟨g', _, _, q⟩ := a2 hi0; exact ⟨_, _, q⟩
      · exact ⟨_, _, a1 (by omega)⟩
    rcases h with rfl | h | h
    · exact ⟨m, g, q0⟩
    · obtain ⟨m', g', q'⟩ := one l _ q1 (fun z => by rw [z] at h; simp [Tr.subs] at h)
      exact laid_sub q' h
    · obtain ⟨m', g', q'⟩ := one r _ q2 (fun z => by rw [z] at h; simp [Tr.subs] at h)
      exact laid_sub q' h
/-- from a key to the one above it -/
def StepOk (pg ds : Nat → Nat) (pu pj : Nat) : Prop := pu = pj ∨ (pu < pj ∧ ds pj = ds pu + 1)
theorem laid_step {t l r : Tr} {k : Int} {m g : Nat} (q : Laid room f pg ds t m g) (h : .nd l k r ∈ t.subs) : (l ≠ .nil → StepOk ds ds (pg k) (pg l.top)) ∧ (r ≠ .nil → StepOk ds ds (pg k) (pg r.top)) := by
  obtain ⟨m', g', q'⟩ := laid_sub q h
  obtain ⟨e, q1, q2⟩ := laid_nd.mp q'
  have one : ∀ (s : Tr) (i : Nat), SideOk room f pg ds s i g' → s ≠ .nil → StepOk ds ds (pg k) (pg s.top) := fun s i so hs => by
    obtain ⟨a1, a2⟩ := so hs
    by_cases hi0 : i = 0
    · obtain ⟨g2, l1, e2, q⟩ := a2 hi0
      right
      rw [laid_top hs q, e]
      exact ⟨l1, e2⟩
    · left
      rw [laid_top hs (a1 (by omega)), e]
  exact ⟨one l _ q1, one r _ q2⟩
end
theorem up_cases : ∀ {t : Tr} {j : Int}, j ∈ t.keys → j = t.top ∨ ∃ l k r, Tr.nd l k r ∈ t.subs ∧ ((l ≠ .nil ∧ l.top = j) ∨ (r ≠ .nil ∧ r.top = j))
  | .nil, _, h => by simp [Tr.keys] at h
  | .nd a x b, j, h => by
    simp only [Tr.keys, List.mem_append, List.mem_cons] at h
    rcases h with h | h | h
    · right
      have ha : a ≠ .nil := fun z => by rw [z] at h; simp [Tr.keys] at h
      rcases up_cases h with e | ⟨l, k, r, h1, h2⟩
      · exact ⟨a, x, b, by simp [Tr.subs], .inl ⟨ha, e.symm⟩⟩
      · exact ⟨l, k, r, by simp [Tr.subs, h1], h2⟩
    · exact .inl h
    · right
      have hb : b ≠ .nil := fun z => by rw [z] at h; simp [Tr.keys] at h
      rcases up_cases h with e | ⟨l, k, r, h1, h2⟩
      · exact ⟨a, x, b, by simp [Tr.subs], .inr ⟨hb, e.symm⟩⟩
      · exact ⟨l, k, r, by simp [Tr.subs, h1], h2⟩
/-- a key's up by a plain relation -/
def UpOf (t : Tr) (j u : Int) : Prop := ∃ l r, Tr.nd l u r ∈ t.subs ∧ ((l ≠ .nil ∧ l.top = j) ∨ (r ≠ .nil ∧ r.top = j))
theorem UpOf.at_ {t : Tr} {j u : Int} (nd : t.keys.Nodup) (h : UpOf t j u) : Tr.upAt .non t j = some (.int u) := by
  obtain ⟨l, r, h1, h2⟩ := h
  obtain ⟨q1, q2⟩ := upAt_sub .non nd h1
  rcases h2 with ⟨a, rfl⟩ | ⟨a, rfl⟩
  · exact q1 a
  · exact q2 a
theorem top_at {t : Tr} (h : t ≠ .nil) (u : Val) : Tr.upAt u t t.top = some u := by
  obtain ⟨x, y, z, e⟩ := tv_ne h
  rw [e]; simp [Tr.upAt, Tr.top]

/-! ### what the run keeps -/
def loadW (W : List Wt3) (p : Nat) : Nat := ((W.filter fun x => decide (x.2.2 = p)).map fun x => x.2.1).sum
theorem loadW_app (A B : List Wt3) (p : Nat) : loadW (A ++ B) p = loadW A p + loadW B p := by unfold loadW; rw [List.filter_append, List.map_append, List.sum_append]
theorem loadW_one (x : Wt3) (p : Nat) : loadW [x] p = if x.2.2 = p then x.2.1 else 0 := by
  unfold loadW
  by_cases e : x.2.2 = p <;> simp [e]
def keysW (W : List Wt3) : List Int := W.flatMap fun x => x.1.keys
theorem keysW_app (A B : List Wt3) : keysW (A ++ B) = keysW A ++ keysW B := List.flatMap_append
/-- W waits, V is still to be put to W -/
structure Inv3 (room : Nat) (f : Int → Int) (t : Tr) (W V : List Wt3) (P : List (List Int)) (D : List Nat) (Hd : List Int) : Prop where
  i1 : (P.flatten ++ keysW (W ++ V)).Perm t.keys
  i2 : ∀ p < P.length, (P.getD p []).length + loadW (W ++ V) p ≤ room
  i3 : D.length = P.length ∧ Hd.length = P.length ∧ 0 < P.length
  i4 : ∀ (pg ds), (∀ p, ∀ j ∈ P.getD p [], pg j = p) → (∀ p < D.length, ds p = D.getD p 0) → (∀ x ∈ W, Laid room f pg ds x.1 x.2.1 x.2.2) → (∀ x ∈ V, SideOk room f pg ds x.1 x.2.1 x.2.2) → Laid room f pg ds t room 0
  i5 : D.getD 0 0 = 1
  i6 : ∀ p, ∀ j ∈ P.getD p [], j = Hd.getD p 0 ∨ ∃ u, UpOf t j u ∧ u ∈ P.getD p []
  i7 : ∀ x ∈ W, x.1.top = Hd.getD x.2.2 0 ∨ ∃ u, UpOf t x.1.top u ∧ u ∈ P.getD x.2.2 []
  i7v : ∀ x ∈ V, x.1 ≠ .nil → ∃ u, UpOf t x.1.top u ∧ u ∈ P.getD x.2.2 []
  i8 : ∀ p < P.length, Hd.getD p 0 = t.top ∨ ∃ u q, UpOf t (Hd.getD p 0) u ∧ q < p ∧ u ∈ P.getD q []
  i9 : ∀ p < P.length, Hd.getD p 0 ∈ P.getD p [] ∨ ∃ x ∈ W, x.1.top = Hd.getD p 0 ∧ x.2.2 = p
  ok : OkW t room W P.length
  okV : ∀ x ∈ V, (x.1 ≠ .nil → x.1 ∈ t.subs) ∧ x.2.1 ≤ room ∧ x.2.2 < P.length
theorem getD_snoc {α : Type} {xs : List α} {y d : α} {p : Nat} : (xs ++ [y]).getD p d = if p < xs.length then xs.getD p d else if p = xs.length then y else d := by
  rw [List.getD_eq_getElem?_getD]
  split
  · rename_i h
    rw [List.getElem?_append_left h, List.getD_eq_getElem?_getD]
  · rename_i h
    rw [List.getElem?_append_right (by omega)]
    split
    · rename_i e; subst e; simp
    · rw [List.getElem?_eq_none (by simp; omega)]; rfl
theorem getD_none {xs : List (List Int)} {p : Nat} (h : xs.length ≤ p) : xs.getD p [] = [] := by
  rw [List.getD_eq_getElem?_getD, List.getElem?_eq_none h]; rfl
theorem Inv3.put {room : Nat} {f : Int → Int} {t s : Tr} {W V : List Wt3} {i g : Nat} {P : List (List Int)} {D : List Nat} {Hd : List Int} (h0 : 1 ≤ room) (I : Inv3 room f t W ((s, i, g) :: V) P D Hd) :
    ∃ D' Hd', Inv3 room f t (put1 room (W, P) s i g).1 V (put1 room (W, P) s i g).2 D' Hd' := by
  obtain ⟨i1, i2, i3, i4, i5, i6, i7, i7v, i8, i9, ok, okV⟩ := I
  obtain ⟨o1, o2, o3⟩ := okV _ List.mem_cons_self
  dsimp only at o1 o2 o3
  have ok' := OkW.put (t := t) (room := room) (st := (W, P)) (s := s) (i := i) (g := g) h0 ok o1 o2 o3
  have okV' : ∀ x ∈ V, (x.1 ≠ .nil → x.1 ∈ t.subs) ∧ x.2.1 ≤ room ∧ x.2.2 < P.length := fun x hx => okV x (List.mem_cons_of_mem _ hx)
  unfold put1 at ok' ⊢
  by_cases hs : s = .nil
  · rw [if_pos hs] at ok' ⊢
    refine ⟨D, Hd, ?_, fun p hp => ?_, i3, fun pg ds a b c d => i4 pg ds a b c fun x hx => ?_, i5, i6, i7, fun x hx => i7v x (List.mem_cons_of_mem _ hx), i8, i9, ok', okV'⟩
    · refine List.Perm.trans ?_ i1
      refine List.Perm.append_left _ ?_
      rw [keysW_app, keysW_app, show keysW ((s, i, g) :: V) = s.keys ++ keysW V from rfl, hs]
      exact .refl _
    · have := i2 p hp
      rw [loadW_app, show (s, i, g) :: V = [(s, i, g)] ++ V from rfl, loadW_app] at this
      rw [loadW_app]; dsimp only at this ⊢; omega
    · rcases List.mem_cons.mp hx with rfl | hx
      · exact fun z => absurd hs z
      · exact d x hx
  · rw [if_neg hs] at ok' ⊢
    by_cases hi : 0 < i
    · rw [if_pos hi] at ok' ⊢
      refine ⟨D, Hd, ?_, fun p hp => ?_, i3, fun pg ds a b c d => i4 pg ds a b (fun x hx => c x (by simp [hx])) fun x hx => ?_, i5, i6, fun x hx => ?_, fun x hx => i7v x (List.mem_cons_of_mem _ hx), i8, fun p hp => (i9 p hp).imp id fun ⟨x, hx, e⟩ => ⟨x, by simp [hx], e⟩, ok', okV'⟩
      · simpa [keysW] using i1
      · have := i2 p hp
        simpa using this
      · rcases List.mem_cons.mp hx with rfl | hx
        · exact fun _ => ⟨fun _ => c _ (by simp), fun z => by dsimp only at z; omega⟩
        · exact d x hx
      · rcases List.mem_append.mp hx with hx | hx
        · exact i7 x hx
        · rw [List.mem_singleton.mp hx]
          exact .inr (i7v (s, i, g) List.mem_cons_self hs)
    · rw [if_neg hi] at ok' ⊢
      have hi0 : i = 0 := by omega
      subst hi0
      have lowP : ∀ p, p < P.length → (P ++ [[]]).getD p [] = P.getD p [] := fun p hp => by rw [getD_snoc, if_pos hp]
      have allP : ∀ p, (P ++ [[]]).getD p [] = P.getD p [] := fun p => by
        rw [getD_snoc]
        split
        · rfl
        · rename_i h
          rw [getD_none (by omega)]
          split <;> rfl
      have lowH : ∀ p, p < P.length → (Hd ++ [s.top]).getD p 0 = Hd.getD p 0 := fun p hp => by rw [getD_snoc, if_pos (by rw [i3.2.1]; exact hp)]
      have newH : (Hd ++ [s.top]).getD P.length 0 = s.top := by rw [getD_snoc, if_neg (by omega), if_pos i3.2.1.symm]
      obtain ⟨u, hu1, hu2⟩ := i7v (s, 0, g) List.mem_cons_self hs
      dsimp only at hu1 hu2
      refine ⟨D ++ [D.getD g 0 + 1], Hd ++ [s.top], ?_, fun p hp => ?_, ⟨by simp [i3.1], by simp [i3.2.1], by simp⟩, fun pg ds a b c d => i4 pg ds (fun p j hj => a p j (by dsimp only; rw [allP]; exact hj)) (fun p hp => ?_) (fun x hx => c x (by simp [hx])) fun x hx => ?_, ?_, fun p j hj => ?_, fun x hx => ?_, fun x hx => ?_, fun p hp => ?_, fun p hp => ?_, ok', fun x hx => ?_⟩
      · simpa [keysW] using i1
      · dsimp only at hp ⊢
        rw [List.length_append, List.length_singleton] at hp
        rw [loadW_app, loadW_app, loadW_one, allP]
        by_cases hp2 : p < P.length
        · have := i2 p hp2
          rw [loadW_app, show (s, 0, g) :: V = [(s, 0, g)] ++ V from rfl, loadW_app] at this
          rw [if_neg (by dsimp only; omega)]; omega
        · have hp3 : p = P.length := by omega
          subst hp3
          rw [if_pos rfl, getD_none (Nat.le_refl _)]
          have z1 : loadW W P.length = 0 := by
            unfold loadW
            rw [List.filter_eq_nil_iff.mpr (fun x hx => by have := (ok x hx).2.2.2; simp; omega)]; rfl
          have z2 : loadW V P.length = 0 := by
            unfold loadW
            rw [List.filter_eq_nil_iff.mpr (fun x hx => by have := (okV' x hx).2.2; simp; omega)]; rfl
          simp only [List.length_nil]; omega
      · have := b p (by rw [List.length_append]; omega)
        rw [this, getD_snoc, if_pos hp]
      · rcases List.mem_cons.mp hx with rfl | hx
        · refine fun _ => ⟨fun z => by dsimp only at z; omega, fun _ => ⟨P.length, o3, ?_, c (s, room, P.length) (by simp)⟩⟩
          have b1 := b P.length (by rw [List.length_append, i3.1]; simp)
          have b2 := b g (by rw [List.length_append, i3.1]; omega)
          dsimp only
          rw [b1, b2, getD_snoc, if_neg (by rw [i3.1]; omega), if_pos i3.1.symm, getD_snoc, if_pos (by rw [i3.1]; exact o3)]
        · exact d x hx
      · rw [getD_snoc, if_pos (by rw [i3.1]; exact i3.2.2)]; exact i5
      · dsimp only at hj ⊢
        rw [allP] at hj ⊢
        have hp : p < P.length := by
          by_cases z : p < P.length
          · exact z
          · rw [getD_none (by omega)] at hj; simp at hj
        rw [lowH p hp]
        exact i6 p j hj
      · dsimp only at hx ⊢
        rw [allP]
        rcases List.mem_append.mp hx with hx | hx
        · rw [lowH _ (ok x hx).2.2.2]
          exact i7 x hx
        · rw [List.mem_singleton.mp hx]
          exact .inl newH.symm
      · dsimp only
        rw [allP]
        exact i7v x (List.mem_cons_of_mem _ hx)
      · dsimp only at hp ⊢
        rw [List.length_append, List.length_singleton] at hp
        by_cases hp2 : p < P.length
        · rw [lowH p hp2]
          refine (i8 p hp2).imp id fun ⟨u, q, a, b, c⟩ => ⟨u, q, a, b, by rw [allP]; exact c⟩
        · have hp3 : p = P.length := by omega
          subst hp3
          rw [newH]
          exact .inr ⟨u, g, hu1, o3, by rw [allP]; exact hu2⟩
      · dsimp only at hp ⊢
        rw [List.length_append, List.length_singleton] at hp
        rw [allP]
        by_cases hp2 : p < P.length
        · rw [lowH p hp2]
          exact (i9 p hp2).imp id fun ⟨x, hx, e⟩ => ⟨x, by simp [hx], e⟩
        · have hp3 : p = P.length := by omega
          subst hp3
          exact .inr ⟨(s, room, P.length), by simp, newH.symm, rfl⟩
      · have := okV' x hx
        refine ⟨this.1, this.2.1, ?_⟩
        dsimp only
        rw [List.length_append]; have := this.2.2; omega

theorem getD_set {P : List (List Int)} {g p : Nat} {c : List Int} (hg : g < P.length) : (P.set g c).getD p [] = if p = g then c else P.getD p [] := by
  rw [List.getD_eq_getElem?_getD, List.getElem?_set]
  by_cases e : p = g
  · subst e; simp [hg]
  · rw [if_neg (fun z => e z.symm), if_neg e, List.getD_eq_getElem?_getD]
theorem flat_set_perm : ∀ {P : List (List Int)} {g : Nat} {k : Int}, g < P.length → (P.set g (P.getD g [] ++ [k])).flatten.Perm (k :: P.flatten)
  | [], g, _, hg => by simp at hg
  | c :: P, 0, k, _ => by
    show ((c ++ [k]) ++ P.flatten).Perm (k :: (c ++ P.flatten))
    rw [List.append_assoc]
    exact List.perm_middle
  | c :: P, g + 1, k, hg => by
    have := flat_set_perm (P := P) (g := g) (k := k) (by simpa using hg)
    simp only [List.set_cons_succ, List.getD_cons_succ, List.flatten_cons]
    exact (this.append_left c).trans List.perm_middle
theorem nodup_page {P : List (List Int)} (nf : P.flatten.Nodup) {a b : Nat} (ha : a < P.length) (hb : b < P.length) {j : Int} (h1 : j ∈ P[a]) (h2 : j ∈ P[b]) : a = b := by
  rw [List.nodup_iff_pairwise_ne, List.pairwise_flatten] at nf
  rcases Nat.lt_trichotomy a b with c | c | c
  · exact absurd rfl (List.pairwise_iff_getElem.mp nf.2 a b ha hb c j h1 j h2)
  · exact c
  · exact absurd rfl (List.pairwise_iff_getElem.mp nf.2 b a hb ha c j h2 j h1)
theorem Inv3.pop {room : Nat} {f : Int → Int} {t l r : Tr} {k : Int} {W : List Wt3} {m g : Nat} {P : List (List Int)} {D : List Nat} {Hd : List Int} (nd : t.keys.Nodup) (I : Inv3 room f t (W ++ [(.nd l k r, m, g)]) [] P D Hd) :
    Inv3 room f t W [(l, bst (sideT room f l) (sideT room f r) m, g), (r, m - 1 - bst (sideT room f l) (sideT room f r) m, g)] (P.set g (P.getD g [] ++ [k])) D Hd := by
  obtain ⟨i1, i2, i3, i4, i5, i6, i7, i7v, i8, i9, ok, okV⟩ := I
  obtain ⟨hs, m1, m2, hg⟩ := ok (.nd l k r, m, g) (by simp)
  dsimp only at hs m1 m2 hg
  have hb := bst_lt (L := sideT room f l) (R := sideT room f r) m1
  have i4' : ∀ (pg ds : _), (∀ p, ∀ j ∈ P.getD p [], pg j = p) → (∀ p < D.length, ds p = D.getD p 0) → (∀ x ∈ W, Laid room f pg ds x.1 x.2.1 x.2.2) → Laid room f pg ds (.nd l k r) m g → Laid room f pg ds t room 0 := fun pg ds a b c d => i4 pg ds a b (fun x hx => by
    rcases List.mem_append.mp hx with hx | hx
    · exact c x hx
    · rw [List.mem_singleton.mp hx]; exact d) (fun x hx => by simp at hx)
  generalize hbe : bst (sideT room f l) (sideT room f r) m = b at *
  have sub : ∀ p j, j ∈ P.getD p [] → j ∈ (P.set g (P.getD g [] ++ [k])).getD p [] := fun p j hj => by
    rw [getD_set hg]
    split
    · rename_i e; subst e; exact List.mem_append.mpr (.inl hj)
    · exact hj
  have kin : k ∈ (P.set g (P.getD g [] ++ [k])).getD g [] := by rw [getD_set hg, if_pos rfl]; simp
  refine ⟨?_, fun p hp => ?_, by rw [List.length_set]; exact i3, fun pg ds a b' c d => ?_, i5, fun p j hj => ?_, fun x hx => ?_, fun x hx hne => ?_, fun p hp => ?_, fun p hp => ?_, fun x hx => by rw [List.length_set]; exact ok x (by simp [hx]), fun x hx => ?_⟩
  · refine List.Perm.trans ?_ i1
    rw [List.append_nil, keysW_app, keysW_app]
    refine List.Perm.trans ((flat_set_perm hg).append_right _) ?_
    show (k :: P.flatten ++ (keysW W ++ (l.keys ++ (r.keys ++ [])))).Perm (P.flatten ++ (keysW W ++ ((l.keys ++ k :: r.keys) ++ [])))
    rw [List.cons_append, List.append_nil, List.append_nil]
    refine List.Perm.trans List.perm_middle.symm ?_
    refine List.Perm.append_left _ ?_
    refine List.Perm.trans List.perm_middle.symm ?_
    exact List.Perm.append_left _ List.perm_middle.symm
  · rw [List.length_set] at hp
    have := i2 p hp
    rw [List.append_nil, loadW_app, loadW_one] at this
    rw [getD_set hg, loadW_app, show ([(l, b, g), (r, m - 1 - b, g)] : List Wt3) = [(l, b, g)] ++ [(r, m - 1 - b, g)] from rfl, loadW_app, loadW_one, loadW_one]
    dsimp only at this ⊢
    by_cases e : p = g
    · subst e
      rw [if_pos rfl] at this
      rw [if_pos rfl, if_pos rfl, if_pos rfl, List.length_append, List.length_singleton]; omega
    · rw [if_neg (fun z => e z.symm)] at this
      rw [if_neg e, if_neg (fun z => e z.symm), if_neg (fun z => e z.symm)]; omega
  · refine i4' pg ds (fun p j hj => a p j (sub p j hj)) b' c (laid_nd.mpr ⟨a g k kin, ?_, ?_⟩)
    · rw [hbe]; exact d (l, b, g) (by simp)
    · rw [hbe]; exact d (r, m - 1 - b, g) (by simp)
  · rw [getD_set hg] at hj
    by_cases e : p = g
    · subst e
      rw [if_pos rfl] at hj
      rcases List.mem_append.mp hj with hj | hj
      · exact (i6 p j hj).imp id fun ⟨u, a, b⟩ => ⟨u, a, sub p u b⟩
      · rw [List.mem_singleton.mp hj]
        exact (i7 (.nd l k r, m, p) (by simp)).imp id fun ⟨u, a, b⟩ => ⟨u, a, sub p u b⟩
    · rw [if_neg e] at hj
      exact (i6 p j hj).imp id fun ⟨u, a, b⟩ => ⟨u, a, sub p u b⟩
  · exact (i7 x (by simp [hx])).imp id fun ⟨u, a, b⟩ => ⟨u, a, sub _ u b⟩
  · simp only [List.mem_cons, List.not_mem_nil, or_false] at hx
    rcases hx with rfl | rfl
    · exact ⟨k, ⟨l, r, hs, .inl ⟨hne, rfl⟩⟩, kin⟩
    · exact ⟨k, ⟨l, r, hs, .inr ⟨hne, rfl⟩⟩, kin⟩
  · rw [List.length_set] at hp
    exact (i8 p hp).imp id fun ⟨u, q, a, b, c⟩ => ⟨u, q, a, b, sub q u c⟩
  · rw [List.length_set] at hp
    rcases i9 p hp with h | ⟨x, hx, h1, h2⟩
    · exact .inl (sub p _ h)
    · rcases List.mem_append.mp hx with hx | hx
      · exact .inr ⟨x, hx, h1, h2⟩
      · rw [List.mem_singleton.mp hx] at h1 h2
        dsimp only at h1 h2
        subst h2
        left
        rw [← h1]
        exact kin
  · rw [List.length_set]
    simp only [List.mem_cons, List.not_mem_nil, or_false] at hx
    rcases hx with rfl | rfl
    · exact ⟨fun z => subs_l hs z, by dsimp only; omega, hg⟩
    · exact ⟨fun z => subs_r hs z, by dsimp only; omega, hg⟩
theorem SzW_app (A B : List Wt3) : SzW (A ++ B) = SzW A + SzW B := by unfold SzW; rw [List.map_append, List.sum_append]
theorem run_inv {room : Nat} {f : Int → Int} {t : Tr} (h0 : 1 ≤ room) (nd : t.keys.Nodup) : ∀ (n : Nat) (W : List Wt3) (P : List (List Int)) (D : List Nat) (Hd : List Int), SzW W ≤ n → Inv3 room f t W [] P D Hd → ∃ D' Hd', Inv3 room f t [] [] (run3 room f n (W, P)) D' Hd'
  | 0, W, P, D, Hd, hn, I => by
    have : W = [] := by
      rcases List.eq_nil_or_concat W with e | ⟨W', x, e⟩
      · exact e
      · rw [List.concat_eq_append] at e
        subst e
        obtain ⟨l, k, r, e⟩ := tv_ne (subs_ne (I.ok x (by simp)).1)
        rw [SzW_app] at hn
        have : SzW [x] = x.1.size := by simp [SzW]
        rw [this, e] at hn
        simp only [Tr.size] at hn; omega
    subst this
    exact ⟨D, Hd, I⟩
  | n + 1, W, P, D, Hd, hn, I => by
    rcases List.eq_nil_or_concat W with e | ⟨W', ⟨s, m, g⟩, e⟩
    · subst e; rw [run3_nil]; exact ⟨D, Hd, I⟩
    · rw [List.concat_eq_append] at e
      subst e
      obtain ⟨l, k, r, e⟩ := tv_ne (subs_ne (I.ok (s, m, g) (by simp)).1)
      dsimp only at e
      subst e
      rw [run3_cons]
      obtain ⟨D1, H1, I1⟩ := (I.pop nd).put h0
      obtain ⟨D2, H2, I2⟩ := I1.put h0
      have e : stp3 room f W' (Tr.nd l k r, m, g) P = put1 room (put1 room (W', P.set g (P.getD g [] ++ [k])) l (bst (sideT room f l) (sideT room f r) m) g) r (m - 1 - bst (sideT room f l) (sideT room f r) m) g := rfl
      rw [e]
      refine run_inv h0 nd n (put1 room (put1 room (W', P.set g (P.getD g [] ++ [k])) l (bst (sideT room f l) (sideT room f r) m) g) r (m - 1 - bst (sideT room f l) (sideT room f r) m) g).1 (put1 room (put1 room (W', P.set g (P.getD g [] ++ [k])) l (bst (sideT room f l) (sideT room f r) m) g) r (m - 1 - bst (sideT room f l) (sideT room f r) m) g).2 D2 H2 ?_ I2
      rw [put1_sz, put1_sz]
      rw [SzW_app] at hn
      have : SzW [(Tr.nd l k r, m, g)] = (Tr.nd l k r).size := by simp [SzW]
      rw [this] at hn
      simp only [Tr.size] at hn
      dsimp only; omega
/-- the layout of the least cost -/
theorem run_lay {room : Nat} {f : Int → Int} {t : Tr} (h0 : 1 ≤ room) (nd : t.keys.Nodup) (ht : t ≠ .nil) : ∃ (pg : Int → Nat) (ds : Nat → Nat) (Hd : Nat → Int), let P := run3 room f t.size ([(t, room, 0)], [[]])
    P.flatten.Perm t.keys ∧ (∀ p < P.length, (P.getD p []).length ≤ room) ∧ (∀ p, ∀ j ∈ P.getD p [], pg j = p) ∧ Laid room f pg ds t room 0 ∧ ds 0 = 1 ∧
    (∀ p < P.length, Hd p ∈ P.getD p [] ∧ (∀ j ∈ P.getD p [], j ≠ Hd p → ∃ u, UpOf t j u ∧ u ∈ P.getD p []) ∧ (Hd p = t.top ∨ ∃ u, UpOf t (Hd p) u ∧ pg u ≠ p)) := by
  have I0 : Inv3 room f t [(t, room, 0)] [] [[]] [1] [t.top] := by
    refine ⟨by simp [keysW], fun p hp => ?_, by simp, fun pg ds a b c d => c (t, room, 0) (by simp), rfl, fun p j hj => ?_, fun x hx => ?_, fun x hx => by simp at hx, fun p hp => ?_, fun p hp => ?_, fun x hx => ?_, fun x hx => by simp at hx⟩
    · have : p = 0 := by simpa using hp
      subst this
      rw [List.append_nil, loadW_one]
      simp
    · cases p with
      | zero => simp at hj
      | succ p => simp at hj
    · rw [List.mem_singleton.mp hx]; exact .inl rfl
    · have : p = 0 := by simpa using hp
      subst this
      exact .inl rfl
    · have : p = 0 := by simpa using hp
      subst this
      exact .inr ⟨(t, room, 0), by simp, rfl, rfl⟩
    · rw [List.mem_singleton.mp hx]; exact ⟨subs_self ht, h0, Nat.le_refl _, by simp⟩
  obtain ⟨D, Hd, I⟩ := run_inv h0 nd t.size [(t, room, 0)] [[]] [1] [t.top] (by simp [SzW]) I0
  generalize run3 room f t.size ([(t, room, 0)], [[]]) = P at *
  obtain ⟨i1, i2, i3, i4, i5, i6, i7, i7v, i8, i9, ok, okV⟩ := I
  have pm : P.flatten.Perm t.keys := by simpa [keysW] using i1
  have nf : P.flatten.Nodup := pm.nodup_iff.mpr nd
  have hpg : ∃ pg : Int → Nat, ∀ p, ∀ j ∈ P.getD p [], pg j = p := by
    refine ⟨fun j => P.findIdx fun c => decide (j ∈ c), fun p j hj => ?_⟩
    have hp : p < P.length := by
      by_cases z : p < P.length
      · exact z
      · rw [getD_none (by omega)] at hj; simp at hj
    have hj' : j ∈ P[p] := by rw [List.getD_eq_getElem?_getD, List.getElem?_eq_getElem hp] at hj; exact hj
    have hl : P.findIdx (fun c => decide (j ∈ c)) < P.length := List.findIdx_lt_length_of_exists ⟨P[p], List.getElem_mem hp, by simpa using hj'⟩
    have h2 : j ∈ P[P.findIdx (fun c => decide (j ∈ c))] := by
      have := List.findIdx_getElem (xs := P) (p := fun c => decide (j ∈ c)) (w := hl)
      exact of_decide_eq_true this
    exact nodup_page nf hl hp h2 hj'
  obtain ⟨pg, hpg⟩ := hpg
  refine ⟨pg, fun p => D.getD p 0, fun p => Hd.getD p 0, pm, fun p hp => by have := i2 p hp; omega, hpg, i4 pg _ hpg (fun p hp => rfl) (fun x hx => by simp at hx) (fun x hx => by simp at hx), i5, fun p hp => ⟨?_, fun j hj hne => ?_, ?_⟩⟩
  · rcases i9 p hp with h | ⟨x, hx, _⟩
    · exact h
    · simp at hx
  · rcases i6 p j hj with h | h
    · exact absurd h hne
    · exact h
  · rcases i8 p hp with h | ⟨u, q, a, b, c⟩
    · exact .inl h
    · exact .inr ⟨u, a, by rw [hpg q u c]; omega⟩

end L3

set_option Elab.async false
set_option linter.all false
set_option maxRecDepth 100000
namespace L3
open PySem PySem.Spec PyProof.Rows L2
local macro_rules | `(tactic| walk_at "d") => `(tactic| first | assumption | exact up_same | exact dr_fd _ _ | exact dr_wd _ _ | exact dr_ref (by assumption) | exact dr_ref up_same | exact keyOf_int | (exact (rfl : isNop _ = false)) | exact keyOf_str | exact tyOf_fl | exact tyOf_int | exact tyOf_tup | exact tyOf_bl | exact tyOf_ref (by assumption) | exact tyOf_ref up_same | (intro z; cases z))
local macro_rules | `(tactic| walk_at "w") => `(tactic| try simp -implicitDefEqProofs (disch := walk_at "d") only [↓wpE, ↓wpA, ↓wpB, ↓wpT, ↓wpTs, ↓wpI, ↓wpS, ↓wpSs, ↓optW_some, ↓w_lk0, ↓w_lkS, ↓w_bs, ↓w_bl0, ↓w_bl1, ↓w_k1, ↓w_kS, ↓w_b0, ↓w_b1, ↓w_b2, ↓w_b3, ↓w_b4, ↓w_b5, ↓w_b6, ↓w_b7, ↓w_b8, ↓w_b9, ↓w_b10, ↓w_b11, ↓w_b12, ↓w_b13, ↓w_b14, ↓w_b15, ↓w_b16, ↓w_b17, ↓w_b18, ↓w_b19, ↓w_b20, ↓w_b21, ↓w_b22, ↓w_b23, ↓w_b24, ↓w_b25, ↓alc_fz, ↓alc_lv, ↓w_dictZ, ↓w_eqNN, ↓w_add, ↓w_addS, ↓w_addL, ↓w_addT, ↓w_sub, ↓w_mul, ↓w_fdiv, ↓w_mod, ↓w_pow, ↓w_shl, ↓w_shr, ↓w_band, ↓w_eqI, ↓w_neI, ↓w_eqS, ↓w_neS, ↓w_lt, ↓w_le, ↓w_gt, ↓w_ge, ↓w_is, ↓w_isnot, ↓w_isB, ↓w_isnotB, ↓w_neF0, ↓w_eqF0, ↓w_neI_L, ↓w_eqI_L, ↓w_eqLL, ↓w_neDL, ↓w_eqDL, ↓w_idxR, ↓w_slcF, ↓w_slcT, ↓w_insert, ↓w_lrange, ↓w_revF, ↓w_revR, ↓w_tmul, ↓w_ok_indexF, ↓w_inI, ↓w_notinI, ↓w_eqEE, ↓w_neEE, ↓w_eqE0, ↓w_neE0, ↓w_eqRE, ↓w_neRE, ↓w_maxF, ↓w_minF, ↓w_eqB, ↓w_neB, ↓w_sortPF, ↓w_allF, ↓w_anyF, ↓w_slcR, ↓w_oi1, ↓w_oi2, ↓w_idxD, ↓w_inD, ↓w_notinD, ↓w_okD, ↓w_okDF, ↓w_okU, ↓w_get1N, ↓w_get2N, ↓w_get1, ↓w_get2, ↓w_upd, ↓w_putD, ↓w_frzD', ↓alcD_fz, ↓alcD_lv, ↓w_rep, ↓w_sortR, ↓w_sortF, ↓w_sumF, ↓w_idxF, ↓w_idxT, ↓w_idxS, ↓w_lenR, ↓w_lenF, ↓w_lenT, ↓w_lenS, ↓w_abs, ↓w_max2, ↓w_min2, ↓w_listF, ↓w_listT, ↓w_listR, ↓w_tupleF, ↓w_int, ↓w_intB, ↓w_isi, ↓w_ok_append, ↓w_ok_extend, ↓w_ok_pop, ↓w_ok_insert, ↓w_ok_reverse, ↓w_ok_clear, ↓w_ok_index, ↓w_ok_count, ↓w_append, ↓w_extend, ↓w_reverse, ↓w_clear, ↓w_frz, ↓w_set0, ↓w_set1, ↓w_set2, ↓w_at0, ↓w_at1, ↓w_at2, ↓w_at3, ↓w_blOf, ↓w_intOf, ↓w_refOf, ↓w_cellO, ↓wdK_wd, ↓w_lenDW, lockC_dic, lockC_lst, isN_wd, ↓w_truB, ↓w_truI, ↓w_truF, ↓w_truT, ↓w_truN, ↓optI, ↓isNop, optW_some, isN_non, isN_int, isN_tup, isN_fl, isN_ref, lv_fl, ls_fl, sq_fl, sq_tup, ls_sc, sq_sc, lv_up, ls_up, sq_up, tyOf_fl, tyOf_int, tyOf_tup, tyOf_bl, tyOf_ref, Option.bind_some, List.length_cons, List.length_nil, reduceIte, Bool.false_eq_true, if_true, if_false, List.map_cons, List.map_nil, List.replicate, List.cons_append, List.nil_append, Nat.reduceSub, Nat.reduceAdd, Nat.reduceLeDiff, Int.reduceLT, Int.reduceLE, Int.reduceNeg, Int.reduceToNat, Int.reducePow, and_true, true_and, or_true, true_or, decide_eq_true_eq, Bool.not_eq_true', decide_eq_false_iff_not, up_up, decide_true, decide_false, not_true_eq_false, not_false_eq_true, Bool.not_true, Bool.not_false, List.any_cons, List.any_nil, Bool.or_false, Bool.or_true, Bool.true_or, Bool.false_or, List.mem_cons, List.not_mem_nil, or_false, false_or, reduceCtorEq, sq_ref, lv_ref, ls_ref])
local macro_rules | `(tactic| walk_at "e") => `(tactic| simp only [List.map_cons, List.map_nil, List.replicate, List.cons_append, List.nil_append, Nat.reduceSub])
local macro_rules | `(tactic| walk_at "i") => `(tactic| try simp only [Bool.true_eq_false, Bool.false_eq_true, Bool.not_true, Bool.not_false, Bool.and_true, Bool.true_and, Bool.and_false, Bool.false_and, if_false, if_true, reduceIte, decide_true, decide_false, not_true_eq_false, not_false_eq_true, eq_self])
theorem minL_gt {x : Int} : ∀ {ns : List Int}, ns ≠ [] → (∀ y ∈ ns, x ≤ y) → x ≤ minL ns := fun hne h => h _ (minL_in hne)
def dec (c : List Int) : Prop := ∀ i j, i ≤ j → j < c.length → c.getD j 0 ≤ c.getD i 0
theorem dec_made {L R : List Int} (hl : R.length = L.length) (dL : dec L) (dR : dec R) : dec (madeL L R) := by
  have at_ : ∀ k, k < L.length → (madeL L R).getD k 0 = minL ((List.range (k + 1)).map fun i => L.getD i 0 + R.getD (k - i) 0) := fun k hk => by
    unfold madeL
    rw [List.getD_eq_getElem?_getD, List.getElem?_map, List.getElem?_range hk]; rfl
  intro i j hij hj
  rw [madeL_len] at hj
  rw [at_ i (by omega), at_ j hj]
  have hm := minL_in (ns := (List.range (i + 1)).map fun a => L.getD a 0 + R.getD (i - a) 0) (by simp)
  obtain ⟨a, ha, e⟩ := List.mem_map.mp hm
  have ha := List.mem_range.mp ha
  rw [← e]
  refine Int.le_trans (minL_lb (List.mem_map.mpr ⟨a, List.mem_range.mpr (by omega), rfl⟩)) ?_
  have := dR (i - a) (j - a) (by omega) (by omega)
  omega
theorem cost_dec {room : Nat} {f : Int → Int} (h0 : 1 ≤ room) : ∀ t : Tr, (∀ k ∈ t.keys, 0 ≤ f k) → 0 ≤ burdF f t ∧ dec (sideT room f t) ∧ (t ≠ .nil → dec (t.cost room f) ∧ (t.cost room f).getD 0 0 ≤ burdF f t + (t.cost room f).getD (room - 1) 0) ∧ ∀ i < room, (t.cost room f).getD (room - 1) 0 ≤ (sideT room f t).getD i 0
  | .nil, _ => by
    refine ⟨by simp [burdF, Tr.keys], fun i j _ _ => by rw [sideT_nil_at, sideT_nil_at]; exact Int.le_refl _, fun h => absurd rfl h, fun i _ => ?_⟩
    rw [sideT_nil_at]; simp [Tr.cost]
  | .nd l k r, hk => by
    obtain ⟨l1, l2, l3, l4⟩ := cost_dec h0 l fun j hj => hk j (by simp [Tr.keys, hj])
    obtain ⟨r1, r2, r3, r4⟩ := cost_dec h0 r fun j hj => hk j (by simp [Tr.keys, hj])
    have hk0 := hk k (by simp [Tr.keys])
    have sl := sideT_len (f := f) h0 l
    have sr := sideT_len (f := f) h0 r
    have hne : (Tr.nd l k r) ≠ .nil := fun z => by cases z
    have cl := cost_len (f := f) h0 hne
    have dc : dec ((Tr.nd l k r).cost room f) := by rw [cost_nd]; exact dec_made (by rw [sl, sr]) l2 r2
    have b0 : 0 ≤ burdF f (.nd l k r) := by rw [burdF_nd]; omega
    have at0 : ((Tr.nd l k r).cost room f).getD 0 0 = (sideT room f l).getD 0 0 + (sideT room f r).getD 0 0 := by
      have := cost_at (f := f) (l := l) (r := r) (k := k) h0 (Nat.le_refl 1) h0
      rw [show (0 : Nat) = 1 - 1 from rfl, this]
      simp [sums3, minL]
    have first : ∀ s : Tr, (sideT room f s).getD 0 0 ≤ burdF f s + (s.cost room f).getD (room - 1) 0 := fun s => by
      by_cases e : s = .nil
      · subst e; rw [sideT_nil_at]; simp [burdF, Tr.keys, Tr.cost]
      · rw [sideT_zero h0 e]; exact Int.le_refl _
    have last : (l.cost room f).getD (room - 1) 0 + (r.cost room f).getD (room - 1) 0 ≤ ((Tr.nd l k r).cost room f).getD (room - 1) 0 := by
      rw [cost_at h0 h0 (Nat.le_refl _)]
      refine minL_gt (fun e => by have := sums3_len (sideT room f l) (sideT room f r) room; rw [e] at this; simp at this; omega) fun y hy => ?_
      obtain ⟨i, hi, rfl⟩ := List.mem_map.mp hy
      have hi := List.mem_range.mp hi
      have := l4 i hi
      have := r4 (room - 1 - i) (by omega)
      omega
    have c0 : ((Tr.nd l k r).cost room f).getD 0 0 ≤ burdF f (.nd l k r) + ((Tr.nd l k r).cost room f).getD (room - 1) 0 := by
      have := first l
      have := first r
      rw [at0, burdF_nd]; omega
    refine ⟨b0, fun i j hij hj => ?_, fun _ => ⟨dc, c0⟩, fun i hi => ?_⟩
    · rw [sideT_len h0] at hj
      by_cases hi0 : i = 0
      · subst hi0
        by_cases hj0 : j = 0
        · subst hj0; exact Int.le_refl _
        · rw [sideT_zero h0 hne, sideT_succ h0 hne (by omega) hj]
          have := dc 0 (j - 1) (by omega) (by omega)
          omega
      · rw [sideT_succ (i := i) h0 hne (by omega) (by omega), sideT_succ (i := j) h0 hne (by omega) hj]
        exact dc (i - 1) (j - 1) (by omega) (by omega)
    · by_cases hi0 : i = 0
      · subst hi0; rw [sideT_zero h0 hne]; omega
      · rw [sideT_succ h0 hne (by omega) hi]
        exact dc (i - 1) (room - 1) (by omega) (by omega)
/-! ### laws of the least cost -/
def cst (R : Nat) (f : Int → Int) (t : Tr) (m : Nat) : Int := (t.cost R f).getD (m - 1) 0
def sd (R : Nat) (f : Int → Int) (t : Tr) (i : Nat) : Int := (sideT R f t).getD i 0
section
variable {R : Nat} {f g h : Int → Int} {l r t : Tr} {k : Int}
theorem sd_nil {i : Nat} : sd R f .nil i = 0 := sideT_nil_at
theorem sd_0 (h0 : 1 ≤ R) (ht : t ≠ .nil) : sd R f t 0 = burdF f t + cst R f t R := sideT_zero h0 ht
theorem sd_s (h0 : 1 ≤ R) (ht : t ≠ .nil) {i : Nat} (hi : 0 < i) (hi2 : i < R) : sd R f t i = cst R f t i := sideT_succ h0 ht hi hi2
theorem cst_le (h0 : 1 ≤ R) {m i : Nat} (hm : 1 ≤ m) (hm2 : m ≤ R) (hi : i < m) : cst R f (.nd l k r) m ≤ sd R f l i + sd R f r (m - 1 - i) := by
  unfold cst
  rw [cost_at h0 hm hm2]
  exact minL_lb (List.mem_map.mpr ⟨i, List.mem_range.mpr hi, rfl⟩)
theorem cst_ex (h0 : 1 ≤ R) {m : Nat} (hm : 1 ≤ m) (hm2 : m ≤ R) : ∃ i < m, cst R f (.nd l k r) m = sd R f l i + sd R f r (m - 1 - i) := by
  unfold cst
  rw [cost_at h0 hm hm2, ← bst_is hm]
  exact ⟨_, bst_lt hm, rfl⟩
theorem cst_ge (h0 : 1 ≤ R) {m : Nat} {x : Int} (hm : 1 ≤ m) (hm2 : m ≤ R) (hx : ∀ i < m, x ≤ sd R f l i + sd R f r (m - 1 - i)) : x ≤ cst R f (.nd l k r) m := by
  obtain ⟨i, hi, e⟩ := cst_ex (f := f) (l := l) (r := r) (k := k) h0 hm hm2
  rw [e]; exact hx i hi
theorem leastF_sd (h0 : 1 ≤ R) : leastF f (fun _ => t.cost R f) t = sd R f t 0 := by
  unfold leastF
  by_cases e : t = .nil
  · rw [if_pos e, e, sd_nil]
  · rw [if_neg e, sd_0 h0 e]
    have := cost_len (f := f) h0 e
    unfold cst
    rw [List.getLastD_eq_getLast?, List.getLast?_eq_getElem?, this, List.getD_eq_getElem?_getD]
theorem ndne : Tr.nd l k r ≠ .nil := fun z => by cases z
/-- weights added -/
theorem sd_add (h0 : 1 ≤ R) : ∀ (t : Tr), (∀ k ∈ t.keys, h k = f k + g k) → (burdF h t = burdF f t + burdF g t) ∧ ∀ i < R, sd R f t i + sd R g t i ≤ sd R h t i
  | .nil, _ => ⟨by simp [burdF, Tr.keys], fun i _ => by rw [sd_nil, sd_nil, sd_nil]; decide⟩
  | .nd l k r, hk => by
    obtain ⟨l1, l2⟩ := sd_add h0 l fun j hj => hk j (by simp [Tr.keys, hj])
    obtain ⟨r1, r2⟩ := sd_add h0 r fun j hj => hk j (by simp [Tr.keys, hj])
    have hb : burdF h (.nd l k r) = burdF f (.nd l k r) + burdF g (.nd l k r) := by
      rw [burdF_nd, burdF_nd, burdF_nd, hk k (by simp [Tr.keys])]; omega
    have hc : ∀ m, 1 ≤ m → m ≤ R → cst R f (.nd l k r) m + cst R g (.nd l k r) m ≤ cst R h (.nd l k r) m := fun m hm hm2 => by
      refine cst_ge h0 hm hm2 fun i hi => ?_
      have a := cst_le (f := f) (l := l) (r := r) (k := k) h0 hm hm2 hi
      have b := cst_le (f := g) (l := l) (r := r) (k := k) h0 hm hm2 hi
      have c := l2 i (by omega)
      have d := r2 (m - 1 - i) (by omega)
      omega
    refine ⟨hb, fun i hi => ?_⟩
    by_cases hi0 : i = 0
    · subst hi0
      rw [sd_0 h0 ndne, sd_0 h0 ndne, sd_0 h0 ndne, hb]
      have := hc R h0 (Nat.le_refl _); omega
    · rw [sd_s h0 ndne (by omega) hi, sd_s h0 ndne (by omega) hi, sd_s h0 ndne (by omega) hi]
      exact hc i (by omega) (by omega)
/-- weights so many times -/
theorem sd_mul (h0 : 1 ≤ R) {c : Int} (hc0 : 0 ≤ c) : ∀ (t : Tr), (∀ k ∈ t.keys, g k = c * f k) → (burdF g t = c * burdF f t) ∧ ∀ i < R, sd R g t i = c * sd R f t i
  | .nil, _ => ⟨by simp [burdF, Tr.keys], fun i _ => by rw [sd_nil, sd_nil, Int.mul_zero]⟩
  | .nd l k r, hk => by
    obtain ⟨l1, l2⟩ := sd_mul h0 hc0 l fun j hj => hk j (by simp [Tr.keys, hj])
    obtain ⟨r1, r2⟩ := sd_mul h0 hc0 r fun j hj => hk j (by simp [Tr.keys, hj])
    have hb : burdF g (.nd l k r) = c * burdF f (.nd l k r) := by
      rw [burdF_nd, burdF_nd, hk k (by simp [Tr.keys]), l1, r1, Int.mul_add, Int.mul_add]
    have hc : ∀ m, 1 ≤ m → m ≤ R → cst R g (.nd l k r) m = c * cst R f (.nd l k r) m := fun m hm hm2 => by
      refine Int.le_antisymm ?_ (cst_ge h0 hm hm2 fun i hi => ?_)
      · obtain ⟨i, hi, e⟩ := cst_ex (f := f) (l := l) (r := r) (k := k) h0 hm hm2
        rw [e, Int.mul_add, ← l2 i (by omega), ← r2 (m - 1 - i) (by omega)]
        exact cst_le h0 hm hm2 hi
      · rw [l2 i (by omega), r2 (m - 1 - i) (by omega), ← Int.mul_add]
        exact Int.mul_le_mul_of_nonneg_left (cst_le h0 hm hm2 hi) hc0
    refine ⟨hb, fun i hi => ?_⟩
    by_cases hi0 : i = 0
    · subst hi0
      rw [sd_0 h0 ndne, sd_0 h0 ndne, hb, hc R h0 (Nat.le_refl _), Int.mul_add]
    · rw [sd_s h0 ndne (by omega) hi, sd_s h0 ndne (by omega) hi]
      exact hc i (by omega) (by omega)
/-- nothing below nought -/
theorem sd_nn (h0 : 1 ≤ R) : ∀ (t : Tr), (∀ k ∈ t.keys, 0 ≤ f k) → 0 ≤ burdF f t ∧ (∀ i < R, 0 ≤ sd R f t i) ∧ ∀ m, 1 ≤ m → m ≤ R → 0 ≤ cst R f t m
  | .nil, _ => ⟨by simp [burdF, Tr.keys], fun i _ => by rw [sd_nil]; decide, fun m _ _ => by simp [cst, Tr.cost]⟩
  | .nd l k r, hk => by
    obtain ⟨l1, l2, l3⟩ := sd_nn h0 l fun j hj => hk j (by simp [Tr.keys, hj])
    obtain ⟨r1, r2, r3⟩ := sd_nn h0 r fun j hj => hk j (by simp [Tr.keys, hj])
    have hk0 := hk k (by simp [Tr.keys])
    have hb : 0 ≤ burdF f (.nd l k r) := by rw [burdF_nd]; omega
    have hc : ∀ m, 1 ≤ m → m ≤ R → 0 ≤ cst R f (.nd l k r) m := fun m hm hm2 => cst_ge h0 hm hm2 fun i hi => by
      have := l2 i (by omega)
      have := r2 (m - 1 - i) (by omega)
      omega
    refine ⟨hb, fun i hi => ?_, hc⟩
    by_cases hi0 : i = 0
    · subst hi0
      rw [sd_0 h0 ndne]
      have := hc R h0 (Nat.le_refl _); omega
    · rw [sd_s h0 ndne (by omega) hi]
      exact hc i (by omega) (by omega)
/-- all in one page -/
theorem cst_fit (h0 : 1 ≤ R) : ∀ (t : Tr), (∀ k ∈ t.keys, 0 ≤ f k) → ∀ m, t.size ≤ m → 1 ≤ m → m ≤ R → cst R f t m = 0
  | .nil, _, m, _, _, _ => by simp [cst, Tr.cost]
  | .nd l k r, hk, m, hs, hm, hm2 => by
    simp only [Tr.size] at hs
    have hl := cst_fit h0 l fun j hj => hk j (by simp [Tr.keys, hj])
    have hr := cst_fit h0 r fun j hj => hk j (by simp [Tr.keys, hj])
    have nn := (sd_nn (f := f) h0 (.nd l k r) hk).2.2 m hm hm2
    have e1 : sd R f l l.size = 0 := by
      by_cases e : l = .nil
      · rw [e, sd_nil]
      · have hp : 0 < l.size := by obtain ⟨a, b, c, q⟩ := tv_ne e; rw [q]; simp only [Tr.size]; omega
        rw [sd_s h0 e hp (by omega)]
        exact hl l.size (Nat.le_refl _) hp (by omega)
    have e2 : sd R f r (m - 1 - l.size) = 0 := by
      by_cases e : r = .nil
      · rw [e, sd_nil]
      · have hp : 0 < r.size := by obtain ⟨a, b, c, q⟩ := tv_ne e; rw [q]; simp only [Tr.size]; omega
        rw [sd_s h0 e (by omega) (by omega)]
        exact hr _ (by omega) (by omega) (by omega)
    have := cst_le (f := f) (l := l) (r := r) (k := k) h0 hm hm2 (i := l.size) (by omega)
    omega
/-- a greater room -/
theorem sd_room (h0 : 1 ≤ R) : ∀ (t : Tr), (∀ k ∈ t.keys, 0 ≤ f k) → (∀ i < R, sd (R + 1) f t i ≤ sd R f t i) ∧ (t ≠ .nil → ∀ m, 1 ≤ m → m ≤ R → cst (R + 1) f t m ≤ cst R f t m)
  | .nil, _ => ⟨fun i _ => by rw [sd_nil, sd_nil]; decide, fun z => absurd rfl z⟩
  | .nd l k r, hk => by
    obtain ⟨l1, l2⟩ := sd_room h0 l fun j hj => hk j (by simp [Tr.keys, hj])
    obtain ⟨r1, r2⟩ := sd_room h0 r fun j hj => hk j (by simp [Tr.keys, hj])
    have hc : ∀ m, 1 ≤ m → m ≤ R → cst (R + 1) f (.nd l k r) m ≤ cst R f (.nd l k r) m := fun m hm hm2 => by
      refine cst_ge h0 hm hm2 fun i hi => ?_
      have a := cst_le (R := R + 1) (f := f) (l := l) (r := r) (k := k) (by omega) hm (by omega) hi
      have := l1 i (by omega)
      have := r1 (m - 1 - i) (by omega)
      omega
    have dc := ((cost_dec (room := R + 1) (f := f) (by omega) (.nd l k r) hk).2.2.1 ndne).1
    have cl := cost_len (room := R + 1) (f := f) (by omega) (t := .nd l k r) ndne
    have last : cst (R + 1) f (.nd l k r) (R + 1) ≤ cst R f (.nd l k r) R := by
      have a := dc (R - 1) R (by omega) (by omega)
      have b := hc R h0 (Nat.le_refl _)
      unfold cst at b ⊢
      rw [show R + 1 - 1 = R by omega]
      omega
    refine ⟨fun i hi => ?_, fun _ => hc⟩
    by_cases hi0 : i = 0
    · subst hi0
      rw [sd_0 (by omega) ndne, sd_0 h0 ndne]; omega
    · rw [sd_s (by omega) ndne (by omega) (by omega), sd_s h0 ndne (by omega) hi]
      exact hc i (by omega) (by omega)
/-- the mirror -/
def _root_.L3.Tr.mir : Tr → Tr
  | .nil => .nil
  | .nd l k r => .nd r.mir (-k) l.mir
theorem mir_nil : t.mir = .nil ↔ t = .nil := by cases t <;> simp [Tr.mir]
theorem mir_keys : ∀ t : Tr, t.mir.keys = (t.keys.map fun k => -k).reverse
  | .nil => rfl
  | .nd l k r => by simp [Tr.mir, Tr.keys, mir_keys l, mir_keys r]
theorem mir_size : ∀ t : Tr, t.mir.size = t.size
  | .nil => rfl
  | .nd l k r => by simp only [Tr.mir, Tr.size, mir_size l, mir_size r]; omega
theorem mir_up {t : Tr} (hu : t.keys.Pairwise (· < ·)) : t.mir.keys.Pairwise (· < ·) := by
  rw [mir_keys, List.pairwise_reverse, List.pairwise_map]
  exact hu.imp fun h => by omega
theorem sd_mir (h0 : 1 ≤ R) : ∀ (t : Tr), (∀ k ∈ t.keys, g (-k) = f k) → burdF g t.mir = burdF f t ∧ ∀ i < R, sd R g t.mir i = sd R f t i
  | .nil, _ => ⟨by simp [burdF, Tr.keys, Tr.mir], fun i _ => by rw [Tr.mir, sd_nil, sd_nil]⟩
  | .nd l k r, hk => by
    obtain ⟨l1, l2⟩ := sd_mir h0 l fun j hj => hk j (by simp [Tr.keys, hj])
    obtain ⟨r1, r2⟩ := sd_mir h0 r fun j hj => hk j (by simp [Tr.keys, hj])
    have hb : burdF g (Tr.nd l k r).mir = burdF f (.nd l k r) := by
      rw [Tr.mir, burdF_nd, burdF_nd, hk k (by simp [Tr.keys]), l1, r1]; omega
    have hc : ∀ m, 1 ≤ m → m ≤ R → cst R g (.nd r.mir (-k) l.mir) m = cst R f (.nd l k r) m := fun m hm hm2 => by
      refine Int.le_antisymm ?_ ?_
      · refine cst_ge h0 hm hm2 fun i hi => ?_
        have := cst_le (f := g) (l := r.mir) (r := l.mir) (k := -k) h0 hm hm2 (i := m - 1 - i) (by omega)
        rw [r2 _ (by omega), l2 _ (by omega), show m - 1 - (m - 1 - i) = i by omega] at this
        omega
      · refine cst_ge h0 hm hm2 fun i hi => ?_
        have := cst_le (f := f) (l := l) (r := r) (k := k) h0 hm hm2 (i := m - 1 - i) (by omega)
        rw [show m - 1 - (m - 1 - i) = i by omega] at this
        rw [r2 _ (by omega), l2 _ (by omega)]
        omega
    refine ⟨hb, fun i hi => ?_⟩
    have hne : (Tr.nd l k r).mir ≠ .nil := fun z => by cases z
    by_cases hi0 : i = 0
    · subst hi0
      rw [sd_0 h0 hne, sd_0 h0 ndne, hb, Tr.mir, hc R h0 (Nat.le_refl _)]
    · rw [sd_s h0 hne (by omega) hi, sd_s h0 ndne (by omega) hi, Tr.mir]
      exact hc i (by omega) (by omega)
/-- a layout made for some weights costs by others at least their least cost -/
theorem laid_ge (h0 : 1 ≤ R) {pg : Int → Nat} {ds : Nat → Nat} : ∀ (s : Tr) (m q : Nat), s ≠ .nil → 1 ≤ m → m ≤ R → Laid R f pg ds s m q → burdF g s * ((ds q : Nat) : Int) + cst R g s m ≤ dearF g pg ds s
  | .nil, _, _, h, _, _, _ => absurd rfl h
  | .nd l k r, m, q, _, hm, hm2, hl => by
    obtain ⟨e, q1, q2⟩ := laid_nd.mp hl
    have hb := bst_lt (L := sideT R f l) (R := sideT R f r) hm
    generalize bst (sideT R f l) (sideT R f r) m = b at *
    have cs := cst_le (f := g) (l := l) (r := r) (k := k) h0 hm hm2 hb
    have one : ∀ (s : Tr) (i : Nat), i < R → (s ≠ .nil → ∀ m q, 1 ≤ m → m ≤ R → Laid R f pg ds s m q → burdF g s * ((ds q : Nat) : Int) + cst R g s m ≤ dearF g pg ds s) → SideOk R f pg ds s i q → burdF g s * ((ds q : Nat) : Int) + sd R g s i ≤ dearF g pg ds s := by
      intro s i hi ih so
      by_cases hs : s = .nil
      · subst hs
        rw [sd_nil]
        simp [dearF, burdF, Tr.keys]
      · obtain ⟨a1, a2⟩ := so hs
        by_cases hi0 : i = 0
        · obtain ⟨g', _, e2, q⟩ := a2 hi0
          have := ih hs R g' h0 (Nat.le_refl _) q
          rw [hi0, sd_0 h0 hs]
          rw [e2] at this
          push_cast at this
          rw [Int.mul_add] at this; omega
        · have := ih hs i q (by omega) (by omega) (a1 (by omega))
          rw [sd_s h0 hs (by omega) hi]; omega
    have e1 := one l b (by omega) (fun hl m q => laid_ge h0 l m q hl) q1
    have e2 := one r (m - 1 - b) (by omega) (fun hr m q => laid_ge h0 r m q hr) q2
    rw [dearF_nd, burdF_nd, e, Int.add_mul, Int.add_mul]
    omega
end
/-! ### weights -/
theorem wf_at : ∀ {ks ws : List Int} {i : Nat} {k w : Int}, ks.Nodup → ks[i]? = some k → ws[i]? = some w → wf ks ws k = w
  | [], _, i, _, _, _, h, _ => by simp at h
  | _ :: _, [], i, _, _, _, _, h => by simp at h
  | k :: ks, w :: ws, 0, _, _, _, h1, h2 => by
    simp at h1 h2
    subst h1 h2
    simp [wf]
  | k :: ks, w :: ws, i + 1, j, v, nd, h1, h2 => by
    rw [List.nodup_cons] at nd
    rw [List.getElem?_cons_succ] at h1 h2
    have : ¬ j = k := fun e => nd.1 (by rw [← e]; exact List.mem_of_getElem? h1)
    rw [wf, if_neg this]
    exact wf_at nd.2 h1 h2
/-- by their places -/
theorem wf_all {ks ws : List Int} {P : Int → Int → Prop} (nd : ks.Nodup) (hl : ks.length = ws.length) (h : ∀ (i : Nat) k w, ks[i]? = some k → ws[i]? = some w → P k w) : ∀ k ∈ ks, P k (wf ks ws k) := fun k hk => by
  obtain ⟨i, hi⟩ := List.getElem?_of_mem hk
  have hlt : i < ws.length := by rw [← hl]; exact (List.getElem?_eq_some_iff.mp hi).1
  have := wf_at nd hi (List.getElem?_eq_getElem hlt)
  rw [this]
  exact h i k _ hi (List.getElem?_eq_getElem hlt)

end L3

set_option Elab.async false
set_option linter.all false
set_option maxRecDepth 100000
namespace L3
open PySem PySem.Spec PyProof.Rows L2
def f_tied_kids : Nat := 1019
def f_gather : Nat := 1020
def f_ties : Nat := 1021
def f_ties_L : Nat := 1023
def e_tied_kids_1 : Ex := (.idx (.var 2) (.idx (.var 4) (.int 1)))
def e_tied_kids_2 : Ex := (.idx (.var 5) (.int 1))
def p_tied_kids_2 : Ex := (.cmp .eq (.idx (.var 5) (.int 0)) (.idx (.blt .max true (.cons (.var 3) .nil)) (.int 0)))
def e_tied_kids_3 : Ex := (.idx (.var 4) (.int 1))
def p_tied_kids_3 : Ex := (.cmp .eq (.idx (.idx (.var 2) (.idx (.var 4) (.int 1))) (.int 0)) (.idx (.blt .max true (.cons (.var 3) .nil)) (.int 0)))
def d_tied_kids : Df := ⟨3, 6, (.cons (.asg (.name 3) (.comp true e_tied_kids_1 (.name 4) (.seq (.call f_kids_of (.cons (.var 0) .nil))) .nop [4])) (.cons (.ite (.bop false (.cons (.cmp .eq (.var 3) (.lst true .nil)) (.cons (.cmp .gt (.bin .add true (.int 1) (.blt .sum true (.cons (.comp true e_tied_kids_2 (.name 5) (.seq (.var 3)) p_tied_kids_2 [5]) .nil))) (.var 1)) .nil))) (.cons (.ret (.lst true .nil)) .nil) .nil) (.cons (.ret (.comp true e_tied_kids_3 (.name 4) (.seq (.call f_kids_of (.cons (.var 0) .nil))) p_tied_kids_3 [4])) .nil)))⟩
-- ['tree', 'room', 'known', 'some', 'kid', 'mark']
def b_gather_1 : Sms := (.cons (.ex (.mth .append (.var 3) (.cons (.tup (.cons (.idx (.var 0) (.int 1)) (.cons (.var 4) .nil))) .nil))) .nil)
def b_gather_2 : Sms := (.cons (.ex (.call f_gather (.cons (.var 5) (.cons (.var 1) (.cons (.var 2) (.cons (.var 3) .nil)))))) .nil)
def c_gather_1 : Sms := (.cons (.for (.name 5) (.seq (.call f_kids_of (.cons (.var 0) .nil))) b_gather_2) .nil)
def d_gather : Df := ⟨4, 6, (.cons (.ite (.cmp .isnot (.var 0) .non) (.cons (.for (.name 4) (.seq (.call f_tied_kids (.cons (.var 0) (.cons (.var 1) (.cons (.var 2) .nil))))) b_gather_1) c_gather_1) .nil) .nil)⟩
-- ['tree', 'room', 'known', 'found', 'kid', 'side']
def d_ties : Df := ⟨2, 3, (.cons (.asg (.name 2) (.lst false .nil)) (.cons (.ex (.call f_gather (.cons (.var 0) (.cons (.var 1) (.cons (.call f_marks_known (.cons (.var 0) (.cons (.var 1) .nil))) (.cons (.var 2) .nil)))))) (.cons (.ret (.blt .sorted true (.cons (.var 2) .nil))) .nil)))⟩
-- ['tree', 'room', 'found']
def d_ties_L : Df := ⟨2, 3, (.cons (.asg (.name 2) (.lst false .nil)) (.cons (.ex (.call f_gather (.cons (.var 0) (.cons (.var 1) (.cons (.call f_marks_known (.cons (.var 0) (.cons (.var 1) .nil))) (.cons (.var 2) .nil)))))) (.cons (.ret (.blt .sorted false (.cons (.var 2) .nil))) .nil)))⟩
-- ['tree', 'room', 'found']
end L3

set_option Elab.async false
set_option linter.all false
set_option maxRecDepth 100000
namespace L3
open PySem PySem.Spec PyProof.Rows L2
local macro_rules | `(tactic| walk_at "d") => `(tactic| first | assumption | exact up_same | exact dr_fd _ _ | exact dr_wd _ _ | exact dr_ref (by assumption) | exact dr_ref up_same | exact keyOf_int | (exact (rfl : isNop _ = false)) | exact keyOf_str | exact tyOf_fl | exact tyOf_int | exact tyOf_tup | exact tyOf_bl | exact tyOf_ref (by assumption) | exact tyOf_ref up_same | (intro z; cases z))
local macro_rules | `(tactic| walk_at "w") => `(tactic| try simp -implicitDefEqProofs (disch := walk_at "d") only [↓wpE, ↓wpA, ↓wpB, ↓wpT, ↓wpTs, ↓wpI, ↓wpS, ↓wpSs, ↓optW_some, ↓w_lk0, ↓w_lkS, ↓w_bs, ↓w_bl0, ↓w_bl1, ↓w_k1, ↓w_kS, ↓w_b0, ↓w_b1, ↓w_b2, ↓w_b3, ↓w_b4, ↓w_b5, ↓w_b6, ↓w_b7, ↓w_b8, ↓w_b9, ↓w_b10, ↓w_b11, ↓w_b12, ↓w_b13, ↓w_b14, ↓w_b15, ↓w_b16, ↓w_b17, ↓w_b18, ↓w_b19, ↓w_b20, ↓w_b21, ↓w_b22, ↓w_b23, ↓w_b24, ↓w_b25, ↓alc_fz, ↓alc_lv, ↓w_dictZ, ↓w_eqNN, ↓w_add, ↓w_addS, ↓w_addL, ↓w_addT, ↓w_sub, ↓w_mul, ↓w_fdiv, ↓w_mod, ↓w_pow, ↓w_shl, ↓w_shr, ↓w_band, ↓w_eqI, ↓w_neI, ↓w_eqS, ↓w_neS, ↓w_lt, ↓w_le, ↓w_gt, ↓w_ge, ↓w_is, ↓w_isnot, ↓w_isB, ↓w_isnotB, ↓w_neF0, ↓w_eqF0, ↓w_neI_L, ↓w_eqI_L, ↓w_eqLL, ↓w_neDL, ↓w_eqDL, ↓w_idxR, ↓w_slcF, ↓w_slcT, ↓w_insert, ↓w_lrange, ↓w_revF, ↓w_revR, ↓w_tmul, ↓w_ok_indexF, ↓w_inI, ↓w_notinI, ↓w_eqEE, ↓w_neEE, ↓w_eqE0, ↓w_neE0, ↓w_eqRE, ↓w_neRE, ↓w_maxF, ↓w_minF, ↓w_eqB, ↓w_neB, ↓w_sortPF, ↓w_allF, ↓w_anyF, ↓w_slcR, ↓w_oi1, ↓w_oi2, ↓w_idxD, ↓w_inD, ↓w_notinD, ↓w_okD, ↓w_okDF, ↓w_okU, ↓w_get1N, ↓w_get2N, ↓w_get1, ↓w_get2, ↓w_upd, ↓w_putD, ↓w_frzD', ↓alcD_fz, ↓alcD_lv, ↓w_rep, ↓w_sortR, ↓w_sortF, ↓w_sumF, ↓w_idxF, ↓w_idxT, ↓w_idxS, ↓w_lenR, ↓w_lenF, ↓w_lenT, ↓w_lenS, ↓w_abs, ↓w_max2, ↓w_min2, ↓w_listF, ↓w_listT, ↓w_listR, ↓w_tupleF, ↓w_int, ↓w_intB, ↓w_isi, ↓w_ok_append, ↓w_ok_extend, ↓w_ok_pop, ↓w_ok_insert, ↓w_ok_reverse, ↓w_ok_clear, ↓w_ok_index, ↓w_ok_count, ↓w_append, ↓w_extend, ↓w_reverse, ↓w_clear, ↓w_frz, ↓w_set0, ↓w_set1, ↓w_set2, ↓w_at0, ↓w_at1, ↓w_at2, ↓w_at3, ↓w_blOf, ↓w_intOf, ↓w_refOf, ↓w_cellO, ↓wdK_wd, ↓w_lenDW, lockC_dic, lockC_lst, isN_wd, ↓w_truB, ↓w_truI, ↓w_truF, ↓w_truT, ↓w_truN, ↓optI, ↓isNop, optW_some, isN_non, isN_int, isN_tup, isN_fl, isN_ref, lv_fl, ls_fl, sq_fl, sq_tup, ls_sc, sq_sc, lv_up, ls_up, sq_up, tyOf_fl, tyOf_int, tyOf_tup, tyOf_bl, tyOf_ref, Option.bind_some, List.length_cons, List.length_nil, reduceIte, Bool.false_eq_true, if_true, if_false, List.map_cons, List.map_nil, List.replicate, List.cons_append, List.nil_append, Nat.reduceSub, Nat.reduceAdd, Nat.reduceLeDiff, Int.reduceLT, Int.reduceLE, Int.reduceNeg, Int.reduceToNat, Int.reducePow, and_true, true_and, or_true, true_or, decide_eq_true_eq, Bool.not_eq_true', decide_eq_false_iff_not, up_up, decide_true, decide_false, not_true_eq_false, not_false_eq_true, Bool.not_true, Bool.not_false, List.any_cons, List.any_nil, Bool.or_false, Bool.or_true, Bool.true_or, Bool.false_or, List.mem_cons, List.not_mem_nil, or_false, false_or, reduceCtorEq, sq_ref, lv_ref, ls_ref])
local macro_rules | `(tactic| walk_at "e") => `(tactic| simp only [List.map_cons, List.map_nil, List.replicate, List.cons_append, List.nil_append, Nat.reduceSub])
local macro_rules | `(tactic| walk_at "i") => `(tactic| try simp only [Bool.true_eq_false, Bool.false_eq_true, Bool.not_true, Bool.not_false, Bool.and_true, Bool.true_and, Bool.and_false, Bool.false_and, if_false, if_true, reduceIte, decide_true, decide_false, not_true_eq_false, not_false_eq_true, eq_self])
/-! ### ties in plain words -/
namespace Tr
def tiedS (room : Int) (t : Tr) : List Tr :=
  if t.sides = [] ∨ room < 1 + ((((t.sides.map (mk room)).filter fun m => decide (m.1 = maxL ((t.sides.map (mk room)).map (·.1)))).map (·.2)).sum) then [] else
    t.sides.filter fun s => decide ((mk room s).1 = maxL ((t.sides.map (mk room)).map (·.1)))
def tiesOf (room : Int) : Tr → List (Int × Int)
  | .nil => []
  | .nd l k r => (tiedS room (.nd l k r)).map (fun s => (k, s.top)) ++ (tiesOf room l ++ tiesOf room r)
theorem tiedS_len (room : Int) (t : Tr) : (tiedS room t).length ≤ 2 := by
  unfold tiedS
  split
  · simp
  · refine Nat.le_trans (List.length_filter_le _ _) ?_
    cases t with
    | nil => simp [sides]
    | nd l k r => exact sides_len l r k
theorem tiesOf_len (room : Int) : ∀ t : Tr, (tiesOf room t).length ≤ 2 * t.size
  | .nil => by simp [tiesOf]
  | .nd l k r => by
    have h1 := tiesOf_len room l
    have h2 := tiesOf_len room r
    have h3 := tiedS_len room (.nd l k r)
    simp only [tiesOf, List.length_append, List.length_map, size]; omega
theorem sides_ties (room : Int) (l r : Tr) (k : Int) : (sides (.nd l k r)).flatMap (tiesOf room) = tiesOf room l ++ tiesOf room r := by
  cases l <;> cases r <;> simp [sides, tiesOf]
/-- a dict knows all marks of a tree -/
def Kn (room : Int) (kvs : KVs) : Tr → Prop
  | .nil => True
  | .nd l k r => dg kvs (.inl k) = some (Enc.val (mk room (.nd l k r))) ∧ Kn room kvs l ∧ Kn room kvs r
theorem kn_of {room : Int} {kvs : KVs} : ∀ t : Tr, t.keys.Nodup → (∀ j ∈ t.keys, dg kvs (.inl j) = (mkAt room t j).map Enc.val) → Kn room kvs t
  | .nil, _, _ => trivial
  | .nd l k r, hn, h => by
    have hn' := hn
    simp only [keys] at hn
    rw [List.nodup_append, List.nodup_cons] at hn
    obtain ⟨n1, ⟨n2, n4⟩, n3⟩ := hn
    refine ⟨?_, kn_of l n1 fun j hj => ?_, kn_of r n4 fun j hj => ?_⟩
    · rw [h k (by simp [keys]), mkAt, if_pos rfl]; rfl
    · have e1 : j ≠ k := fun z => n3 j hj k (by simp) z
      have e2 : j ∉ r.keys := fun z => n3 j hj j (by simp [z]) rfl
      rw [h j (by simp [keys, hj]), mkAt, if_neg e1, mkAt_none room r j e2, Option.or_none]
    · have e1 : j ≠ k := fun z => n2 (z ▸ hj)
      have e2 : j ∉ l.keys := fun z => n3 j z j (by simp [hj]) rfl
      rw [h j (by simp [keys, hj]), mkAt, if_neg e1, mkAt_none room l j e2, Option.none_or]
theorem Kn.side {room : Int} {kvs : KVs} {l r : Tr} {k : Int} (h : Kn room kvs (.nd l k r)) {s : Tr} (hs : s ∈ sides (.nd l k r)) : Kn room kvs s ∧ dg kvs (.inl s.top) = some (Enc.val (mk room s)) := by
  obtain ⟨h1, h2, h3⟩ := h
  obtain ⟨s1, s2⟩ := sides_ne hs
  have : Kn room kvs s := by rcases s2 with rfl | rfl <;> assumption
  refine ⟨this, ?_⟩
  cases s with
  | nil => exact absurd rfl s1
  | nd a b c => exact this.1
/-- levels begin with 1 -/
theorem mk_pos (room : Int) : ∀ t : Tr, t ≠ .nil → 1 ≤ (mk room t).1
  | .nil, h => absurd rfl h
  | .nd l k r, _ => by
    rw [mk_nd]
    unfold ruleM
    split
    · exact Int.le_refl _
    · rename_i hne
      have hp : 1 ≤ maxL (((sides (.nd l k r)).map (mk room)).map (·.1)) := by
        cases e : sides (.nd l k r) with
        | nil => rw [e] at hne; exact absurd rfl hne
        | cons s ss =>
          have hs : s ∈ sides (.nd l k r) := by rw [e]; exact List.mem_cons_self
          rw [List.map_cons, List.map_cons]
          refine Int.le_trans ?_ (maxL_le _ _)
          obtain ⟨s1, s2⟩ := sides_ne hs
          rcases s2 with h | h
          · rw [h]; exact mk_pos room l (h ▸ s1)
          · rw [h]; exact mk_pos room r (h ▸ s1)
      split
      · exact hp
      · show 1 ≤ _ + 1; omega
end Tr

end L3

set_option Elab.async false
set_option linter.all false
set_option maxRecDepth 100000
namespace L3
open PySem PySem.Spec PyProof.Rows L2
local macro_rules | `(tactic| walk_at "d") => `(tactic| first | assumption | exact up_same | exact dr_fd _ _ | exact dr_wd _ _ | exact dr_ref (by assumption) | exact dr_ref up_same | exact keyOf_int | (exact (rfl : isNop _ = false)) | exact keyOf_str | exact tyOf_fl | exact tyOf_int | exact tyOf_tup | exact tyOf_bl | exact tyOf_ref (by assumption) | exact tyOf_ref up_same | (intro z; cases z))
local macro_rules | `(tactic| walk_at "w") => `(tactic| try simp -implicitDefEqProofs (disch := walk_at "d") only [↓wpE, ↓wpA, ↓wpB, ↓wpT, ↓wpTs, ↓wpI, ↓wpS, ↓wpSs, ↓optW_some, ↓w_lk0, ↓w_lkS, ↓w_bs, ↓w_bl0, ↓w_bl1, ↓w_k1, ↓w_kS, ↓w_b0, ↓w_b1, ↓w_b2, ↓w_b3, ↓w_b4, ↓w_b5, ↓w_b6, ↓w_b7, ↓w_b8, ↓w_b9, ↓w_b10, ↓w_b11, ↓w_b12, ↓w_b13, ↓w_b14, ↓w_b15, ↓w_b16, ↓w_b17, ↓w_b18, ↓w_b19, ↓w_b20, ↓w_b21, ↓w_b22, ↓w_b23, ↓w_b24, ↓w_b25, ↓alc_fz, ↓alc_lv, ↓w_dictZ, ↓w_eqNN, ↓w_add, ↓w_addS, ↓w_addL, ↓w_addT, ↓w_sub, ↓w_mul, ↓w_fdiv, ↓w_mod, ↓w_pow, ↓w_shl, ↓w_shr, ↓w_band, ↓w_eqI, ↓w_neI, ↓w_eqS, ↓w_neS, ↓w_lt, ↓w_le, ↓w_gt, ↓w_ge, ↓w_is, ↓w_isnot, ↓w_isB, ↓w_isnotB, ↓w_neF0, ↓w_eqF0, ↓w_neI_L, ↓w_eqI_L, ↓w_eqLL, ↓w_neDL, ↓w_eqDL, ↓w_idxR, ↓w_slcF, ↓w_slcT, ↓w_insert, ↓w_lrange, ↓w_revF, ↓w_revR, ↓w_tmul, ↓w_ok_indexF, ↓w_inI, ↓w_notinI, ↓w_eqEE, ↓w_neEE, ↓w_eqE0, ↓w_neE0, ↓w_eqRE, ↓w_neRE, ↓w_maxF, ↓w_minF, ↓w_eqB, ↓w_neB, ↓w_sortPF, ↓w_allF, ↓w_anyF, ↓w_slcR, ↓w_oi1, ↓w_oi2, ↓w_idxD, ↓w_inD, ↓w_notinD, ↓w_okD, ↓w_okDF, ↓w_okU, ↓w_get1N, ↓w_get2N, ↓w_get1, ↓w_get2, ↓w_upd, ↓w_putD, ↓w_frzD', ↓alcD_fz, ↓alcD_lv, ↓w_rep, ↓w_sortR, ↓w_sortF, ↓w_sumF, ↓w_idxF, ↓w_idxT, ↓w_idxS, ↓w_lenR, ↓w_lenF, ↓w_lenT, ↓w_lenS, ↓w_abs, ↓w_max2, ↓w_min2, ↓w_listF, ↓w_listT, ↓w_listR, ↓w_tupleF, ↓w_int, ↓w_intB, ↓w_isi, ↓w_ok_append, ↓w_ok_extend, ↓w_ok_pop, ↓w_ok_insert, ↓w_ok_reverse, ↓w_ok_clear, ↓w_ok_index, ↓w_ok_count, ↓w_append, ↓w_extend, ↓w_reverse, ↓w_clear, ↓w_frz, ↓w_set0, ↓w_set1, ↓w_set2, ↓w_at0, ↓w_at1, ↓w_at2, ↓w_at3, ↓w_blOf, ↓w_intOf, ↓w_refOf, ↓w_cellO, ↓wdK_wd, ↓w_lenDW, lockC_dic, lockC_lst, isN_wd, ↓w_truB, ↓w_truI, ↓w_truF, ↓w_truT, ↓w_truN, ↓optI, ↓isNop, optW_some, isN_non, isN_int, isN_tup, isN_fl, isN_ref, lv_fl, ls_fl, sq_fl, sq_tup, ls_sc, sq_sc, lv_up, ls_up, sq_up, tyOf_fl, tyOf_int, tyOf_tup, tyOf_bl, tyOf_ref, Option.bind_some, List.length_cons, List.length_nil, reduceIte, Bool.false_eq_true, if_true, if_false, List.map_cons, List.map_nil, List.replicate, List.cons_append, List.nil_append, Nat.reduceSub, Nat.reduceAdd, Nat.reduceLeDiff, Int.reduceLT, Int.reduceLE, Int.reduceNeg, Int.reduceToNat, Int.reducePow, and_true, true_and, or_true, true_or, decide_eq_true_eq, Bool.not_eq_true', decide_eq_false_iff_not, up_up, decide_true, decide_false, not_true_eq_false, not_false_eq_true, Bool.not_true, Bool.not_false, List.any_cons, List.any_nil, Bool.or_false, Bool.or_true, Bool.true_or, Bool.false_or, List.mem_cons, List.not_mem_nil, or_false, false_or, reduceCtorEq, sq_ref, lv_ref, ls_ref])
local macro_rules | `(tactic| walk_at "e") => `(tactic| simp only [List.map_cons, List.map_nil, List.replicate, List.cons_append, List.nil_append, Nat.reduceSub])
local macro_rules | `(tactic| walk_at "i") => `(tactic| try simp only [Bool.true_eq_false, Bool.false_eq_true, Bool.not_true, Bool.not_false, Bool.and_true, Bool.true_and, Bool.and_false, Bool.false_and, if_false, if_true, reduceIte, decide_true, decide_false, not_true_eq_false, not_false_eq_true, eq_self])
section
variable {F : Fs}
def HasT (F : Fs) : Prop := F f_kids_of = some d_kids_of ∧ F f_tied_kids = some d_tied_kids ∧ F f_gather = some d_gather
theorem tied_kids_ok (m1 : F f_kids_of = some d_kids_of) (m2 : F f_tied_kids = some d_tied_kids) {room : Int} {kvs : KVs} {E : QE} {l r : Tr} {k : Int} {n : Nat} {h : Hq} {Q : QV} (hk : Tr.Kn room kvs (.nd l k r)) (q : Q (.fl ((Tr.tiedS room (.nd l k r)).map fun s => .int s.top)) h) : CN F (n + 2) f_tied_kids [(Tr.nd l k r).tv, .int room, fdOf kvs] h Q E := by
  have sl := Tr.sides_len l r k
  refine CN_go m2 rfl ?_
  unfold d_tied_kids
  walk_at "e"
  walk_at "w"
  refine kids_ok m1 ?_
  walk_at "w"
  refine comp_ok (fun ρ h Q Q' k w => moT F (n + 1) .nop ρ h Q Q' (fun _ _ => False) k w) (fun ρ h Q Q' k w => moE F (n + 1) e_tied_kids_1 ρ h Q Q' (fun _ _ => False) k w) Tr.tv (Tr.sides (.nd l k r)) (fun s => some (Enc.val (Tr.mk room s))) (by omega) ?_ ?_
  · intro p acc hp
    refine ⟨trivial, fun s hs => ⟨[some (Tr.nd l k r).tv, some (.int room), some (fdOf kvs), none, some s.tv, none], rfl, fun K q => ?_⟩⟩
    unfold e_tied_kids_1
    have lk := (hk.side hs).2
    obtain ⟨sl, sk, sr, rfl⟩ := tv_ne (Tr.sides_ne hs).1
    simp only [Tr.tv]
    walk_at "w"
    rw [show dg kvs (.inl sk) = some (Enc.val (Tr.mk room (.nd sl sk sr))) from lk]
    exact q
  · rw [filterMap_one, alc_fz, show ((Tr.sides (.nd l k r)).map fun s => (Enc.val (Tr.mk room s) : Val)) = ((Tr.sides (.nd l k r)).map (Tr.mk room)).map Enc.val by rw [List.map_map]; rfl]
    walk_at "w"
    unfold Tr.tiedS at q
    by_cases hne : Tr.sides (.nd l k r) = []
    · rw [if_pos (.inl hne)] at q
      rw [hne, List.map_nil]
      walk_at "w"
      exact q
    · have hne' : (Tr.sides (.nd l k r)).map (Tr.mk room) ≠ [] := by simpa using hne
      rw [if_pos hne']
      obtain ⟨b, mx⟩ := w_maxP hne'
      generalize hL : maxL (((Tr.sides (.nd l k r)).map (Tr.mk room)).map (·.1)) = L at q mx
      refine comp_ok (fun ρ h Q Q' k w => moT F (n + 1) p_tied_kids_2 ρ h Q Q' (fun _ _ => False) k w) (fun ρ h Q Q' k w => moE F (n + 1) e_tied_kids_2 ρ h Q Q' (fun _ _ => False) k w) Enc.val ((Tr.sides (.nd l k r)).map (Tr.mk room)) (fun m => if m.1 = L then some (Val.int m.2) else none) (by rw [List.length_map]; omega) ?_ ?_
      · intro p acc hp
        refine ⟨trivial, fun m hm => ⟨[some (Tr.nd l k r).tv, some (.int room), some (fdOf kvs), some (.fl (((Tr.sides (.nd l k r)).map (Tr.mk room)).map Enc.val)), none, some (Enc.val m)], rfl, fun K q => ?_⟩⟩
        unfold p_tied_kids_2
        rw [ev2]
        walk_at "w"
        rw [mx]
        walk_at "w"
        unfold e_tied_kids_2
        walk_at "w"
        by_cases c : m.1 = L
        · simpa [c] using q
        · simpa [c] using q
      · rw [filterMap_if, alc_fz, show ((((Tr.sides (.nd l k r)).map (Tr.mk room)).filter fun p => decide (p.1 = L)).map fun m : Int × Int => Val.int m.2) = ((((Tr.sides (.nd l k r)).map (Tr.mk room)).filter fun p => decide (p.1 = L)).map (·.2)).map Val.int by rw [List.map_map]; rfl]
        walk_at "w"
        split
        · rename_i c
          rw [if_pos (.inr c)] at q
          exact q
        · rename_i c
          rw [if_neg (by rintro (z | z); exact hne z; exact c z)] at q
          refine kids_ok m1 ?_
          walk_at "w"
          refine comp_ok (fun ρ h Q Q' k w => moT F (n + 1) p_tied_kids_3 ρ h Q Q' (fun _ _ => False) k w) (fun ρ h Q Q' k w => moE F (n + 1) e_tied_kids_3 ρ h Q Q' (fun _ _ => False) k w) Tr.tv (Tr.sides (.nd l k r)) (fun s => if (Tr.mk room s).1 = L then some (Val.int s.top) else none) (by omega) ?_ ?_
          · intro p acc hp
            refine ⟨trivial, fun s hs => ⟨[some (Tr.nd l k r).tv, some (.int room), some (fdOf kvs), some (.fl (((Tr.sides (.nd l k r)).map (Tr.mk room)).map Enc.val)), some s.tv, none], rfl, fun K q => ?_⟩⟩
            unfold p_tied_kids_3
            have lk := (hk.side hs).2
            obtain ⟨sl, sk, sr, rfl⟩ := tv_ne (Tr.sides_ne hs).1
            simp only [Tr.tv]
            walk_at "w"
            rw [show dg kvs (.inl sk) = some (Enc.val (Tr.mk room (.nd sl sk sr))) from lk, ev2]
            walk_at "w"
            rw [mx]
            walk_at "w"
            unfold e_tied_kids_3
            walk_at "w"
            by_cases c : (Tr.mk room (.nd sl sk sr)).1 = L
            · simpa [c, Tr.top] using q
            · simpa [c] using q
          · rw [filterMap_if, alc_fz]
            exact q
theorem gather_ok (hT : HasT F) {room : Int} {kvs : KVs} {a : Addr} {E : QE} : ∀ (t : Tr) (n : Nat) {h : Hq} {L : List (Int × Int)} {Q : QV}, t.ht + 1 < n → Tr.Kn room kvs t → h a = some (.lst (L.map Enc.val)) → L.length + 2 * t.size ≤ 1000 →
    Q .non (up h a (.lst ((L ++ Tr.tiesOf room t).map Enc.val))) → CN F n f_gather [t.tv, .int room, fdOf kvs, .ref a] h Q E
  | t, 0, h, L, Q, hn, _, _, _, q => by omega
  | .nil, n + 1, h, L, Q, hn, _, hl, _, q => by
    obtain ⟨m1, m2, m3⟩ := hT
    refine CN_go m3 rfl ?_
    unfold d_gather
    simp only [Tr.tv]
    walk_at "e"
    walk_at "w"
    rw [Tr.tiesOf, List.append_nil, up_id hl] at q
    exact q
  | .nd l k r, n + 1, h, L, Q, hn, hk, hl, hz, q => by
    have hT' := hT
    obtain ⟨m1, m2, m3⟩ := hT
    refine CN_go m3 rfl ?_
    unfold d_gather
    simp only [Tr.tv]
    walk_at "e"
    walk_at "w"
    simp only [Tr.ht] at hn
    obtain ⟨n, rfl⟩ : ∃ m, n = m + 2 := ⟨n - 2, by omega⟩
    have tvd : (Val.tup [l.tv, .int k, r.tv]) = (Tr.nd l k r).tv := rfl
    rw [tvd]
    have tl := Tr.tiedS_len room (.nd l k r)
    simp only [Tr.size] at hz
    refine tied_kids_ok hT'.1 hT'.2.1 hk ?_
    walk_at "w"
    refine for_map (moS F (n + 2) b_gather_1) (fun pre ρ h' => ∃ u, h' = up h a (.lst ((L ++ pre.map fun s => (k, s.top)).map Enc.val)) ∧ ρ = [some (Tr.nd l k r).tv, some (.int room), some (fdOf kvs), some (.ref a), u, none]) (fun s : Tr => Val.int s.top) (Tr.tiedS room (.nd l k r)) ?_ ?_ ?_
    · intro pre y post ρ h1 ey ⟨u, eh, e⟩
      subst eh e
      refine ⟨trivial, [some (Tr.nd l k r).tv, some (.int room), some (fdOf kvs), some (.ref a), some (.int y.top), none], rfl, ?_⟩
      have lp := congrArg List.length ey
      simp only [List.length_append, List.length_cons] at lp
      unfold b_gather_1
      rw [← tvd]
      walk_at "w"
      refine ⟨by simp only [List.length_map, List.length_append]; omega, some (.int y.top), ?_, rfl⟩
      simp [List.map_append]
      rfl
    · intro ρ h1 ⟨u, eh, e⟩
      subst eh e
      refine ⟨trivial, ?_⟩
      unfold c_gather_1
      walk_at "w"
      refine kids_ok m1 ?_
      walk_at "w"
      have szs : ((Tr.sides (.nd l k r)).map Tr.size).sum + 1 ≤ (Tr.nd l k r).size := by
        cases l <;> cases r <;> simp [Tr.sides, Tr.size] <;> omega
      simp only [Tr.size] at szs
      refine for_map (moS F (n + 2) b_gather_2) (fun pre ρ h' => ∃ u : Option Val × Option Val, h' = up h a (.lst (((L ++ (Tr.tiedS room (.nd l k r)).map fun s => (k, s.top)) ++ pre.flatMap (Tr.tiesOf room)).map Enc.val)) ∧ ρ = [some (Tr.nd l k r).tv, some (.int room), some (fdOf kvs), some (.ref a), u.1, u.2]) Tr.tv (Tr.sides (.nd l k r)) ?_ ?_ ?_
      · intro pre y post ρ h1 ey ⟨u, eh, e⟩
        subst eh e
        refine ⟨trivial, [some (Tr.nd l k r).tv, some (.int room), some (fdOf kvs), some (.ref a), u.1, some y.tv], rfl, ?_⟩
        have hy : y ∈ Tr.sides (.nd l k r) := by rw [ey]; simp
        have hh : y.ht + 1 < n + 2 := by rcases (Tr.sides_ne hy).2 with e | e <;> rw [e] <;> omega
        have zz : (pre.flatMap (Tr.tiesOf room)).length ≤ 2 * (pre.map Tr.size).sum := by
          clear ey
          induction pre with
          | nil => simp
          | cons s ss ih =>
            have := Tr.tiesOf_len room s
            simp only [List.flatMap_cons, List.length_append, List.map_cons, List.sum_cons]; omega
        rw [ey, List.map_append, List.sum_append, List.map_cons, List.sum_cons] at szs
        unfold b_gather_2
        walk_at "w"
        refine gather_ok hT' y (n + 2) hh (hk.side hy).1 up_same (by simp only [List.length_append, List.length_map]; omega) ?_
        rw [up_up]
        refine ⟨(u.1, some y.tv), ?_, rfl⟩
        simp [List.flatMap_append]
      · intro ρ h1 ⟨u, eh, e⟩
        subst eh e
        refine ⟨trivial, ?_⟩
        walk_at "w"
        rw [Tr.sides_ties, List.append_assoc] at *
        exact q
      · exact ⟨(u, none), by simp, rfl⟩
    · exact ⟨none, by rw [List.map_nil, List.append_nil, up_id hl], rfl⟩
theorem ties_ok (hT : HasT F) (hM : HasMk F) (hF : F f_ties = some d_ties) {room : Int} {E : QE} {t : Tr} {n : Nat} {h : Hq} {Q : QV} (hn : t.ht + 3 < n) (hd : t.keys.Nodup) (hz : t.size ≤ 400)
    (q : ∀ h', Grow h h' → Q (.fl ((sortP (Tr.tiesOf room t)).map Enc.val)) h') : CN F n f_ties [t.tv, .int room] h Q E := by
  obtain ⟨n, rfl⟩ : ∃ m, n = m + 1 := ⟨n - 1, by omega⟩
  refine CN_go hF rfl ?_
  unfold d_ties
  walk_at "e"
  walk_at "w"
  intro p hp
  refine marks_known_ok hM (by omega) hd (by omega) fun kvs g => ?_
  refine gather_ok (L := []) hT t n (by omega) (Tr.kn_of t hd fun j _ => g j) up_same (by simp; omega) ?_
  rw [up_up]
  walk_at "w"
  rw [w_sortPR up_same, alc_fz]
  exact q _ (Grow.up hp)
theorem ties_L_ok (hT : HasT F) (hM : HasMk F) (hF : F f_ties_L = some d_ties_L) {room : Int} {E : QE} {t : Tr} {n : Nat} {h : Hq} {Q : QV} (hn : t.ht + 3 < n) (hd : t.keys.Nodup) (hz : t.size ≤ 400)
    (q : ∀ p h', h p = none → Grow h h' → h' p = some (.lst ((sortP (Tr.tiesOf room t)).map Enc.val)) → Q (.ref p) h') : CN F n f_ties_L [t.tv, .int room] h Q E := by
  obtain ⟨n, rfl⟩ : ∃ m, n = m + 1 := ⟨n - 1, by omega⟩
  refine CN_go hF rfl ?_
  unfold d_ties_L
  walk_at "e"
  walk_at "w"
  intro p hp
  refine marks_known_ok hM (by omega) hd (by omega) fun kvs g => ?_
  refine gather_ok (L := []) hT t n (by omega) (Tr.kn_of t hd fun j _ => g j) up_same (by simp; omega) ?_
  rw [up_up]
  walk_at "w"
  rw [w_sortPR up_same, alc_lv]
  intro p2 hp2
  have n2 : h p2 = none := by
    by_cases z : p2 = p
    · rw [z, up_same] at hp2; cases hp2
    · rwa [up_ne z] at hp2
  exact q p2 _ n2 (grow_up (Grow.up hp) n2) up_same
end

end L3

set_option Elab.async false
set_option linter.all false
set_option maxRecDepth 100000
namespace L3
open PySem PySem.Spec PyProof.Rows L2
local macro_rules | `(tactic| walk_at "d") => `(tactic| first | assumption | exact up_same | exact dr_fd _ _ | exact dr_wd _ _ | exact dr_ref (by assumption) | exact dr_ref up_same | exact keyOf_int | (exact (rfl : isNop _ = false)) | exact keyOf_str | exact tyOf_fl | exact tyOf_int | exact tyOf_tup | exact tyOf_bl | exact tyOf_ref (by assumption) | exact tyOf_ref up_same | (intro z; cases z))
local macro_rules | `(tactic| walk_at "w") => `(tactic| try simp -implicitDefEqProofs (disch := walk_at "d") only [↓wpE, ↓wpA, ↓wpB, ↓wpT, ↓wpTs, ↓wpI, ↓wpS, ↓wpSs, ↓optW_some, ↓w_lk0, ↓w_lkS, ↓w_bs, ↓w_bl0, ↓w_bl1, ↓w_k1, ↓w_kS, ↓w_b0, ↓w_b1, ↓w_b2, ↓w_b3, ↓w_b4, ↓w_b5, ↓w_b6, ↓w_b7, ↓w_b8, ↓w_b9, ↓w_b10, ↓w_b11, ↓w_b12, ↓w_b13, ↓w_b14, ↓w_b15, ↓w_b16, ↓w_b17, ↓w_b18, ↓w_b19, ↓w_b20, ↓w_b21, ↓w_b22, ↓w_b23, ↓w_b24, ↓w_b25, ↓alc_fz, ↓alc_lv, ↓w_dictZ, ↓w_eqNN, ↓w_add, ↓w_addS, ↓w_addL, ↓w_addT, ↓w_sub, ↓w_mul, ↓w_fdiv, ↓w_mod, ↓w_pow, ↓w_shl, ↓w_shr, ↓w_band, ↓w_eqI, ↓w_neI, ↓w_eqS, ↓w_neS, ↓w_lt, ↓w_le, ↓w_gt, ↓w_ge, ↓w_is, ↓w_isnot, ↓w_isB, ↓w_isnotB, ↓w_neF0, ↓w_eqF0, ↓w_neI_L, ↓w_eqI_L, ↓w_eqLL, ↓w_neDL, ↓w_eqDL, ↓w_idxR, ↓w_slcF, ↓w_slcT, ↓w_insert, ↓w_lrange, ↓w_revF, ↓w_revR, ↓w_tmul, ↓w_ok_indexF, ↓w_inI, ↓w_notinI, ↓w_eqEE, ↓w_neEE, ↓w_eqE0, ↓w_neE0, ↓w_eqRE, ↓w_neRE, ↓w_maxF, ↓w_minF, ↓w_eqB, ↓w_neB, ↓w_sortPF, ↓w_allF, ↓w_anyF, ↓w_slcR, ↓w_oi1, ↓w_oi2, ↓w_idxD, ↓w_inD, ↓w_notinD, ↓w_okD, ↓w_okDF, ↓w_okU, ↓w_get1N, ↓w_get2N, ↓w_get1, ↓w_get2, ↓w_upd, ↓w_putD, ↓w_frzD', ↓alcD_fz, ↓alcD_lv, ↓w_rep, ↓w_sortR, ↓w_sortF, ↓w_sumF, ↓w_idxF, ↓w_idxT, ↓w_idxS, ↓w_lenR, ↓w_lenF, ↓w_lenT, ↓w_lenS, ↓w_abs, ↓w_max2, ↓w_min2, ↓w_listF, ↓w_listT, ↓w_listR, ↓w_tupleF, ↓w_int, ↓w_intB, ↓w_isi, ↓w_ok_append, ↓w_ok_extend, ↓w_ok_pop, ↓w_ok_insert, ↓w_ok_reverse, ↓w_ok_clear, ↓w_ok_index, ↓w_ok_count, ↓w_append, ↓w_extend, ↓w_reverse, ↓w_clear, ↓w_frz, ↓w_set0, ↓w_set1, ↓w_set2, ↓w_at0, ↓w_at1, ↓w_at2, ↓w_at3, ↓w_blOf, ↓w_intOf, ↓w_refOf, ↓w_cellO, ↓wdK_wd, ↓w_lenDW, lockC_dic, lockC_lst, isN_wd, ↓w_truB, ↓w_truI, ↓w_truF, ↓w_truT, ↓w_truN, ↓optI, ↓isNop, optW_some, isN_non, isN_int, isN_tup, isN_fl, isN_ref, lv_fl, ls_fl, sq_fl, sq_tup, ls_sc, sq_sc, lv_up, ls_up, sq_up, tyOf_fl, tyOf_int, tyOf_tup, tyOf_bl, tyOf_ref, Option.bind_some, List.length_cons, List.length_nil, reduceIte, Bool.false_eq_true, if_true, if_false, List.map_cons, List.map_nil, List.replicate, List.cons_append, List.nil_append, Nat.reduceSub, Nat.reduceAdd, Nat.reduceLeDiff, Int.reduceLT, Int.reduceLE, Int.reduceNeg, Int.reduceToNat, Int.reducePow, and_true, true_and, or_true, true_or, decide_eq_true_eq, Bool.not_eq_true', decide_eq_false_iff_not, up_up, decide_true, decide_false, not_true_eq_false, not_false_eq_true, Bool.not_true, Bool.not_false, List.any_cons, List.any_nil, Bool.or_false, Bool.or_true, Bool.true_or, Bool.false_or, List.mem_cons, List.not_mem_nil, or_false, false_or, reduceCtorEq, sq_ref, lv_ref, ls_ref])
local macro_rules | `(tactic| walk_at "e") => `(tactic| simp only [List.map_cons, List.map_nil, List.replicate, List.cons_append, List.nil_append, Nat.reduceSub])
local macro_rules | `(tactic| walk_at "i") => `(tactic| try simp only [Bool.true_eq_false, Bool.false_eq_true, Bool.not_true, Bool.not_false, Bool.and_true, Bool.true_and, Bool.and_false, Bool.false_and, if_false, if_true, reduceIte, decide_true, decide_false, not_true_eq_false, not_false_eq_true, eq_self])
/-! ### the layout by marks, in plain words -/
/-- the keys in the page of a tree's top -/
def ownP (room : Int) : Tr → List Int
  | .nil => []
  | .nd l k r => k :: ((if l ∈ Tr.tiedS room (.nd l k r) then ownP room l else []) ++ (if r ∈ Tr.tiedS room (.nd l k r) then ownP room r else []))
/-- the other pages -/
def othP (room : Int) : Tr → List (List Int)
  | .nil => []
  | .nd l k r => (if l ∈ Tr.tiedS room (.nd l k r) then othP room l else if l = .nil then [] else ownP room l :: othP room l) ++ (if r ∈ Tr.tiedS room (.nd l k r) then othP room r else if r = .nil then [] else ownP room r :: othP room r)
/-- the tops of the other pages -/
def topP (room : Int) : Tr → List Int
  | .nil => []
  | .nd l k r => (if l ∈ Tr.tiedS room (.nd l k r) then topP room l else if l = .nil then [] else l.top :: topP room l) ++ (if r ∈ Tr.tiedS room (.nd l k r) then topP room r else if r = .nil then [] else r.top :: topP room r)
theorem tied_side {room : Int} {l r s : Tr} {k : Int} (h : s ∈ Tr.tiedS room (.nd l k r)) : s ∈ Tr.sides (.nd l k r) := by
  unfold Tr.tiedS at h
  split at h
  · cases h
  · exact (List.mem_filter.mp h).1
theorem nil_tied {room : Int} {l r : Tr} {k : Int} : Tr.nil ∉ Tr.tiedS room (.nd l k r) := fun h => (Tr.sides_ne (tied_side h)).1 rfl
def fOwn (room : Int) (t s : Tr) : List Int := if s ∈ Tr.tiedS room t then ownP room s else []
def fOth (room : Int) (t s : Tr) : List (List Int) := if s ∈ Tr.tiedS room t then othP room s else ownP room s :: othP room s
theorem ownP_sides (room : Int) (l r : Tr) (k : Int) : ownP room (.nd l k r) = k :: (Tr.sides (.nd l k r)).flatMap (fOwn room (.nd l k r)) := by
  rw [ownP]
  unfold fOwn
  have hn : Tr.nil ∉ Tr.tiedS room (.nd l k r) := nil_tied
  cases l <;> cases r <;> simp [Tr.sides, List.flatMap_cons, hn] <;> simp [hn] at *
theorem othP_sides (room : Int) (l r : Tr) (k : Int) : othP room (.nd l k r) = (Tr.sides (.nd l k r)).flatMap (fOth room (.nd l k r)) := by
  rw [othP]
  unfold fOth
  have hn : Tr.nil ∉ Tr.tiedS room (.nd l k r) := nil_tied
  cases l <;> cases r <;> simp [Tr.sides, List.flatMap_cons] at hn ⊢ <;> simp [hn]
/-- all pages -/
def allP (room : Int) (t : Tr) : List (List Int) := if t = .nil then [] else ownP room t :: othP room t
theorem allP_perm (room : Int) : ∀ t : Tr, (ownP room t ++ (othP room t).flatten).Perm t.keys
  | .nil => by simp [ownP, othP, Tr.keys]
  | .nd l k r => by
    have hl := allP_perm room l
    have hr := allP_perm room r
    have g : ∀ s : Tr, (ownP room s ++ (othP room s).flatten).Perm s.keys → ((if s ∈ Tr.tiedS room (.nd l k r) then ownP room s else []) ++ (if s ∈ Tr.tiedS room (.nd l k r) then othP room s else if s = .nil then [] else ownP room s :: othP room s).flatten).Perm s.keys := by
      intro s h
      split
      · exact h
      · split
        · rename_i e; subst e; simp [Tr.keys]
        · simpa using h
    have gl := g l hl
    have gr := g r hr
    rw [ownP, othP, Tr.keys, List.flatten_append]
    generalize (if l ∈ Tr.tiedS room (.nd l k r) then ownP room l else []) = A at *
    generalize (if r ∈ Tr.tiedS room (.nd l k r) then ownP room r else []) = B at *
    generalize (if l ∈ Tr.tiedS room (.nd l k r) then othP room l else if l = .nil then [] else ownP room l :: othP room l).flatten = C at *
    generalize (if r ∈ Tr.tiedS room (.nd l k r) then othP room r else if r = .nil then [] else ownP room r :: othP room r).flatten = D at *
    have e : (A ++ B ++ (C ++ D)).Perm (A ++ C ++ (B ++ D)) := by
      rw [List.append_assoc, List.append_assoc]
      exact List.Perm.append_left A (List.perm_append_comm_assoc B C D)
    refine (List.Perm.cons k (e.trans (gl.append gr))).trans ?_
    exact List.perm_middle.symm
theorem ownP_ne {room : Int} {t : Tr} (h : t ≠ .nil) : ownP room t ≠ [] := by
  cases t with
  | nil => exact absurd rfl h
  | nd l k r => rw [ownP]; simp
theorem ownP_head {room : Int} {t : Tr} (h : t ≠ .nil) : (ownP room t).headD 0 = t.top := by
  cases t with
  | nil => exact absurd rfl h
  | nd l k r => rw [ownP]; rfl
theorem othP_tops (room : Int) : ∀ t : Tr, (othP room t).map (fun c => c.headD 0) = topP room t
  | .nil => rfl
  | .nd l k r => by
    have hl := othP_tops room l
    have hr := othP_tops room r
    rw [othP, topP, List.map_append]
    congr 1
    · split
      · exact hl
      · split
        · rfl
        · rename_i h; rw [List.map_cons, hl, ownP_head h]
    · split
      · exact hr
      · split
        · rfl
        · rename_i h; rw [List.map_cons, hr, ownP_head h]
theorem othP_ne (room : Int) : ∀ (t : Tr), ∀ c ∈ othP room t, c ≠ []
  | .nil, c, h => by simp [othP] at h
  | .nd l k r, c, h => by
    rw [othP] at h
    rcases List.mem_append.mp h with h | h
    · split at h
      · exact othP_ne room l c h
      · split at h
        · cases h
        · rename_i z
          rcases List.mem_cons.mp h with h | h
          · rw [h]; exact ownP_ne z
          · exact othP_ne room l c h
    · split at h
      · exact othP_ne room r c h
      · split at h
        · cases h
        · rename_i z
          rcases List.mem_cons.mp h with h | h
          · rw [h]; exact ownP_ne z
          · exact othP_ne room r c h
/-- a knot's mark and its tied kids by the kids' marks -/
theorem rule_cases (room : Int) (l r : Tr) (k : Int) : (Tr.sides (.nd l k r) = [] ∧ Tr.mk room (.nd l k r) = (1, 1) ∧ Tr.tiedS room (.nd l k r) = []) ∨
    ∃ lev : Int, (∀ s ∈ Tr.sides (.nd l k r), (Tr.mk room s).1 ≤ lev) ∧ (∃ s ∈ Tr.sides (.nd l k r), (Tr.mk room s).1 = lev) ∧
      ((1 + (((Tr.sides (.nd l k r)).filter fun s => decide ((Tr.mk room s).1 = lev)).map fun s => (Tr.mk room s).2).sum ≤ room ∧ Tr.mk room (.nd l k r) = (lev, 1 + (((Tr.sides (.nd l k r)).filter fun s => decide ((Tr.mk room s).1 = lev)).map fun s => (Tr.mk room s).2).sum) ∧ Tr.tiedS room (.nd l k r) = (Tr.sides (.nd l k r)).filter fun s => decide ((Tr.mk room s).1 = lev)) ∨
       (room < 1 + (((Tr.sides (.nd l k r)).filter fun s => decide ((Tr.mk room s).1 = lev)).map fun s => (Tr.mk room s).2).sum ∧ Tr.mk room (.nd l k r) = (lev + 1, 1) ∧ Tr.tiedS room (.nd l k r) = [])) := by
  rw [Tr.mk_nd]
  unfold Tr.tiedS Tr.ruleM
  generalize Tr.sides (.nd l k r) = S
  cases S with
  | nil => left; simp
  | cons s S =>
    right
    have e1 : ∀ (L : List Tr) (v : Int), ((L.map (Tr.mk room)).filter fun m => decide (m.1 = v)).map (·.2) = (L.filter fun s => decide ((Tr.mk room s).1 = v)).map fun s => (Tr.mk room s).2 := by
      intro L v
      rw [List.filter_map, List.map_map]; rfl
    have mm : ∀ s' ∈ s :: S, (Tr.mk room s').1 ∈ ((s :: S).map (Tr.mk room)).map (·.1) := fun s' h => List.mem_map.mpr ⟨_, List.mem_map.mpr ⟨s', h, rfl⟩, rfl⟩
    refine ⟨maxL (((s :: S).map (Tr.mk room)).map (·.1)), fun s' h => maxL_up (mm s' h), ?_, ?_⟩
    · have := maxL_in (ns := ((s :: S).map (Tr.mk room)).map (·.1)) (by simp)
      obtain ⟨m, h1, h2⟩ := List.mem_map.mp this
      obtain ⟨s', h3, h4⟩ := List.mem_map.mp h1
      exact ⟨s', h3, by rw [h4, h2]⟩
    · have hne : (s :: S).map (Tr.mk room) ≠ [] := by simp
      have hne2 : ¬ (s :: S) = [] := by simp
      simp only [if_neg hne, e1, hne2, false_or]
      by_cases c : 1 + (((s :: S).filter fun s' => decide ((Tr.mk room s').1 = maxL (((s :: S).map (Tr.mk room)).map (·.1)))).map fun s => (Tr.mk room s).2).sum ≤ room
      · left
        rw [if_pos c, if_neg (by omega)]
        exact ⟨c, rfl, rfl⟩
      · right
        rw [if_neg c, if_pos (by omega)]
        exact ⟨by omega, rfl, rfl⟩
theorem own_len (p : Tr → Bool) (f : Tr → List Int) : ∀ L : List Tr, (L.flatMap fun s => if p s = true then f s else []).length = ((L.filter p).map fun s => (f s).length).sum
  | [] => rfl
  | x :: L => by
    rw [List.flatMap_cons, List.length_append, own_len p f L]
    cases h : p x <;> simp [h]
/-- the marks' second parts are the pages' sizes -/
theorem own_size {room : Int} (hr : 1 ≤ room) : ∀ t : Tr, t ≠ .nil → ((ownP room t).length : Int) = (Tr.mk room t).2 ∧ (Tr.mk room t).2 ≤ room ∧ 1 ≤ (Tr.mk room t).1
  | .nil, h => absurd rfl h
  | .nd l k r, _ => by
    have hl := own_size hr l
    have hr' := own_size hr r
    have hlv : ∀ s ∈ Tr.sides (.nd l k r), ((ownP room s).length : Int) = (Tr.mk room s).2 ∧ (Tr.mk room s).2 ≤ room ∧ 1 ≤ (Tr.mk room s).1 := fun s hs => by
      obtain ⟨h1, h2⟩ := Tr.sides_ne hs
      rcases h2 with rfl | rfl
      · exact hl h1
      · exact hr' h1
    rw [ownP_sides]
    unfold fOwn
    rcases rule_cases room l r k with ⟨h1, h2, h3⟩ | ⟨lev, h1, ⟨s0, h2, h2'⟩, h3⟩
    · rw [h1, h2]; simp; omega
    · have l1 : 1 ≤ lev := by have := (hlv s0 h2).2.2; omega
      rcases h3 with ⟨c, e, et⟩ | ⟨c, e, et⟩
      · rw [e]
        refine ⟨?_, c, l1⟩
        have e2 : (Tr.sides (.nd l k r)).flatMap (fun s => if s ∈ Tr.tiedS room (.nd l k r) then ownP room s else []) = (Tr.sides (.nd l k r)).flatMap (fun s => if decide ((Tr.mk room s).1 = lev) = true then ownP room s else []) := by
          rw [et]
          unfold List.flatMap
          refine congrArg List.flatten (List.map_congr_left fun s hs => ?_)
          simp [List.mem_filter, hs]
        rw [e2, List.length_cons, own_len]
        have e3 : ∀ L : List Tr, (∀ s ∈ L, s ∈ Tr.sides (.nd l k r)) → (((L.map fun s => (ownP room s).length).sum : Nat) : Int) = (L.map fun s => (Tr.mk room s).2).sum := by
          intro L
          induction L with
          | nil => intro _; rfl
          | cons x L ih =>
            intro h
            have ih := ih fun y hy => h y (by simp [hy])
            have hx := (hlv x (h x (by simp))).1
            simp only [List.map_cons, List.sum_cons]
            push_cast
            omega
        have := e3 ((Tr.sides (.nd l k r)).filter fun s => decide ((Tr.mk room s).1 = lev)) fun s hs => (List.mem_filter.mp hs).1
        push_cast
        omega
      · have z : ∀ L : List Tr, (L.flatMap fun s => if s ∈ ([] : List Tr) then ownP room s else []) = [] := fun L => by
          induction L with
          | nil => rfl
          | cons x L ih => rw [List.flatMap_cons, ih]; simp
        rw [e, et, z]
        simp
        omega
theorem oth_size {room : Int} (hr : 1 ≤ room) : ∀ (t : Tr), ∀ c ∈ othP room t, (c.length : Int) ≤ room
  | .nil, c, h => by simp [othP] at h
  | .nd l k r, c, h => by
    rw [othP] at h
    have g : ∀ s : Tr, s ≠ .nil → ((ownP room s).length : Int) ≤ room := fun s hs => by
      have := own_size hr s hs; omega
    rcases List.mem_append.mp h with h | h
    · split at h
      · exact oth_size hr l c h
      · split at h
        · cases h
        · rename_i z
          rcases List.mem_cons.mp h with h | h
          · rw [h]; exact g l z
          · exact oth_size hr l c h
    · split at h
      · exact oth_size hr r c h
      · split at h
        · cases h
        · rename_i z
          rcases List.mem_cons.mp h with h | h
          · rw [h]; exact g r z
          · exact oth_size hr r c h

/-! ### pages met on the ways of a layout by marks -/
/-- how many pages each way meets, by the homes H, with those met ahead -/
def metL (H : Int → Int) : Tr → List Int → List Int
  | .nil, _ => []
  | .nd l k r, ms => (((if H k ∈ ms then ms else ms ++ [H k]).length : Nat) : Int) :: (metL H l (if H k ∈ ms then ms else ms ++ [H k]) ++ metL H r (if H k ∈ ms then ms else ms ++ [H k]))
/-- the homes of the keys that aren't with their ups -/
def apartL (H : Int → Int) : Option Int → Tr → List Int
  | _, .nil => []
  | u, .nd l k r => (match u with | some x => if H x ≠ H k then [H k] else [] | none => []) ++ (apartL H (some k) l ++ apartL H (some k) r)
/-- H tells the pages of L -/
def Homes (H : Int → Int) (L : List (List Int)) : Prop := (∀ c ∈ L, ∀ x ∈ c, ∀ y ∈ c, H x = H y) ∧ ∀ c ∈ L, ∀ x ∈ c, ∀ y, (∃ d ∈ L, y ∈ d) → H x = H y → y ∈ c
theorem own_sub (room : Int) {t : Tr} {x : Int} (h : x ∈ ownP room t) : x ∈ t.keys := (allP_perm room t).mem_iff.mp (List.mem_append_left _ h)
theorem top_own {room : Int} {t : Tr} (h : t ≠ .nil) : t.top ∈ ownP room t := by
  cases t with
  | nil => exact absurd rfl h
  | nd l k r => rw [ownP]; simp [Tr.top]
theorem keys_in {room : Int} {t : Tr} {L : List (List Int)} (h1 : ∃ c ∈ L, ∀ x ∈ ownP room t, x ∈ c) (h2 : ∀ d ∈ othP room t, d ∈ L) {x : Int} (hx : x ∈ t.keys) : ∃ d ∈ L, x ∈ d := by
  rcases List.mem_append.mp ((allP_perm room t).mem_iff.mpr hx) with h | h
  · obtain ⟨c, hc, q⟩ := h1; exact ⟨c, hc, q x h⟩
  · obtain ⟨d, hd, hxd⟩ := List.mem_flatten.mp h
    exact ⟨d, h2 d hd, hxd⟩
theorem kid_pages {room : Int} {l r s : Tr} {k : Int} {L : List (List Int)} (h1 : ∃ c ∈ L, ∀ x ∈ ownP room (.nd l k r), x ∈ c) (h2 : ∀ d ∈ othP room (.nd l k r), d ∈ L) (hs : s ∈ Tr.sides (.nd l k r)) : (∃ c ∈ L, ∀ x ∈ ownP room s, x ∈ c) ∧ (∀ d ∈ othP room s, d ∈ L) ∧ (s ∈ Tr.tiedS room (.nd l k r) → ∀ x ∈ ownP room s, x ∈ ownP room (.nd l k r)) ∧ (s ∉ Tr.tiedS room (.nd l k r) → ownP room s ∈ L) := by
  have e1 := ownP_sides room l r k
  have e2 := othP_sides room l r k
  by_cases t : s ∈ Tr.tiedS room (.nd l k r)
  · have a1 : ∀ x ∈ ownP room s, x ∈ ownP room (.nd l k r) := fun x hx => by
      rw [e1]
      refine List.mem_cons_of_mem _ (List.mem_flatMap.mpr ⟨s, hs, ?_⟩)
      unfold fOwn; rw [if_pos t]; exact hx
    obtain ⟨c, hc, q⟩ := h1
    refine ⟨⟨c, hc, fun x hx => q x (a1 x hx)⟩, fun d hd => h2 d ?_, fun _ => a1, fun z => absurd t z⟩
    rw [e2]
    refine List.mem_flatMap.mpr ⟨s, hs, ?_⟩
    unfold fOth; rw [if_pos t]; exact hd
  · have a1 : ownP room s ∈ L := h2 _ (by
      rw [e2]
      refine List.mem_flatMap.mpr ⟨s, hs, ?_⟩
      unfold fOth; rw [if_neg t]; simp)
    refine ⟨⟨_, a1, fun x hx => hx⟩, fun d hd => h2 d ?_, fun z => absurd z t, fun _ => a1⟩
    rw [e2]
    refine List.mem_flatMap.mpr ⟨s, hs, ?_⟩
    unfold fOth; rw [if_neg t]; simp [hd]
theorem apart_tops {room : Int} {H : Int → Int} {L : List (List Int)} (hh : Homes H L) : ∀ (t : Tr), t.keys.Nodup → (∃ c ∈ L, ∀ x ∈ ownP room t, x ∈ c) → (∀ d ∈ othP room t, d ∈ L) → ∀ u : Option Int, (∀ x, u = some x → (∃ d ∈ L, x ∈ d) ∧ x ∉ t.keys) →
    apartL H u t = (if t ≠ .nil ∧ ∃ x, u = some x ∧ H x ≠ H t.top then [H t.top] else []) ++ (topP room t).map H
  | .nil, _, _, _, u, _ => by simp [apartL, topP]
  | .nd l k r, hn, h1, h2, u, hu => by
    have hn' := hn
    simp only [Tr.keys] at hn
    rw [List.nodup_append, List.nodup_cons] at hn
    obtain ⟨n1, ⟨n2, n4⟩, n3⟩ := hn
    have kL : ∃ d ∈ L, k ∈ d := keys_in h1 h2 (by simp [Tr.keys])
    have g : ∀ s : Tr, (s ≠ .nil → s ∈ Tr.sides (.nd l k r)) → s.keys.Nodup → k ∉ s.keys → (∀ u, (∃ c ∈ L, ∀ x ∈ ownP room s, x ∈ c) → (∀ d ∈ othP room s, d ∈ L) → (∀ x, u = some x → (∃ d ∈ L, x ∈ d) ∧ x ∉ s.keys) → apartL H u s = (if s ≠ .nil ∧ ∃ x, u = some x ∧ H x ≠ H s.top then [H s.top] else []) ++ (topP room s).map H) →
        apartL H (some k) s = (if s ∈ Tr.tiedS room (.nd l k r) then topP room s else if s = .nil then [] else s.top :: topP room s).map H := by
      intro s hs hd hks ih
      by_cases e : s = .nil
      · subst e; simp [apartL, topP]
      · have hs := hs e
        obtain ⟨p1, p2, p3, p4⟩ := kid_pages h1 h2 hs
        rw [ih (some k) p1 p2 (fun x hx => by injection hx with hx; subst hx; exact ⟨kL, hks⟩)]
        obtain ⟨c, hc, q⟩ := h1
        by_cases t : s ∈ Tr.tiedS room (.nd l k r)
        · have : H k = H s.top := hh.1 c hc k (q k (by rw [ownP]; simp)) s.top (q _ (p3 t _ (top_own e)))
          rw [if_pos t, if_neg (by rintro ⟨_, x, hx, hne⟩; injection hx with hx; subst hx; exact hne this), List.nil_append]
        · have : H k ≠ H s.top := fun z => hks (own_sub room (hh.2 _ (p4 t) s.top (top_own e) k kL z.symm))
          rw [if_neg t, if_neg e, if_pos ⟨e, k, rfl, this⟩]
          rfl
    have gl := g l (fun z => by simp [Tr.sides, z]) n1 (fun z => n3 k z k (by simp) rfl) fun u => fun a b c => apart_tops hh l n1 a b u c
    have gr := g r (fun z => by simp [Tr.sides, z]) n4 n2 fun u => fun a b c => apart_tops hh r n4 a b u c
    have e0 : apartL H u (.nd l k r) = (match u with | some x => if H x ≠ H k then [H k] else [] | none => []) ++ (apartL H (some k) l ++ apartL H (some k) r) := by cases u <;> simp [apartL]
    rw [e0, topP, List.map_append, gl, gr]
    congr 1
    cases u with
    | none => simp
    | some x => by_cases c : H x = H k <;> simp [c, Tr.top]
theorem maxL_app {a : Int} : ∀ {xs ys : List Int}, maxL (a :: (xs ++ ys)) = max (maxL (a :: xs)) (maxL (a :: ys)) := by
  intro xs ys
  refine (maxL_uniq ?_ ?_).symm
  · rcases Int.le_total (maxL (a :: xs)) (maxL (a :: ys)) with c | c
    · rw [Int.max_eq_right c]
      have := maxL_in (ns := a :: ys) (by simp)
      rcases List.mem_cons.mp this with h | h
      · simp [h]
      · simp [h]
    · rw [Int.max_eq_left c]
      have := maxL_in (ns := a :: xs) (by simp)
      rcases List.mem_cons.mp this with h | h
      · simp [h]
      · simp [h]
  · intro j hj
    rcases List.mem_cons.mp hj with h | h
    · have := maxL_up (ns := a :: xs) (i := j) (by simp [h]); omega
    · rcases List.mem_append.mp h with h | h
      · have := maxL_up (ns := a :: xs) (i := j) (by simp [h]); omega
      · have := maxL_up (ns := a :: ys) (i := j) (by simp [h]); omega
/-- the worst way meets as many pages as the top's level tells -/
theorem met_level {room : Int} (hr : 1 ≤ room) {H : Int → Int} {L : List (List Int)} (hh : Homes H L) : ∀ (t : Tr), t ≠ .nil → t.keys.Nodup → (∃ c ∈ L, ∀ x ∈ ownP room t, x ∈ c) → (∀ d ∈ othP room t, d ∈ L) → ∀ (ms : List Int), (∀ y ∈ ms, ∃ a, (∃ d ∈ L, a ∈ d) ∧ a ∉ t.keys ∧ H a = y) →
    (∀ j ∈ metL H t ms, j ≤ ms.length + (Tr.mk room t).1 - if H t.top ∈ ms then 1 else 0) ∧ (ms.length + (Tr.mk room t).1 - if H t.top ∈ ms then 1 else 0) ∈ metL H t ms
  | .nil, h, _, _, _, _, _ => absurd rfl h
  | .nd l k r, _, hn, h1, h2, ms, hm => by
    have hn' := hn
    simp only [Tr.keys] at hn
    rw [List.nodup_append, List.nodup_cons] at hn
    obtain ⟨n1, ⟨n2, n4⟩, n3⟩ := hn
    have kL : ∃ d ∈ L, k ∈ d := keys_in h1 h2 (by simp [Tr.keys])
    have kl : k ∉ l.keys := fun z => n3 k z k (by simp) rfl
    have ihl := met_level hr hh l
    have ihr := met_level hr hh r
    rw [metL]
    show (∀ j ∈ _, j ≤ ms.length + (Tr.mk room (.nd l k r)).1 - if H k ∈ ms then 1 else 0) ∧ (ms.length + (Tr.mk room (.nd l k r)).1 - if H k ∈ ms then 1 else 0) ∈ _
    generalize hmo : (if H k ∈ ms then ms else ms ++ [H k]) = more
    have lm : (more.length : Int) = ms.length + 1 - if H k ∈ ms then 1 else 0 := by
      rw [← hmo]; split <;> simp
    have hk : H k ∈ more := by rw [← hmo]; split <;> simp [*]
    have hmore : ∀ s : Tr, (∀ x ∈ s.keys, x ∈ (Tr.nd l k r).keys) → k ∉ s.keys → ∀ y ∈ more, ∃ a, (∃ d ∈ L, a ∈ d) ∧ a ∉ s.keys ∧ H a = y := by
      intro s hs hks y hy
      have : y ∈ ms ∨ y = H k := by
        rw [← hmo] at hy
        split at hy
        · exact .inl hy
        · rcases List.mem_append.mp hy with h | h
          · exact .inl h
          · exact .inr (List.mem_singleton.mp h)
      rcases this with h | h
      · obtain ⟨a, a1, a2, a3⟩ := hm y h
        exact ⟨a, a1, fun z => a2 (hs a z), a3⟩
      · exact ⟨k, kL, hks, h.symm⟩
    have kid : ∀ s ∈ Tr.sides (.nd l k r), (∀ j ∈ metL H s more, j ≤ more.length + (Tr.mk room s).1 - if s ∈ Tr.tiedS room (.nd l k r) then 1 else 0) ∧ (more.length + (Tr.mk room s).1 - if s ∈ Tr.tiedS room (.nd l k r) then 1 else 0) ∈ metL H s more := by
      intro s hs
      obtain ⟨p1, p2, p3, p4⟩ := kid_pages h1 h2 hs
      obtain ⟨s1, s2⟩ := Tr.sides_ne hs
      have sub : (∀ x ∈ s.keys, x ∈ (Tr.nd l k r).keys) ∧ k ∉ s.keys := by
        rcases s2 with rfl | rfl
        · exact ⟨fun x hx => by simp [Tr.keys, hx], kl⟩
        · exact ⟨fun x hx => by simp [Tr.keys, hx], n2⟩
      have iff : H s.top ∈ more ↔ s ∈ Tr.tiedS room (.nd l k r) := by
        constructor
        · intro z
          refine Classical.byContradiction fun t => ?_
          obtain ⟨a, a1, a2, a3⟩ := hmore s sub.1 sub.2 _ z
          exact a2 (own_sub room (hh.2 _ (p4 t) s.top (top_own s1) a a1 a3.symm))
        · intro t
          obtain ⟨c, hc, q⟩ := h1
          have : H k = H s.top := hh.1 c hc k (q k (by rw [ownP]; simp)) s.top (q _ (p3 t _ (top_own s1)))
          rw [← this]; exact hk
      have e : (if s ∈ Tr.tiedS room (.nd l k r) then (1 : Int) else 0) = if H s.top ∈ more then 1 else 0 := by
        by_cases t : s ∈ Tr.tiedS room (.nd l k r)
        · rw [if_pos t, if_pos (iff.mpr t)]
        · rw [if_neg t, if_neg fun z => t (iff.mp z)]
      rw [e]
      rcases s2 with rfl | rfl
      · exact ihl s1 n1 p1 p2 more (hmore _ sub.1 sub.2)
      · exact ihr s1 n4 p1 p2 more (hmore _ sub.1 sub.2)
    have mem : ∀ j, j ∈ metL H l more ++ metL H r more ↔ ∃ s ∈ Tr.sides (.nd l k r), j ∈ metL H s more := by
      intro j
      rw [List.mem_append]
      constructor
      · rintro (h | h)
        · refine ⟨l, ?_, h⟩
          have : l ≠ .nil := fun z => by subst z; simp [metL] at h
          simp [Tr.sides, this]
        · refine ⟨r, ?_, h⟩
          have : r ≠ .nil := fun z => by subst z; simp [metL] at h
          simp [Tr.sides, this]
      · rintro ⟨s, hs, h⟩
        rcases (Tr.sides_ne hs).2 with rfl | rfl
        · exact .inl h
        · exact .inr h
    have lev1 : ∀ s ∈ Tr.sides (.nd l k r), 1 ≤ (Tr.mk room s).1 := fun s hs => (own_size hr s (Tr.sides_ne hs).1).2.2
    have goal : ∀ D : Int, (Tr.mk room (.nd l k r)).1 = D → (∀ s ∈ Tr.sides (.nd l k r), (Tr.mk room s).1 - (if s ∈ Tr.tiedS room (.nd l k r) then 1 else 0) ≤ D - 1) → 1 ≤ D → ((Tr.sides (.nd l k r) = [] ∧ D = 1) ∨ ∃ s ∈ Tr.sides (.nd l k r), (Tr.mk room s).1 - (if s ∈ Tr.tiedS room (.nd l k r) then 1 else 0) = D - 1) →
        (∀ j ∈ (more.length : Int) :: (metL H l more ++ metL H r more), j ≤ ms.length + (Tr.mk room (.nd l k r)).1 - if H k ∈ ms then 1 else 0) ∧ (ms.length + (Tr.mk room (.nd l k r)).1 - if H k ∈ ms then 1 else 0) ∈ (more.length : Int) :: (metL H l more ++ metL H r more) := by
      intro D hD b1 b2 b3
      rw [hD]
      refine ⟨fun j hj => ?_, ?_⟩
      · rcases List.mem_cons.mp hj with h | h
        · omega
        · obtain ⟨s, hs, h⟩ := (mem j).mp h
          have := (kid s hs).1 j h
          have := b1 s hs
          omega
      · rcases b3 with ⟨e, d1⟩ | ⟨s, hs, e⟩
        · have : (ms.length : Int) + D - (if H k ∈ ms then 1 else 0) = more.length := by omega
          rw [this]; simp
        · refine List.mem_cons_of_mem _ ((mem _).mpr ⟨s, hs, ?_⟩)
          have := (kid s hs).2
          have e2 : (ms.length : Int) + D - (if H k ∈ ms then 1 else 0) = more.length + (Tr.mk room s).1 - if s ∈ Tr.tiedS room (.nd l k r) then 1 else 0 := by omega
          rw [e2]; exact this
    rcases rule_cases room l r k with ⟨c1, c2, c3⟩ | ⟨lev, c1, ⟨s0, c2, c2'⟩, c3⟩
    · exact goal 1 (by rw [c2]) (fun s hs => by rw [c1] at hs; cases hs) (by decide) (.inl ⟨c1, rfl⟩)
    · have l1 : 1 ≤ lev := by have := lev1 s0 c2; omega
      rcases c3 with ⟨d, e, et⟩ | ⟨d, e, et⟩
      · refine goal lev (by rw [e]) (fun s hs => ?_) l1 (.inr ⟨s0, c2, ?_⟩)
        · have := c1 s hs
          by_cases z : (Tr.mk room s).1 = lev
          · rw [if_pos (by rw [et]; exact List.mem_filter.mpr ⟨hs, decide_eq_true z⟩)]; omega
          · split <;> omega
        · rw [if_pos (by rw [et]; exact List.mem_filter.mpr ⟨c2, decide_eq_true c2'⟩)]; omega
      · refine goal (lev + 1) (by rw [e]) (fun s hs => ?_) (by omega) (.inr ⟨s0, c2, ?_⟩)
        · have := c1 s hs
          split <;> omega
        · rw [if_neg (by rw [et]; simp)]; omega

end L3

set_option Elab.async false
set_option linter.all false
set_option maxRecDepth 100000
namespace L3
open PySem PySem.Spec PyProof.Rows L2
def f_lay : Nat := 1100
def f_by_marks_L : Nat := 1181
def f_by_marks : Nat := 1105
def b_lay_1 : Sms := (.cons (.ite (.cmp .isin (.idx (.var 6) (.int 1)) (.var 5)) (.cons (.ex (.call f_lay (.cons (.var 6) (.cons (.var 1) (.cons (.var 2) (.cons (.var 3) (.cons (.var 4) .nil))))))) .nil) (.cons (.ex (.mth .append (.var 4) (.cons (.lst false .nil) .nil))) (.cons (.ex (.call f_lay (.cons (.var 6) (.cons (.var 1) (.cons (.var 2) (.cons (.idx (.var 4) (.neg (.int 1))) (.cons (.var 4) .nil))))))) .nil))) .nil)
def d_lay : Df := ⟨5, 7, (.cons (.ex (.mth .append (.var 3) (.cons (.idx (.var 0) (.int 1)) .nil))) (.cons (.asg (.name 5) (.call f_tied_kids (.cons (.var 0) (.cons (.var 1) (.cons (.var 2) .nil))))) (.cons (.for (.name 6) (.seq (.call f_kids_of (.cons (.var 0) .nil))) b_lay_1) .nil)))⟩
-- ['tree', 'room', 'known', 'page', 'pages', 'tied', 'kid']
def e_by_marks_L_1 : Ex := (.blt .sorted false (.cons (.var 3) .nil))
def d_by_marks_L : Df := ⟨2, 4, (.cons (.ite (.cmp .is (.var 0) .non) (.cons (.ret (.lst false .nil)) .nil) .nil) (.cons (.asg (.name 2) (.lst false (.cons (.lst false .nil) .nil))) (.cons (.ex (.call f_lay (.cons (.var 0) (.cons (.var 1) (.cons (.call f_marks_known (.cons (.var 0) (.cons (.var 1) .nil))) (.cons (.idx (.var 2) (.int 0)) (.cons (.var 2) .nil))))))) (.cons (.ret (.blt .sorted false (.cons (.comp true e_by_marks_L_1 (.name 3) (.seq (.var 2)) .nop [3]) .nil))) .nil))))⟩
-- ['tree', 'room', 'pages', 'page']
def e_by_marks_1 : Ex := (.blt .sorted true (.cons (.var 3) .nil))
def d_by_marks : Df := ⟨2, 4, (.cons (.ite (.cmp .is (.var 0) .non) (.cons (.ret (.lst true .nil)) .nil) .nil) (.cons (.asg (.name 2) (.lst false (.cons (.lst false .nil) .nil))) (.cons (.ex (.call f_lay (.cons (.var 0) (.cons (.var 1) (.cons (.call f_marks_known (.cons (.var 0) (.cons (.var 1) .nil))) (.cons (.idx (.var 2) (.int 0)) (.cons (.var 2) .nil))))))) (.cons (.ret (.blt .sorted true (.cons (.comp true e_by_marks_1 (.name 3) (.seq (.var 2)) .nop [3]) .nil))) .nil))))⟩
-- ['tree', 'room', 'pages', 'page']
end L3

set_option Elab.async false
set_option linter.all false
set_option maxRecDepth 100000
namespace L3
open PySem PySem.Spec PyProof.Rows L2
local macro_rules | `(tactic| walk_at "d") => `(tactic| first | assumption | exact up_same | exact dr_fd _ _ | exact dr_wd _ _ | exact dr_ref (by assumption) | exact dr_ref up_same | exact keyOf_int | (exact (rfl : isNop _ = false)) | exact keyOf_str | exact tyOf_fl | exact tyOf_int | exact tyOf_tup | exact tyOf_bl | exact tyOf_ref (by assumption) | exact tyOf_ref up_same | (intro z; cases z))
local macro_rules | `(tactic| walk_at "w") => `(tactic| try simp -implicitDefEqProofs (disch := walk_at "d") only [↓wpE, ↓wpA, ↓wpB, ↓wpT, ↓wpTs, ↓wpI, ↓wpS, ↓wpSs, ↓optW_some, ↓w_lk0, ↓w_lkS, ↓w_bs, ↓w_bl0, ↓w_bl1, ↓w_k1, ↓w_kS, ↓w_b0, ↓w_b1, ↓w_b2, ↓w_b3, ↓w_b4, ↓w_b5, ↓w_b6, ↓w_b7, ↓w_b8, ↓w_b9, ↓w_b10, ↓w_b11, ↓w_b12, ↓w_b13, ↓w_b14, ↓w_b15, ↓w_b16, ↓w_b17, ↓w_b18, ↓w_b19, ↓w_b20, ↓w_b21, ↓w_b22, ↓w_b23, ↓w_b24, ↓w_b25, ↓alc_fz, ↓alc_lv, ↓w_dictZ, ↓w_eqNN, ↓w_add, ↓w_addS, ↓w_addL, ↓w_addT, ↓w_sub, ↓w_mul, ↓w_fdiv, ↓w_mod, ↓w_pow, ↓w_shl, ↓w_shr, ↓w_band, ↓w_eqI, ↓w_neI, ↓w_eqS, ↓w_neS, ↓w_lt, ↓w_le, ↓w_gt, ↓w_ge, ↓w_is, ↓w_isnot, ↓w_isB, ↓w_isnotB, ↓w_neF0, ↓w_eqF0, ↓w_neI_L, ↓w_eqI_L, ↓w_eqLL, ↓w_neDL, ↓w_eqDL, ↓w_idxR, ↓w_slcF, ↓w_slcT, ↓w_insert, ↓w_lrange, ↓w_revF, ↓w_revR, ↓w_tmul, ↓w_ok_indexF, ↓w_inI, ↓w_notinI, ↓w_eqEE, ↓w_neEE, ↓w_eqE0, ↓w_neE0, ↓w_eqRE, ↓w_neRE, ↓w_maxF, ↓w_minF, ↓w_eqB, ↓w_neB, ↓w_sortPF, ↓w_allF, ↓w_anyF, ↓w_slcR, ↓w_oi1, ↓w_oi2, ↓w_idxD, ↓w_inD, ↓w_notinD, ↓w_okD, ↓w_okDF, ↓w_okU, ↓w_get1N, ↓w_get2N, ↓w_get1, ↓w_get2, ↓w_upd, ↓w_putD, ↓w_frzD', ↓alcD_fz, ↓alcD_lv, ↓w_rep, ↓w_sortR, ↓w_sortF, ↓w_sumF, ↓w_idxF, ↓w_idxT, ↓w_idxS, ↓w_lenR, ↓w_lenF, ↓w_lenT, ↓w_lenS, ↓w_abs, ↓w_max2, ↓w_min2, ↓w_listF, ↓w_listT, ↓w_listR, ↓w_tupleF, ↓w_int, ↓w_intB, ↓w_isi, ↓w_ok_append, ↓w_ok_extend, ↓w_ok_pop, ↓w_ok_insert, ↓w_ok_reverse, ↓w_ok_clear, ↓w_ok_index, ↓w_ok_count, ↓w_append, ↓w_extend, ↓w_reverse, ↓w_clear, ↓w_frz, ↓w_set0, ↓w_set1, ↓w_set2, ↓w_at0, ↓w_at1, ↓w_at2, ↓w_at3, ↓w_blOf, ↓w_intOf, ↓w_refOf, ↓w_cellO, ↓wdK_wd, ↓w_lenDW, lockC_dic, lockC_lst, isN_wd, ↓w_truB, ↓w_truI, ↓w_truF, ↓w_truT, ↓w_truN, ↓optI, ↓isNop, optW_some, isN_non, isN_int, isN_tup, isN_fl, isN_ref, lv_fl, ls_fl, sq_fl, sq_tup, ls_sc, sq_sc, lv_up, ls_up, sq_up, tyOf_fl, tyOf_int, tyOf_tup, tyOf_bl, tyOf_ref, Option.bind_some, List.length_cons, List.length_nil, reduceIte, Bool.false_eq_true, if_true, if_false, List.map_cons, List.map_nil, List.replicate, List.cons_append, List.nil_append, Nat.reduceSub, Nat.reduceAdd, Nat.reduceLeDiff, Int.reduceLT, Int.reduceLE, Int.reduceNeg, Int.reduceToNat, Int.reducePow, and_true, true_and, or_true, true_or, decide_eq_true_eq, Bool.not_eq_true', decide_eq_false_iff_not, up_up, decide_true, decide_false, not_true_eq_false, not_false_eq_true, Bool.not_true, Bool.not_false, List.any_cons, List.any_nil, Bool.or_false, Bool.or_true, Bool.true_or, Bool.false_or, List.mem_cons, List.not_mem_nil, or_false, false_or, reduceCtorEq, sq_ref, lv_ref, ls_ref])
local macro_rules | `(tactic| walk_at "e") => `(tactic| simp only [List.map_cons, List.map_nil, List.replicate, List.cons_append, List.nil_append, Nat.reduceSub])
local macro_rules | `(tactic| walk_at "i") => `(tactic| try simp only [Bool.true_eq_false, Bool.false_eq_true, Bool.not_true, Bool.not_false, Bool.and_true, Bool.true_and, Bool.and_false, Bool.false_and, if_false, if_true, reduceIte, decide_true, decide_false, not_true_eq_false, not_false_eq_true, eq_self])
/-! ### lists of lists sorted -/
theorem alike_ints : ∀ a b : List Int, PySem.W.alikeAll (a.map PyData.int) (b.map PyData.int) = true
  | [], _ => by simp [PySem.W.alikeAll]
  | _ :: _, [] => by simp [PySem.W.alikeAll]
  | x :: a, y :: b => by simp [PySem.W.alikeAll, PySem.W.alike, alike_ints a b]
def datL (c : List Int) : PyData := .list (c.map .int)
def leLL (a b : List Int) : Bool := PySem.W.dataLe false datL a b
def sortLL (L : List (List Int)) : List (List Int) := L.mergeSort leLL
theorem sortLL_perm (L : List (List Int)) : (sortLL L).Perm L := List.mergeSort_perm _ _
theorem datL_all (L : List (List Int)) : PySem.W.AllAlike (L.map datL) ∧ PySem.W.Sortable (L.map datL) ∧ shp (L.map datL) := by
  refine ⟨PySem.W.AllAlike.of fun a b => ?_, PySem.W.Sortable.others fun b => ⟨(by intro z; cases z), fun xs z => by cases z⟩, fun d hd => ?_⟩
  · simp [datL, PySem.W.alike, alike_ints]
  · obtain ⟨x, _, rfl⟩ := List.mem_map.mp hd
    exact shaped_one (α := List Int) x
theorem ordL_gen {α : Type} {fz : Bool} {h : Hq} {Q : QV} (f : α → Val) (g : α → List Int) (hd : ∀ x, dt1 h (f x) = some (datL (g x)) ∨ True) (L : List α) (hL : ∀ x ∈ L, dt1 h (f x) = some (datL (g x))) : prW (ordL fz (L.map f) h) Q = alc fz ((L.mergeSort fun a b => leLL (g a) (g b)).map f) h Q := by
  obtain ⟨c1, c2, c3⟩ := datL_all (L.map g)
  have m : ∀ L : List α, (∀ x ∈ L, dt1 h (f x) = some (datL (g x))) → mapO (dt1 h) (L.map f) = some ((L.map g).map datL) := by
    intro L
    induction L with
    | nil => intro _; rfl
    | cons x L ih => intro hL; simp only [List.map_cons, mapO, hL x (by simp), ih fun y hy => hL y (by simp [hy])]
  have e : (L.map f).mergeSort (PySem.W.dataLe false (dtD h)) = (L.mergeSort fun a b => leLL (g a) (g b)).map f := by
    rw [List.map_mergeSort]
    intro a ha b hb
    rw [leLL, PySem.W.dataLe_eq, PySem.W.dataLe_eq]
    unfold dtD
    dsimp only
    rw [hL a ha, hL b hb]
    rfl
  simp only [ordL, m L hL, Option.map_some, prW, optW_some, Out.w, c1, c2, c3, and_self, t_and, e]
theorem w_sortLL {fz : Bool} {h : Hq} {Q : QV} {L : List (List Int)} : prW (bltR .sorted fz [.fl (L.map Enc.val)] h) Q = alc fz ((sortLL L).map Enc.val) h Q := by
  cases L with
  | nil => simp only [bltR, ls, lv, Option.bind_some, List.map_nil, mapO, sortLL, sortI, List.mergeSort_nil, prW, optW_some, Out.w, t_and]
  | cons c L =>
    have e0 : mapO intOf ((c :: L).map (Enc.val : List Int → Val)) = none := rfl
    simp only [bltR, ls, lv, Option.bind_some, e0]
    exact ordL_gen Enc.val (fun c => c) (fun _ => .inr trivial) (c :: L) fun x _ => dt1_val h x
theorem w_sortRefs {fz : Bool} {h : Hq} {Q : QV} {zs : List (Addr × List Int)} (hz : ∀ z ∈ zs, h z.1 = some (.lst (z.2.map .int))) : prW (bltR .sorted fz [.fl (zs.map fun z => .ref z.1)] h) Q = alc fz ((zs.mergeSort fun a b => leLL a.2 b.2).map fun z => .ref z.1) h Q := by
  cases zs with
  | nil => simp only [bltR, ls, lv, Option.bind_some, List.map_nil, mapO, sortI, List.mergeSort_nil, prW, optW_some, Out.w, t_and]
  | cons c L =>
    have e0 : mapO intOf ((c :: L).map fun z : Addr × List Int => Val.ref z.1) = none := rfl
    simp only [bltR, ls, lv, Option.bind_some, e0]
    refine ordL_gen (fun z : Addr × List Int => Val.ref z.1) (·.2) (fun _ => .inr trivial) (c :: L) fun z hzm => ?_
    have m : mapO pd (z.2.map Val.int) = some (z.2.map PyData.int) := mapO_map pd Val.int PyData.int (fun _ => rfl) z.2
    simp only [dt1, hz z hzm, m, Option.map_some, datL]
theorem sort_snd (zs : List (Addr × List Int)) : (zs.mergeSort fun a b => leLL a.2 b.2).map (·.2) = sortLL (zs.map (·.2)) := by
  unfold sortLL
  rw [List.map_mergeSort]
  intro a _ b _; rfl
theorem flat_len : ∀ L : List (List Int), (∀ c ∈ L, c ≠ []) → L.length ≤ L.flatten.length
  | [], _ => Nat.le_refl _
  | c :: L, h => by
    have h1 := flat_len L fun d hd => h d (by simp [hd])
    have h2 : 0 < c.length := List.length_pos_iff.mpr (h c (by simp))
    simp only [List.flatten_cons, List.length_append, List.length_cons]; omega
theorem pages_len (room : Int) (t : Tr) : (ownP room t).length ≤ t.size ∧ (othP room t).length + (if t = .nil then 0 else 1) ≤ t.size := by
  have h := (allP_perm room t).length_eq
  rw [List.length_append, Tr.keys_len] at h
  have h2 := flat_len (othP room t) (othP_ne room t)
  refine ⟨by omega, ?_⟩
  split
  · omega
  · rename_i z
    have := List.length_pos_iff.mpr (ownP_ne (room := room) z)
    omega
theorem sides_size (l r : Tr) (k : Int) : ((Tr.sides (.nd l k r)).map Tr.size).sum = l.size + r.size := by
  cases l <;> cases r <;> simp [Tr.sides, Tr.size]
section
variable {F : Fs}
theorem lay_ok (hF : F f_lay = some d_lay) (m1 : F f_kids_of = some d_kids_of) (m2 : F f_tied_kids = some d_tied_kids) {room : Int} {kvs : KVs} {E : QE} : ∀ (t : Tr) (n : Nat) {h0 h : Hq} {p q : Addr} {ps : List Addr} {css : List (List Int)} {i : Nat} {c : List Int} {Q : QV}, t ≠ .nil → t.ht + 4 < n → t.keys.Nodup → Tr.Kn room kvs t →
    NL h0 h p ps (css.map fun c => c.map .int) → ps[i]? = some q → css[i]? = some c → c.length + css.length + 2 * t.size ≤ 1000 → (∀ ps' h', NL h0 h' p (ps ++ ps') ((css.set i (c ++ ownP room t) ++ othP room t).map fun c => c.map .int) → Q .non h') → CN F n f_lay [t.tv, .int room, fdOf kvs, .ref q, .ref p] h Q E
  | .nil, n, h0, h, p, q, ps, css, i, c, Q, ht, _, _, _, _, _, _, _, _ => absurd rfl ht
  | .nd l k r, n, h0, h, p, q, ps, css, i, c, Q, ht, hn, hd, hk, N, e1, e2, hb, K => by
    have ihl : ∀ (n : Nat) {h0 h : Hq} {p q : Addr} {ps : List Addr} {css : List (List Int)} {i : Nat} {c : List Int} {Q : QV}, l ≠ .nil → l.ht + 4 < n → l.keys.Nodup → Tr.Kn room kvs l → NL h0 h p ps (css.map fun c => c.map .int) → ps[i]? = some q → css[i]? = some c → c.length + css.length + 2 * l.size ≤ 1000 → (∀ ps' h', NL h0 h' p (ps ++ ps') ((css.set i (c ++ ownP room l) ++ othP room l).map fun c => c.map .int) → Q .non h') → CN F n f_lay [l.tv, .int room, fdOf kvs, .ref q, .ref p] h Q E := lay_ok hF m1 m2 l
    have ihr : ∀ (n : Nat) {h0 h : Hq} {p q : Addr} {ps : List Addr} {css : List (List Int)} {i : Nat} {c : List Int} {Q : QV}, r ≠ .nil → r.ht + 4 < n → r.keys.Nodup → Tr.Kn room kvs r → NL h0 h p ps (css.map fun c => c.map .int) → ps[i]? = some q → css[i]? = some c → c.length + css.length + 2 * r.size ≤ 1000 → (∀ ps' h', NL h0 h' p (ps ++ ps') ((css.set i (c ++ ownP room r) ++ othP room r).map fun c => c.map .int) → Q .non h') → CN F n f_lay [r.tv, .int room, fdOf kvs, .ref q, .ref p] h Q E := lay_ok hF m1 m2 r
    have hd' := hd
    simp only [Tr.keys] at hd
    rw [List.nodup_append, List.nodup_cons] at hd
    obtain ⟨n1, ⟨n2, n4⟩, n3⟩ := hd
    simp only [Tr.ht] at hn
    simp only [Tr.size] at hb
    obtain ⟨n, rfl⟩ : ∃ m, n = m + 1 := ⟨n - 1, by omega⟩
    obtain ⟨k0, kl, kr⟩ := hk
    refine CN_go hF rfl ?_
    unfold d_lay
    have hq := N.at_ i q (c.map .int) e1 (by rw [List.getElem?_map, e2]; rfl)
    simp only [Tr.tv]
    walk_at "e"
    walk_at "w"
    refine ⟨by rw [List.length_map]; omega, ?_⟩
    have tvd : (Val.tup [l.tv, .int k, r.tv]) = (Tr.nd l k r).tv := rfl
    rw [tvd]
    obtain ⟨n', rfl⟩ : ∃ m, n = m + 2 := ⟨n - 2, by omega⟩
    refine tied_kids_ok m1 m2 (room := room) (kvs := kvs) ⟨k0, kl, kr⟩ ?_
    walk_at "w"
    refine kids_ok m1 ?_
    walk_at "w"
    have N1 := N.write (c := c.map .int ++ [.int k]) e1
    have il : i < css.length := (List.getElem?_eq_some_iff.mp e2).1
    have Nw : NL h0 (up h q (.lst (c.map .int ++ [.int k]))) p ps ((css.set i (c ++ [k])).map fun c => c.map .int) := by
      rw [List.map_set, List.map_append]; exact N1
    clear N1
    generalize up h q (.lst (c.map .int ++ [.int k])) = h1 at *
    have ss := sides_size l r k
    have tops : ∀ s ∈ Tr.sides (.nd l k r), (s.top ∈ (Tr.tiedS room (.nd l k r)).map Tr.top ↔ s ∈ Tr.tiedS room (.nd l k r)) := by
      intro s hs
      constructor
      · intro z
        obtain ⟨s', h1, h2⟩ := List.mem_map.mp z
        have hs' := tied_side h1
        have tm : ∀ {a : Tr}, a ≠ .nil → a.top ∈ a.keys := fun {a} ha => by
          cases a with
          | nil => exact absurd rfl ha
          | nd x y z => simp [Tr.keys, Tr.top]
        obtain ⟨a1, a2⟩ := Tr.sides_ne hs
        obtain ⟨b1, b2⟩ := Tr.sides_ne hs'
        have x1 := tm a1
        have x2 := tm b1
        have : s' = s := by
          rcases a2 with e | e <;> rcases b2 with e' | e'
          · rw [e, e']
          · rw [e] at x1 h2; rw [e'] at x2 h2
            exact absurd h2.symm (n3 _ x1 _ (List.mem_cons_of_mem _ x2))
          · rw [e] at x1 h2; rw [e'] at x2 h2
            exact absurd h2 (n3 _ x2 _ (List.mem_cons_of_mem _ x1))
          · rw [e, e']
        rw [← this]; exact h1
      · exact fun z => List.mem_map.mpr ⟨s, z, rfl⟩
    refine for_map (moS F (n' + 2) b_lay_1) (fun pre ρ h' => ∃ (ps' : List Addr) (u : Option Val), NL h0 h' p (ps ++ ps') ((css.set i (c ++ k :: pre.flatMap (fOwn room (.nd l k r))) ++ pre.flatMap (fOth room (.nd l k r))).map fun c => c.map .int) ∧
      ρ = [some (Tr.nd l k r).tv, some (.int room), some (fdOf kvs), some (.ref q), some (.ref p), some (.fl ((Tr.tiedS room (.nd l k r)).map fun s => .int s.top)), u]) Tr.tv (Tr.sides (.nd l k r)) ?_ ?_ ?_
    · intro pre s post ρ h2 ey ⟨ps', u, N2, e⟩
      subst e
      have hs : s ∈ Tr.sides (.nd l k r) := by rw [ey]; simp
      obtain ⟨s1, s2⟩ := Tr.sides_ne hs
      obtain ⟨sl, sk, sr, es⟩ := tv_ne s1
      refine ⟨trivial, _, rfl, ?_⟩
      unfold b_lay_1
      simp only [List.set]
      have fm : ∀ L : List Tr, (L.flatMap (fOwn room (.nd l k r))).length ≤ (L.map Tr.size).sum ∧ (L.flatMap (fOth room (.nd l k r))).length ≤ (L.map Tr.size).sum + 0 ∨ ∃ s ∈ L, s = .nil := by
        intro L
        induction L with
        | nil => left; simp
        | cons x L ih =>
          rcases ih with ⟨i1, i2⟩ | ⟨y, h1, h2⟩
          · by_cases hx : x = .nil
            · exact .inr ⟨x, by simp, hx⟩
            · left
              obtain ⟨p1, p2⟩ := pages_len room x
              rw [if_neg hx] at p2
              have f1 : (fOwn room (.nd l k r) x).length ≤ x.size := by
                unfold fOwn
                split
                · exact p1
                · simp
              have f2 : (fOth room (.nd l k r) x).length ≤ x.size := by
                unfold fOth
                split
                · omega
                · simp only [List.length_cons]; omega
              simp only [List.flatMap_cons, List.length_append, List.map_cons, List.sum_cons]
              omega
          · exact .inr ⟨y, by simp [h1], h2⟩
      have hpre : (pre.flatMap (fOwn room (.nd l k r))).length ≤ (pre.map Tr.size).sum ∧ (pre.flatMap (fOth room (.nd l k r))).length ≤ (pre.map Tr.size).sum := by
        rcases fm pre with h | ⟨y, h1, h2⟩
        · simpa using h
        · exact absurd h2 (Tr.sides_ne (by rw [ey]; simp [h1])).1
      have sz : (pre.map Tr.size).sum + s.size + (post.map Tr.size).sum = l.size + r.size := by
        rw [← ss, ey]; simp; omega
      have again : ∀ {h0 h : Hq} {p q : Addr} {ps : List Addr} {css : List (List Int)} {i : Nat} {c : List Int} {Q : QV}, NL h0 h p ps (css.map fun c => c.map .int) → ps[i]? = some q → css[i]? = some c → c.length + css.length + 2 * s.size ≤ 1000 → (∀ ps' h', NL h0 h' p (ps ++ ps') ((css.set i (c ++ ownP room s) ++ othP room s).map fun c => c.map .int) → Q .non h') → CN F (n' + 2) f_lay [s.tv, .int room, fdOf kvs, .ref q, .ref p] h Q E := by
        rcases s2 with e | e
        · subst e; exact fun a b c d f => ihl (n' + 2) s1 (by omega) n1 kl a b c d f
        · subst e; exact fun a b c d f => ihr (n' + 2) s1 (by omega) n4 kr a b c d f
      have ix : s.tv = .tup [sl.tv, .int s.top, sr.tv] := by rw [es]; rfl
      have setl : (css.set i (c ++ k :: pre.flatMap (fOwn room (.nd l k r)))).length = css.length := List.length_set
      rw [ix]
      walk_at "w"
      rw [show ((Tr.tiedS room (.nd l k r)).map fun s => Val.int s.top) = ((Tr.tiedS room (.nd l k r)).map Tr.top).map Val.int by rw [List.map_map]; rfl]
      rw [w_inI]
      walk_at "w"
      rw [← ix]
      by_cases t : s ∈ Tr.tiedS room (.nd l k r)
      · rw [if_pos ((tops s hs).mpr t)]
        refine again N2 (i := i) (c := c ++ k :: pre.flatMap (fOwn room (.nd l k r))) (by rw [List.getElem?_append_left (List.getElem?_eq_some_iff.mp e1).1]; exact e1) (by rw [List.getElem?_append_left (by rw [setl]; exact il), List.getElem?_set_self il]) (by simp only [List.length_append, List.length_cons, setl]; omega) fun ps2 h3 N3 => ?_
        walk_at "w"
        refine ⟨ps' ++ ps2, _, ?_, rfl⟩
        have ea : fOwn room (.nd l k r) s = ownP room s := by unfold fOwn; rw [if_pos t]
        have eb : fOth room (.nd l k r) s = othP room s := by unfold fOth; rw [if_pos t]
        rw [List.set_append_left _ _ (by rw [setl]; exact il), List.set_set] at N3
        rw [List.flatMap_append, List.flatMap_append, List.flatMap_cons, List.flatMap_cons, List.flatMap_nil, List.flatMap_nil, List.append_nil, List.append_nil, ea, eb]
        simpa [List.append_assoc] using N3
      · rw [if_neg fun z => t ((tops s hs).mp z)]
        have top2 := N2.top
        walk_at "w"
        intro q2 hq2
        have q2p : p ≠ q2 := fun z => by rw [← z, N2.top] at hq2; cases hq2
        have N3 := N2.push (c := []) hq2
        have tp : up h2 q2 (.lst []) p = some (.lst ((ps ++ ps').map .ref)) := by rw [up_ne q2p]; exact N2.top
        walk_at "w"
        have pl := N2.len
        simp only [List.length_map, List.length_append, setl] at pl
        refine ⟨by simp only [List.length_map, List.length_append]; omega, ?_⟩
        have e : atI (((ps ++ ps').map Val.ref) ++ [Val.ref q2]) (-1) = some (.ref q2) := by
          unfold atI ixN
          simp
          rw [if_pos (by omega)]
          simp only [Option.bind_some]
          rw [show (-1 + ((ps.length : Int) + (ps'.length + 1))).toNat = ps.length + ps'.length by omega]
          rw [List.getElem?_append_right (by simp), List.getElem?_append_right (by simp)]
          simp
        rw [e]
        walk_at "w"
        rw [show (((ps ++ ps').map Val.ref) ++ [Val.ref q2]) = (((ps ++ ps').map Val.ref) ++ [.ref q2]) from rfl]
        have N4 : NL h0 (up (up h2 q2 (.lst [])) p (.lst (((ps ++ ps').map Val.ref) ++ [.ref q2]))) p ((ps ++ ps') ++ [q2]) ((css.set i (c ++ k :: pre.flatMap (fOwn room (.nd l k r))) ++ pre.flatMap (fOth room (.nd l k r)) ++ [[]]).map fun c : List Int => c.map Val.int) := by
          have h := N3
          simp only [List.map_append, List.map_cons, List.map_nil] at h ⊢
          exact h
        refine again N4 (i := (ps ++ ps').length) (c := []) (by rw [List.getElem?_append_right (Nat.le_refl _)]; simp) (by rw [List.getElem?_append_right (by simp only [List.length_append, setl]; omega)]; simp only [List.length_append, setl]; rw [show ps.length + ps'.length - (css.length + (pre.flatMap (fOth room (.nd l k r))).length) = 0 by omega]; rfl) (by simp only [List.length_append, List.length_cons, List.length_nil, setl]; omega) fun ps2 h3 N5 => ?_
        walk_at "w"
        refine ⟨ps' ++ [q2] ++ ps2, _, ?_, rfl⟩
        have ea : fOwn room (.nd l k r) s = [] := by unfold fOwn; rw [if_neg t]
        have eb : fOth room (.nd l k r) s = ownP room s :: othP room s := by unfold fOth; rw [if_neg t]
        rw [List.set_append_right _ _ (by simp only [List.length_append, setl]; omega), show (ps ++ ps').length - (css.set i (c ++ k :: pre.flatMap (fOwn room (.nd l k r))) ++ pre.flatMap (fOth room (.nd l k r))).length = 0 by simp only [List.length_append, setl]; omega] at N5
        rw [List.flatMap_append, List.flatMap_append, List.flatMap_cons, List.flatMap_cons, List.flatMap_nil, List.flatMap_nil, List.append_nil, List.append_nil, ea, eb]
        simpa [List.append_assoc] using N5
    · intro ρ h2 ⟨ps', u, N2, e⟩
      subst e
      refine ⟨trivial, ?_⟩
      rw [← ownP_sides, ← othP_sides] at N2
      exact K ps' h2 N2
    · exact ⟨[], none, by simpa using Nw, rfl⟩
end


/-- a live list of live lists, new ones, beside whatever else is new -/
structure NG (h0 h : Hq) (p : Addr) (ps : List Addr) (cs : List (List Val)) : Prop where
  fresh : h0 p = none
  fresh' : ∀ q ∈ ps, h0 q = none
  nd : ps.Nodup
  np : p ∉ ps
  len : ps.length = cs.length
  top : h p = some (.lst (ps.map .ref))
  at_ : ∀ (i : Nat) q c, ps[i]? = some q → cs[i]? = some c → h q = some (.lst c)
  grow : Grow h0 h
theorem NL.ng {h0 h : Hq} {p : Addr} {ps : List Addr} {cs : List (List Val)} (N : NL h0 h p ps cs) : NG h0 h p ps cs := ⟨N.fresh, N.fresh', N.nd, N.np, N.len, N.top, N.at_, N.grow⟩
theorem NL.one {h : Hq} {p q : Addr} {c : List Val} (hq : h q = none) (hp : h p = none) (n : p ≠ q) : NL h (up (up h q (.lst c)) p (.lst [.ref q])) p [q] [c] := by
  refine ⟨hp, fun r hr => by rw [List.mem_singleton.mp hr]; exact hq, by simp, by simpa using n, rfl, up_same, fun i r d e1 e2 => ?_, fun r r1 r2 => ?_⟩
  · cases i with
    | zero =>
      cases e1; cases e2
      rw [up_ne (Ne.symm n), up_same]
    | succ i => simp at e1
  · rw [up_ne r1, up_ne (by simpa using r2)]
theorem zipm' {α β : Type} : ∀ {ps : List α} {cs : List β}, ps.length = cs.length → ps = (ps.zip cs).map (·.1) ∧ cs = (ps.zip cs).map (·.2)
  | [], [], _ => ⟨rfl, rfl⟩
  | [], _ :: _, h => by simp at h
  | _ :: _, [], h => by simp at h
  | p :: ps, c :: cs, h => by
    obtain ⟨h1, h2⟩ := zipm' (ps := ps) (cs := cs) (by simpa using h)
    constructor
    · rw [List.zip_cons_cons, List.map_cons, ← h1]
    · rw [List.zip_cons_cons, List.map_cons, ← h2]
theorem NG.zs {h0 h : Hq} {p : Addr} {ps : List Addr} {css : List (List Int)} (N : NG h0 h p ps (css.map fun c => c.map .int)) : h p = some (.lst ((ps.zip css).map fun z => .ref z.1)) ∧ (∀ z ∈ ps.zip css, h z.1 = some (.lst (z.2.map .int)) ∧ z.1 ≠ p) ∧ (ps.zip css).map (·.2) = css ∧ (ps.zip css).length = css.length ∧ (ps.zip css).map (·.1) = ps := by
  have hl := N.len
  rw [List.length_map] at hl
  obtain ⟨z1, z2⟩ := zipm' hl
  refine ⟨?_, fun z hz => ?_, z2.symm, by rw [List.length_zip]; omega, z1.symm⟩
  · have := N.top
    rw [z1, List.map_map] at this
    exact this
  · obtain ⟨i, hi⟩ := List.getElem?_of_mem hz
    rw [List.getElem?_zip_eq_some] at hi
    exact ⟨N.at_ i z.1 _ hi.1 (by rw [List.getElem?_map, hi.2]; rfl), fun e => N.np (e ▸ List.mem_of_getElem? hi.1)⟩
theorem NG.layV {h0 h : Hq} {p : Addr} {ps : List Addr} {css : List (List Int)} (N : NG h0 h p ps (css.map fun c => c.map .int)) : LayV h (.ref p) css := by
  obtain ⟨z1, z2, z3, z4, z5⟩ := N.zs
  refine ⟨(ps.zip css).map fun z => (z.2, Val.ref z.1), by rw [List.map_map]; exact z3, fun h' g => ⟨?_, fun y hy => ?_⟩⟩
  · rw [List.map_map]
    exact lv_ref (g _ _ z1)
  · obtain ⟨z, hz, rfl⟩ := List.mem_map.mp hy
    exact sq_ref (g _ _ (z2 z hz).1)
section
variable {F : Fs}
def HasBM (F : Fs) : Prop := F f_lay = some d_lay ∧ F f_tied_kids = some d_tied_kids
theorem by_marks_ok (hB : F f_by_marks = some d_by_marks) (hL : HasBM F) (hM : HasMk F) {room : Int} {E : QE} {t : Tr} {n : Nat} {h : Hq} {Q : QV} (hn : t.ht + 6 < n) (hd : t.keys.Nodup) (hz : t.size ≤ 100)
    (q : ∀ h', Grow h h' → Q (.fl ((sortLL ((allP room t).map sortI)).map Enc.val)) h') : CN F n f_by_marks [t.tv, .int room] h Q E := by
  obtain ⟨n, rfl⟩ : ∃ m, n = m + 1 := ⟨n - 1, by omega⟩
  obtain ⟨b1, b2⟩ := hL
  have m1 := hM.1
  refine CN_go hB rfl ?_
  unfold d_by_marks
  cases t with
  | nil =>
    simp only [Tr.tv]
    walk_at "e"
    walk_at "w"
    simpa [allP, sortLL] using q h .refl
  | nd l k r =>
    have tvd : (Val.tup [l.tv, .int k, r.tv]) = (Tr.nd l k r).tv := rfl
    simp only [Tr.tv]
    walk_at "e"
    walk_at "w"
    intro q0 hq0 p hp
    have hpq : p ≠ q0 := fun z => by rw [z, up_same] at hp; cases hp
    have hp0 : h p = none := by rw [up_ne hpq] at hp; exact hp
    have N : NL h (up (up h q0 (.lst [])) p (.lst [.ref q0])) p [q0] (([[]] : List (List Int)).map fun c : List Int => c.map Val.int) := NL.one hq0 hp0 hpq
    rw [tvd]
    refine marks_known_ok hM (by omega) hd (by omega) fun kvs g => ?_
    have hkn := Tr.kn_of (room := room) (Tr.nd l k r) hd fun j _ => g j
    walk_at "w"
    have pl := pages_len room (Tr.nd l k r)
    refine lay_ok b1 m1 b2 (Tr.nd l k r) n (by intro z; cases z) (by omega) hd hkn N (i := 0) (c := []) rfl rfl (by simp; omega) fun ps' h1 N1 => ?_
    have e : (([[]] : List (List Int)).set 0 ([] ++ ownP room (Tr.nd l k r)) ++ othP room (Tr.nd l k r)) = allP room (Tr.nd l k r) := by simp [allP]
    rw [e] at N1
    obtain ⟨z1, z2, z3, z4, z5⟩ := N1.ng.zs
    have al : (allP room (Tr.nd l k r)).length ≤ 1000 := by
      unfold allP; rw [if_neg (by intro z; cases z), List.length_cons]; omega
    generalize hzz : ([q0] ++ ps').zip (allP room (Tr.nd l k r)) = zs at *
    have top := z1
    walk_at "w"
    refine comp_map' (fun z : Addr × List Int => .ref z.1) zs (fun z => Enc.val (sortI z.2)) (by omega) (fun q acc hq => ⟨?_, fun z hzm => ⟨_, rfl, fun K q' => ?_⟩⟩) ?_
    · exact sq_ref (by rw [up_ne (fun z => by rw [z, hq] at z1; cases z1)]; exact z1)
    · simp only [wipe3, List.set]
      unfold e_by_marks_1
      have hzq : z.1 ≠ q := fun e => by have := (z2 z hzm).1; rw [e, hq] at this; cases this
      have lz : up h1 q (.lst acc) z.1 = some (.lst (z.2.map .int)) := by rw [up_ne hzq]; exact (z2 z hzm).1
      walk_at "w"
      exact q'
    rw [map_ev, alc_fz]
    have e2 : zs.map (fun z => sortI z.2) = (allP room (Tr.nd l k r)).map sortI := by rw [← z3, List.map_map]; rfl
    rw [e2, w_sortLL, alc_fz]
    exact q h1 N1.grow
theorem by_marks_L_ok (hB : F f_by_marks_L = some d_by_marks_L) (hL : HasBM F) (hM : HasMk F) {room : Int} {E : QE} {t : Tr} {n : Nat} {h : Hq} {Q : QV} (hn : t.ht + 6 < n) (hd : t.keys.Nodup) (hz : t.size ≤ 100)
    (q : ∀ p ps h', NG h h' p ps ((sortLL ((allP room t).map sortI)).map fun c => c.map .int) → Q (.ref p) h') : CN F n f_by_marks_L [t.tv, .int room] h Q E := by
  obtain ⟨n, rfl⟩ : ∃ m, n = m + 1 := ⟨n - 1, by omega⟩
  obtain ⟨b1, b2⟩ := hL
  have m1 := hM.1
  refine CN_go hB rfl ?_
  unfold d_by_marks_L
  cases t with
  | nil =>
    simp only [Tr.tv]
    walk_at "e"
    walk_at "w"
    intro p hp
    refine q p [] _ ?_
    have := (NL.new hp).ng
    simpa [allP, sortLL] using this
  | nd l k r =>
    have tvd : (Val.tup [l.tv, .int k, r.tv]) = (Tr.nd l k r).tv := rfl
    simp only [Tr.tv]
    walk_at "e"
    walk_at "w"
    intro q0 hq0 p hp
    have hpq : p ≠ q0 := fun z => by rw [z, up_same] at hp; cases hp
    have hp0 : h p = none := by rw [up_ne hpq] at hp; exact hp
    have N : NL h (up (up h q0 (.lst [])) p (.lst [.ref q0])) p [q0] (([[]] : List (List Int)).map fun c : List Int => c.map Val.int) := NL.one hq0 hp0 hpq
    rw [tvd]
    refine marks_known_ok hM (by omega) hd (by omega) fun kvs g => ?_
    have hkn := Tr.kn_of (room := room) (Tr.nd l k r) hd fun j _ => g j
    walk_at "w"
    have pl := pages_len room (Tr.nd l k r)
    refine lay_ok b1 m1 b2 (Tr.nd l k r) n (by intro z; cases z) (by omega) hd hkn N (i := 0) (c := []) rfl rfl (by simp; omega) fun ps' h1 N1 => ?_
    have e : (([[]] : List (List Int)).set 0 ([] ++ ownP room (Tr.nd l k r)) ++ othP room (Tr.nd l k r)) = allP room (Tr.nd l k r) := by simp [allP]
    rw [e] at N1
    obtain ⟨z1, z2, z3, z4, z5⟩ := N1.ng.zs
    have al : (allP room (Tr.nd l k r)).length ≤ 1000 := by
      unfold allP; rw [if_neg (by intro z; cases z), List.length_cons]; omega
    have g1 := N1.grow
    generalize hzz : ([q0] ++ ps').zip (allP room (Tr.nd l k r)) = zs at *
    have top := z1
    walk_at "w"
    refine comp_eff (fun z : Addr × List Int => .ref z.1) zs (by omega) (fun cp pre acc h' => ∃ qs : List Addr, acc = qs.map .ref ∧ NL h1 h' cp qs (pre.map fun z => (sortI z.2).map .int)) ?_ ?_ ?_
    · intro cp pre z post acc h' ey hcp ⟨qs, e, N2⟩
      subst e
      have hzm : z ∈ zs := by rw [ey]; simp
      have lz := N2.grow _ _ (z2 z hzm).1
      refine ⟨sq_ref (N2.grow _ _ z1), _, rfl, fun K q' => ?_⟩
      simp only [wipe3, List.set]
      unfold e_by_marks_L_1
      walk_at "w"
      intro q2 hq2
      have hcq : cp ≠ q2 := fun z => by rw [← z, hcp] at hq2; cases hq2
      refine q' _ _ (by rw [up_ne hcq]; exact hcp) ⟨qs ++ [q2], by simp, ?_⟩
      have := N2.push (c := (sortI z.2).map .int) hq2
      rw [List.map_append]
      exact this
    · intro cp hcp
      exact ⟨[], rfl, NL.new hcp⟩
    intro cp acc h' hc0 hc1 ⟨qs, e, N2⟩
    subst e
    refine ⟨sq_ref (N2.grow _ _ z1), ?_⟩
    have N3 : NL h1 h' cp qs ((zs.map fun z => sortI z.2).map fun c => c.map .int) := by rw [List.map_map]; exact N2
    have e2 : zs.map (fun z => sortI z.2) = (allP room (Tr.nd l k r)).map sortI := by rw [← z3, List.map_map]; rfl
    rw [e2] at N3
    obtain ⟨y1, y2, y3, y4, y5⟩ := N3.ng.zs
    generalize hyy : qs.zip ((allP room (Tr.nd l k r)).map sortI) = ys at *
    have y2' : ∀ z ∈ ys, er h' cp z.1 = some (.lst (z.2.map .int)) := fun z hz => by rw [er_ne (y2 z hz).2]; exact (y2 z hz).1
    rw [show qs.map Val.ref = ys.map fun z => .ref z.1 by rw [← y5, List.map_map]; rfl, w_sortRefs y2', alc_lv]
    intro p3 hp3
    have pm : (ys.mergeSort fun a b => leLL a.2 b.2).Perm ys := List.mergeSort_perm _ _
    have hcp1 : h cp = none := by
      cases e : h cp with
      | none => rfl
      | some c => rw [g1 _ _ e] at hc0; cases hc0
    have gh : Grow h (er h' cp) := grow_er (g1.trans N2.grow) hcp1
    have f3 : h p3 = none := by
      cases e : h p3 with
      | none => rfl
      | some c => rw [gh _ _ e] at hp3; cases hp3
    refine q p3 ((ys.mergeSort fun a b => leLL a.2 b.2).map (·.1)) _ ⟨f3, fun x hx => ?_, ?_, fun z => ?_, ?_, ?_, fun i x c e3 e4 => ?_, grow_up gh f3⟩
    · obtain ⟨z, hz, rfl⟩ := List.mem_map.mp hx
      have hz := pm.mem_iff.mp hz
      have : z.1 ∈ qs := by rw [← y5]; exact List.mem_map.mpr ⟨z, hz, rfl⟩
      have h1n := N2.fresh' z.1 this
      cases e : h z.1 with
      | none => rfl
      | some c => rw [g1 _ _ e] at h1n; cases h1n
    · rw [(pm.map (·.1)).nodup_iff, y5]; exact N2.nd
    · obtain ⟨x, hx, e⟩ := List.mem_map.mp z
      have := y2' x (pm.mem_iff.mp hx)
      rw [e, hp3] at this; cases this
    · rw [List.length_map, List.length_map, pm.length_eq, (sortLL_perm _).length_eq, y4]
    · rw [up_same, List.map_map]; rfl
    · rw [← y3, ← sort_snd, List.map_map, List.getElem?_map] at e4
      rw [List.getElem?_map] at e3
      obtain ⟨z, hz, rfl⟩ := Option.map_eq_some_iff.mp e3
      rw [hz] at e4
      cases e4
      have hzm := pm.mem_iff.mp (List.mem_of_getElem? hz)
      have := y2' z hzm
      rw [up_ne (fun e => by rw [e, hp3] at this; cases this)]
      exact this
end

end L3

set_option Elab.async false
set_option linter.all false
set_option maxRecDepth 100000
namespace L3
open PySem PySem.Spec PyProof.Rows L2
def f_knots_on_way : Nat := 1032
def f_way_to : Nat := 1035
def f_up_of : Nat := 1064
def f_first_parted : Nat := 1077
def b_knots_on_way_1 : Sms := (.cons (.ex (.mth .append (.var 2) (.cons (.var 0) .nil))) (.cons (.asg (.names [3, 4, 5]) (.var 0)) (.cons (.ite (.cmp .lt (.var 1) (.var 4)) (.cons (.asg (.name 0) (.var 3)) .nil) (.cons (.ite (.cmp .gt (.var 1) (.var 4)) (.cons (.asg (.name 0) (.var 5)) .nil) (.cons (.asg (.name 0) .non) .nil)) .nil)) .nil)))
def t_knots_on_way_1 : Ex := (.cmp .isnot (.var 0) .non)
def c_knots_on_way_1 : Sms := (.cons (.ret (.frz (.var 2))) .nil)
def d_knots_on_way : Df := ⟨2, 6, (.cons (.asg (.name 2) (.lst false .nil)) (.cons (.whl t_knots_on_way_1 b_knots_on_way_1) c_knots_on_way_1))⟩
-- ['tree', 'key', 'found', 'left', 'here', 'right']
def e_way_to_1 : Ex := (.idx (.var 2) (.int 1))
def d_way_to : Df := ⟨2, 3, (.cons (.ret (.comp true e_way_to_1 (.name 2) (.seq (.call f_knots_on_way (.cons (.var 0) (.cons (.var 1) .nil)))) .nop [2])) .nil)⟩
-- ['tree', 'key', 'knot']
def d_up_of : Df := ⟨2, 3, (.cons (.asg (.name 2) (.call f_way_to (.cons (.var 0) (.cons (.var 1) .nil)))) (.cons (.ite (.cmp .eq (.blt .len true (.cons (.var 2) .nil)) (.int 1)) (.cons (.ret .non) .nil) .nil) (.cons (.ret (.idx (.var 2) (.neg (.int 2)))) .nil)))⟩
-- ['tree', 'key', 'some']
def e_first_parted_1 : Ex := (.var 4)
def p_first_parted_1 : Ex := (.cmp .notin (.call f_up_of (.cons (.var 0) (.cons (.var 4) .nil))) (.var 3))
def b_first_parted_1 : Sms := (.cons (.ite (.cmp .gt (.blt .len true (.cons (.comp true e_first_parted_1 (.name 4) (.seq (.var 3)) p_first_parted_1 [4]) .nil)) (.int 1)) (.cons (.ret (.var 2)) .nil) .nil) .nil)
def c_first_parted_1 : Sms := (.cons (.ret .non) .nil)
def d_first_parted : Df := ⟨2, 5, (.cons (.for (.names [2, 3]) (.enum (.var 1)) b_first_parted_1) c_first_parted_1)⟩
-- ['tree', 'layout', 'number', 'page', 'key']
end L3

set_option Elab.async false
set_option linter.all false
set_option maxRecDepth 100000
namespace L3
open PySem PySem.Spec PyProof.Rows L2
def f_numbers_of : Nat := 1071
def f_numbers_on_way : Nat := 1079
def f_page_turns : Nat := 1083
def f_pages_met_L : Nat := 1081
def f_pages_met : Nat := 1084
def b_numbers_of_1 : Sms := (.cons (.asgI (.var 1) (.var 4) (.var 2)) .nil)
def b_numbers_of_2 : Sms := (.cons (.for (.name 4) (.seq (.var 3)) b_numbers_of_1) .nil)
def c_numbers_of_1 : Sms := (.cons (.ret (.frz (.var 1))) .nil)
def d_numbers_of : Df := ⟨1, 5, (.cons (.asg (.name 1) (.dic0 false)) (.cons (.for (.names [2, 3]) (.enum (.var 0)) b_numbers_of_2) c_numbers_of_1))⟩
-- ['layout', 'found', 'number', 'page', 'key']
def e_numbers_on_way_1 : Ex := (.idx (.var 3) (.var 4))
def d_numbers_on_way : Df := ⟨3, 5, (.cons (.asg (.name 3) (.call f_numbers_of (.cons (.var 1) .nil))) (.cons (.ret (.comp true e_numbers_on_way_1 (.name 4) (.seq (.call f_way_to (.cons (.var 0) (.cons (.var 2) .nil)))) .nop [4])) .nil))⟩
-- ['tree', 'layout', 'key', 'numbers', 'one']
def e_page_turns_1 : Ex := (.var 4)
def p_page_turns_1 : Ex := (.cmp .ne (.var 4) (.var 5))
def d_page_turns : Df := ⟨3, 6, (.cons (.asg (.name 3) (.call f_numbers_on_way (.cons (.var 0) (.cons (.var 1) (.cons (.var 2) .nil))))) (.cons (.ret (.bin .add true (.blt .min true (.cons (.int 1) (.cons (.blt .len true (.cons (.var 3) .nil)) .nil))) (.blt .len true (.cons (.comp true e_page_turns_1 (.names [4, 5]) (.zip (.var 3) (.slc true (.var 3) (.int 1) .nop)) p_page_turns_1 [4, 5]) .nil)))) .nil))⟩
-- ['tree', 'layout', 'key', 'numbers', 'one', 'other']
def b_pages_met_L_1 : Sms := (.cons (.ite (.cmp .notin (.var 4) (.var 3)) (.cons (.ex (.mth .append (.var 3) (.cons (.var 4) .nil))) .nil) .nil) .nil)
def c_pages_met_L_1 : Sms := (.cons (.ret (.var 3)) .nil)
def d_pages_met_L : Df := ⟨3, 5, (.cons (.asg (.name 3) (.lst false .nil)) (.cons (.for (.name 4) (.seq (.call f_numbers_on_way (.cons (.var 0) (.cons (.var 1) (.cons (.var 2) .nil))))) b_pages_met_L_1) c_pages_met_L_1))⟩
-- ['tree', 'layout', 'key', 'found', 'number']
def b_pages_met_1 : Sms := (.cons (.ite (.cmp .notin (.var 4) (.var 3)) (.cons (.ex (.mth .append (.var 3) (.cons (.var 4) .nil))) .nil) .nil) .nil)
def c_pages_met_1 : Sms := (.cons (.ret (.frz (.var 3))) .nil)
def d_pages_met : Df := ⟨3, 5, (.cons (.asg (.name 3) (.lst false .nil)) (.cons (.for (.name 4) (.seq (.call f_numbers_on_way (.cons (.var 0) (.cons (.var 1) (.cons (.var 2) .nil))))) b_pages_met_1) c_pages_met_1))⟩
-- ['tree', 'layout', 'key', 'found', 'number']
end L3

set_option Elab.async false
set_option linter.all false
set_option maxRecDepth 100000
namespace L3
open PySem PySem.Spec PyProof.Rows L2
def f_cost : Nat := 1085
def f_worst : Nat := 1086
def e_cost_1 : Ex := (.bin .mul true (.var 4) (.blt .len true (.cons (.call f_pages_met (.cons (.var 0) (.cons (.var 1) (.cons (.var 3) .nil)))) .nil)))
def d_cost : Df := ⟨3, 5, (.cons (.ret (.blt .sum true (.cons (.comp true e_cost_1 (.names [3, 4]) (.zip (.call f_keys_of (.cons (.var 0) .nil)) (.var 2)) .nop [3, 4]) .nil))) .nil)⟩
-- ['tree', 'layout', 'weights', 'key', 'weight']
def e_worst_1 : Ex := (.blt .len true (.cons (.call f_pages_met (.cons (.var 0) (.cons (.var 1) (.cons (.var 2) .nil)))) .nil))
def d_worst : Df := ⟨2, 3, (.cons (.ret (.blt .max true (.cons (.bin .add true (.lst true (.cons (.int 0) .nil)) (.comp true e_worst_1 (.name 2) (.seq (.call f_keys_of (.cons (.var 0) .nil))) .nop [2])) .nil))) .nil)⟩
-- ['tree', 'layout', 'key']
end L3

set_option Elab.async false
set_option linter.all false
set_option maxRecDepth 100000
namespace L3
open PySem PySem.Spec PyProof.Rows L2
def f_odd_key : Nat := 1072
def f_fault : Nat := 1073
def b_odd_key_1 : Sms := (.cons (.ite (.cmp .notin (.var 6) (.var 2)) (.cons (.kill 3) (.cons (.ret (.tup (.cons (.str ⟨#[115, 116, 114, 97, 110, 103, 101]⟩) (.cons (.var 4) (.cons (.var 6) .nil))))) .nil)) .nil) (.cons (.ite (.cmp .isin (.var 6) (.var 3)) (.cons (.kill 3) (.cons (.ret (.tup (.cons (.str ⟨#[116, 119, 105, 99, 101]⟩) (.cons (.var 4) (.cons (.var 6) .nil))))) .nil)) .nil) (.cons (.asgI (.var 3) (.var 6) (.bl true)) .nil)))
def b_odd_key_2 : Sms := (.cons (.for (.name 6) (.seq (.var 5)) b_odd_key_1) .nil)
def c_odd_key_1 : Sms := (.cons (.kill 3) (.cons (.ret .non) .nil))
def d_odd_key : Df := ⟨2, 7, (.cons (.asg (.name 2) (.call f_keys_of (.cons (.var 0) .nil))) (.cons (.asg (.name 3) (.dic0 false)) (.cons (.for (.names [4, 5]) (.enum (.var 1)) b_odd_key_2) c_odd_key_1)))⟩
-- ['tree', 'layout', 'keys', 'seen', 'number', 'page', 'key']
def b_fault_1 : Sms := (.cons (.ite (.cmp .gt (.blt .len true (.cons (.var 5) .nil)) (.var 1)) (.cons (.ret (.tup (.cons (.str ⟨#[114, 111, 111, 109]⟩) (.cons (.var 4) .nil)))) .nil) .nil) .nil)
def b_fault_2 : Sms := (.cons (.ite (.cmp .notin (.var 7) (.var 6)) (.cons (.ret (.tup (.cons (.str ⟨#[108, 97, 99, 107, 115]⟩) (.cons (.var 7) .nil)))) .nil) .nil) .nil)
def c_fault_1 : Sms := (.cons (.ret .non) .nil)
def c_fault_2 : Sms := (.cons (.asg (.name 6) (.call f_numbers_of (.cons (.var 2) .nil))) (.cons (.for (.name 7) (.seq (.call f_keys_of (.cons (.var 0) .nil))) b_fault_2) c_fault_1))
def d_fault : Df := ⟨3, 8, (.cons (.asg (.name 3) (.call f_odd_key (.cons (.var 0) (.cons (.var 2) .nil)))) (.cons (.ite (.cmp .isnot (.var 3) .non) (.cons (.ret (.var 3)) .nil) .nil) (.cons (.for (.names [4, 5]) (.enum (.var 2)) b_fault_1) c_fault_2)))⟩
-- ['tree', 'room', 'layout', 'odd', 'number', 'page', 'seen', 'key']
end L3

set_option Elab.async false
set_option linter.all false
set_option maxRecDepth 100000
namespace L3
open PySem PySem.Spec PyProof.Rows L2
local macro_rules | `(tactic| walk_at "d") => `(tactic| first | assumption | exact up_same | exact dr_fd _ _ | exact dr_wd _ _ | exact dr_ref (by assumption) | exact dr_ref up_same | exact keyOf_int | (exact (rfl : isNop _ = false)) | exact keyOf_str | exact tyOf_fl | exact tyOf_int | exact tyOf_tup | exact tyOf_bl | exact tyOf_ref (by assumption) | exact tyOf_ref up_same | (intro z; cases z))
local macro_rules | `(tactic| walk_at "w") => `(tactic| try simp -implicitDefEqProofs (disch := walk_at "d") only [↓wpE, ↓wpA, ↓wpB, ↓wpT, ↓wpTs, ↓wpI, ↓wpS, ↓wpSs, ↓optW_some, ↓w_lk0, ↓w_lkS, ↓w_bs, ↓w_bl0, ↓w_bl1, ↓w_k1, ↓w_kS, ↓w_b0, ↓w_b1, ↓w_b2, ↓w_b3, ↓w_b4, ↓w_b5, ↓w_b6, ↓w_b7, ↓w_b8, ↓w_b9, ↓w_b10, ↓w_b11, ↓w_b12, ↓w_b13, ↓w_b14, ↓w_b15, ↓w_b16, ↓w_b17, ↓w_b18, ↓w_b19, ↓w_b20, ↓w_b21, ↓w_b22, ↓w_b23, ↓w_b24, ↓w_b25, ↓alc_fz, ↓alc_lv, ↓w_dictZ, ↓w_eqNN, ↓w_add, ↓w_addS, ↓w_addL, ↓w_addT, ↓w_sub, ↓w_mul, ↓w_fdiv, ↓w_mod, ↓w_pow, ↓w_shl, ↓w_shr, ↓w_band, ↓w_eqI, ↓w_neI, ↓w_eqS, ↓w_neS, ↓w_lt, ↓w_le, ↓w_gt, ↓w_ge, ↓w_is, ↓w_isnot, ↓w_isB, ↓w_isnotB, ↓w_neF0, ↓w_eqF0, ↓w_neI_L, ↓w_eqI_L, ↓w_eqLL, ↓w_neDL, ↓w_eqDL, ↓w_idxR, ↓w_slcF, ↓w_slcT, ↓w_insert, ↓w_lrange, ↓w_revF, ↓w_revR, ↓w_tmul, ↓w_ok_indexF, ↓w_inI, ↓w_notinI, ↓w_eqEE, ↓w_neEE, ↓w_eqE0, ↓w_neE0, ↓w_eqRE, ↓w_neRE, ↓w_maxF, ↓w_minF, ↓w_eqB, ↓w_neB, ↓w_sortPF, ↓w_allF, ↓w_anyF, ↓w_slcR, ↓w_oi1, ↓w_oi2, ↓w_idxD, ↓w_inD, ↓w_notinD, ↓w_okD, ↓w_okDF, ↓w_okU, ↓w_get1N, ↓w_get2N, ↓w_get1, ↓w_get2, ↓w_upd, ↓w_putD, ↓w_frzD', ↓alcD_fz, ↓alcD_lv, ↓w_rep, ↓w_sortR, ↓w_sortF, ↓w_sumF, ↓w_idxF, ↓w_idxT, ↓w_idxS, ↓w_lenR, ↓w_lenF, ↓w_lenT, ↓w_lenS, ↓w_abs, ↓w_max2, ↓w_min2, ↓w_listF, ↓w_listT, ↓w_listR, ↓w_tupleF, ↓w_int, ↓w_intB, ↓w_isi, ↓w_ok_append, ↓w_ok_extend, ↓w_ok_pop, ↓w_ok_insert, ↓w_ok_reverse, ↓w_ok_clear, ↓w_ok_index, ↓w_ok_count, ↓w_append, ↓w_extend, ↓w_reverse, ↓w_clear, ↓w_frz, ↓w_set0, ↓w_set1, ↓w_set2, ↓w_at0, ↓w_at1, ↓w_at2, ↓w_at3, ↓w_blOf, ↓w_intOf, ↓w_refOf, ↓w_cellO, ↓wdK_wd, ↓w_lenDW, lockC_dic, lockC_lst, isN_wd, ↓w_truB, ↓w_truI, ↓w_truF, ↓w_truT, ↓w_truN, ↓optI, ↓isNop, optW_some, isN_non, isN_int, isN_tup, isN_fl, isN_ref, lv_fl, ls_fl, sq_fl, sq_tup, ls_sc, sq_sc, lv_up, ls_up, sq_up, tyOf_fl, tyOf_int, tyOf_tup, tyOf_bl, tyOf_ref, Option.bind_some, List.length_cons, List.length_nil, reduceIte, Bool.false_eq_true, if_true, if_false, List.map_cons, List.map_nil, List.replicate, List.cons_append, List.nil_append, Nat.reduceSub, Nat.reduceAdd, Nat.reduceLeDiff, Int.reduceLT, Int.reduceLE, Int.reduceNeg, Int.reduceToNat, Int.reducePow, and_true, true_and, or_true, true_or, decide_eq_true_eq, Bool.not_eq_true', decide_eq_false_iff_not, up_up, decide_true, decide_false, not_true_eq_false, not_false_eq_true, Bool.not_true, Bool.not_false, List.any_cons, List.any_nil, Bool.or_false, Bool.or_true, Bool.true_or, Bool.false_or, List.mem_cons, List.not_mem_nil, or_false, false_or, reduceCtorEq, sq_ref, lv_ref, ls_ref])
local macro_rules | `(tactic| walk_at "e") => `(tactic| simp only [List.map_cons, List.map_nil, List.replicate, List.cons_append, List.nil_append, Nat.reduceSub])
local macro_rules | `(tactic| walk_at "i") => `(tactic| try simp only [Bool.true_eq_false, Bool.false_eq_true, Bool.not_true, Bool.not_false, Bool.and_true, Bool.true_and, Bool.and_false, Bool.false_and, if_false, if_true, reduceIte, decide_true, decide_false, not_true_eq_false, not_false_eq_true, eq_self])
theorem path_len : ∀ (t : Tr) (k : Int), (t.path k).length ≤ t.ht
  | .nil, _ => Nat.le_refl _
  | .nd l x r, k => by
    have := path_len l k
    have := path_len r k
    unfold Tr.path
    simp only [List.length_cons, Tr.ht]
    split
    · omega
    · split
      · omega
      · simp
theorem path_nd : ∀ (t : Tr) (k : Int), ∀ s ∈ t.path k, ∃ l x r, s = .nd l x r
  | .nil, _, s, h => by cases h
  | .nd l x r, k, s, h => by
    unfold Tr.path at h
    rcases List.mem_cons.mp h with e | e
    · exact ⟨l, x, r, e⟩
    · split at e
      · exact path_nd l k s e
      · split at e
        · exact path_nd r k s e
        · cases e
section
variable {F : Fs}
theorem knots_ok (hF : F f_knots_on_way = some d_knots_on_way) {n : Nat} {t : Tr} {k : Int} {h : Hq} {Q : QV} {E : QE} (hz : t.size ≤ 1000) (kk : Q (.fl ((t.path k).map Tr.tv)) h) : CN F (n + 1) f_knots_on_way [t.tv, .int k] h Q E := by
  refine CN_go hF rfl ?_
  unfold d_knots_on_way
  walk_at "e"
  walk_at "w"
  intro p hp
  refine whl_inv (fun ρ h Q Q' k w => moT F n _ ρ h Q Q' _ k w) (moS F n _) (fun j ρ h' => ∃ (pre : List Tr) (s : Tr) (u v w : Option Val), s.size ≤ j ∧ pre ++ s.path k = t.path k ∧ ρ = [some s.tv, some (.int k), some (.ref p), u, v, w] ∧ h' = up h p (.lst (pre.map Tr.tv))) ?_ (m := t.size) ?_
  · intro j ρ h' ⟨pre, s, u, v, w, sj, e1, e2, e3⟩
    subst e2 e3
    have pl : pre.length ≤ 1000 := by have := congrArg List.length e1; rw [List.length_append] at this; have := path_len t k; have := t.ht_le; omega
    unfold t_knots_on_way_1
    cases s with
    | nil =>
      simp only [Tr.tv]
      walk_at "w"
      unfold c_knots_on_way_1
      walk_at "w"
      simp only [Tr.path, List.append_nil] at e1
      rw [er_up hp, e1]
      exact kk
    | nd l x r =>
      simp only [Tr.tv]
      walk_at "w"
      unfold b_knots_on_way_1
      walk_at "w"
      refine ⟨by rw [List.length_map]; omega, ?_⟩
      have st : ∀ s' : Tr, s'.path k = (if k < x then l.path k else if k > x then r.path k else []) → (pre ++ [Tr.nd l x r]) ++ s'.path k = t.path k := by
        intro s' e
        rw [e, ← e1, Tr.path, List.append_assoc]; rfl
      have hu : up h p (.lst (pre.map Tr.tv ++ [.tup [l.tv, .int x, r.tv]])) = up h p (.lst ((pre ++ [Tr.nd l x r]).map Tr.tv)) := by rw [List.map_append]; rfl
      simp only [Tr.size] at sj
      split
      · rename_i c
        exact ⟨l.size, by omega, _, l, _, _, _, Nat.le_refl _, st l (by rw [if_pos c]), rfl, hu⟩
      · rename_i c
        split
        · rename_i d
          exact ⟨r.size, by omega, _, r, _, _, _, Nat.le_refl _, st r (by rw [if_neg c, if_pos d]), rfl, hu⟩
        · rename_i d
          exact ⟨0, by omega, _, .nil, _, _, _, Nat.le_refl _, st .nil (by rw [if_neg c, if_neg d]; rfl), rfl, hu⟩
  · exact ⟨[], t, none, none, none, Nat.le_refl _, rfl, rfl, rfl⟩
theorem way_ok (hW : F f_way_to = some d_way_to) (hF : F f_knots_on_way = some d_knots_on_way) {n : Nat} {t : Tr} {k : Int} {h : Hq} {Q : QV} {E : QE} (hz : t.size ≤ 1000) (kk : Q (.fl ((t.way k).map .int)) h) : CN F (n + 2) f_way_to [t.tv, .int k] h Q E := by
  refine CN_go hW rfl ?_
  unfold d_way_to
  walk_at "e"
  walk_at "w"
  refine knots_ok hF hz ?_
  walk_at "w"
  refine comp_map' Tr.tv (t.path k) (fun s => .int s.top) (by have := path_len t k; have := t.ht_le; omega) (fun p acc hp => ⟨trivial, fun y hy => ⟨_, rfl, fun K q => ?_⟩⟩) ?_
  · obtain ⟨l, x, r, e⟩ := path_nd t k y hy
    subst e
    simp only [wipe3, List.set]
    unfold e_way_to_1
    simp only [Tr.tv]
    walk_at "w"
    exact q
  · rw [map_int, alc_fz]
    exact kk
/-- the one ahead of a key on its way -/
def lastUp : Val → List Int → Val
  | u, [] => u
  | u, [_] => u
  | _, x :: y :: w => lastUp (.int x) (y :: w)
theorem way_at : ∀ (t : Tr) (u : Val) (k : Int), t.keys.Pairwise (· < ·) → k ∈ t.keys → Tr.upAt u t k = some (lastUp u (t.way k)) ∧ t.way k ≠ []
  | .nil, _, _, _, h => by cases h
  | .nd l x r, u, k, hu, h => by
    simp only [Tr.keys] at hu h
    have hu' := hu
    rw [List.pairwise_append, List.pairwise_cons] at hu'
    obtain ⟨u1, ⟨u2, u3⟩, u4⟩ := hu'
    simp only [List.mem_append, List.mem_cons] at h
    refine ⟨?_, by simp [Tr.way, Tr.path]⟩
    rw [Tr.upAt, Tr.way, Tr.path, List.map_cons]
    have cons : ∀ (s : Tr), s.way k ≠ [] → lastUp u (Tr.top (.nd l x r) :: (s.path k).map Tr.top) = lastUp (.int x) (s.way k) := by
      intro s hs
      unfold Tr.way at hs ⊢
      cases e : (s.path k).map Tr.top with
      | nil => exact absurd e hs
      | cons y w => rfl
    by_cases e : k = x
    · subst e
      rw [if_pos rfl, if_neg (by omega), if_neg (by omega)]
      rfl
    · rw [if_neg e]
      rcases h with h | h | h
      · have := u4 k h x (by simp)
        obtain ⟨a1, a2⟩ := way_at l (.int x) k u1 h
        rw [if_pos this, cons l a2, a1]
        rfl
      · exact absurd h e
      · have c := u2 k h
        have nl : k ∉ l.keys := fun z => by have := u4 k z x (by simp); omega
        obtain ⟨a1, a2⟩ := way_at r (.int x) k u3 h
        rw [if_neg (by omega), if_pos c, cons r a2, upAt_none _ l k nl, a1]
        rfl
theorem lastUp_get : ∀ (w : List Int) (u : Val), 2 ≤ w.length → ∃ i : Int, w[w.length - 2]? = some i ∧ lastUp u w = .int i
  | [x, y], u, _ => ⟨x, rfl, rfl⟩
  | x :: y :: z :: w, u, _ => by
    obtain ⟨i, e1, e2⟩ := lastUp_get (y :: z :: w) (.int x) (by simp)
    refine ⟨i, ?_, e2⟩
    simp only [List.length_cons] at e1 ⊢
    rw [show w.length + 1 + 1 + 1 - 2 = (w.length + 1 + 1 - 2) + 1 by omega, List.getElem?_cons_succ]
    exact e1
/-- the key above a key -/
def Tr.above (t : Tr) (k : Int) : Val := (Tr.upAt .non t k).getD .non
theorem up_ok (hU : F f_up_of = some d_up_of) (hW : F f_way_to = some d_way_to) (hF : F f_knots_on_way = some d_knots_on_way) {n : Nat} {t : Tr} {k : Int} {h : Hq} {Q : QV} {E : QE} (hz : t.size ≤ 1000) (hu : t.keys.Pairwise (· < ·)) (hk : k ∈ t.keys) (kk : Q (t.above k) h) : CN F (n + 3) f_up_of [t.tv, .int k] h Q E := by
  refine CN_go hU rfl ?_
  unfold d_up_of
  walk_at "e"
  walk_at "w"
  refine way_ok hW hF hz ?_
  obtain ⟨a1, a2⟩ := way_at t .non k hu hk
  unfold Tr.above at kk
  rw [a1] at kk
  walk_at "w"
  rw [List.length_map]
  split
  · rename_i c
    generalize t.way k = w at *
    match w, c with
    | [x], _ => exact kk
    | [], c => simp at c
    | _ :: _ :: _, c => simp at c; omega
  · rename_i c
    have hl : 2 ≤ (t.way k).length := by
      cases e : t.way k with
      | nil => exact absurd e a2
      | cons x w => rw [e] at c; simp at c; simp; cases w with | nil => simp at c | cons => simp
    obtain ⟨i, e1, e2⟩ := lastUp_get _ .non hl
    rw [e2] at kk
    unfold atI
    rw [List.length_map]
    have : ixN (t.way k).length (-2) = some ((t.way k).length - 2) := by
      unfold ixN
      rw [if_neg (by decide), if_pos (by omega)]
      congr 1; omega
    rw [this]
    simp only [List.getElem?_map, e1, Option.map_some, Option.bind_some, optW_some]
    exact kk
end
/-- whether a key, or none, is one of a page's keys -/
def isIn (v : Val) (c : List Int) : Bool := match v with | .int i => decide (i ∈ c) | _ => false
def headsOf (up : Int → Val) (c : List Int) : List Int := c.filter fun k => !(isIn (up k) c)
/-- the number of the first page with more than one head -/
def partedAt (up : Int → Val) : Nat → List (List Int) → Val
  | _, [] => .non
  | n, c :: P => if 1 < (headsOf up c).length then .int (n : Nat) else partedAt up (n + 1) P
theorem parted_is (up : Int → Val) : ∀ (P : List (List Int)) (n : Nat), partedAt up n P = .non ∨ ∃ i : Int, partedAt up n P = .int i
  | [], _ => .inl rfl
  | c :: P, n => by
    unfold partedAt
    split
    · exact .inr ⟨_, rfl⟩
    · exact parted_is up P (n + 1)
/-- what stands above a key is none or a key -/
def Up1 (v : Val) : Prop := v = .non ∨ ∃ i : Int, v = .int i
theorem w_notinU {v : Val} (hv : Up1 v) {c : List Int} {h : Hq} {Q : QV} : prW (cmpR .notin v (.fl (c.map .int)) h) Q = Q (.bl (!(isIn v c))) h := by
  rcases hv with e | ⟨i, e⟩
  · subst e
    have e : (c.map Val.int).any (fun z => eqV (flV z) (flV .non)) = false := by
      rw [List.any_eq_false]
      intro x hx
      obtain ⟨i, _, e⟩ := List.mem_map.mp hx
      subst e
      exact fun z => by cases z
    simp only [cmpR, inR, dr, sq, ls, lv, all_flt, flt, Bool.and_self, if_true, prW, optW_some, Out.w, t_and, Bool.false_eq_true, if_false, e, isIn]
  · subst e
    rw [w_notinI]
    rfl
theorem above_up {t : Tr} {k : Int} (hu : t.keys.Pairwise (· < ·)) (hk : k ∈ t.keys) : Up1 (t.above k) := by
  obtain ⟨v, e1, e2⟩ := upAt_some .non t k hk (hu.imp fun h => by omega)
  unfold Tr.above
  rw [e1]
  rcases e2 with e | ⟨i, e, _⟩
  · exact .inl e
  · exact .inr ⟨i, e⟩
section
variable {F : Fs}
theorem parted_ok (hP : F f_first_parted = some d_first_parted) (hU : F f_up_of = some d_up_of) (hW : F f_way_to = some d_way_to) (hF : F f_knots_on_way = some d_knots_on_way) {n : Nat} {t : Tr} {P : List (List Int)} {h : Hq} {Q : QV} {E : QE} (hz : t.size ≤ 1000) (hu : t.keys.Pairwise (· < ·)) (hk : ∀ c ∈ P, ∀ k ∈ c, k ∈ t.keys) (hl : ∀ c ∈ P, c.length ≤ 1000) (kk : Q (partedAt t.above 0 P) h) : CN F (n + 4) f_first_parted [t.tv, .fl (P.map Enc.val)] h Q E := by
  refine CN_go hP rfl ?_
  unfold d_first_parted
  walk_at "e"
  walk_at "w"
  refine for_enum (moS F (n + 3) b_first_parted_1) (fun pre ρ h' => (∀ post, P = pre ++ post → partedAt t.above 0 P = partedAt t.above pre.length post) ∧ ∃ (u v w : Option Val), h' = h ∧ ρ = [some t.tv, some (.fl (P.map Enc.val)), u, v, w]) Enc.val P ?_ ?_ ?_
  · intro pre c post ρ h' ey ⟨pp, u, v, w, e1, e2⟩
    subst e1 e2
    refine ⟨trivial, _, rfl, ?_⟩
    have hc : ∀ k ∈ c, k ∈ t.keys := hk c (by rw [ey]; simp)
    have lc : c.length ≤ 1000 := hl c (by rw [ey]; simp)
    have pp1 := pp _ ey
    rw [partedAt] at pp1
    unfold b_first_parted_1
    simp only [List.set]
    rw [show (Enc.val c : Val) = .fl (c.map .int) from rfl]
    generalize hF' : (P.map Enc.val : List Val) = PV at *
    walk_at "w"
    refine comp_filter Val.int c (fun k => !(isIn (t.above k) c)) (fun k => Val.int k) (by omega) (fun p acc hp => ⟨trivial, fun k hkc => ⟨_, rfl, fun K q => ?_, fun _ K q => ?_⟩⟩) ?_
    · simp only [wipe3, List.set]
      unfold p_first_parted_1
      walk_at "w"
      refine up_ok hU hW hF hz hu (hc k hkc) ?_
      rw [w_notinU (above_up hu (hc k hkc))]
      walk_at "w"
      exact q
    · simp only [wipe3, List.set]
      unfold e_first_parted_1
      walk_at "w"
      exact q
    · rw [map_int, alc_fz]
      walk_at "w"
      rw [List.length_map, List.map_id']
      change if 1 < (((headsOf t.above c).length : Nat) : Int) then _ else _
      split
      · rename_i l
        rw [if_pos (by omega)] at pp1
        rw [pp1] at kk
        exact kk
      · rename_i l
        rw [if_neg (by omega)] at pp1
        refine ⟨fun post' e => ?_, _, _, _, rfl⟩
        rw [List.append_assoc, ey] at e
        have := List.append_cancel_left e
        injection this with _ this
        subst this
        rw [List.length_append]
        exact pp1
  · intro ρ h' ⟨pp, u, v, w, e1, e2⟩
    subst e1 e2
    refine ⟨trivial, ?_⟩
    unfold c_first_parted_1
    walk_at "w"
    have := pp [] (by simp)
    rw [this] at kk
    exact kk
  · exact ⟨fun post e => by rw [e]; rfl, none, none, none, rfl, rfl⟩
end

end L3

set_option Elab.async false
set_option linter.all false
set_option maxRecDepth 100000
namespace L3
open PySem PySem.Spec PyProof.Rows L2
local macro_rules | `(tactic| walk_at "d") => `(tactic| first | assumption | exact up_same | exact dr_fd _ _ | exact dr_wd _ _ | exact dr_ref (by assumption) | exact dr_ref up_same | exact keyOf_int | (exact (rfl : isNop _ = false)) | exact keyOf_str | exact tyOf_fl | exact tyOf_int | exact tyOf_tup | exact tyOf_bl | exact tyOf_ref (by assumption) | exact tyOf_ref up_same | (intro z; cases z))
local macro_rules | `(tactic| walk_at "w") => `(tactic| try simp -implicitDefEqProofs (disch := walk_at "d") only [↓wpE, ↓wpA, ↓wpB, ↓wpT, ↓wpTs, ↓wpI, ↓wpS, ↓wpSs, ↓optW_some, ↓w_lk0, ↓w_lkS, ↓w_bs, ↓w_bl0, ↓w_bl1, ↓w_k1, ↓w_kS, ↓w_b0, ↓w_b1, ↓w_b2, ↓w_b3, ↓w_b4, ↓w_b5, ↓w_b6, ↓w_b7, ↓w_b8, ↓w_b9, ↓w_b10, ↓w_b11, ↓w_b12, ↓w_b13, ↓w_b14, ↓w_b15, ↓w_b16, ↓w_b17, ↓w_b18, ↓w_b19, ↓w_b20, ↓w_b21, ↓w_b22, ↓w_b23, ↓w_b24, ↓w_b25, ↓alc_fz, ↓alc_lv, ↓w_dictZ, ↓w_eqNN, ↓w_add, ↓w_addS, ↓w_addL, ↓w_addT, ↓w_sub, ↓w_mul, ↓w_fdiv, ↓w_mod, ↓w_pow, ↓w_shl, ↓w_shr, ↓w_band, ↓w_eqI, ↓w_neI, ↓w_eqS, ↓w_neS, ↓w_lt, ↓w_le, ↓w_gt, ↓w_ge, ↓w_is, ↓w_isnot, ↓w_isB, ↓w_isnotB, ↓w_neF0, ↓w_eqF0, ↓w_neI_L, ↓w_eqI_L, ↓w_eqLL, ↓w_neDL, ↓w_eqDL, ↓w_idxR, ↓w_slcF, ↓w_slcT, ↓w_insert, ↓w_lrange, ↓w_revF, ↓w_revR, ↓w_tmul, ↓w_ok_indexF, ↓w_inI, ↓w_notinI, ↓w_eqEE, ↓w_neEE, ↓w_eqE0, ↓w_neE0, ↓w_eqRE, ↓w_neRE, ↓w_maxF, ↓w_minF, ↓w_eqB, ↓w_neB, ↓w_sortPF, ↓w_allF, ↓w_anyF, ↓w_slcR, ↓w_oi1, ↓w_oi2, ↓w_idxD, ↓w_inD, ↓w_notinD, ↓w_okD, ↓w_okDF, ↓w_okU, ↓w_get1N, ↓w_get2N, ↓w_get1, ↓w_get2, ↓w_upd, ↓w_putD, ↓w_frzD', ↓alcD_fz, ↓alcD_lv, ↓w_rep, ↓w_sortR, ↓w_sortF, ↓w_sumF, ↓w_idxF, ↓w_idxT, ↓w_idxS, ↓w_lenR, ↓w_lenF, ↓w_lenT, ↓w_lenS, ↓w_abs, ↓w_max2, ↓w_min2, ↓w_listF, ↓w_listT, ↓w_listR, ↓w_tupleF, ↓w_int, ↓w_intB, ↓w_isi, ↓w_ok_append, ↓w_ok_extend, ↓w_ok_pop, ↓w_ok_insert, ↓w_ok_reverse, ↓w_ok_clear, ↓w_ok_index, ↓w_ok_count, ↓w_append, ↓w_extend, ↓w_reverse, ↓w_clear, ↓w_frz, ↓w_set0, ↓w_set1, ↓w_set2, ↓w_at0, ↓w_at1, ↓w_at2, ↓w_at3, ↓w_blOf, ↓w_intOf, ↓w_refOf, ↓w_cellO, ↓wdK_wd, ↓w_lenDW, lockC_dic, lockC_lst, isN_wd, ↓w_truB, ↓w_truI, ↓w_truF, ↓w_truT, ↓w_truN, ↓optI, ↓isNop, optW_some, isN_non, isN_int, isN_tup, isN_fl, isN_ref, lv_fl, ls_fl, sq_fl, sq_tup, ls_sc, sq_sc, lv_up, ls_up, sq_up, tyOf_fl, tyOf_int, tyOf_tup, tyOf_bl, tyOf_ref, Option.bind_some, List.length_cons, List.length_nil, reduceIte, Bool.false_eq_true, if_true, if_false, List.map_cons, List.map_nil, List.replicate, List.cons_append, List.nil_append, Nat.reduceSub, Nat.reduceAdd, Nat.reduceLeDiff, Int.reduceLT, Int.reduceLE, Int.reduceNeg, Int.reduceToNat, Int.reducePow, and_true, true_and, or_true, true_or, decide_eq_true_eq, Bool.not_eq_true', decide_eq_false_iff_not, up_up, decide_true, decide_false, not_true_eq_false, not_false_eq_true, Bool.not_true, Bool.not_false, List.any_cons, List.any_nil, Bool.or_false, Bool.or_true, Bool.true_or, Bool.false_or, List.mem_cons, List.not_mem_nil, or_false, false_or, reduceCtorEq, sq_ref, lv_ref, ls_ref])
local macro_rules | `(tactic| walk_at "e") => `(tactic| simp only [List.map_cons, List.map_nil, List.replicate, List.cons_append, List.nil_append, Nat.reduceSub])
local macro_rules | `(tactic| walk_at "i") => `(tactic| try simp only [Bool.true_eq_false, Bool.false_eq_true, Bool.not_true, Bool.not_false, Bool.and_true, Bool.true_and, Bool.and_false, Bool.false_and, if_false, if_true, reduceIte, decide_true, decide_false, not_true_eq_false, not_false_eq_true, eq_self])
/-- the number of the (last) page that has a key -/
def pno : Nat → List (List Int) → Int → Option Int
  | _, [], _ => none
  | n, c :: P, k => (pno (n + 1) P k).or (if k ∈ c then some (n : Int) else none)
def pg (P : List (List Int)) (k : Int) : Int := (pno 0 P k).getD 0
theorem pno_snoc (k : Int) (c : List Int) : ∀ (P : List (List Int)) (n : Nat), pno n (P ++ [c]) k = if k ∈ c then some ((n + P.length : Nat) : Int) else pno n P k
  | [], n => by simp [pno]
  | d :: P, n => by
    rw [List.cons_append, pno, pno_snoc k c P (n + 1), pno]
    split
    · simp; omega
    · rfl
theorem pno_some {k : Int} : ∀ {P : List (List Int)} {n : Nat}, k ∈ P.flatten → ∃ i : Int, pno n P k = some i
  | [], _, h => by simp at h
  | c :: P, n, h => by
    rw [pno]
    by_cases hc : k ∈ P.flatten
    · obtain ⟨i, e⟩ := pno_some (n := n + 1) hc
      exact ⟨i, by rw [e]; rfl⟩
    · have : k ∈ c := by simpa [hc] using h
      rw [if_pos this]
      cases pno (n + 1) P k with
      | none => exact ⟨_, rfl⟩
      | some i => exact ⟨i, rfl⟩
theorem path_mem {k : Int} : ∀ {t s : Tr}, s ∈ t.path k → s.top ∈ t.keys
  | .nil, _, h => by cases h
  | .nd l x r, s, h => by
    rw [Tr.path, List.mem_cons] at h
    rcases h with e | e
    · rw [e]; simp [Tr.keys, Tr.top]
    · split at e
      · simp [Tr.keys, path_mem e]
      · split at e
        · simp [Tr.keys, path_mem e]
        · cases e
theorem way_mem {t : Tr} {k y : Int} (h : y ∈ t.way k) : y ∈ t.keys := by
  obtain ⟨s, hs, e⟩ := List.mem_map.mp h
  rw [← e]; exact path_mem hs
theorem way_len (t : Tr) (k : Int) : (t.way k).length ≤ t.size := by
  rw [Tr.way, List.length_map]; have := path_len t k; have := t.ht_le; omega
section
variable {F : Fs}
theorem numbers_okV (hN : F f_numbers_of = some d_numbers_of) {n : Nat} {x : Val} {P : List (List Int)} {h : Hq} {Q : QV} {E : QE} (hx : LayV h x P) (hl : ∀ c ∈ P, c.length ≤ 1000) (hp : P.length ≤ 500)
    (k : ∀ kvs, (∀ j : Int, dg kvs (.inl j) = (pno 0 P j).map Val.int) → Q (fdOf kvs) h) : CN F (n + 1) f_numbers_of [x] h Q E := by
  obtain ⟨ys, ep, hy⟩ := hx
  subst ep
  refine CN_go hN rfl ?_
  unfold d_numbers_of
  walk_at "e"
  walk_at "w"
  intro p hnp
  have gr : ∀ c, Grow h (up h p c) := fun c => Grow.up hnp
  rw [(hy _ (gr _)).1]
  walk_at "w"
  refine for_enum (moS F n b_numbers_of_2) (fun pre ρ h' => ∃ (kvs : KVs) (u v w : Option Val), h' = up h p (.dic kvs) ∧ kvs.length ≤ pre.length * 1000 ∧ (∀ j : Int, dg kvs (.inl j) = (pno 0 (pre.map (·.1)) j).map Val.int) ∧ ρ = [some x, some (.ref p), u, v, w]) (·.2) ys ?_ ?_ ?_
  · intro pre c post ρ h' ey ⟨kvs, u, v, w, e1, kl, g, e2⟩
    subst e1 e2
    have cm : c ∈ ys := by rw [ey]; simp
    have lc := hl c.1 (List.mem_map.mpr ⟨c, cm, rfl⟩)
    rw [List.length_map] at hp
    have pl := congrArg List.length ey
    simp only [List.length_append, List.length_cons] at pl
    refine ⟨(hy _ (gr _)).1, _, rfl, ?_⟩
    unfold b_numbers_of_2
    simp only [List.set]
    walk_at "w"
    rw [(hy _ (gr _)).2 c cm]
    walk_at "w"
    refine for_map (moS F n b_numbers_of_1) (fun qre ρ h' => ∃ (kvs : KVs) (w : Option Val), h' = up h p (.dic kvs) ∧ kvs.length ≤ pre.length * 1000 + qre.length ∧ (∀ j : Int, dg kvs (.inl j) = if j ∈ qre then some (.int (pre.length : Nat)) else (pno 0 (pre.map (·.1)) j).map Val.int) ∧ ρ = [some x, some (.ref p), some (.int (pre.length : Nat)), some c.2, w]) Val.int c.1 ?_ ?_ ?_
    · intro qre y qost ρ h' ey ⟨kvs, w, e1, kl, g, e2⟩
      subst e1 e2
      have ql := congrArg List.length ey
      simp only [List.length_append, List.length_cons] at ql
      refine ⟨(hy _ (gr _)).2 c cm, _, rfl, ?_⟩
      unfold b_numbers_of_1
      simp only [List.set]
      walk_at "w"
      refine ⟨by omega, _, _, rfl, ?_, fun j => ?_, rfl⟩
      · have := dp_len kvs (.inl y) (.int (pre.length : Nat)); rw [List.length_append]; simp only [List.length_cons, List.length_nil]; omega
      · rw [dg_dp, g]
        by_cases e : j = y
        · subst e; simp
        · have : (Sum.inl j : Key) ≠ .inl y := fun z => e (by injection z)
          rw [if_neg this]
          simp [e]
    · intro ρ h' ⟨kvs, w, e1, kl, g, e2⟩
      subst e1 e2
      refine ⟨(hy _ (gr _)).2 c cm, kvs, _, _, _, rfl, ?_, fun j => ?_, rfl⟩
      · rw [List.length_append]; simp only [List.length_cons, List.length_nil]; omega
      · rw [g, List.map_append, List.map_cons, List.map_nil, pno_snoc, Nat.zero_add, List.length_map]
        split <;> rfl
    · exact ⟨kvs, w, rfl, by simp; exact kl, fun j => by simp [g], rfl⟩
  · intro ρ h' ⟨kvs, u, v, w, e1, kl, g, e2⟩
    subst e1 e2
    refine ⟨(hy _ (gr _)).1, ?_⟩
    unfold c_numbers_of_1
    walk_at "w"
    rw [er_up hnp]
    exact k kvs g
  · exact ⟨[], none, none, none, rfl, by simp, fun j => rfl, rfl⟩
theorem numbers_ok (hN : F f_numbers_of = some d_numbers_of) {n : Nat} {P : List (List Int)} {h : Hq} {Q : QV} {E : QE} (hl : ∀ c ∈ P, c.length ≤ 1000) (hp : P.length ≤ 500)
    (k : ∀ kvs, (∀ j : Int, dg kvs (.inl j) = (pno 0 P j).map Val.int) → Q (fdOf kvs) h) : CN F (n + 1) f_numbers_of [.fl (P.map Enc.val)] h Q E := numbers_okV hN (layV_fl h P) hl hp k
theorem onway_okV (hO : F f_numbers_on_way = some d_numbers_on_way) (hN : F f_numbers_of = some d_numbers_of) (hW : F f_way_to = some d_way_to) (hF : F f_knots_on_way = some d_knots_on_way) {n : Nat} {x : Val} {t : Tr} {P : List (List Int)} {key : Int} {h : Hq} {Q : QV} {E : QE} (hx : LayV h x P) (hz : t.size ≤ 1000) (hl : ∀ c ∈ P, c.length ≤ 1000) (hp : P.length ≤ 500) (hk : ∀ k ∈ t.keys, k ∈ P.flatten)
    (k : Q (.fl (((t.way key).map (pg P)).map .int)) h) : CN F (n + 3) f_numbers_on_way [t.tv, x, .int key] h Q E := by
  refine CN_go hO rfl ?_
  unfold d_numbers_on_way
  walk_at "e"
  walk_at "w"
  refine numbers_okV hN hx hl hp fun kvs g => ?_
  walk_at "w"
  refine way_ok hW hF hz ?_
  walk_at "w"
  refine comp_map' Val.int (t.way key) (fun j => Val.int (pg P j)) (by have := way_len t key; omega) (fun p acc hp => ⟨trivial, fun y hy => ⟨_, rfl, fun K q => ?_⟩⟩) ?_
  · simp only [wipe3, List.set]
    unfold e_numbers_on_way_1
    walk_at "w"
    obtain ⟨i, e⟩ := pno_some (n := 0) (hk y (way_mem hy))
    unfold pg at q
    rw [g, e]
    rw [e] at q
    walk_at "w"
    exact q
  · rw [map_int, alc_fz]
    exact k
theorem onway_ok (hO : F f_numbers_on_way = some d_numbers_on_way) (hN : F f_numbers_of = some d_numbers_of) (hW : F f_way_to = some d_way_to) (hF : F f_knots_on_way = some d_knots_on_way) {n : Nat} {t : Tr} {P : List (List Int)} {key : Int} {h : Hq} {Q : QV} {E : QE} (hz : t.size ≤ 1000) (hl : ∀ c ∈ P, c.length ≤ 1000) (hp : P.length ≤ 500) (hk : ∀ k ∈ t.keys, k ∈ P.flatten)
    (k : Q (.fl (((t.way key).map (pg P)).map .int)) h) : CN F (n + 3) f_numbers_on_way [t.tv, .fl (P.map Enc.val), .int key] h Q E := onway_okV hO hN hW hF (layV_fl h P) hz hl hp hk k
end

end L3

set_option Elab.async false
set_option linter.all false
set_option maxRecDepth 100000
namespace L3
open PySem PySem.Spec PyProof.Rows L2
local macro_rules | `(tactic| walk_at "d") => `(tactic| first | assumption | exact up_same | exact dr_fd _ _ | exact dr_wd _ _ | exact dr_ref (by assumption) | exact dr_ref up_same | exact keyOf_int | (exact (rfl : isNop _ = false)) | exact keyOf_str | exact tyOf_fl | exact tyOf_int | exact tyOf_tup | exact tyOf_bl | exact tyOf_ref (by assumption) | exact tyOf_ref up_same | (intro z; cases z))
local macro_rules | `(tactic| walk_at "w") => `(tactic| try simp -implicitDefEqProofs (disch := walk_at "d") only [↓wpE, ↓wpA, ↓wpB, ↓wpT, ↓wpTs, ↓wpI, ↓wpS, ↓wpSs, ↓optW_some, ↓w_lk0, ↓w_lkS, ↓w_bs, ↓w_bl0, ↓w_bl1, ↓w_k1, ↓w_kS, ↓w_b0, ↓w_b1, ↓w_b2, ↓w_b3, ↓w_b4, ↓w_b5, ↓w_b6, ↓w_b7, ↓w_b8, ↓w_b9, ↓w_b10, ↓w_b11, ↓w_b12, ↓w_b13, ↓w_b14, ↓w_b15, ↓w_b16, ↓w_b17, ↓w_b18, ↓w_b19, ↓w_b20, ↓w_b21, ↓w_b22, ↓w_b23, ↓w_b24, ↓w_b25, ↓alc_fz, ↓alc_lv, ↓w_dictZ, ↓w_eqNN, ↓w_add, ↓w_addS, ↓w_addL, ↓w_addT, ↓w_sub, ↓w_mul, ↓w_fdiv, ↓w_mod, ↓w_pow, ↓w_shl, ↓w_shr, ↓w_band, ↓w_eqI, ↓w_neI, ↓w_eqS, ↓w_neS, ↓w_lt, ↓w_le, ↓w_gt, ↓w_ge, ↓w_is, ↓w_isnot, ↓w_isB, ↓w_isnotB, ↓w_neF0, ↓w_eqF0, ↓w_neI_L, ↓w_eqI_L, ↓w_eqLL, ↓w_neDL, ↓w_eqDL, ↓w_idxR, ↓w_slcF, ↓w_slcT, ↓w_insert, ↓w_lrange, ↓w_revF, ↓w_revR, ↓w_tmul, ↓w_ok_indexF, ↓w_inI, ↓w_notinI, ↓w_eqEE, ↓w_neEE, ↓w_eqE0, ↓w_neE0, ↓w_eqRE, ↓w_neRE, ↓w_maxF, ↓w_minF, ↓w_eqB, ↓w_neB, ↓w_sortPF, ↓w_allF, ↓w_anyF, ↓w_slcR, ↓w_oi1, ↓w_oi2, ↓w_idxD, ↓w_inD, ↓w_notinD, ↓w_okD, ↓w_okDF, ↓w_okU, ↓w_get1N, ↓w_get2N, ↓w_get1, ↓w_get2, ↓w_upd, ↓w_putD, ↓w_frzD', ↓alcD_fz, ↓alcD_lv, ↓w_rep, ↓w_sortR, ↓w_sortF, ↓w_sumF, ↓w_idxF, ↓w_idxT, ↓w_idxS, ↓w_lenR, ↓w_lenF, ↓w_lenT, ↓w_lenS, ↓w_abs, ↓w_max2, ↓w_min2, ↓w_listF, ↓w_listT, ↓w_listR, ↓w_tupleF, ↓w_int, ↓w_intB, ↓w_isi, ↓w_ok_append, ↓w_ok_extend, ↓w_ok_pop, ↓w_ok_insert, ↓w_ok_reverse, ↓w_ok_clear, ↓w_ok_index, ↓w_ok_count, ↓w_append, ↓w_extend, ↓w_reverse, ↓w_clear, ↓w_frz, ↓w_set0, ↓w_set1, ↓w_set2, ↓w_at0, ↓w_at1, ↓w_at2, ↓w_at3, ↓w_blOf, ↓w_intOf, ↓w_refOf, ↓w_cellO, ↓wdK_wd, ↓w_lenDW, lockC_dic, lockC_lst, isN_wd, ↓w_truB, ↓w_truI, ↓w_truF, ↓w_truT, ↓w_truN, ↓optI, ↓isNop, optW_some, isN_non, isN_int, isN_tup, isN_fl, isN_ref, lv_fl, ls_fl, sq_fl, sq_tup, ls_sc, sq_sc, lv_up, ls_up, sq_up, tyOf_fl, tyOf_int, tyOf_tup, tyOf_bl, tyOf_ref, Option.bind_some, List.length_cons, List.length_nil, reduceIte, Bool.false_eq_true, if_true, if_false, List.map_cons, List.map_nil, List.replicate, List.cons_append, List.nil_append, Nat.reduceSub, Nat.reduceAdd, Nat.reduceLeDiff, Int.reduceLT, Int.reduceLE, Int.reduceNeg, Int.reduceToNat, Int.reducePow, and_true, true_and, or_true, true_or, decide_eq_true_eq, Bool.not_eq_true', decide_eq_false_iff_not, up_up, decide_true, decide_false, not_true_eq_false, not_false_eq_true, Bool.not_true, Bool.not_false, List.any_cons, List.any_nil, Bool.or_false, Bool.or_true, Bool.true_or, Bool.false_or, List.mem_cons, List.not_mem_nil, or_false, false_or, reduceCtorEq, sq_ref, lv_ref, ls_ref])
local macro_rules | `(tactic| walk_at "e") => `(tactic| simp only [List.map_cons, List.map_nil, List.replicate, List.cons_append, List.nil_append, Nat.reduceSub])
local macro_rules | `(tactic| walk_at "i") => `(tactic| try simp only [Bool.true_eq_false, Bool.false_eq_true, Bool.not_true, Bool.not_false, Bool.and_true, Bool.true_and, Bool.and_false, Bool.false_and, if_false, if_true, reduceIte, decide_true, decide_false, not_true_eq_false, not_false_eq_true, eq_self])
/-- each number once, in the order of coming -/
def dd : List Int → List Int → List Int
  | acc, [] => acc
  | acc, x :: xs => dd (if x ∈ acc then acc else acc ++ [x]) xs
theorem dd_snoc (x : Int) : ∀ (xs acc : List Int), dd acc (xs ++ [x]) = if x ∈ dd acc xs then dd acc xs else dd acc xs ++ [x]
  | [], acc => rfl
  | y :: xs, acc => by rw [List.cons_append, dd, dd_snoc x xs, dd]
theorem dd_len : ∀ (xs acc : List Int), (dd acc xs).length ≤ acc.length + xs.length
  | [], acc => Nat.le_refl _
  | x :: xs, acc => by
    rw [dd]
    have := dd_len xs (if x ∈ acc then acc else acc ++ [x])
    have h2 : (if x ∈ acc then acc else acc ++ [x]).length ≤ acc.length + 1 := by split <;> simp
    simp only [List.length_cons]
    omega
theorem dd_mem {y : Int} : ∀ (xs acc : List Int), y ∈ dd acc xs ↔ y ∈ acc ∨ y ∈ xs
  | [], acc => by simp [dd]
  | x :: xs, acc => by
    rw [dd, dd_mem xs]
    split
    · rename_i h
      simp only [List.mem_cons]
      constructor
      · rintro (h1 | h1) <;> simp [h1]
      · rintro (h1 | rfl | h1) <;> simp [*]
    · simp only [List.mem_append, List.mem_cons, List.not_mem_nil, or_false]
      exact or_assoc
theorem dd_nodup : ∀ (xs acc : List Int), acc.Nodup → (dd acc xs).Nodup
  | [], acc, h => h
  | x :: xs, acc, h => by
    rw [dd]
    refine dd_nodup xs _ ?_
    split
    · exact h
    · rename_i hx
      rw [List.nodup_append]
      exact ⟨h, by simp, fun a ha b hb e => hx (by rw [List.mem_singleton] at hb; rw [← hb, ← e]; exact ha)⟩
/-- how often a row of numbers comes to another one -/
def chg : Option Int → List Int → Nat
  | _, [] => 0
  | l, x :: xs => (if l = some x then 0 else 1) + chg (some x) xs
def adj (xs : List Int) : Nat := ((xs.zip (xs.drop 1)).filter fun z => !decide (z.1 = z.2)).length
theorem adj_chg : ∀ (xs : List Int) (x : Int), adj (x :: xs) = chg (some x) xs
  | [], x => rfl
  | y :: xs, x => by
    have := adj_chg xs y
    unfold adj at this ⊢
    simp only [List.drop_succ_cons, List.drop_zero] at this ⊢
    rw [List.zip_cons_cons, List.filter_cons, chg]
    by_cases e : x = y
    · subst e
      simp only [decide_true, Bool.not_true, Bool.false_eq_true, if_false, if_true, Nat.zero_add]
      cases xs with
      | nil => exact this
      | cons z xs => exact this
    · simp only [e, decide_false, Bool.not_false, if_true, Option.some.injEq, if_false, List.length_cons]
      cases xs with
      | nil => simp [chg]
      | cons z xs => rw [this]; omega
theorem turns_chg (xs : List Int) : min 1 xs.length + adj xs = chg none xs := by
  cases xs with
  | nil => rfl
  | cons x xs => rw [adj_chg, chg]; simp
section
variable {F : Fs}
/-- pages by numbers -/
def HasN (F : Fs) : Prop := F f_numbers_on_way = some d_numbers_on_way ∧ F f_numbers_of = some d_numbers_of ∧ F f_way_to = some d_way_to ∧ F f_knots_on_way = some d_knots_on_way
variable {n : Nat} {t : Tr} {P : List (List Int)} {key : Int} {h : Hq} {Q : QV} {E : QE}
theorem met_okV (hM : F f_pages_met = some d_pages_met) (hN : HasN F) {x : Val} (hx : LayV h x P) (hz : t.size ≤ 1000) (hl : ∀ c ∈ P, c.length ≤ 1000) (hp : P.length ≤ 500) (hk : ∀ k ∈ t.keys, k ∈ P.flatten)
    (k : Q (.fl ((dd [] ((t.way key).map (pg P))).map .int)) h) : CN F (n + 4) f_pages_met [t.tv, x, .int key] h Q E := by
  obtain ⟨n1, n2, n3, n4⟩ := hN
  refine CN_go hM rfl ?_
  unfold d_pages_met
  walk_at "e"
  walk_at "w"
  intro p hnp
  refine onway_okV n1 n2 n3 n4 (hx.grow (Grow.up hnp)) hz hl hp hk ?_
  walk_at "w"
  refine for_map (moS F (n + 3) b_pages_met_1) (fun pre ρ h' => ∃ (u : Option Val), h' = up h p (.lst ((dd [] pre).map .int)) ∧ ρ = [some t.tv, some x, some (.int key), some (.ref p), u]) Val.int ((t.way key).map (pg P)) ?_ ?_ ?_
  · intro pre y post ρ h' ey ⟨u, e1, e2⟩
    subst e1 e2
    have pl := congrArg List.length ey
    simp only [List.length_append, List.length_cons, List.length_map] at pl
    have wl := way_len t key
    have dl := dd_len pre []
    refine ⟨trivial, _, rfl, ?_⟩
    unfold b_pages_met_1
    simp only [List.set]
    walk_at "w"
    rw [dd_snoc, w_notinIR up_same]
    by_cases hy : y ∈ dd [] pre
    · simp only [hy, decide_true, Bool.not_true, if_true]
      walk_at "w"
      exact ⟨_, rfl⟩
    · simp only [hy, decide_false, Bool.not_false, if_false]
      walk_at "w"
      simp only [List.length_nil] at dl
      refine ⟨by rw [List.length_map]; omega, _, by rw [List.map_append]; rfl, rfl⟩
  · intro ρ h' ⟨u, e1, e2⟩
    subst e1 e2
    refine ⟨trivial, ?_⟩
    unfold c_pages_met_1
    walk_at "w"
    rw [er_up hnp]
    exact k
  · exact ⟨none, rfl, rfl⟩
theorem met_ok (hM : F f_pages_met = some d_pages_met) (hN : HasN F) (hz : t.size ≤ 1000) (hl : ∀ c ∈ P, c.length ≤ 1000) (hp : P.length ≤ 500) (hk : ∀ k ∈ t.keys, k ∈ P.flatten)
    (k : Q (.fl ((dd [] ((t.way key).map (pg P))).map .int)) h) : CN F (n + 4) f_pages_met [t.tv, .fl (P.map Enc.val), .int key] h Q E := met_okV hM hN (layV_fl h P) hz hl hp hk k
theorem turns_ok (hM : F f_page_turns = some d_page_turns) (hN : HasN F) (hz : t.size ≤ 1000) (hl : ∀ c ∈ P, c.length ≤ 1000) (hp : P.length ≤ 500) (hk : ∀ k ∈ t.keys, k ∈ P.flatten)
    (k : Q (.int (chg none ((t.way key).map (pg P)) : Nat)) h) : CN F (n + 4) f_page_turns [t.tv, .fl (P.map Enc.val), .int key] h Q E := by
  obtain ⟨n1, n2, n3, n4⟩ := hN
  refine CN_go hM rfl ?_
  unfold d_page_turns
  walk_at "e"
  walk_at "w"
  refine onway_ok n1 n2 n3 n4 hz hl hp hk ?_
  have wl := way_len t key
  have xl : ((t.way key).map (pg P)).length ≤ 1000 := by rw [List.length_map]; omega
  rw [← turns_chg] at k
  generalize (t.way key).map (pg P) = xs at *
  walk_at "w"
  rw [cutG_map, cut1, zipL_map]
  refine comp_filter (fun z : Int × Int => .tup [.int z.1, .int z.2]) (xs.zip (xs.drop 1)) (fun z => !decide (z.1 = z.2)) (fun z => Val.int z.1) (by rw [List.length_zip]; omega) (fun p acc hp => ⟨trivial, fun y hy => ⟨_, rfl, fun K q => ?_, fun _ K q => ?_⟩⟩) ?_
  · simp only [wipe3, List.set]
    unfold p_page_turns_1
    walk_at "w"
    exact q
  · simp only [wipe3, List.set]
    unfold e_page_turns_1
    walk_at "w"
    exact q
  · rw [map_int, alc_fz]
    walk_at "w"
    have e : ((if ((xs.map Val.int).length : Int) < 1 then ((xs.map Val.int).length : Int) else 1) + (((((xs.zip (xs.drop 1)).filter fun z => !decide (z.1 = z.2)).map Prod.fst).map Val.int).length : Int)) = ((min 1 xs.length + adj xs : Nat) : Int) := by
      simp only [List.length_map]
      unfold adj
      split <;> omega
    rw [e]
    exact k
theorem met_L_ok (hM : F f_pages_met_L = some d_pages_met_L) (hN : HasN F) (hz : t.size ≤ 1000) (hl : ∀ c ∈ P, c.length ≤ 1000) (hp : P.length ≤ 500) (hk : ∀ k ∈ t.keys, k ∈ P.flatten)
    (k : ∀ p, h p = none → Q (.ref p) (up h p (.lst ((dd [] ((t.way key).map (pg P))).map .int)))) : CN F (n + 4) f_pages_met_L [t.tv, .fl (P.map Enc.val), .int key] h Q E := by
  obtain ⟨n1, n2, n3, n4⟩ := hN
  refine CN_go hM rfl ?_
  unfold d_pages_met_L
  walk_at "e"
  walk_at "w"
  intro p hnp
  refine onway_ok n1 n2 n3 n4 hz hl hp hk ?_
  walk_at "w"
  refine for_map (moS F (n + 3) b_pages_met_L_1) (fun pre ρ h' => ∃ (u : Option Val), h' = up h p (.lst ((dd [] pre).map .int)) ∧ ρ = [some t.tv, some (.fl (P.map Enc.val)), some (.int key), some (.ref p), u]) Val.int ((t.way key).map (pg P)) ?_ ?_ ?_
  · intro pre y post ρ h' ey ⟨u, e1, e2⟩
    subst e1 e2
    have pl := congrArg List.length ey
    simp only [List.length_append, List.length_cons, List.length_map] at pl
    have wl := way_len t key
    have dl := dd_len pre []
    refine ⟨trivial, _, rfl, ?_⟩
    unfold b_pages_met_L_1
    simp only [List.set]
    walk_at "w"
    rw [dd_snoc, w_notinIR up_same]
    by_cases hy : y ∈ dd [] pre
    · simp only [hy, decide_true, Bool.not_true, if_true]
      walk_at "w"
      exact ⟨_, rfl⟩
    · simp only [hy, decide_false, Bool.not_false, if_false]
      walk_at "w"
      simp only [List.length_nil] at dl
      refine ⟨by rw [List.length_map]; omega, _, by rw [List.map_append]; rfl, rfl⟩
  · intro ρ h' ⟨u, e1, e2⟩
    subst e1 e2
    refine ⟨trivial, ?_⟩
    unfold c_pages_met_L_1
    walk_at "w"
    exact k p hnp
  · exact ⟨none, rfl, rfl⟩
end
/-! ### joined layouts: as many turns as pages met -/
/-- the keys where a way comes to another page -/
def starts (f : Int → Int) : Option Int → List Int → List Int
  | _, [] => []
  | l, k :: w => if l = some (f k) then starts f (some (f k)) w else k :: starts f (some (f k)) w
theorem starts_len (f : Int → Int) : ∀ (w : List Int) (l : Option Int), (starts f l w).length = chg l (w.map f)
  | [], l => rfl
  | k :: w, l => by
    rw [starts, List.map_cons, chg]
    split
    · rw [starts_len f w]; omega
    · rw [List.length_cons, starts_len f w]; omega
theorem starts_sub (f : Int → Int) : ∀ (w : List Int) (l : Option Int), (starts f l w).Sublist w
  | [], l => .slnil
  | k :: w, l => by
    rw [starts]
    split
    · exact (starts_sub f w _).cons k
    · exact (starts_sub f w _).cons_cons k
theorem starts_mem (f : Int → Int) (y : Int) : ∀ (w : List Int) (l : Option Int), y ∈ w.map f → l = some y ∨ y ∈ (starts f l w).map f
  | [], l, h => by cases h
  | k :: w, l, h => by
    rw [starts]
    rw [List.map_cons, List.mem_cons] at h
    by_cases e : l = some (f k)
    · rw [if_pos e]
      rcases h with h | h
      · exact .inl (by rw [e, h])
      · rcases starts_mem f y w (some (f k)) h with h | h
        · exact .inl (by rw [e]; exact h)
        · exact .inr h
    · rw [if_neg e]
      right
      rw [List.map_cons, List.mem_cons]
      rcases h with h | h
      · exact .inl h
      · rcases starts_mem f y w (some (f k)) h with h | h
        · exact .inl (by injection h with h; exact h.symm)
        · exact .inr h
/-- what is above each key of a way, the first one's being u -/
def Chain (t : Tr) : Val → List Int → Prop
  | _, [] => True
  | u, k :: w => t.above k = u ∧ Chain t (.int k) w
theorem starts_head {t : Tr} {f : Int → Int} : ∀ (w : List Int) (u : Val) (l : Option Int), Chain t u w → (∀ k, l = some k → ∃ x : Int, u = .int x ∧ f x = k) → (l = none → u = .non) → ∀ k ∈ starts f l w, t.above k = .non ∨ ∃ x : Int, t.above k = .int x ∧ f x ≠ f k
  | [], u, l, _, _, _, k, h => by cases h
  | y :: w, u, l, c, a, b, k, h => by
    rw [starts] at h
    have rest := starts_head w (.int y) (some (f y)) c.2 (fun k e => ⟨y, rfl, by injection e⟩) (fun e => by cases e)
    split at h
    · exact rest k h
    · rename_i ne
      rcases List.mem_cons.mp h with e | h
      · subst e
        rw [c.1]
        cases l with
        | none => exact .inl (b rfl)
        | some j => 
          obtain ⟨x, e1, e2⟩ := a j rfl
          exact .inr ⟨x, e1, fun z => ne (by rw [← e2, z])⟩
      · exact rest k h


theorem way_chain {t : Tr} (key : Int) : ∀ (s : Tr) (u : Val), s.keys.Pairwise (· < ·) → (∀ k ∈ s.keys, t.above k = (Tr.upAt u s k).getD .non) → Chain t u (s.way key)
  | .nil, _, _, _ => trivial
  | .nd l x r, u, hu, ha => by
    simp only [Tr.keys] at hu ha
    have hd : (l.keys ++ x :: r.keys).Nodup := hu.imp fun h => Int.ne_of_lt h
    rw [List.pairwise_append, List.pairwise_cons] at hu
    obtain ⟨u1, ⟨u2, u3⟩, u4⟩ := hu
    rw [List.nodup_append, List.nodup_cons] at hd
    obtain ⟨n1, ⟨n2, n4⟩, n3⟩ := hd
    have top : t.above x = u := by rw [ha x (by simp), Tr.upAt, if_pos rfl]; rfl
    have sub : Tr.way (.nd l x r) key = x :: (if key < x then l.way key else if key > x then r.way key else []) := by
      simp only [Tr.way, Tr.path, List.map_cons, Tr.top]
      split
      · rfl
      · split <;> rfl
    rw [sub]
    refine ⟨top, ?_⟩
    split
    · refine way_chain key l (.int x) u1 fun k hk => ?_
      have kx : k ≠ x := fun e => n3 k hk x (by simp) (by rw [e])
      obtain ⟨v, e, _⟩ := upAt_some (.int x) l k hk n1
      rw [ha k (by simp [hk]), Tr.upAt, if_neg kx, e]; rfl
    · split
      · refine way_chain key r (.int x) u3 fun k hk => ?_
        have kx : k ≠ x := fun e => n2 (by rw [← e]; exact hk)
        have kl : k ∉ l.keys := fun h => n3 k h k (by simp [hk]) rfl
        rw [ha k (by simp [hk]), Tr.upAt, if_neg kx, upAt_none _ l k kl]; rfl
      · trivial
theorem way_nodup (key : Int) : ∀ (s : Tr), s.keys.Nodup → (s.way key).Nodup
  | .nil, _ => .nil
  | .nd l x r, hd => by
    simp only [Tr.keys] at hd
    rw [List.nodup_append, List.nodup_cons] at hd
    obtain ⟨n1, ⟨n2, n4⟩, n3⟩ := hd
    have sub : Tr.way (.nd l x r) key = x :: (if key < x then l.way key else if key > x then r.way key else []) := by
      simp only [Tr.way, Tr.path, List.map_cons, Tr.top]
      split
      · rfl
      · split <;> rfl
    rw [sub, List.nodup_cons]
    split
    · exact ⟨fun h => n3 x (way_mem h) x (by simp) rfl, way_nodup key l n1⟩
    · split
      · exact ⟨fun h => n2 (way_mem h), way_nodup key r n4⟩
      · simp
theorem pno_at {k i : Int} : ∀ {P : List (List Int)} {n : Nat}, pno n P k = some i → ∃ j c, i = ((n + j : Nat) : Int) ∧ P[j]? = some c ∧ k ∈ c
  | [], _, h => by cases h
  | c :: P, n, h => by
    rw [pno] at h
    cases e : pno (n + 1) P k with
    | some z =>
      rw [e] at h
      obtain ⟨j, d, e1, e2, e3⟩ := pno_at e
      refine ⟨j + 1, d, ?_, by simpa using e2, e3⟩
      injection h with h
      rw [← h, e1]; omega
    | none =>
      rw [e, Option.none_or] at h
      split at h
      · rename_i hc
        injection h with h
        exact ⟨0, c, by rw [← h]; rfl, rfl, hc⟩
      · cases h
theorem pno_uniq {k : Int} : ∀ {P : List (List Int)} {n j : Nat} {c : List Int}, P.flatten.Nodup → P[j]? = some c → k ∈ c → pno n P k = some ((n + j : Nat) : Int)
  | [], _, _, _, _, h, _ => by simp at h
  | d :: P, n, j, c, hd, h, hk => by
    rw [List.flatten_cons, List.nodup_append] at hd
    obtain ⟨d1, d2, d3⟩ := hd
    rw [pno]
    cases j with
    | zero =>
      have e : d = c := by simpa using h
      subst e
      have : pno (n + 1) P k = none := by
        cases e : pno (n + 1) P k with
        | none => rfl
        | some z =>
          obtain ⟨j, c', _, e2, e3⟩ := pno_at e
          exact absurd rfl (d3 k hk k (List.mem_flatten.mpr ⟨c', List.mem_of_getElem? e2, e3⟩))
      rw [this, if_pos hk]; rfl
    | succ j =>
      have h' : P[j]? = some c := by simpa using h
      rw [pno_uniq (n := n + 1) d2 h' hk, Option.some_or]
      congr 2; omega
/-- in a joined layout the way turns as often as it meets pages -/
theorem turns_met {t : Tr} {P : List (List Int)} {key : Int} (hu : t.keys.Pairwise (· < ·)) (hn : P.flatten.Nodup) (hk : ∀ k ∈ t.keys, k ∈ P.flatten) (hh : ∀ c ∈ P, (headsOf t.above c).length ≤ 1) :
    chg none ((t.way key).map (pg P)) = (dd [] ((t.way key).map (pg P))).length := by
  have hd : t.keys.Nodup := hu.imp fun h => Int.ne_of_lt h
  rw [← starts_len]
  generalize eL : starts (pg P) none (t.way key) = L
  have Ls : L.Sublist (t.way key) := eL ▸ starts_sub _ _ _
  have Lm : ∀ k ∈ L, k ∈ t.keys := fun k h => way_mem (Ls.subset h)
  have Ln : L.Nodup := (way_nodup key t hd).sublist Ls
  have Lh : ∀ k ∈ L, t.above k = .non ∨ ∃ x : Int, t.above k = .int x ∧ pg P x ≠ pg P k := by
    have := starts_head (t := t) (f := pg P) (t.way key) .non none (way_chain key t .non hu fun k hk => rfl) (fun k e => by cases e) fun _ => rfl
    rw [eL] at this
    exact this
  have at_ : ∀ k ∈ t.keys, ∃ j c, pg P k = (j : Nat) ∧ P[j]? = some c ∧ k ∈ c := by
    intro k h
    obtain ⟨i, e⟩ := pno_some (n := 0) (hk k h)
    obtain ⟨j, c, e1, e2, e3⟩ := pno_at e
    exact ⟨j, c, by rw [pg, e, e1]; simp, e2, e3⟩
  have hHead : ∀ k ∈ L, ∀ c ∈ P, k ∈ c → (∀ x ∈ c, pg P x = pg P k) → k ∈ headsOf t.above c := by
    intro k h c hc hkc hx
    refine List.mem_filter.mpr ⟨hkc, ?_⟩
    rcases Lh k h with e | ⟨x, e, ne⟩
    · rw [e]; rfl
    · rw [e]
      simp only [isIn, Bool.not_eq_true', decide_eq_false_iff_not]
      exact fun z => ne (hx x z)
  have nod : (L.map (pg P)).Nodup := by
    rw [List.nodup_iff_pairwise_ne, List.pairwise_map]
    refine (List.nodup_iff_pairwise_ne.mp Ln).imp_of_mem fun {a b} ha hb ne e => ne ?_
    obtain ⟨j, c, e1, e2, e3⟩ := at_ a (Lm a ha)
    obtain ⟨j', c', e1', e2', e3'⟩ := at_ b (Lm b hb)
    have jj : j = j' := by rw [e1, e1'] at e; omega
    subst jj
    rw [e2] at e2'
    injection e2' with e2'
    subst e2'
    have hc : c ∈ P := List.mem_of_getElem? e2
    have hx : ∀ x ∈ c, pg P x = j := fun x hx => by rw [pg, pno_uniq hn e2 hx]; simp
    have h1 := hHead a ha c hc e3 (fun x h => by rw [hx x h, e1])
    have h2 := hHead b hb c hc e3' (fun x h => by rw [hx x h, e1'])
    have := hh c hc
    generalize headsOf t.above c = l at *
    match l, this with
    | [z], _ =>
      rw [List.mem_singleton] at h1 h2
      rw [h1, h2]
    | [], _ => cases h1
    | _ :: _ :: _, w => simp at w
  have pm : (L.map (pg P)).Perm (dd [] ((t.way key).map (pg P))) := by
    refine (List.perm_ext_iff_of_nodup nod (dd_nodup _ _ .nil)).mpr fun y => ?_
    rw [dd_mem]
    constructor
    · intro h
      obtain ⟨k, hk, e⟩ := List.mem_map.mp h
      exact .inr (List.mem_map.mpr ⟨k, Ls.subset hk, e⟩)
    · rintro (h | h)
      · cases h
      · rcases starts_mem (pg P) y _ none h with e | e
        · cases e
        · rw [eL] at e; exact e
  rw [← pm.length_eq, List.length_map]

end L3

set_option Elab.async false
set_option linter.all false
set_option maxRecDepth 100000
namespace L3
open PySem PySem.Spec PyProof.Rows L2
local macro_rules | `(tactic| walk_at "d") => `(tactic| first | assumption | exact up_same | exact dr_fd _ _ | exact dr_wd _ _ | exact dr_ref (by assumption) | exact dr_ref up_same | exact keyOf_int | (exact (rfl : isNop _ = false)) | exact keyOf_str | exact tyOf_fl | exact tyOf_int | exact tyOf_tup | exact tyOf_bl | exact tyOf_ref (by assumption) | exact tyOf_ref up_same | (intro z; cases z))
local macro_rules | `(tactic| walk_at "w") => `(tactic| try simp -implicitDefEqProofs (disch := walk_at "d") only [↓wpE, ↓wpA, ↓wpB, ↓wpT, ↓wpTs, ↓wpI, ↓wpS, ↓wpSs, ↓optW_some, ↓w_lk0, ↓w_lkS, ↓w_bs, ↓w_bl0, ↓w_bl1, ↓w_k1, ↓w_kS, ↓w_b0, ↓w_b1, ↓w_b2, ↓w_b3, ↓w_b4, ↓w_b5, ↓w_b6, ↓w_b7, ↓w_b8, ↓w_b9, ↓w_b10, ↓w_b11, ↓w_b12, ↓w_b13, ↓w_b14, ↓w_b15, ↓w_b16, ↓w_b17, ↓w_b18, ↓w_b19, ↓w_b20, ↓w_b21, ↓w_b22, ↓w_b23, ↓w_b24, ↓w_b25, ↓alc_fz, ↓alc_lv, ↓w_dictZ, ↓w_eqNN, ↓w_add, ↓w_addS, ↓w_addL, ↓w_addT, ↓w_sub, ↓w_mul, ↓w_fdiv, ↓w_mod, ↓w_pow, ↓w_shl, ↓w_shr, ↓w_band, ↓w_eqI, ↓w_neI, ↓w_eqS, ↓w_neS, ↓w_lt, ↓w_le, ↓w_gt, ↓w_ge, ↓w_is, ↓w_isnot, ↓w_isB, ↓w_isnotB, ↓w_neF0, ↓w_eqF0, ↓w_neI_L, ↓w_eqI_L, ↓w_eqLL, ↓w_neDL, ↓w_eqDL, ↓w_idxR, ↓w_slcF, ↓w_slcT, ↓w_insert, ↓w_lrange, ↓w_revF, ↓w_revR, ↓w_tmul, ↓w_ok_indexF, ↓w_inI, ↓w_notinI, ↓w_eqEE, ↓w_neEE, ↓w_eqE0, ↓w_neE0, ↓w_eqRE, ↓w_neRE, ↓w_maxF, ↓w_minF, ↓w_eqB, ↓w_neB, ↓w_sortPF, ↓w_allF, ↓w_anyF, ↓w_slcR, ↓w_oi1, ↓w_oi2, ↓w_idxD, ↓w_inD, ↓w_notinD, ↓w_okD, ↓w_okDF, ↓w_okU, ↓w_get1N, ↓w_get2N, ↓w_get1, ↓w_get2, ↓w_upd, ↓w_putD, ↓w_frzD', ↓alcD_fz, ↓alcD_lv, ↓w_rep, ↓w_sortR, ↓w_sortF, ↓w_sumF, ↓w_idxF, ↓w_idxT, ↓w_idxS, ↓w_lenR, ↓w_lenF, ↓w_lenT, ↓w_lenS, ↓w_abs, ↓w_max2, ↓w_min2, ↓w_listF, ↓w_listT, ↓w_listR, ↓w_tupleF, ↓w_int, ↓w_intB, ↓w_isi, ↓w_ok_append, ↓w_ok_extend, ↓w_ok_pop, ↓w_ok_insert, ↓w_ok_reverse, ↓w_ok_clear, ↓w_ok_index, ↓w_ok_count, ↓w_append, ↓w_extend, ↓w_reverse, ↓w_clear, ↓w_frz, ↓w_set0, ↓w_set1, ↓w_set2, ↓w_at0, ↓w_at1, ↓w_at2, ↓w_at3, ↓w_blOf, ↓w_intOf, ↓w_refOf, ↓w_cellO, ↓wdK_wd, ↓w_lenDW, lockC_dic, lockC_lst, isN_wd, ↓w_truB, ↓w_truI, ↓w_truF, ↓w_truT, ↓w_truN, ↓optI, ↓isNop, optW_some, isN_non, isN_int, isN_tup, isN_fl, isN_ref, lv_fl, ls_fl, sq_fl, sq_tup, ls_sc, sq_sc, lv_up, ls_up, sq_up, tyOf_fl, tyOf_int, tyOf_tup, tyOf_bl, tyOf_ref, Option.bind_some, List.length_cons, List.length_nil, reduceIte, Bool.false_eq_true, if_true, if_false, List.map_cons, List.map_nil, List.replicate, List.cons_append, List.nil_append, Nat.reduceSub, Nat.reduceAdd, Nat.reduceLeDiff, Int.reduceLT, Int.reduceLE, Int.reduceNeg, Int.reduceToNat, Int.reducePow, and_true, true_and, or_true, true_or, decide_eq_true_eq, Bool.not_eq_true', decide_eq_false_iff_not, up_up, decide_true, decide_false, not_true_eq_false, not_false_eq_true, Bool.not_true, Bool.not_false, List.any_cons, List.any_nil, Bool.or_false, Bool.or_true, Bool.true_or, Bool.false_or, List.mem_cons, List.not_mem_nil, or_false, false_or, reduceCtorEq, sq_ref, lv_ref, ls_ref])
local macro_rules | `(tactic| walk_at "e") => `(tactic| simp only [List.map_cons, List.map_nil, List.replicate, List.cons_append, List.nil_append, Nat.reduceSub])
local macro_rules | `(tactic| walk_at "i") => `(tactic| try simp only [Bool.true_eq_false, Bool.false_eq_true, Bool.not_true, Bool.not_false, Bool.and_true, Bool.true_and, Bool.and_false, Bool.false_and, if_false, if_true, reduceIte, decide_true, decide_false, not_true_eq_false, not_false_eq_true, eq_self])
/-- how many pages the way to a key meets -/
def metN (t : Tr) (P : List (List Int)) (key : Int) : Int := (dd [] ((t.way key).map (pg P))).length
theorem met_le (t : Tr) (P : List (List Int)) (key : Int) : (dd [] ((t.way key).map (pg P))).length ≤ t.size := by
  have := dd_len ((t.way key).map (pg P)) []
  rw [List.length_map] at this
  have := way_len t key
  simp only [List.length_nil] at *
  omega
theorem zip_sum (m : Int → Int) : ∀ (ks ws : List Int), (ks.zip ws).map (fun z => z.2 * m z.1) = (ws.zip (ks.map m)).map fun z => z.1 * z.2
  | [], ws => by cases ws <;> rfl
  | k :: ks, [] => rfl
  | k :: ks, w :: ws => by simp [zip_sum m ks ws]
section
variable {F : Fs} {n : Nat} {t : Tr} {P : List (List Int)} {h : Hq} {Q : QV} {E : QE}
theorem worst_okV (hW : F f_worst = some d_worst) (hKo : F f_keys_of = some d_keys_of) (hM : F f_pages_met = some d_pages_met) (hN : HasN F) {x : Val} (hx : LayV h x P) (hz : t.size ≤ 60) (hl : ∀ c ∈ P, c.length ≤ 1000) (hp : P.length ≤ 500) (hk : ∀ k ∈ t.keys, k ∈ P.flatten)
    (k : Q (.int (maxL (0 :: t.keys.map (metN t P)))) h) : CN F (n + 65) f_worst [t.tv, x] h Q E := by
  refine CN_go hW rfl ?_
  unfold d_worst
  walk_at "e"
  walk_at "w"
  refine keys_of_ok hKo t (n + 64) (by have := t.ht_le; omega) (by omega) ?_
  walk_at "w"
  have kl := t.keys_len
  refine comp_map' Val.int t.keys (fun j => Val.int (metN t P j)) (by omega) (fun p acc hp => ⟨trivial, fun y hy => ⟨_, rfl, fun K q => ?_⟩⟩) ?_
  · simp only [wipe3, List.set]
    unfold e_worst_1
    walk_at "w"
    refine met_okV (n := n + 60) hM hN (hx.grow (Grow.up hp)) (by omega) hl (by assumption) hk ?_
    walk_at "w"
    rw [List.length_map]
    exact q
  · rw [map_int, alc_fz]
    walk_at "w"
    refine ⟨by simp only [List.length_map]; omega, ?_⟩
    show prW (bltR .max true [.fl ((0 :: t.keys.map (metN t P)).map .int)] h) Q
    rw [w_maxF]
    exact ⟨by simp, k⟩
theorem worst_ok (hW : F f_worst = some d_worst) (hKo : F f_keys_of = some d_keys_of) (hM : F f_pages_met = some d_pages_met) (hN : HasN F) (hz : t.size ≤ 60) (hl : ∀ c ∈ P, c.length ≤ 1000) (hp : P.length ≤ 500) (hk : ∀ k ∈ t.keys, k ∈ P.flatten)
    (k : Q (.int (maxL (0 :: t.keys.map (metN t P)))) h) : CN F (n + 65) f_worst [t.tv, .fl (P.map Enc.val)] h Q E := worst_okV hW hKo hM hN (layV_fl h P) hz hl hp hk k
theorem cost_okV (hC : F f_cost = some d_cost) (hKo : F f_keys_of = some d_keys_of) (hM : F f_pages_met = some d_pages_met) (hN : HasN F) {x : Val} (hx : LayV h x P) (hz : t.size ≤ 60) (hl : ∀ c ∈ P, c.length ≤ 1000) (hp : P.length ≤ 500) (hk : ∀ k ∈ t.keys, k ∈ P.flatten) {ws : List Int}
    (k : Q (.int (((ws.zip (t.keys.map (metN t P))).map fun z => z.1 * z.2).sum)) h) : CN F (n + 65) f_cost [t.tv, x, .fl (ws.map .int)] h Q E := by
  refine CN_go hC rfl ?_
  unfold d_cost
  walk_at "e"
  walk_at "w"
  refine keys_of_ok hKo t (n + 64) (by have := t.ht_le; omega) (by omega) ?_
  walk_at "w"
  rw [zipL_map]
  have kl := t.keys_len
  refine comp_map' (fun z : Int × Int => .tup [.int z.1, .int z.2]) (t.keys.zip ws) (fun z => Val.int (z.2 * metN t P z.1)) (by rw [List.length_zip]; omega) (fun p acc hp => ⟨trivial, fun y hy => ⟨_, rfl, fun K q => ?_⟩⟩) ?_
  · simp only [wipe3, List.set]
    unfold e_cost_1
    walk_at "w"
    refine met_okV (n := n + 60) hM hN (hx.grow (Grow.up hp)) (by omega) hl (by assumption) hk ?_
    walk_at "w"
    rw [List.length_map]
    have := met_le t P y.1
    exact ⟨.inr (.inl ⟨by omega, by omega⟩), q⟩
  · rw [map_int, alc_fz, zip_sum]
    walk_at "w"
    exact k
theorem cost_ok (hC : F f_cost = some d_cost) (hKo : F f_keys_of = some d_keys_of) (hM : F f_pages_met = some d_pages_met) (hN : HasN F) (hz : t.size ≤ 60) (hl : ∀ c ∈ P, c.length ≤ 1000) (hp : P.length ≤ 500) (hk : ∀ k ∈ t.keys, k ∈ P.flatten) {ws : List Int}
    (k : Q (.int (((ws.zip (t.keys.map (metN t P))).map fun z => z.1 * z.2).sum)) h) : CN F (n + 65) f_cost [t.tv, .fl (P.map Enc.val), .fl (ws.map .int)] h Q E := cost_okV hC hKo hM hN (layV_fl h P) hz hl hp hk k
end

end L3

set_option Elab.async false
set_option linter.all false
set_option maxRecDepth 100000
namespace L3
open PySem PySem.Spec PyProof.Rows L2
local macro_rules | `(tactic| walk_at "d") => `(tactic| first | assumption | exact up_same | exact dr_fd _ _ | exact dr_wd _ _ | exact dr_ref (by assumption) | exact dr_ref up_same | exact keyOf_int | (exact (rfl : isNop _ = false)) | exact keyOf_str | exact tyOf_fl | exact tyOf_int | exact tyOf_tup | exact tyOf_bl | exact tyOf_ref (by assumption) | exact tyOf_ref up_same | (intro z; cases z))
local macro_rules | `(tactic| walk_at "w") => `(tactic| try simp -implicitDefEqProofs (disch := walk_at "d") only [↓wpE, ↓wpA, ↓wpB, ↓wpT, ↓wpTs, ↓wpI, ↓wpS, ↓wpSs, ↓optW_some, ↓w_lk0, ↓w_lkS, ↓w_bs, ↓w_bl0, ↓w_bl1, ↓w_k1, ↓w_kS, ↓w_b0, ↓w_b1, ↓w_b2, ↓w_b3, ↓w_b4, ↓w_b5, ↓w_b6, ↓w_b7, ↓w_b8, ↓w_b9, ↓w_b10, ↓w_b11, ↓w_b12, ↓w_b13, ↓w_b14, ↓w_b15, ↓w_b16, ↓w_b17, ↓w_b18, ↓w_b19, ↓w_b20, ↓w_b21, ↓w_b22, ↓w_b23, ↓w_b24, ↓w_b25, ↓alc_fz, ↓alc_lv, ↓w_dictZ, ↓w_eqNN, ↓w_add, ↓w_addS, ↓w_addL, ↓w_addT, ↓w_sub, ↓w_mul, ↓w_fdiv, ↓w_mod, ↓w_pow, ↓w_shl, ↓w_shr, ↓w_band, ↓w_eqI, ↓w_neI, ↓w_eqS, ↓w_neS, ↓w_lt, ↓w_le, ↓w_gt, ↓w_ge, ↓w_is, ↓w_isnot, ↓w_isB, ↓w_isnotB, ↓w_neF0, ↓w_eqF0, ↓w_neI_L, ↓w_eqI_L, ↓w_eqLL, ↓w_neDL, ↓w_eqDL, ↓w_idxR, ↓w_slcF, ↓w_slcT, ↓w_insert, ↓w_lrange, ↓w_revF, ↓w_revR, ↓w_tmul, ↓w_ok_indexF, ↓w_inI, ↓w_notinI, ↓w_eqEE, ↓w_neEE, ↓w_eqE0, ↓w_neE0, ↓w_eqRE, ↓w_neRE, ↓w_maxF, ↓w_minF, ↓w_eqB, ↓w_neB, ↓w_sortPF, ↓w_allF, ↓w_anyF, ↓w_slcR, ↓w_oi1, ↓w_oi2, ↓w_idxD, ↓w_inD, ↓w_notinD, ↓w_okD, ↓w_okDF, ↓w_okU, ↓w_get1N, ↓w_get2N, ↓w_get1, ↓w_get2, ↓w_upd, ↓w_putD, ↓w_frzD', ↓alcD_fz, ↓alcD_lv, ↓w_rep, ↓w_sortR, ↓w_sortF, ↓w_sumF, ↓w_idxF, ↓w_idxT, ↓w_idxS, ↓w_lenR, ↓w_lenF, ↓w_lenT, ↓w_lenS, ↓w_abs, ↓w_max2, ↓w_min2, ↓w_listF, ↓w_listT, ↓w_listR, ↓w_tupleF, ↓w_int, ↓w_intB, ↓w_isi, ↓w_ok_append, ↓w_ok_extend, ↓w_ok_pop, ↓w_ok_insert, ↓w_ok_reverse, ↓w_ok_clear, ↓w_ok_index, ↓w_ok_count, ↓w_append, ↓w_extend, ↓w_reverse, ↓w_clear, ↓w_frz, ↓w_set0, ↓w_set1, ↓w_set2, ↓w_at0, ↓w_at1, ↓w_at2, ↓w_at3, ↓w_blOf, ↓w_intOf, ↓w_refOf, ↓w_cellO, ↓wdK_wd, ↓w_lenDW, lockC_dic, lockC_lst, isN_wd, ↓w_truB, ↓w_truI, ↓w_truF, ↓w_truT, ↓w_truN, ↓optI, ↓isNop, optW_some, isN_non, isN_int, isN_tup, isN_fl, isN_ref, lv_fl, ls_fl, sq_fl, sq_tup, ls_sc, sq_sc, lv_up, ls_up, sq_up, tyOf_fl, tyOf_int, tyOf_tup, tyOf_bl, tyOf_ref, Option.bind_some, List.length_cons, List.length_nil, reduceIte, Bool.false_eq_true, if_true, if_false, List.map_cons, List.map_nil, List.replicate, List.cons_append, List.nil_append, Nat.reduceSub, Nat.reduceAdd, Nat.reduceLeDiff, Int.reduceLT, Int.reduceLE, Int.reduceNeg, Int.reduceToNat, Int.reducePow, and_true, true_and, or_true, true_or, decide_eq_true_eq, Bool.not_eq_true', decide_eq_false_iff_not, up_up, decide_true, decide_false, not_true_eq_false, not_false_eq_true, Bool.not_true, Bool.not_false, List.any_cons, List.any_nil, Bool.or_false, Bool.or_true, Bool.true_or, Bool.false_or, List.mem_cons, List.not_mem_nil, or_false, false_or, reduceCtorEq, sq_ref, lv_ref, ls_ref])
local macro_rules | `(tactic| walk_at "e") => `(tactic| simp only [List.map_cons, List.map_nil, List.replicate, List.cons_append, List.nil_append, Nat.reduceSub])
local macro_rules | `(tactic| walk_at "i") => `(tactic| try simp only [Bool.true_eq_false, Bool.false_eq_true, Bool.not_true, Bool.not_false, Bool.and_true, Bool.true_and, Bool.and_false, Bool.false_and, if_false, if_true, reduceIte, decide_true, decide_false, not_true_eq_false, not_false_eq_true, eq_self])
/-! ### what is amiss with a layout -/
def vStrange (n : Nat) (k : Int) : Val := .tup [.str ⟨#[115, 116, 114, 97, 110, 103, 101]⟩, .int (n : Nat), .int k]
def vTwice (n : Nat) (k : Int) : Val := .tup [.str ⟨#[116, 119, 105, 99, 101]⟩, .int (n : Nat), .int k]
def vRoom (n : Nat) : Val := .tup [.str ⟨#[114, 111, 111, 109]⟩, .int (n : Nat)]
def vLacks (k : Int) : Val := .tup [.str ⟨#[108, 97, 99, 107, 115]⟩, .int k]
def oddL (ks : List Int) (n : Nat) : List Int → List Int → Val ⊕ List Int
  | ahead, [] => .inr ahead
  | ahead, k :: c => if k ∉ ks then .inl (vStrange n k) else if k ∈ ahead then .inl (vTwice n k) else oddL ks n (ahead ++ [k]) c
def oddP (ks : List Int) : Nat → List Int → List (List Int) → Val ⊕ List Int
  | _, ahead, [] => .inr ahead
  | n, ahead, c :: P => match oddL ks n ahead c with
    | .inl v => .inl v
    | .inr a => oddP ks (n + 1) a P
def roomAt (room : Int) (r : Val) : Nat → List (List Int) → Val
  | _, [] => r
  | n, c :: P => if room < c.length then vRoom n else roomAt room r (n + 1) P
def lackAt (ahead : List Int) : List Int → Val
  | [] => .non
  | k :: ks => if k ∈ ahead then lackAt ahead ks else vLacks k
def faultV (ks : List Int) (room : Int) (P : List (List Int)) : Val := match oddP ks 0 [] P with
  | .inl v => v
  | .inr _ => roomAt room (lackAt P.flatten ks) 0 P
theorem oddL_inr {ks : List Int} {n : Nat} : ∀ {c ahead a : List Int}, oddL ks n ahead c = .inr a → a = ahead ++ c
  | [], ahead, a, h => by unfold oddL at h; injection h with h; rw [← h]; simp
  | k :: c, ahead, a, h => by
    unfold oddL at h
    split at h
    · cases h
    · split at h
      · cases h
      · rw [oddL_inr h]; simp
theorem oddP_inr {ks : List Int} : ∀ {P : List (List Int)} {n : Nat} {ahead a : List Int}, oddP ks n ahead P = .inr a → a = ahead ++ P.flatten
  | [], n, ahead, a, h => by unfold oddP at h; injection h with h; rw [← h]; simp
  | c :: P, n, ahead, a, h => by
    unfold oddP at h
    split at h
    · cases h
    · rename_i a' e
      rw [oddP_inr h, oddL_inr e]; simp
theorem oddL_congr {ks ks' : List Int} (hk : ∀ k, k ∈ ks ↔ k ∈ ks') (n : Nat) : ∀ (c ahead : List Int), oddL ks n ahead c = oddL ks' n ahead c
  | [], ahead => rfl
  | k :: c, ahead => by
    unfold oddL
    rw [oddL_congr hk n c]
    simp only [hk k]
theorem oddP_congr {ks ks' : List Int} (hk : ∀ k, k ∈ ks ↔ k ∈ ks') : ∀ (P : List (List Int)) (n : Nat) (ahead : List Int), oddP ks n ahead P = oddP ks' n ahead P
  | [], n, ahead => rfl
  | c :: P, n, ahead => by
    unfold oddP
    rw [oddL_congr hk]
    split
    · rfl
    · exact oddP_congr hk P (n + 1) _
theorem oddL_form {ks : List Int} {n : Nat} {v : Val} : ∀ {c ahead : List Int}, oddL ks n ahead c = .inl v → ∃ (s : Str) (a b : Int), v = .tup [.str s, .int a, .int b] ∧ PyData.strOk s = true
  | [], ahead, h => by cases h
  | k :: c, ahead, h => by
    unfold oddL at h
    split at h
    · injection h with h; exact ⟨_, _, _, h.symm, by simp [PyData.strOk]⟩
    · split at h
      · injection h with h; exact ⟨_, _, _, h.symm, by simp [PyData.strOk]⟩
      · exact oddL_form h
theorem odd_form {ks : List Int} {v : Val} : ∀ {P : List (List Int)} {n : Nat} {ahead : List Int}, oddP ks n ahead P = .inl v → ∃ (s : Str) (a b : Int), v = .tup [.str s, .int a, .int b] ∧ PyData.strOk s = true
  | [], n, ahead, h => by cases h
  | c :: P, n, ahead, h => by
    unfold oddP at h
    split at h
    · rename_i w e; injection h with h; rw [← h]; exact oddL_form e
    · exact odd_form h
theorem pno_is (n : Nat) (P : List (List Int)) (k : Int) : (pno n P k).isSome = decide (k ∈ P.flatten) := by
  by_cases h : k ∈ P.flatten
  · obtain ⟨i, e⟩ := pno_some (n := n) h
    rw [e]; simp [h]
  · cases e : pno n P k with
    | none => simp [h]
    | some i =>
      obtain ⟨j, c, _, e2, e3⟩ := pno_at e
      exact absurd (List.mem_flatten.mpr ⟨c, List.mem_of_getElem? e2, e3⟩) h
theorem w_inDT {x : Int} {L : List Int} {p : Addr} {h : Hq} {Q : QV} (e : h p = some (.dic (dTrue L))) : prW (cmpR .isin (.int x) (.ref p) h) Q = Q (.bl (decide (x ∈ L))) h := by
  rw [w_inD (dr_ref e) keyOf_int, dTrue_dg]
section
variable {F : Fs} {n : Nat} {t : Tr} {P : List (List Int)} {h : Hq} {Q : QV} {E : QE}
theorem odd_okV (hO : F f_odd_key = some d_odd_key) (hKo : F f_keys_of = some d_keys_of) {x : Val} (hx : LayV h x P) (hz : t.size ≤ 60) (hl : ∀ c ∈ P, c.length ≤ 1000) (hp : P.length ≤ 500)
    (kk : Q (match oddP t.keys 0 [] P with | .inl v => v | .inr _ => .non) h) : CN F (n + 65) f_odd_key [t.tv, x] h Q E := by
  obtain ⟨ys, ep, hy0⟩ := hx
  subst ep
  refine CN_go hO rfl ?_
  unfold d_odd_key
  walk_at "e"
  walk_at "w"
  refine keys_of_ok hKo t (n + 64) (by have := t.ht_le; omega) (by omega) ?_
  walk_at "w"
  intro p hnp
  have gr : ∀ c, Grow h (up h p c) := fun c => Grow.up hnp
  rw [(hy0 _ (gr _)).1]
  walk_at "w"
  refine for_enum (moS F (n + 64) b_odd_key_2) (fun pre ρ h' => ∃ (ahead : List Int) (u v w : Option Val), ahead.length ≤ pre.length * 1000 ∧ (∀ post, ys = pre ++ post → oddP t.keys 0 [] (ys.map (·.1)) = oddP t.keys pre.length ahead (post.map (·.1))) ∧ h' = up h p (.dic (dTrue ahead)) ∧ ρ = [some t.tv, some x, some (.fl (t.keys.map .int)), some (.ref p), u, v, w]) (·.2) ys ?_ ?_ ?_
  · intro pre c post ρ h' ey ⟨ahead, u, v, w, al, g, e1, e2⟩
    subst e1 e2
    have pl := congrArg List.length ey
    simp only [List.length_append, List.length_cons] at pl
    have cm : c ∈ ys := by rw [ey]; simp
    have lc := hl c.1 (List.mem_map.mpr ⟨c, cm, rfl⟩)
    rw [List.length_map] at hp
    refine ⟨(hy0 _ (gr _)).1, _, rfl, ?_⟩
    unfold b_odd_key_2
    simp only [List.set]
    walk_at "w"
    rw [(hy0 _ (gr _)).2 c cm]
    walk_at "w"
    have g1 := g _ ey
    rw [List.map_cons, oddP] at g1
    refine for_map (moS F (n + 64) b_odd_key_1) (fun qre ρ h' => ∃ (a2 : List Int) (w : Option Val), a2.length ≤ pre.length * 1000 + qre.length ∧ (∀ qost, c.1 = qre ++ qost → oddL t.keys pre.length ahead c.1 = oddL t.keys pre.length a2 qost) ∧ h' = up h p (.dic (dTrue a2)) ∧ ρ = [some t.tv, some x, some (.fl (t.keys.map .int)), some (.ref p), some (.int (pre.length : Nat)), some c.2, w]) Val.int c.1 ?_ ?_ ?_
    · intro qre y qost ρ h' ey ⟨a2, w, al2, g2, e1, e2⟩
      subst e1 e2
      have ql := congrArg List.length ey
      simp only [List.length_append, List.length_cons] at ql
      have g3 := g2 _ ey
      rw [oddL] at g3
      refine ⟨(hy0 _ (gr _)).2 c cm, _, rfl, ?_⟩
      unfold b_odd_key_1
      simp only [List.set]
      walk_at "w"
      rw [dTrue_dg, er_up hnp]
      by_cases hy : y ∈ t.keys
      · rw [if_neg (by simp [hy])] at g3 ⊢
        by_cases ha : y ∈ a2
        · rw [if_pos ha] at g3
          rw [if_pos (by simp [ha])]
          rw [g3] at g1
          rw [g1] at kk
          exact kk
        · rw [if_neg ha] at g3
          rw [if_neg (by simp [ha]), dTrue_dp ha]
          refine ⟨by unfold dTrue; rw [List.length_map]; omega, _, _, ?_, fun qost' e => ?_, rfl, rfl⟩
          · simp only [List.length_append, List.length_cons, List.length_nil]; omega
          · rw [List.append_assoc, ey] at e
            have := List.append_cancel_left e
            injection this with _ this
            subst this
            exact g3
      · rw [if_pos hy] at g3 ⊢
        rw [g3] at g1
        rw [g1] at kk
        exact kk
    · intro ρ h' ⟨a2, w, al2, g2, e1, e2⟩
      subst e1 e2
      have g3 := g2 [] (by simp)
      rw [oddL] at g3
      rw [g3] at g1
      refine ⟨(hy0 _ (gr _)).2 c cm, a2, _, _, _, ?_, fun post' e => ?_, rfl, rfl⟩
      · rw [List.length_append]; simp only [List.length_cons, List.length_nil]; omega
      · rw [List.append_assoc, ey] at e
        have := List.append_cancel_left e
        injection this with _ this
        subst this
        rw [List.length_append]
        exact g1
    · exact ⟨ahead, w, by simp; exact al, fun qost e => by rw [e]; rfl, rfl, rfl⟩
  · intro ρ h' ⟨ahead, u, v, w, al, g, e1, e2⟩
    subst e1 e2
    refine ⟨(hy0 _ (gr _)).1, ?_⟩
    unfold c_odd_key_1
    walk_at "w"
    have := g [] (by simp)
    rw [List.map_nil, oddP] at this
    rw [this] at kk
    rw [er_up hnp]
    exact kk
  · exact ⟨[], none, none, none, by simp, fun post e => by rw [e]; rfl, rfl, rfl⟩
theorem odd_ok (hO : F f_odd_key = some d_odd_key) (hKo : F f_keys_of = some d_keys_of) (hz : t.size ≤ 60) (hl : ∀ c ∈ P, c.length ≤ 1000) (hp : P.length ≤ 500)
    (kk : Q (match oddP t.keys 0 [] P with | .inl v => v | .inr _ => .non) h) : CN F (n + 65) f_odd_key [t.tv, .fl (P.map Enc.val)] h Q E := odd_okV hO hKo (layV_fl h P) hz hl hp kk
theorem fault_okV (hFa : F f_fault = some d_fault) (hO : F f_odd_key = some d_odd_key) (hKo : F f_keys_of = some d_keys_of) (hNo : F f_numbers_of = some d_numbers_of) {room : Int} {x : Val} (hx : LayV h x P) (hz : t.size ≤ 60) (hl : ∀ c ∈ P, c.length ≤ 1000) (hp : P.length ≤ 500)
    (kk : Q (faultV t.keys room P) h) : CN F (n + 66) f_fault [t.tv, .int room, x] h Q E := by
  refine CN_go hFa rfl ?_
  unfold d_fault
  walk_at "e"
  walk_at "w"
  refine odd_okV hO hKo hx hz hl hp ?_
  unfold faultV at kk
  cases ho : oddP t.keys 0 [] P with
  | inl v =>
    rw [ho] at kk
    obtain ⟨a, b, c, e, _⟩ := odd_form ho
    subst e
    walk_at "w"
    exact kk
  | inr a =>
    rw [ho] at kk
    walk_at "w"
    have hx0 := hx
    obtain ⟨ys, ep, hy0⟩ := hx
    subst ep
    rw [(hy0 _ .refl).1]
    walk_at "w"
    refine for_enum (moS F (n + 65) b_fault_1) (fun pre ρ h' => (∀ post, ys = pre ++ post → roomAt room (lackAt (ys.map (·.1)).flatten t.keys) 0 (ys.map (·.1)) = roomAt room (lackAt (ys.map (·.1)).flatten t.keys) pre.length (post.map (·.1))) ∧ ∃ (u v : Option Val), h' = h ∧ ρ = [some t.tv, some (.int room), some x, some .non, u, v, none, none]) (·.2) ys ?_ ?_ ?_
    · intro pre c post ρ h' ey ⟨pp, u, v, e1, e2⟩
      subst e1 e2
      have pp1 := pp _ ey
      have cm : c ∈ ys := by rw [ey]; simp
      rw [List.map_cons, roomAt] at pp1
      refine ⟨(hy0 _ .refl).1, _, rfl, ?_⟩
      unfold b_fault_1
      simp only [List.set]
      walk_at "w"
      rw [w_lenQ ((hy0 _ .refl).2 c cm)]
      walk_at "w"
      rw [List.length_map]
      by_cases hc : room < c.1.length
      · rw [if_pos hc] at pp1 ⊢
        dsimp only at kk
        rw [pp1] at kk
        exact kk
      · rw [if_neg hc] at pp1 ⊢
        refine ⟨fun post' e => ?_, _, _, rfl⟩
        rw [List.append_assoc, ey] at e
        have := List.append_cancel_left e
        injection this with _ this
        subst this
        rw [List.length_append]
        exact pp1
    · intro ρ h' ⟨pp, u, v, e1, e2⟩
      subst e1 e2
      have pp1 := pp [] (by simp)
      rw [List.map_nil, roomAt] at pp1
      dsimp only at kk
      rw [pp1] at kk
      refine ⟨(hy0 _ .refl).1, ?_⟩
      unfold c_fault_2
      walk_at "w"
      refine numbers_okV (n := n + 64) hNo hx0 hl hp fun kvs g => ?_
      walk_at "w"
      refine keys_of_ok hKo t (n + 65) (by have := t.ht_le; omega) (by omega) ?_
      walk_at "w"
      refine for_map (moS F (n + 65) b_fault_2) (fun pre ρ h2 => (∀ post, t.keys = pre ++ post → lackAt (ys.map (·.1)).flatten t.keys = lackAt (ys.map (·.1)).flatten post) ∧ ∃ (w : Option Val), h2 = h' ∧ ρ = [some t.tv, some (.int room), some x, some .non, u, v, some (fdOf kvs), w]) Val.int t.keys ?_ ?_ ?_
      · intro pre y post ρ h2 ey ⟨qq, w, e1, e2⟩
        subst e1 e2
        have qq1 := qq _ ey
        rw [lackAt] at qq1
        refine ⟨trivial, _, rfl, ?_⟩
        unfold b_fault_2
        simp only [List.set]
        walk_at "w"
        rw [g, Option.isSome_map, pno_is]
        by_cases hy : y ∈ (ys.map (·.1)).flatten
        · rw [if_pos hy] at qq1
          simp only [hy, decide_true, Bool.not_true, Bool.false_eq_true, if_false, not_true]
          refine ⟨fun post' e => ?_, _, rfl⟩
          rw [List.append_assoc, ey] at e
          have := List.append_cancel_left e
          injection this with _ this
          subst this
          exact qq1
        · rw [if_neg hy] at qq1
          simp only [hy, decide_false, Bool.not_false, if_true, not_false_eq_true]
          rw [qq1] at kk
          exact kk
      · intro ρ h2 ⟨qq, w, e1, e2⟩
        subst e1 e2
        have qq1 := qq [] (by simp)
        rw [lackAt] at qq1
        rw [qq1] at kk
        refine ⟨trivial, ?_⟩
        unfold c_fault_1
        walk_at "w"
        exact kk
      · exact ⟨fun post e => by rw [e]; rfl, none, rfl, rfl⟩
    · exact ⟨fun post e => by rw [e]; rfl, none, none, rfl, rfl⟩
theorem fault_ok (hFa : F f_fault = some d_fault) (hO : F f_odd_key = some d_odd_key) (hKo : F f_keys_of = some d_keys_of) (hNo : F f_numbers_of = some d_numbers_of) {room : Int} (hz : t.size ≤ 60) (hl : ∀ c ∈ P, c.length ≤ 1000) (hp : P.length ≤ 500)
    (kk : Q (faultV t.keys room P) h) : CN F (n + 66) f_fault [t.tv, .int room, .fl (P.map Enc.val)] h Q E := fault_okV hFa hO hKo hNo (layV_fl h P) hz hl hp kk
end
theorem oddL_ok {ks : List Int} {n : Nat} : ∀ (c ahead : List Int), (∀ k ∈ c, k ∈ ks) → (ahead ++ c).Nodup → oddL ks n ahead c = .inr (ahead ++ c)
  | [], ahead, _, _ => by simp [oddL]
  | k :: c, ahead, h1, h2 => by
    have hk := h1 k (by simp)
    have ha : k ∉ ahead := fun z => by
      rw [List.nodup_append] at h2
      exact h2.2.2 k z k (by simp) rfl
    rw [oddL, if_neg (by simp [hk]), if_neg ha, oddL_ok c _ (fun j hj => h1 j (by simp [hj])) (by simpa using h2)]
    simp
theorem oddP_ok {ks : List Int} : ∀ (P : List (List Int)) (n : Nat) (ahead : List Int), (∀ c ∈ P, ∀ k ∈ c, k ∈ ks) → (ahead ++ P.flatten).Nodup → ∃ a, oddP ks n ahead P = .inr a
  | [], n, ahead, _, _ => ⟨_, rfl⟩
  | c :: P, n, ahead, h1, h2 => by
    rw [List.flatten_cons, ← List.append_assoc] at h2
    rw [oddP, oddL_ok c ahead (h1 c (by simp)) ((List.nodup_append.mp h2).1)]
    exact oddP_ok P (n + 1) _ (fun d hd => h1 d (by simp [hd])) h2
theorem roomAt_ok {room : Int} {r : Val} : ∀ (P : List (List Int)) (n : Nat), (∀ c ∈ P, (c.length : Int) ≤ room) → roomAt room r n P = r
  | [], n, _ => rfl
  | c :: P, n, h => by
    have := h c (by simp)
    rw [roomAt, if_neg (by omega), roomAt_ok P (n + 1) fun d hd => h d (by simp [hd])]
theorem lackAt_ok {ahead : List Int} : ∀ ks : List Int, (∀ k ∈ ks, k ∈ ahead) → lackAt ahead ks = .non
  | [], _ => rfl
  | k :: ks, h => by rw [lackAt, if_pos (h k (by simp)), lackAt_ok ks fun j hj => h j (by simp [hj])]
theorem fault_none {ks : List Int} {room : Int} {P : List (List Int)} (h1 : ∀ c ∈ P, ∀ k ∈ c, k ∈ ks) (h2 : P.flatten.Nodup) (h3 : ∀ c ∈ P, (c.length : Int) ≤ room) (h4 : ∀ k ∈ ks, k ∈ P.flatten) : faultV ks room P = .non := by
  obtain ⟨a, e⟩ := oddP_ok P 0 [] h1 (by simpa using h2)
  unfold faultV
  rw [e]
  dsimp only
  rw [roomAt_ok P 0 h3, lackAt_ok ks h4]

end L3

set_option Elab.async false
set_option linter.all false
set_option maxRecDepth 100000
namespace L3
open PySem PySem.Spec PyProof.Rows L2
local macro_rules | `(tactic| walk_at "d") => `(tactic| first | assumption | exact up_same | exact dr_fd _ _ | exact dr_wd _ _ | exact dr_ref (by assumption) | exact dr_ref up_same | exact keyOf_int | (exact (rfl : isNop _ = false)) | exact keyOf_str | exact tyOf_fl | exact tyOf_int | exact tyOf_tup | exact tyOf_bl | exact tyOf_ref (by assumption) | exact tyOf_ref up_same | (intro z; cases z))
local macro_rules | `(tactic| walk_at "w") => `(tactic| try simp -implicitDefEqProofs (disch := walk_at "d") only [↓wpE, ↓wpA, ↓wpB, ↓wpT, ↓wpTs, ↓wpI, ↓wpS, ↓wpSs, ↓optW_some, ↓w_lk0, ↓w_lkS, ↓w_bs, ↓w_bl0, ↓w_bl1, ↓w_k1, ↓w_kS, ↓w_b0, ↓w_b1, ↓w_b2, ↓w_b3, ↓w_b4, ↓w_b5, ↓w_b6, ↓w_b7, ↓w_b8, ↓w_b9, ↓w_b10, ↓w_b11, ↓w_b12, ↓w_b13, ↓w_b14, ↓w_b15, ↓w_b16, ↓w_b17, ↓w_b18, ↓w_b19, ↓w_b20, ↓w_b21, ↓w_b22, ↓w_b23, ↓w_b24, ↓w_b25, ↓alc_fz, ↓alc_lv, ↓w_dictZ, ↓w_eqNN, ↓w_add, ↓w_addS, ↓w_addL, ↓w_addT, ↓w_sub, ↓w_mul, ↓w_fdiv, ↓w_mod, ↓w_pow, ↓w_shl, ↓w_shr, ↓w_band, ↓w_eqI, ↓w_neI, ↓w_eqS, ↓w_neS, ↓w_lt, ↓w_le, ↓w_gt, ↓w_ge, ↓w_is, ↓w_isnot, ↓w_isB, ↓w_isnotB, ↓w_neF0, ↓w_eqF0, ↓w_neI_L, ↓w_eqI_L, ↓w_eqLL, ↓w_neDL, ↓w_eqDL, ↓w_idxR, ↓w_slcF, ↓w_slcT, ↓w_insert, ↓w_lrange, ↓w_revF, ↓w_revR, ↓w_tmul, ↓w_ok_indexF, ↓w_inI, ↓w_notinI, ↓w_eqEE, ↓w_neEE, ↓w_eqE0, ↓w_neE0, ↓w_eqRE, ↓w_neRE, ↓w_maxF, ↓w_minF, ↓w_eqB, ↓w_neB, ↓w_sortPF, ↓w_allF, ↓w_anyF, ↓w_slcR, ↓w_oi1, ↓w_oi2, ↓w_idxD, ↓w_inD, ↓w_notinD, ↓w_okD, ↓w_okDF, ↓w_okU, ↓w_get1N, ↓w_get2N, ↓w_get1, ↓w_get2, ↓w_upd, ↓w_putD, ↓w_frzD', ↓alcD_fz, ↓alcD_lv, ↓w_rep, ↓w_sortR, ↓w_sortF, ↓w_sumF, ↓w_idxF, ↓w_idxT, ↓w_idxS, ↓w_lenR, ↓w_lenF, ↓w_lenT, ↓w_lenS, ↓w_abs, ↓w_max2, ↓w_min2, ↓w_listF, ↓w_listT, ↓w_listR, ↓w_tupleF, ↓w_int, ↓w_intB, ↓w_isi, ↓w_ok_append, ↓w_ok_extend, ↓w_ok_pop, ↓w_ok_insert, ↓w_ok_reverse, ↓w_ok_clear, ↓w_ok_index, ↓w_ok_count, ↓w_append, ↓w_extend, ↓w_reverse, ↓w_clear, ↓w_frz, ↓w_set0, ↓w_set1, ↓w_set2, ↓w_at0, ↓w_at1, ↓w_at2, ↓w_at3, ↓w_blOf, ↓w_intOf, ↓w_refOf, ↓w_cellO, ↓wdK_wd, ↓w_lenDW, lockC_dic, lockC_lst, isN_wd, ↓w_truB, ↓w_truI, ↓w_truF, ↓w_truT, ↓w_truN, ↓optI, ↓isNop, optW_some, isN_non, isN_int, isN_tup, isN_fl, isN_ref, lv_fl, ls_fl, sq_fl, sq_tup, ls_sc, sq_sc, lv_up, ls_up, sq_up, tyOf_fl, tyOf_int, tyOf_tup, tyOf_bl, tyOf_ref, Option.bind_some, List.length_cons, List.length_nil, reduceIte, Bool.false_eq_true, if_true, if_false, List.map_cons, List.map_nil, List.replicate, List.cons_append, List.nil_append, Nat.reduceSub, Nat.reduceAdd, Nat.reduceLeDiff, Int.reduceLT, Int.reduceLE, Int.reduceNeg, Int.reduceToNat, Int.reducePow, and_true, true_and, or_true, true_or, decide_eq_true_eq, Bool.not_eq_true', decide_eq_false_iff_not, up_up, decide_true, decide_false, not_true_eq_false, not_false_eq_true, Bool.not_true, Bool.not_false, List.any_cons, List.any_nil, Bool.or_false, Bool.or_true, Bool.true_or, Bool.false_or, List.mem_cons, List.not_mem_nil, or_false, false_or, reduceCtorEq, sq_ref, lv_ref, ls_ref])
local macro_rules | `(tactic| walk_at "e") => `(tactic| simp only [List.map_cons, List.map_nil, List.replicate, List.cons_append, List.nil_append, Nat.reduceSub])
local macro_rules | `(tactic| walk_at "i") => `(tactic| try simp only [Bool.true_eq_false, Bool.false_eq_true, Bool.not_true, Bool.not_false, Bool.and_true, Bool.true_and, Bool.and_false, Bool.false_and, if_false, if_true, reduceIte, decide_true, decide_false, not_true_eq_false, not_false_eq_true, eq_self])
theorem sortI_pm (ns : List Int) : (sortI ns).Perm ns := List.mergeSort_perm _ _
/-! ### the homes in the told layout -/
def layP (room : Int) (t : Tr) : List (List Int) := sortLL ((allP room t).map sortI)
theorem allP_flat {room : Int} (t : Tr) : (allP room t).flatten.Perm t.keys := by
  unfold allP
  split
  · rename_i h; subst h; exact .refl _
  · rw [List.flatten_cons]; exact allP_perm room t
theorem perm_flat {A B : List (List Int)} (h : A.Perm B) : A.flatten.Perm B.flatten := by
  induction h with
  | nil => exact .refl _
  | cons x _ ih => simpa using ih.append_left x
  | swap x y l => simpa using List.perm_append_comm_assoc _ _ _
  | trans _ _ a b => exact a.trans b
theorem sort_flat : ∀ L : List (List Int), ((L.map sortI).flatten).Perm L.flatten
  | [] => .refl _
  | c :: L => by simpa using (sortI_pm c).append (sort_flat L)
theorem layP_flat (room : Int) (t : Tr) : (layP room t).flatten.Perm t.keys := ((perm_flat (sortLL_perm _)).trans (sort_flat _)).trans (allP_flat t)
theorem layP_mem {room : Int} {t : Tr} {c : List Int} : c ∈ layP room t ↔ ∃ d ∈ allP room t, sortI d = c := by
  unfold layP
  rw [(sortLL_perm _).mem_iff, List.mem_map]
theorem pg_at {R : List (List Int)} (hn : R.flatten.Nodup) {i : Nat} {c : List Int} (h : R[i]? = some c) {x : Int} (hx : x ∈ c) : pg R x = (i : Nat) := by
  have := pno_uniq (n := 0) hn h hx
  rw [pg, this]; simp
theorem layP_homes {room : Int} {t : Tr} (hd : t.keys.Nodup) : Homes (pg (layP room t)) (allP room t) := by
  have hn : (layP room t).flatten.Nodup := (layP_flat room t).nodup_iff.mpr hd
  have at_ : ∀ c ∈ allP room t, ∃ i, (layP room t)[i]? = some (sortI c) := fun c hc => List.getElem?_of_mem (layP_mem.mpr ⟨c, hc, rfl⟩)
  refine ⟨fun c hc x hx y hy => ?_, fun c hc x hx y ⟨d, hd, hy⟩ e => ?_⟩
  · obtain ⟨i, hi⟩ := at_ c hc
    rw [pg_at hn hi ((sortI_pm c).mem_iff.mpr hx), pg_at hn hi ((sortI_pm c).mem_iff.mpr hy)]
  · obtain ⟨i, hi⟩ := at_ c hc
    obtain ⟨j, hj⟩ := at_ d hd
    rw [pg_at hn hi ((sortI_pm c).mem_iff.mpr hx), pg_at hn hj ((sortI_pm d).mem_iff.mpr hy)] at e
    have : i = j := by omega
    subst this
    rw [hi] at hj
    injection hj with hj
    rw [← (sortI_pm c).mem_iff, hj, (sortI_pm d).mem_iff]
    exact hy
theorem layP_apart {room : Int} {t : Tr} (ht : t ≠ .nil) (hd : t.keys.Nodup) : sortI (pg (layP room t) t.top :: apartL (pg (layP room t)) none t) = (List.range (layP room t).length).map fun i => ((i : Nat) : Int) := by
  have hn : (layP room t).flatten.Nodup := (layP_flat room t).nodup_iff.mpr hd
  have hh := layP_homes (room := room) hd
  have ea : allP room t = ownP room t :: othP room t := by unfold allP; rw [if_neg ht]
  have e := apart_tops (room := room) hh t hd ⟨ownP room t, by rw [ea]; exact List.mem_cons_self, fun x hx => hx⟩ (fun d h => by rw [ea]; exact List.mem_cons_of_mem _ h) none (fun x hx => by cases hx)
  have e2 : apartL (pg (layP room t)) none t = (topP room t).map (pg (layP room t)) := by rw [e]; simp
  have ne : ∀ c ∈ allP room t, c ≠ [] := fun c hc => by
    rw [ea] at hc
    rcases List.mem_cons.mp hc with h | h
    · rw [h]; exact ownP_ne ht
    · exact othP_ne room t c h
  have hm : ∀ c : List Int, c ≠ [] → c.headD 0 ∈ c := fun c h => by cases c with | nil => exact absurd rfl h | cons x c => simp
  have e3 : pg (layP room t) t.top :: (topP room t).map (pg (layP room t)) = ((allP room t).map sortI).map fun d => pg (layP room t) (d.headD 0) := by
    rw [List.map_map, ea, List.map_cons, ← othP_tops, List.map_map]
    have s : ∀ c ∈ allP room t, pg (layP room t) (c.headD 0) = pg (layP room t) ((sortI c).headD 0) := fun c hc => by
      have n2 : sortI c ≠ [] := fun z => ne c hc (by have := (sortI_pm c).length_eq; rw [z] at this; exact List.eq_nil_of_length_eq_zero this.symm)
      exact hh.1 c hc _ (hm c (ne c hc)) _ ((sortI_pm c).mem_iff.mp (hm _ n2))
    congr 1
    · show pg (layP room t) t.top = pg (layP room t) ((sortI (ownP room t)).headD 0)
      rw [← ownP_head (room := room) ht]
      exact s _ (by rw [ea]; simp)
    · refine List.map_congr_left fun c hc => ?_
      exact s c (by rw [ea]; simp [hc])
  rw [e2, e3]
  have e4 : (layP room t).map (fun d => pg (layP room t) (d.headD 0)) = (List.range (layP room t).length).map fun i => ((i : Nat) : Int) := by
    refine List.ext_getElem? fun i => ?_
    rw [List.getElem?_map, List.getElem?_map]
    by_cases h : i < (layP room t).length
    · rw [List.getElem?_range h, List.getElem?_eq_getElem h]
      have hc : (layP room t)[i] ∈ layP room t := List.getElem_mem h
      obtain ⟨d, hd2, ed⟩ := layP_mem.mp hc
      have n2 : (layP room t)[i] ≠ [] := fun z => ne d hd2 (by have := (sortI_pm d).length_eq; rw [ed, z] at this; exact List.eq_nil_of_length_eq_zero this.symm)
      simp only [Option.map_some]
      rw [pg_at hn (List.getElem?_eq_getElem h) (hm _ n2)]
    · rw [List.getElem?_eq_none (by omega), List.getElem?_eq_none (by rw [List.length_range]; omega)]; rfl
  refine sortI_is ?_ ?_
  · rw [← e4]
    exact ((sortLL_perm ((allP room t).map sortI)).map _).symm
  · refine List.Pairwise.map _ (fun a b h => ?_) (List.pairwise_lt_range (n := (layP room t).length))
    omega
theorem layP_met {room : Int} (hr : 1 ≤ room) {t : Tr} (ht : t ≠ .nil) (hd : t.keys.Nodup) : metL (pg (layP room t)) t [] ≠ [] ∧ maxL (metL (pg (layP room t)) t []) = (Tr.mk room t).1 := by
  have ea : allP room t = ownP room t :: othP room t := by unfold allP; rw [if_neg ht]
  obtain ⟨h1, h2⟩ := met_level hr (layP_homes (room := room) hd) t ht hd ⟨ownP room t, by rw [ea]; exact List.mem_cons_self, fun x hx => hx⟩ (fun d h => by rw [ea]; exact List.mem_cons_of_mem _ h) [] (by simp)
  simp at h1 h2
  exact ⟨fun z => (by rw [z] at h2; cases h2), (maxL_uniq h2 h1).symm⟩
theorem layP_size {room : Int} (hr : 1 ≤ room) {t : Tr} {c : List Int} (hc : c ∈ layP room t) : c ≠ [] ∧ (c.length : Int) ≤ room := by
  obtain ⟨d, hd, e⟩ := layP_mem.mp hc
  have hl := (sortI_pm d).length_eq
  unfold allP at hd
  split at hd
  · cases hd
  · rename_i ht
    have : d ≠ [] ∧ (d.length : Int) ≤ room := by
      rcases List.mem_cons.mp hd with h | h
      · rw [h]
        have := own_size hr t ht
        exact ⟨ownP_ne ht, by omega⟩
      · exact ⟨othP_ne room t d h, oth_size hr t d h⟩
    rw [← e]
    refine ⟨fun z => this.1 (List.eq_nil_of_length_eq_zero (by rw [← hl, z]; rfl)), by rw [hl]; exact this.2⟩

/-! ### levels -/
def leM (a b : Int × Int) : Prop := a.1 < b.1 ∨ (a.1 = b.1 ∧ a.2 ≤ b.2)
theorem leM.refl (a : Int × Int) : leM a a := .inr ⟨rfl, Int.le_refl _⟩
theorem leM.trans {a b c : Int × Int} (h1 : leM a b) (h2 : leM b c) : leM a c := by unfold leM at *; omega
def sumAt (lev : Int) (ms : List (Int × Int)) : Int := ((ms.filter fun m => decide (m.1 = lev)).map (·.2)).sum
theorem sumAt_map {α : Type} {lev : Int} {a : α → Int × Int} : ∀ {S : List α}, sumAt lev (S.map a) = (S.map fun s => if (a s).1 = lev then (a s).2 else 0).sum
  | [] => rfl
  | s :: S => by
    have ih := sumAt_map (lev := lev) (a := a) (S := S)
    unfold sumAt at *
    by_cases c : (a s).1 = lev
    · simp only [List.map_cons, List.sum_cons, List.filter_cons, c, decide_true, if_true, ih]
    · simp only [List.map_cons, List.sum_cons, List.filter_cons, c, decide_false, if_false, Bool.false_eq_true, ih]; omega
theorem rule_ne {R : Int} {ms : List (Int × Int)} (h : ms ≠ []) : ∃ lev : Int, (∀ m ∈ ms, m.1 ≤ lev) ∧ (∃ m ∈ ms, m.1 = lev) ∧
    ((1 + sumAt lev ms ≤ R ∧ Tr.ruleM R ms = (lev, 1 + sumAt lev ms)) ∨ (R < 1 + sumAt lev ms ∧ Tr.ruleM R ms = (lev + 1, 1))) := by
  have hne : ms.map (·.1) ≠ [] := by simpa using h
  refine ⟨maxL (ms.map (·.1)), fun m hm => maxL_up (List.mem_map.mpr ⟨m, hm, rfl⟩), ?_, ?_⟩
  · obtain ⟨m, hm, e⟩ := List.mem_map.mp (maxL_in hne)
    exact ⟨m, hm, e⟩
  · unfold Tr.ruleM sumAt
    rw [if_neg h]
    by_cases c : 1 + ((ms.filter fun m => decide (m.1 = maxL (ms.map (·.1)))).map (·.2)).sum ≤ R
    · rw [if_pos c]; exact .inl ⟨c, rfl⟩
    · rw [if_neg c]; exact .inr ⟨by omega, rfl⟩
theorem sum_le_map {α : Type} {f g : α → Int} : ∀ {S : List α}, (∀ s ∈ S, f s ≤ g s) → (S.map f).sum ≤ (S.map g).sum
  | [], _ => Int.le_refl _
  | s :: S, h => by
    have h1 := h s (by simp)
    have h2 := sum_le_map (S := S) fun s hs => h s (by simp [hs])
    simp only [List.map_cons, List.sum_cons]; omega
theorem sum_nn {α : Type} {f : α → Int} {S : List α} (h : ∀ s ∈ S, 0 ≤ f s) : 0 ≤ (S.map f).sum := by
  have := sum_le_map (f := fun _ => 0) h
  have e : ∀ S : List α, (S.map fun _ => (0 : Int)).sum = 0 := fun S => by induction S with | nil => rfl | cons x S ih => rw [List.map_cons, List.sum_cons, ih]; rfl
  rw [e] at this; exact this
theorem rule_mono {α : Type} {R R' : Int} (hr : R ≤ R') {a b : α → Int × Int} {S : List α} (h : ∀ s ∈ S, leM (a s) (b s)) (hb : ∀ s ∈ S, 0 ≤ (b s).2) : leM (Tr.ruleM R' (S.map a)) (Tr.ruleM R (S.map b)) := by
  by_cases e : S = []
  · subst e; exact .inr ⟨rfl, Int.le_refl _⟩
  obtain ⟨la, a1, ⟨ma, a2, a3⟩, a4⟩ := rule_ne (R := R') (ms := S.map a) (by simpa using e)
  obtain ⟨lb, b1, ⟨mb, b2, b3⟩, b4⟩ := rule_ne (R := R) (ms := S.map b) (by simpa using e)
  obtain ⟨sa, hsa, rfl⟩ := List.mem_map.mp a2
  have lab : la ≤ lb := by
    have h1 := h sa hsa
    have h2 := b1 (b sa) (List.mem_map.mpr ⟨sa, hsa, rfl⟩)
    unfold leM at h1; omega
  have nb : 0 ≤ sumAt lb (S.map b) := by
    rw [sumAt_map]
    refine sum_nn fun s hs => ?_
    have := hb s hs
    split <;> omega
  have sab : la = lb → sumAt la (S.map a) ≤ sumAt lb (S.map b) := fun e => by
    subst e
    rw [sumAt_map, sumAt_map]
    refine sum_le_map fun s hs => ?_
    have h1 := h s hs
    have h2 := hb s hs
    have h3 := b1 (b s) (List.mem_map.mpr ⟨s, hs, rfl⟩)
    unfold leM at h1
    split <;> split <;> omega
  unfold leM
  rcases a4 with ⟨c1, e1⟩ | ⟨c1, e1⟩ <;> rcases b4 with ⟨c2, e2⟩ | ⟨c2, e2⟩ <;> rw [e1, e2] <;> simp only <;> by_cases z : la = lb
  all_goals first
    | (have := sab z; omega)
    | omega
theorem mk_nn {R : Int} (h : 1 ≤ R) (t : Tr) : 0 ≤ (Tr.mk R t).2 := by
  by_cases e : t = .nil
  · subst e; exact Int.le_refl _
  · have := own_size h t e; omega
theorem mk_room {R R' : Int} (h : 1 ≤ R) (hr : R ≤ R') : ∀ t : Tr, leM (Tr.mk R' t) (Tr.mk R t)
  | .nil => leM.refl _
  | .nd l k r => by
    have hl := mk_room h hr l
    have hr' := mk_room h hr r
    rw [Tr.mk_nd, Tr.mk_nd]
    refine rule_mono hr (fun s hs => ?_) fun s _ => mk_nn h s
    rcases (Tr.sides_ne hs).2 with rfl | rfl
    · exact hl
    · exact hr'
/-- told marks that are held are at most the marks -/
def HeldM (R : Int) (m : Tr → Int × Int) : Tr → Prop
  | .nil => True
  | .nd l k r => leM (m (.nd l k r)) (Tr.ruleM R ((Tr.sides (.nd l k r)).map m)) ∧ HeldM R m l ∧ HeldM R m r
theorem held_le {R : Int} (h : 1 ≤ R) {m : Tr → Int × Int} : ∀ t : Tr, t ≠ .nil → HeldM R m t → leM (m t) (Tr.mk R t)
  | .nil, z, _ => absurd rfl z
  | .nd l k r, _, ⟨hm, ml, mr⟩ => by
    have hl := fun z => held_le h l z ml
    have hr := fun z => held_le h r z mr
    refine hm.trans ?_
    rw [Tr.mk_nd]
    refine rule_mono (Int.le_refl _) (fun s hs => ?_) fun s _ => mk_nn h s
    obtain ⟨z, e⟩ := Tr.sides_ne hs
    rcases e with rfl | rfl
    · exact hl z
    · exact hr z
/-! ### joined layouts, by the heads of their pages and how many pages the ways open -/
def Jn (hd op : Int → Int) (k j : Int) : Prop := op j = op k + 1 ∨ (hd j = hd k ∧ op j = op k)
def JL (hd op : Int → Int) : Tr → Prop
  | .nil => True
  | .nd l k r => (l ≠ .nil → Jn hd op k l.top) ∧ (r ≠ .nil → Jn hd op k r.top) ∧ JL hd op l ∧ JL hd op r
def cntH (hd : Int → Int) (H : Int) (t : Tr) : Int := ((t.keys.filter fun j => decide (hd j = H)).length : Nat)
theorem cntH_nd {hd : Int → Int} {H : Int} {l r : Tr} {k : Int} : cntH hd H (.nd l k r) = cntH hd H l + (if hd k = H then 1 else 0) + cntH hd H r := by
  unfold cntH
  simp only [Tr.keys, List.filter_append, List.length_append, List.filter_cons]
  by_cases c : hd k = H
  · simp only [c, decide_true, if_true, List.length_cons]; omega
  · simp only [c, decide_false, Bool.false_eq_true, if_false]; omega
theorem cntH_nn {hd : Int → Int} {H : Int} {t : Tr} : 0 ≤ cntH hd H t := Int.natCast_nonneg _
theorem cntH_sides {hd : Int → Int} {H : Int} {l r : Tr} {k : Int} : ((Tr.sides (.nd l k r)).map (cntH hd H)).sum = cntH hd H l + cntH hd H r := by
  have n : cntH hd H .nil = 0 := rfl
  cases l <;> cases r <;> simp [Tr.sides, n]
theorem lev_min {R : Int} (hR : 1 ≤ R) {hd op : Int → Int} : ∀ t : Tr, t ≠ .nil → JL hd op t → (∀ H, cntH hd H t ≤ R) → ∃ j ∈ t.keys, leM (Tr.mk R t) (op j - op t.top + 1, cntH hd (hd t.top) t)
  | .nil, z, _, _ => absurd rfl z
  | .nd l k r, _, ⟨j1, j2, j3, j4⟩, hc => by
    have cl := fun H => cntH_nd (hd := hd) (H := H) (l := l) (k := k) (r := r)
    have hcl : ∀ H, cntH hd H l ≤ R := fun H => by
      have h1 := hc H; have h2 := cntH_nn (hd := hd) (H := H) (t := r); rw [cl H] at h1; split at h1 <;> omega
    have hcr : ∀ H, cntH hd H r ≤ R := fun H => by
      have h1 := hc H; have h2 := cntH_nn (hd := hd) (H := H) (t := l); rw [cl H] at h1; split at h1 <;> omega
    have IL := fun z => lev_min hR l z j3 hcl
    have IR := fun z => lev_min hR r z j4 hcr
    have IH : ∀ s ∈ Tr.sides (.nd l k r), Jn hd op k s.top ∧ ∃ j ∈ s.keys, leM (Tr.mk R s) (op j - op s.top + 1, cntH hd (hd s.top) s) := fun s hs => by
      obtain ⟨z, e⟩ := Tr.sides_ne hs
      rcases e with rfl | rfl
      · exact ⟨j1 z, IL z⟩
      · exact ⟨j2 z, IR z⟩
    have sub : ∀ s ∈ Tr.sides (.nd l k r), ∀ j ∈ s.keys, j ∈ (Tr.nd l k r).keys := fun s hs j hj => by
      rcases (Tr.sides_ne hs).2 with rfl | rfl <;> simp [Tr.keys, hj]
    have c1 : 1 ≤ cntH hd (hd k) (.nd l k r) := by
      have h1 := cntH_nn (hd := hd) (H := hd k) (t := l); have h2 := cntH_nn (hd := hd) (H := hd k) (t := r)
      rw [cl, if_pos rfl]; omega
    rw [Tr.mk_nd]
    show ∃ j ∈ (Tr.nd l k r).keys, leM _ (op j - op k + 1, cntH hd (hd k) (.nd l k r))
    by_cases e : (Tr.sides (.nd l k r)) = []
    · rw [e]
      refine ⟨k, by simp [Tr.keys], .inr ⟨?_, c1⟩⟩
      show (1 : Int) = op k - op k + 1
      omega
    obtain ⟨lev, q1, ⟨m0, q2, q3⟩, q4⟩ := rule_ne (R := R) (ms := (Tr.sides (.nd l k r)).map (Tr.mk R)) (by simpa using e)
    obtain ⟨s0, hs0, rfl⟩ := List.mem_map.mp q2
    have big : leM (Tr.ruleM R ((Tr.sides (.nd l k r)).map (Tr.mk R))) (lev + 1, 1) := by
      unfold leM
      rcases q4 with ⟨_, e⟩ | ⟨_, e⟩ <;> rw [e] <;> simp only
      · exact .inl (by omega)
      · exact .inr ⟨trivial, Int.le_refl _⟩
    by_cases A : ∃ s ∈ Tr.sides (.nd l k r), ∃ j ∈ s.keys, lev + 1 ≤ op j - op k + 1
    · obtain ⟨s, hs, j, hj, hl⟩ := A
      refine ⟨j, sub s hs j hj, big.trans ?_⟩
      unfold leM; simp only; omega
    · have B : ∀ s ∈ Tr.sides (.nd l k r), (Tr.mk R s).1 = lev → hd s.top = hd k ∧ (Tr.mk R s).2 ≤ cntH hd (hd k) s ∧ ∃ j ∈ s.keys, op j - op k + 1 = lev := fun s hs el => by
        obtain ⟨p1, j, hj, p2⟩ := IH s hs
        have p3 : ¬ lev + 1 ≤ op j - op k + 1 := fun z => A ⟨s, hs, j, hj, z⟩
        unfold Jn at p1
        unfold leM at p2
        simp only at p2
        rcases p1 with p1 | ⟨p1, p4⟩
        · omega
        · rw [p1] at p2
          exact ⟨p1, by omega, j, hj, by omega⟩
      obtain ⟨_, _, j, hj, ej⟩ := B s0 hs0 q3
      have sm : sumAt lev ((Tr.sides (.nd l k r)).map (Tr.mk R)) ≤ cntH hd (hd k) l + cntH hd (hd k) r := by
        rw [sumAt_map, ← cntH_sides (k := k)]
        refine sum_le_map fun s hs => ?_
        split
        · rename_i c; exact (B s hs c).2.1
        · exact cntH_nn
      have cc := hc (hd k)
      have c2 := cl (hd k)
      rw [if_pos rfl] at c2
      refine ⟨j, sub s0 hs0 j hj, ?_⟩
      rcases q4 with ⟨f1, f2⟩ | ⟨f1, f2⟩
      · rw [f2]; unfold leM; simp only; omega
      · exfalso; omega
/-! ### rooms -/
theorem mk_fit {R : Int} : ∀ t : Tr, t ≠ .nil → ((t.size : Nat) : Int) ≤ R → Tr.mk R t = (1, ((t.size : Nat) : Int))
  | .nil, z, _ => absurd rfl z
  | .nd l k r, _, h => by
    simp only [Tr.size] at h
    have hl := fun z => mk_fit (R := R) l z (by omega)
    have hr := fun z => mk_fit (R := R) r z (by omega)
    rw [Tr.mk]
    by_cases e1 : l = .nil <;> by_cases e2 : r = .nil
    · subst e1 e2; simp [Tr.ruleM, Tr.size]
    · subst e1; rw [if_pos rfl, if_neg e2, hr e2]; simp only [Tr.size] at *
      simp [Tr.ruleM, maxL]; omega
    · subst e2; rw [if_pos rfl, if_neg e1, hl e1]; simp only [Tr.size] at *
      simp [Tr.ruleM, maxL]; split <;> simp <;> omega
    · rw [if_neg e1, if_neg e2, hl e1, hr e2]; simp only [Tr.size] at *
      simp [Tr.ruleM, maxL]; split <;> simp <;> omega
theorem mk_one {R : Int} (h : 1 ≤ R) : ∀ t : Tr, t ≠ .nil → (Tr.mk R t).1 = 1 → (Tr.mk R t).2 = ((t.size : Nat) : Int)
  | .nil, z, _ => absurd rfl z
  | .nd l k r, _, e => by
    have pl := Tr.mk_pos R l
    have pr := Tr.mk_pos R r
    have hl := mk_one h l
    have hr := mk_one h r
    rw [Tr.mk_nd] at e ⊢
    by_cases es : (Tr.sides (.nd l k r)) = []
    · have : l = .nil ∧ r = .nil := by
        cases l <;> cases r <;> simp [Tr.sides] at es <;> exact ⟨rfl, rfl⟩
      obtain ⟨rfl, rfl⟩ := this
      simp [Tr.sides, Tr.ruleM, Tr.size]
    obtain ⟨lev, q1, ⟨m0, q2, q3⟩, q4⟩ := rule_ne (R := R) (ms := (Tr.sides (.nd l k r)).map (Tr.mk R)) (by simpa using es)
    obtain ⟨s0, hs0, rfl⟩ := List.mem_map.mp q2
    have p0 : 1 ≤ (Tr.mk R s0).1 := Tr.mk_pos R s0 (Tr.sides_ne hs0).1
    rcases q4 with ⟨f1, f2⟩ | ⟨f1, f2⟩
    · rw [f2] at e ⊢
      simp only at e ⊢
      subst e
      have one : ∀ s ∈ Tr.sides (.nd l k r), (Tr.mk R s).1 = 1 ∧ (Tr.mk R s).2 = ((s.size : Nat) : Int) := fun s hs => by
        have h1 := q1 _ (List.mem_map.mpr ⟨s, hs, rfl⟩)
        have h2 := Tr.mk_pos R s (Tr.sides_ne hs).1
        have h3 : (Tr.mk R s).1 = 1 := by omega
        obtain ⟨z, e⟩ := Tr.sides_ne hs
        rcases e with rfl | rfl
        · exact ⟨h3, hl z h3⟩
        · exact ⟨h3, hr z h3⟩
      rw [sumAt_map, List.map_congr_left (g := fun s => ((s.size : Nat) : Int)) fun s hs => by rw [if_pos (one s hs).1, (one s hs).2]]
      have : ((Tr.sides (.nd l k r)).map fun s => ((s.size : Nat) : Int)).sum = ((l.size : Nat) : Int) + ((r.size : Nat) : Int) := by
        cases l <;> cases r <;> simp [Tr.sides, Tr.size]
      rw [this]; simp only [Tr.size]; omega
    · rw [f2] at e; simp only at e; omega
theorem mk_high : ∀ t : Tr, t ≠ .nil → Tr.mk 1 t = (((t.ht : Nat) : Int), 1)
  | .nil, z => absurd rfl z
  | .nd l k r, _ => by
    have hl := mk_high l
    have hr := mk_high r
    rw [Tr.mk]
    by_cases e1 : l = .nil <;> by_cases e2 : r = .nil
    · subst e1 e2; simp [Tr.ruleM, Tr.ht]
    · subst e1; rw [if_pos rfl, if_neg e2, hr e2]; simp [Tr.ruleM, maxL, Tr.ht]; omega
    · subst e2; rw [if_pos rfl, if_neg e1, hl e1]; simp [Tr.ruleM, maxL, Tr.ht]; omega
    · rw [if_neg e1, if_neg e2, hl e1, hr e2]
      simp only [Tr.ruleM, List.cons_append, List.nil_append, List.map_cons, List.map_nil, maxL, Tr.ht]
      rw [if_neg (by simp)]
      by_cases c : l.ht = r.ht
      · rw [c]; simp; omega
      · rcases Nat.lt_or_gt_of_ne c with c2 | c2
        · have c3 : ¬ (((l.ht : Nat) : Int) = ((r.ht : Nat) : Int)) := by omega
          rw [Int.max_eq_right (by omega), List.filter_cons_of_neg (by simpa using c3), List.filter_cons_of_pos (by simp)]
          simp; omega
        · have c3 : ¬ (((r.ht : Nat) : Int) = ((l.ht : Nat) : Int)) := by omega
          rw [Int.max_eq_left (by omega), List.filter_cons_of_pos (by simp), List.filter_cons_of_neg (by simpa using c3)]
          simp; omega
/-- the least room -/
def lrN (t : Tr) (num : Int) : Nat := ((List.range t.size).find? fun i => decide ((Tr.mk ((i + 1 : Nat) : Int) t).1 ≤ num)).getD 0 + 1
theorem lrN_ok {t : Tr} {num : Int} (h : 1 ≤ num) : 1 ≤ lrN t num ∧ (Tr.mk ((lrN t num : Nat) : Int) t).1 ≤ num ∧ (∀ i : Nat, 1 ≤ i → i < lrN t num → num < (Tr.mk ((i : Nat) : Int) t).1) ∧ lrN t num ≤ max 1 t.size := by
  unfold lrN
  cases e : (List.range t.size).find? fun i => decide ((Tr.mk ((i + 1 : Nat) : Int) t).1 ≤ num) with
  | none =>
    by_cases tn : t = .nil
    · subst tn
      refine ⟨by simp, ?_, fun i h1 h2 => ?_, by decide⟩
      · show (0 : Int) ≤ num; omega
      · simp at h2; omega
    · exfalso
      rw [List.find?_eq_none] at e
      have hs : 1 ≤ t.size := by cases t with | nil => exact absurd rfl tn | nd l k r => simp [Tr.size]; omega
      have := e (t.size - 1) (List.mem_range.mpr (by omega))
      rw [show t.size - 1 + 1 = t.size by omega, mk_fit t tn (Int.le_refl _)] at this
      simp at this; omega
  | some i =>
    rw [List.find?_range_eq_some] at e
    obtain ⟨e1, e2, e3⟩ := e
    have e2 := List.mem_range.mp e2
    refine ⟨by simp, by simpa using e1, fun j h1 h2 => ?_, by simp; omega⟩
    simp only [Option.getD_some] at h2
    have := e3 (j - 1) (by omega)
    rw [show j - 1 + 1 = j by omega] at this
    simpa using this
theorem lrN_uniq {t : Tr} {num : Int} {r : Nat} (h : 1 ≤ num) (h1 : 1 ≤ r) (h2 : (Tr.mk ((r : Nat) : Int) t).1 ≤ num) (h3 : ∀ i : Nat, 1 ≤ i → i < r → num < (Tr.mk ((i : Nat) : Int) t).1) : lrN t num = r := by
  obtain ⟨q1, q2, q3, _⟩ := lrN_ok (t := t) h
  rcases Nat.lt_trichotomy (lrN t num) r with c | c | c
  · have := h3 _ q1 c; omega
  · exact c
  · have := q3 _ h1 c; omega
theorem lrN_anti {t : Tr} {a b : Int} (h : 1 ≤ a) (hab : a ≤ b) : lrN t b ≤ lrN t a := by
  obtain ⟨q1, q2, q3, _⟩ := lrN_ok (t := t) h
  obtain ⟨p1, p2, p3, _⟩ := lrN_ok (t := t) (num := b) (by omega)
  refine Nat.le_of_not_lt fun c => ?_
  have := p3 _ q1 c
  omega
theorem lrN_one {t : Tr} : lrN t 1 = max 1 t.size := by
  by_cases tn : t = .nil
  · subst tn; decide
  have hs : 1 ≤ t.size := by cases t with | nil => exact absurd rfl tn | nd l k r => simp [Tr.size]; omega
  rw [Nat.max_eq_right hs]
  refine lrN_uniq (by decide) hs ?_ fun i h1 h2 => ?_
  · rw [mk_fit t tn (Int.le_refl _)]; exact Int.le_refl _
  · have p := Tr.mk_pos ((i : Nat) : Int) t tn
    by_cases e : (Tr.mk ((i : Nat) : Int) t).1 = 1
    · have := mk_one (R := ((i : Nat) : Int)) (by omega) t tn e
      have := own_size (room := ((i : Nat) : Int)) (by omega) t tn
      omega
    · omega
theorem lrN_high {t : Tr} {num : Int} (h : 1 ≤ num) (h2 : ((t.ht : Nat) : Int) ≤ num) : lrN t num = 1 := by
  refine lrN_uniq h (Nat.le_refl _) ?_ fun i h1 h2 => by omega
  by_cases tn : t = .nil
  · subst tn; show (0 : Int) ≤ num; omega
  · rw [show (((1 : Nat) : Int)) = 1 by rfl, mk_high t tn]; exact h2
/-! ### the worst of the layout by marks -/
theorem metL_way {H : Int → Int} : ∀ (t : Tr) (ms : List Int), t.keys.Pairwise (· < ·) → (∀ j ∈ t.keys, ((dd ms ((t.way j).map H)).length : Int) ∈ metL H t ms) ∧ ∀ x ∈ metL H t ms, ∃ j ∈ t.keys, x = ((dd ms ((t.way j).map H)).length : Int)
  | .nil, _, _ => ⟨fun j hj => by simp [Tr.keys] at hj, fun x hx => by simp [metL] at hx⟩
  | .nd l k r, ms, hu => by
    have hu' := hu
    simp only [Tr.keys] at hu
    rw [List.pairwise_append, List.pairwise_cons] at hu
    obtain ⟨u1, ⟨u2, u3⟩, u4⟩ := hu
    obtain ⟨l1, l2⟩ := metL_way (H := H) l (if H k ∈ ms then ms else ms ++ [H k]) u1
    obtain ⟨r1, r2⟩ := metL_way (H := H) r (if H k ∈ ms then ms else ms ++ [H k]) u3
    have wk : (Tr.nd l k r).way k = [k] := by simp [Tr.way, Tr.path, Tr.top]
    have wl : ∀ j ∈ l.keys, (Tr.nd l k r).way j = k :: l.way j := fun j hj => by
      have := u4 j hj k (by simp)
      have e1 : ¬ j = k := by omega
      simp [Tr.way, Tr.path, Tr.top, e1, this]
    have wr : ∀ j ∈ r.keys, (Tr.nd l k r).way j = k :: r.way j := fun j hj => by
      have := u2 j hj
      have e1 : ¬ j = k := by omega
      have e2 : ¬ j < k := by omega
      have e3 : k < j := by omega
      simp [Tr.way, Tr.path, Tr.top, e1, e2, e3]
    have dl : ∀ j ∈ l.keys, dd ms (((Tr.nd l k r).way j).map H) = dd (if H k ∈ ms then ms else ms ++ [H k]) ((l.way j).map H) := fun j hj => by rw [wl j hj, List.map_cons, dd]
    have dr' : ∀ j ∈ r.keys, dd ms (((Tr.nd l k r).way j).map H) = dd (if H k ∈ ms then ms else ms ++ [H k]) ((r.way j).map H) := fun j hj => by rw [wr j hj, List.map_cons, dd]
    have dk : dd ms (((Tr.nd l k r).way k).map H) = if H k ∈ ms then ms else ms ++ [H k] := by rw [wk]; rfl
    constructor
    · intro j hj
      rw [metL]
      simp only [Tr.keys, List.mem_append, List.mem_cons] at hj
      rcases hj with hj | rfl | hj
      · rw [dl j hj]; simp [l1 j hj]
      · rw [dk]; simp
      · rw [dr' j hj]; simp [r1 j hj]
    · intro x hx
      rw [metL] at hx
      simp only [List.mem_append, List.mem_cons] at hx
      rcases hx with hx | hx | hx
      · exact ⟨k, by simp [Tr.keys], by rw [hx, dk]⟩
      · obtain ⟨j, hj, e⟩ := l2 x hx; exact ⟨j, by simp [Tr.keys, hj], by rw [e, dl j hj]⟩
      · obtain ⟨j, hj, e⟩ := r2 x hx; exact ⟨j, by simp [Tr.keys, hj], by rw [e, dr' j hj]⟩

end L3

set_option Elab.async false
set_option linter.all false
set_option maxRecDepth 100000
namespace L3
open PySem PySem.Spec PyProof.Rows L2
def f_top_level : Nat := 1158
def f_least_room : Nat := 1160
def d_top_level : Df := ⟨2, 2, (.cons (.ite (.cmp .is (.var 0) .non) (.cons (.ret (.int 0)) .nil) .nil) (.cons (.ret (.idx (.idx (.call f_marks_known (.cons (.var 0) (.cons (.var 1) .nil))) (.idx (.var 0) (.int 1))) (.int 0))) .nil))⟩
-- ['tree', 'room']
def b_least_room_1 : Sms := (.cons (.asg (.name 2) (.bin .add true (.var 2) (.int 1))) .nil)
def t_least_room_1 : Ex := (.cmp .gt (.call f_top_level (.cons (.var 0) (.cons (.var 2) .nil))) (.var 1))
def c_least_room_1 : Sms := (.cons (.ret (.tup (.cons (.var 2) (.cons (.call f_by_marks (.cons (.var 0) (.cons (.var 2) .nil))) (.cons (.var 3) .nil))))) .nil)
def c_least_room_2 : Sms := (.cons (.asg (.name 3) .non) (.cons (.ite (.cmp .gt (.var 2) (.int 1)) (.cons (.asg (.name 3) (.call f_marks (.cons (.var 0) (.cons (.bin .sub true (.var 2) (.int 1)) .nil)))) .nil) .nil) c_least_room_1))
def d_least_room : Df := ⟨2, 4, (.cons (.ite (.cmp .lt (.var 1) (.int 1)) (.cons .never .nil) .nil) (.cons (.asg (.name 2) (.int 1)) (.cons (.whl t_least_room_1 b_least_room_1) c_least_room_2)))⟩
-- ['tree', 'number', 'room', 'table']
end L3

set_option Elab.async false
set_option linter.all false
set_option maxRecDepth 100000
namespace L3
open PySem PySem.Spec PyProof.Rows L2
local macro_rules | `(tactic| walk_at "d") => `(tactic| first | assumption | exact up_same | exact dr_fd _ _ | exact dr_wd _ _ | exact dr_ref (by assumption) | exact dr_ref up_same | exact keyOf_int | (exact (rfl : isNop _ = false)) | exact keyOf_str | exact tyOf_fl | exact tyOf_int | exact tyOf_tup | exact tyOf_bl | exact tyOf_ref (by assumption) | exact tyOf_ref up_same | (intro z; cases z))
local macro_rules | `(tactic| walk_at "w") => `(tactic| try simp -implicitDefEqProofs (disch := walk_at "d") only [↓wpE, ↓wpA, ↓wpB, ↓wpT, ↓wpTs, ↓wpI, ↓wpS, ↓wpSs, ↓optW_some, ↓w_lk0, ↓w_lkS, ↓w_bs, ↓w_bl0, ↓w_bl1, ↓w_k1, ↓w_kS, ↓w_b0, ↓w_b1, ↓w_b2, ↓w_b3, ↓w_b4, ↓w_b5, ↓w_b6, ↓w_b7, ↓w_b8, ↓w_b9, ↓w_b10, ↓w_b11, ↓w_b12, ↓w_b13, ↓w_b14, ↓w_b15, ↓w_b16, ↓w_b17, ↓w_b18, ↓w_b19, ↓w_b20, ↓w_b21, ↓w_b22, ↓w_b23, ↓w_b24, ↓w_b25, ↓alc_fz, ↓alc_lv, ↓w_dictZ, ↓w_eqNN, ↓w_add, ↓w_addS, ↓w_addL, ↓w_addT, ↓w_sub, ↓w_mul, ↓w_fdiv, ↓w_mod, ↓w_pow, ↓w_shl, ↓w_shr, ↓w_band, ↓w_eqI, ↓w_neI, ↓w_eqS, ↓w_neS, ↓w_lt, ↓w_le, ↓w_gt, ↓w_ge, ↓w_is, ↓w_isnot, ↓w_isB, ↓w_isnotB, ↓w_neF0, ↓w_eqF0, ↓w_neI_L, ↓w_eqI_L, ↓w_eqLL, ↓w_neDL, ↓w_eqDL, ↓w_idxR, ↓w_slcF, ↓w_slcT, ↓w_insert, ↓w_lrange, ↓w_revF, ↓w_revR, ↓w_tmul, ↓w_ok_indexF, ↓w_inI, ↓w_notinI, ↓w_eqEE, ↓w_neEE, ↓w_eqE0, ↓w_neE0, ↓w_eqRE, ↓w_neRE, ↓w_maxF, ↓w_minF, ↓w_eqB, ↓w_neB, ↓w_sortPF, ↓w_allF, ↓w_anyF, ↓w_slcR, ↓w_oi1, ↓w_oi2, ↓w_idxD, ↓w_inD, ↓w_notinD, ↓w_okD, ↓w_okDF, ↓w_okU, ↓w_get1N, ↓w_get2N, ↓w_get1, ↓w_get2, ↓w_upd, ↓w_putD, ↓w_frzD', ↓alcD_fz, ↓alcD_lv, ↓w_rep, ↓w_sortR, ↓w_sortF, ↓w_sumF, ↓w_idxF, ↓w_idxT, ↓w_idxS, ↓w_lenR, ↓w_lenF, ↓w_lenT, ↓w_lenS, ↓w_abs, ↓w_max2, ↓w_min2, ↓w_listF, ↓w_listT, ↓w_listR, ↓w_tupleF, ↓w_int, ↓w_intB, ↓w_isi, ↓w_ok_append, ↓w_ok_extend, ↓w_ok_pop, ↓w_ok_insert, ↓w_ok_reverse, ↓w_ok_clear, ↓w_ok_index, ↓w_ok_count, ↓w_append, ↓w_extend, ↓w_reverse, ↓w_clear, ↓w_frz, ↓w_set0, ↓w_set1, ↓w_set2, ↓w_at0, ↓w_at1, ↓w_at2, ↓w_at3, ↓w_blOf, ↓w_intOf, ↓w_refOf, ↓w_cellO, ↓wdK_wd, ↓w_lenDW, lockC_dic, lockC_lst, isN_wd, ↓w_truB, ↓w_truI, ↓w_truF, ↓w_truT, ↓w_truN, ↓optI, ↓isNop, optW_some, isN_non, isN_int, isN_tup, isN_fl, isN_ref, lv_fl, ls_fl, sq_fl, sq_tup, ls_sc, sq_sc, lv_up, ls_up, sq_up, tyOf_fl, tyOf_int, tyOf_tup, tyOf_bl, tyOf_ref, Option.bind_some, List.length_cons, List.length_nil, reduceIte, Bool.false_eq_true, if_true, if_false, List.map_cons, List.map_nil, List.replicate, List.cons_append, List.nil_append, Nat.reduceSub, Nat.reduceAdd, Nat.reduceLeDiff, Int.reduceLT, Int.reduceLE, Int.reduceNeg, Int.reduceToNat, Int.reducePow, and_true, true_and, or_true, true_or, decide_eq_true_eq, Bool.not_eq_true', decide_eq_false_iff_not, up_up, decide_true, decide_false, not_true_eq_false, not_false_eq_true, Bool.not_true, Bool.not_false, List.any_cons, List.any_nil, Bool.or_false, Bool.or_true, Bool.true_or, Bool.false_or, List.mem_cons, List.not_mem_nil, or_false, false_or, reduceCtorEq, sq_ref, lv_ref, ls_ref])
local macro_rules | `(tactic| walk_at "e") => `(tactic| simp only [List.map_cons, List.map_nil, List.replicate, List.cons_append, List.nil_append, Nat.reduceSub])
local macro_rules | `(tactic| walk_at "i") => `(tactic| try simp only [Bool.true_eq_false, Bool.false_eq_true, Bool.not_true, Bool.not_false, Bool.and_true, Bool.true_and, Bool.and_false, Bool.false_and, if_false, if_true, reduceIte, decide_true, decide_false, not_true_eq_false, not_false_eq_true, eq_self])
section
variable {F : Fs}
theorem top_level_ok (hT : F f_top_level = some d_top_level) (hM : HasMk F) {room : Int} {t : Tr} {n : Nat} {h : Hq} {Q : QV} {E : QE} (hn : t.ht + 3 < n) (hd : t.keys.Nodup) (hz : t.size ≤ 1000) (q : Q (.int (Tr.mk room t).1) h) : CN F n f_top_level [t.tv, .int room] h Q E := by
  obtain ⟨n, rfl⟩ : ∃ m, n = m + 1 := ⟨n - 1, by omega⟩
  refine CN_go hT rfl ?_
  unfold d_top_level
  cases t with
  | nil =>
    simp only [Tr.tv]
    walk_at "e"
    walk_at "w"
    exact q
  | nd l k r =>
    have tvd : (Val.tup [l.tv, .int k, r.tv]) = (Tr.nd l k r).tv := rfl
    simp only [Tr.tv]
    walk_at "e"
    walk_at "w"
    rw [tvd]
    refine marks_known_ok hM (by omega) hd hz fun kvs g => ?_
    walk_at "w"
    rw [g, Tr.mkAt, if_pos rfl, Option.map_some, ev2]
    walk_at "w"
    exact q
theorem least_room_ok (hR : F f_least_room = some d_least_room) (hT : F f_top_level = some d_top_level) (hMa : F f_marks = some d_marks) (hM : HasMk F) (hK : F f_keys_of = some d_keys_of) (hB : F f_by_marks = some d_by_marks) (hL : HasBM F) {num : Int} {t : Tr} {n : Nat} {h : Hq} {Q : QV} {E : QE} (h1 : 1 ≤ num) (hn : t.ht + 7 < n) (hd : t.keys.Nodup) (hz : t.size ≤ 100)
    (q : ∀ h', Grow h h' → Q (.tup [.int (lrN t num : Nat), .fl ((layP (lrN t num : Nat) t).map Enc.val), if 1 < lrN t num then .fl ((Tr.rows ((lrN t num : Nat) - 1 : Int) t).map Enc.val) else .non]) h') : CN F n f_least_room [t.tv, .int num] h Q E := by
  obtain ⟨n, rfl⟩ : ∃ m, n = m + 1 := ⟨n - 1, by omega⟩
  obtain ⟨q1, q2, q3, q4⟩ := lrN_ok (t := t) h1
  refine CN_go hR rfl ?_
  unfold d_least_room
  walk_at "e"
  walk_at "w"
  rw [if_neg (by omega)]
  walk_at "w"
  refine whl_inv (fun ρ h Q Q' k w => moT F n _ ρ h Q Q' _ k w) (moS F n _) (fun m ρ h' => ∃ i : Nat, 1 ≤ i ∧ i + m = lrN t num ∧ h' = h ∧ ρ = [some t.tv, some (.int num), some (.int (i : Nat)), none]) (m := lrN t num - 1) ?_ ⟨1, Nat.le_refl _, by omega, rfl, rfl⟩
  intro m ρ h' ⟨i, i1, i2, e1, e⟩
  subst e1 e
  unfold t_least_room_1
  walk_at "w"
  refine top_level_ok hT hM (by omega) hd (by omega) ?_
  walk_at "w"
  by_cases c : i < lrN t num
  · have := q3 i i1 c
    rw [if_pos (by simpa using this)]
    unfold b_least_room_1
    walk_at "w"
    exact ⟨m - 1, by omega, i + 1, by omega, by omega, by simp⟩
  · have : i = lrN t num := by omega
    subst this
    rw [if_neg (by simpa using q2)]
    unfold c_least_room_2
    walk_at "w"
    have B : ∀ v : Val, v = (if 1 < lrN t num then .fl ((Tr.rows ((lrN t num : Nat) - 1 : Int) t).map Enc.val) else .non) → wpSs (CN F n) c_least_room_1 { nx := fun x h' => Q .non h', rt := Q, ex := fun x _ h' => E x h' } [some t.tv, some (.int num), some (.int (lrN t num : Nat)), some v] h' := fun v e => by
      unfold c_least_room_1
      walk_at "w"
      refine by_marks_ok hB hL hM (by omega) hd hz fun h2 g => ?_
      walk_at "w"
      rw [e]
      exact q h2 g
    split
    · rename_i c
      refine marks_ok hM hK hMa (by omega) hd (by omega) ?_
      exact B _ (by rw [if_pos (by omega)])
    · rename_i c
      exact B _ (by rw [if_neg (by omega)])
end

end L3

set_option Elab.async false
set_option linter.all false
set_option maxRecDepth 100000
namespace L3
open PySem PySem.Spec PyProof.Rows L2
def f_tree_at : Nat := 1148
def f_lowest : Nat := 1149
def f_paper_at : Nat := 1152
def f_number_all : Nat := 1153
def f_number_of : Nat := 1173
def f_from_below : Nat := 1157
def b_tree_at_1 : Sms := (.cons (.ite (.cmp .lt (.var 1) (.idx (.var 0) (.int 1))) (.cons (.asg (.name 0) (.idx (.var 0) (.int 0))) .nil) (.cons (.asg (.name 0) (.idx (.var 0) (.int 2))) .nil)) .nil)
def t_tree_at_1 : Ex := (.cmp .ne (.idx (.var 0) (.int 1)) (.var 1))
def c_tree_at_1 : Sms := (.cons (.ret (.var 0)) .nil)
def d_tree_at : Df := ⟨2, 2, (.cons (.whl t_tree_at_1 b_tree_at_1) c_tree_at_1)⟩
-- ['tree', 'key']
def d_lowest : Df := ⟨3, 4, (.cons (.ite (.cmp .is (.var 0) .non) (.cons (.ret (.lst true .nil)) .nil) .nil) (.cons (.asg (.name 3) (.bin .add true (.call f_lowest (.cons (.idx (.var 0) (.int 0)) (.cons (.var 1) (.cons (.var 2) .nil)))) (.call f_lowest (.cons (.idx (.var 0) (.int 2)) (.cons (.var 1) (.cons (.var 2) .nil)))))) (.cons (.ite (.bop true (.cons (.cmp .eq (.var 3) (.lst true .nil)) (.cons (.cmp .ge (.idx (.var 2) (.idx (.var 0) (.int 1))) (.var 1)) .nil))) (.cons (.ret (.lst true (.cons (.idx (.var 0) (.int 1)) .nil))) .nil) .nil) (.cons (.ret (.var 3)) .nil))))⟩
-- ['tree', 'number', 'known', 'found']
def e_paper_at_1 : Ex := (.call f_paper_at (.cons (.call f_tree_at (.cons (.var 0) (.cons (.var 5) .nil))) (.cons (.var 1) (.cons (.var 2) .nil))))
def d_paper_at : Df := ⟨3, 6, (.cons (.asg (.name 3) (.bin .sub true (.idx (.var 2) (.idx (.var 0) (.int 1))) (.int 1))) (.cons (.ite (.cmp .eq (.var 3) (.int 0)) (.cons (.ret (.tup (.cons (.str ⟨#[107, 110, 111, 116]⟩) (.cons (.idx (.var 0) (.int 1)) .nil)))) .nil) .nil) (.cons (.asg (.name 4) (.bin .add true (.call f_lowest (.cons (.idx (.var 0) (.int 0)) (.cons (.var 3) (.cons (.var 2) .nil)))) (.call f_lowest (.cons (.idx (.var 0) (.int 2)) (.cons (.var 3) (.cons (.var 2) .nil)))))) (.cons (.ret (.tup (.cons (.str ⟨#[112, 97, 114, 116]⟩) (.cons (.idx (.var 0) (.int 1)) (.cons (.blt .tuple true (.cons (.comp true e_paper_at_1 (.name 5) (.seq (.slc true (.var 4) .nop (.var 1))) .nop [5]) .nil)) .nil))))) .nil))))⟩
-- ['tree', 'room', 'known', 'number', 'some', 'key']
def b_number_all_1 : Sms := (.cons (.asg (.name 3) (.bin .add true (.var 3) (.int 1))) .nil)
def t_number_all_1 : Ex := (.cmp .ge (.blt .len true (.cons (.bin .add true (.call f_lowest (.cons (.idx (.var 0) (.int 0)) (.cons (.var 3) (.cons (.var 2) .nil)))) (.call f_lowest (.cons (.idx (.var 0) (.int 2)) (.cons (.var 3) (.cons (.var 2) .nil))))) .nil)) (.var 1))
def c_number_all_1 : Sms := (.cons (.asgI (.var 2) (.idx (.var 0) (.int 1)) (.var 3)) .nil)
def d_number_all : Df := ⟨3, 4, (.cons (.ite (.cmp .isnot (.var 0) .non) (.cons (.ex (.call f_number_all (.cons (.idx (.var 0) (.int 0)) (.cons (.var 1) (.cons (.var 2) .nil))))) (.cons (.ex (.call f_number_all (.cons (.idx (.var 0) (.int 2)) (.cons (.var 1) (.cons (.var 2) .nil))))) (.cons (.asg (.name 3) (.int 1)) (.cons (.whl t_number_all_1 b_number_all_1) c_number_all_1)))) .nil) .nil)⟩
-- ['tree', 'room', 'known', 'number']
def b_number_of_1 : Sms := (.cons (.asg (.name 0) (.idx (.idx (.var 0) (.int 2)) (.int 0))) (.cons (.asg (.name 1) (.bin .add true (.var 1) (.int 1))) .nil))
def t_number_of_1 : Ex := (.cmp .eq (.idx (.var 0) (.int 0)) (.str ⟨#[112, 97, 114, 116]⟩))
def c_number_of_1 : Sms := (.cons (.ret (.var 1)) .nil)
def d_number_of : Df := ⟨1, 2, (.cons (.asg (.name 1) (.int 1)) (.cons (.whl t_number_of_1 b_number_of_1) c_number_of_1))⟩
-- ['paper', 'found']
def d_from_below : Df := ⟨2, 3, (.cons (.asg (.name 2) (.dic0 false)) (.cons (.ex (.call f_number_all (.cons (.var 0) (.cons (.var 1) (.cons (.var 2) .nil))))) (.cons (.ret (.call f_paper_at (.cons (.var 0) (.cons (.var 1) (.cons (.var 2) .nil))))) .nil)))⟩
-- ['tree', 'room', 'known']
end L3

set_option Elab.async false
set_option linter.all false
set_option maxRecDepth 100000
namespace L3
open PySem PySem.Spec PyProof.Rows L2
local macro_rules | `(tactic| walk_at "d") => `(tactic| first | assumption | exact up_same | exact dr_fd _ _ | exact dr_wd _ _ | exact dr_ref (by assumption) | exact dr_ref up_same | exact keyOf_int | (exact (rfl : isNop _ = false)) | exact keyOf_str | exact tyOf_fl | exact tyOf_int | exact tyOf_tup | exact tyOf_bl | exact tyOf_ref (by assumption) | exact tyOf_ref up_same | (intro z; cases z))
local macro_rules | `(tactic| walk_at "w") => `(tactic| try simp -implicitDefEqProofs (disch := walk_at "d") only [↓wpE, ↓wpA, ↓wpB, ↓wpT, ↓wpTs, ↓wpI, ↓wpS, ↓wpSs, ↓optW_some, ↓w_lk0, ↓w_lkS, ↓w_bs, ↓w_bl0, ↓w_bl1, ↓w_k1, ↓w_kS, ↓w_b0, ↓w_b1, ↓w_b2, ↓w_b3, ↓w_b4, ↓w_b5, ↓w_b6, ↓w_b7, ↓w_b8, ↓w_b9, ↓w_b10, ↓w_b11, ↓w_b12, ↓w_b13, ↓w_b14, ↓w_b15, ↓w_b16, ↓w_b17, ↓w_b18, ↓w_b19, ↓w_b20, ↓w_b21, ↓w_b22, ↓w_b23, ↓w_b24, ↓w_b25, ↓alc_fz, ↓alc_lv, ↓w_dictZ, ↓w_eqNN, ↓w_add, ↓w_addS, ↓w_addL, ↓w_addT, ↓w_sub, ↓w_mul, ↓w_fdiv, ↓w_mod, ↓w_pow, ↓w_shl, ↓w_shr, ↓w_band, ↓w_eqI, ↓w_neI, ↓w_eqS, ↓w_neS, ↓w_lt, ↓w_le, ↓w_gt, ↓w_ge, ↓w_is, ↓w_isnot, ↓w_isB, ↓w_isnotB, ↓w_neF0, ↓w_eqF0, ↓w_neI_L, ↓w_eqI_L, ↓w_eqLL, ↓w_neDL, ↓w_eqDL, ↓w_idxR, ↓w_slcF, ↓w_slcT, ↓w_insert, ↓w_lrange, ↓w_revF, ↓w_revR, ↓w_tmul, ↓w_ok_indexF, ↓w_inI, ↓w_notinI, ↓w_eqEE, ↓w_neEE, ↓w_eqE0, ↓w_neE0, ↓w_eqRE, ↓w_neRE, ↓w_maxF, ↓w_minF, ↓w_eqB, ↓w_neB, ↓w_sortPF, ↓w_allF, ↓w_anyF, ↓w_slcR, ↓w_oi1, ↓w_oi2, ↓w_idxD, ↓w_inD, ↓w_notinD, ↓w_okD, ↓w_okDF, ↓w_okU, ↓w_get1N, ↓w_get2N, ↓w_get1, ↓w_get2, ↓w_upd, ↓w_putD, ↓w_frzD', ↓alcD_fz, ↓alcD_lv, ↓w_rep, ↓w_sortR, ↓w_sortF, ↓w_sumF, ↓w_idxF, ↓w_idxT, ↓w_idxS, ↓w_lenR, ↓w_lenF, ↓w_lenT, ↓w_lenS, ↓w_abs, ↓w_max2, ↓w_min2, ↓w_listF, ↓w_listT, ↓w_listR, ↓w_tupleF, ↓w_int, ↓w_intB, ↓w_isi, ↓w_ok_append, ↓w_ok_extend, ↓w_ok_pop, ↓w_ok_insert, ↓w_ok_reverse, ↓w_ok_clear, ↓w_ok_index, ↓w_ok_count, ↓w_append, ↓w_extend, ↓w_reverse, ↓w_clear, ↓w_frz, ↓w_set0, ↓w_set1, ↓w_set2, ↓w_at0, ↓w_at1, ↓w_at2, ↓w_at3, ↓w_blOf, ↓w_intOf, ↓w_refOf, ↓w_cellO, ↓wdK_wd, ↓w_lenDW, lockC_dic, lockC_lst, isN_wd, ↓w_truB, ↓w_truI, ↓w_truF, ↓w_truT, ↓w_truN, ↓optI, ↓isNop, optW_some, isN_non, isN_int, isN_tup, isN_fl, isN_ref, lv_fl, ls_fl, sq_fl, sq_tup, ls_sc, sq_sc, lv_up, ls_up, sq_up, tyOf_fl, tyOf_int, tyOf_tup, tyOf_bl, tyOf_ref, Option.bind_some, List.length_cons, List.length_nil, reduceIte, Bool.false_eq_true, if_true, if_false, List.map_cons, List.map_nil, List.replicate, List.cons_append, List.nil_append, Nat.reduceSub, Nat.reduceAdd, Nat.reduceLeDiff, Int.reduceLT, Int.reduceLE, Int.reduceNeg, Int.reduceToNat, Int.reducePow, and_true, true_and, or_true, true_or, decide_eq_true_eq, Bool.not_eq_true', decide_eq_false_iff_not, up_up, decide_true, decide_false, not_true_eq_false, not_false_eq_true, Bool.not_true, Bool.not_false, List.any_cons, List.any_nil, Bool.or_false, Bool.or_true, Bool.true_or, Bool.false_or, List.mem_cons, List.not_mem_nil, or_false, false_or, reduceCtorEq, sq_ref, lv_ref, ls_ref])
local macro_rules | `(tactic| walk_at "e") => `(tactic| simp only [List.map_cons, List.map_nil, List.replicate, List.cons_append, List.nil_append, Nat.reduceSub])
local macro_rules | `(tactic| walk_at "i") => `(tactic| try simp only [Bool.true_eq_false, Bool.false_eq_true, Bool.not_true, Bool.not_false, Bool.and_true, Bool.true_and, Bool.and_false, Bool.false_and, if_false, if_true, reduceIte, decide_true, decide_false, not_true_eq_false, not_false_eq_true, eq_self])
/-! ### papers from below, in plain words -/
inductive Pp where
  | knot (k : Int)
  | part (k : Int) (ps : List Pp)
mutual
def Pp.val : Pp → Val
  | .knot k => .tup [.str ⟨#[107, 110, 111, 116]⟩, .int k]
  | .part k ps => .tup [.str ⟨#[112, 97, 114, 116]⟩, .int k, .tup (Pp.vals ps)]
def Pp.vals : List Pp → List Val
  | [] => []
  | p :: ps => p.val :: Pp.vals ps
end
theorem vals_map : ∀ ps : List Pp, Pp.vals ps = ps.map Pp.val
  | [] => rfl
  | p :: ps => by rw [Pp.vals, vals_map ps]; rfl
mutual
def Pp.dep : Pp → Nat
  | .knot _ => 0
  | .part _ ps => Pp.deps ps + 1
def Pp.deps : List Pp → Nat
  | [] => 0
  | p :: ps => max p.dep (Pp.deps ps)
end
theorem deps_le {p : Pp} : ∀ {ps : List Pp}, p ∈ ps → p.dep ≤ Pp.deps ps
  | [], h => by simp at h
  | q :: ps, h => by
    rw [Pp.deps]
    rcases List.mem_cons.mp h with rfl | h
    · omega
    · have := deps_le h; omega
def Pp.key : Pp → Int
  | .knot k => k
  | .part k _ => k
/-- the first of some, where all are alike -/
def sameO : List (Option Nat) → Option Nat
  | [] => none
  | x :: xs => bif xs.all (fun y => y == x) then x else none
theorem sameO_cons {x : Option Nat} {xs : List (Option Nat)} : sameO (x :: xs) = bif xs.all (fun y => y == x) then x else none := rfl
/-- neither of two keys stands at or below the other one -/
def Unrel (t : Tr) (a b : Int) : Prop := a ∉ (t.at_ b).keys ∧ b ∉ (t.at_ a).keys
def Apart (t : Tr) (k : Int) (ks : List Int) : Prop := (∀ j ∈ ks, j ≠ k ∧ j ∈ (t.at_ k).keys) ∧ ks.Pairwise fun a b => Unrel t a b
open Classical in
mutual
noncomputable def Pp.num (R : Nat) (t : Tr) : Pp → Option Nat
  | .knot k => if k ∈ t.keys then some 1 else none
  | .part k ps => if k ∈ t.keys ∧ ps.length = R ∧ Apart t k (ps.map Pp.key) then (sameO (Pp.nums R t ps)).map (· + 1) else none
noncomputable def Pp.nums (R : Nat) (t : Tr) : List Pp → List (Option Nat)
  | [] => []
  | p :: ps => p.num R t :: Pp.nums R t ps
end
theorem nums_map {R : Nat} {t : Tr} : ∀ ps : List Pp, Pp.nums R t ps = ps.map (Pp.num R t)
  | [] => rfl
  | p :: ps => by rw [Pp.nums, nums_map ps]; rfl
theorem num_knot {R : Nat} {t : Tr} {k : Int} : (Pp.knot k).num R t = if k ∈ t.keys then some 1 else none := by
  rw [Pp.num]
theorem sameO_all {xs : List (Option Nat)} {n : Nat} (h : sameO xs = some n) : xs ≠ [] ∧ ∀ x ∈ xs, x = some n := by
  cases xs with
  | nil => cases h
  | cons x xs =>
    rw [sameO_cons] at h
    cases c : xs.all (fun y => y == x) with
    | true =>
      rw [c, cond_true] at h
      subst h
      refine ⟨by simp, fun y hy => ?_⟩
      rcases List.mem_cons.mp hy with rfl | hy
      · rfl
      · have := List.all_eq_true.mp c y hy
        simpa using this
    | false => rw [c, cond_false] at h; cases h
theorem sameO_of {xs : List (Option Nat)} {n : Nat} (h0 : xs ≠ []) (h : ∀ x ∈ xs, x = some n) : sameO xs = some n := by
  cases xs with
  | nil => exact absurd rfl h0
  | cons x xs =>
    have hx := h x (by simp)
    subst hx
    have : xs.all (fun y => y == some n) = true := by
      rw [List.all_eq_true]
      intro y hy
      rw [h y (by simp [hy])]
      simp
    rw [sameO_cons, this]; rfl
theorem num_part {R : Nat} {t : Tr} {k : Int} {ps : List Pp} {n : Nat} : (Pp.part k ps).num R t = some n ↔ k ∈ t.keys ∧ ps.length = R ∧ Apart t k (ps.map Pp.key) ∧ ps ≠ [] ∧ 1 ≤ n ∧ ∀ p ∈ ps, p.num R t = some (n - 1) := by
  rw [Pp.num, nums_map]
  constructor
  · intro h
    split at h
    · rename_i c
      obtain ⟨m, e1, e2⟩ := Option.map_eq_some_iff.mp h
      obtain ⟨q1, q2⟩ := sameO_all e1
      subst e2
      refine ⟨c.1, c.2.1, c.2.2, fun e => q1 (by rw [e]; rfl), by omega, fun p hp => ?_⟩
      rw [q2 _ (List.mem_map.mpr ⟨p, hp, rfl⟩)]; rfl
    · cases h
  · intro ⟨h1, h2, h3, h4, h5, h6⟩
    rw [if_pos ⟨h1, h2, h3⟩, sameO_of (n := n - 1) (by simpa using h4) (fun x hx => ?_)]
    · show some (n - 1 + 1) = some n
      rw [Nat.sub_add_cancel h5]
    · obtain ⟨p, hp, rfl⟩ := List.mem_map.mp hx
      exact h6 p hp
theorem num_pos {R : Nat} {t : Tr} {p : Pp} {n : Nat} (h : p.num R t = some n) : 1 ≤ n ∧ p.key ∈ t.keys := by
  cases p with
  | knot k =>
    rw [num_knot] at h
    split at h
    · rename_i c; cases h; exact ⟨Nat.le_refl _, c⟩
    · cases h
  | part k ps =>
    obtain ⟨h1, _, _, _, h5, _⟩ := num_part.mp h
    exact ⟨h5, h1⟩

/-! ### the greatest numbers -/
/-- from a number on, the first one that has fewer than the room -/
def firstN (R : Nat) (c : Nat → Nat) : Nat → Nat → Nat
  | 0, n => n
  | f + 1, n => if R ≤ c n then firstN R c f (n + 1) else n
/-- the greatest number at a tree's top, and the lowest knots with at least a number -/
def bel (R : Nat) : Tr → Nat × (Nat → List Tr)
  | .nil => (0, fun _ => [])
  | .nd l k r =>
    let f := fun v => (bel R l).2 v ++ (bel R r).2 v
    let n := firstN R (fun v => (f v).length) (l.size + r.size + 1) 1
    (n, fun v => if f v = [] ∧ v ≤ n then [.nd l k r] else f v)
def nu (R : Nat) (t : Tr) : Nat := (bel R t).1
def low (R : Nat) (v : Nat) (t : Tr) : List Tr := (bel R t).2 v
/-- .. of both sides -/
def lowS (R : Nat) (v : Nat) (l r : Tr) : List Tr := low R v l ++ low R v r
theorem low_nil {R v : Nat} : low R v .nil = [] := rfl
theorem low_nd {R v : Nat} {l r : Tr} {k : Int} : low R v (.nd l k r) = if lowS R v l r = [] ∧ v ≤ nu R (.nd l k r) then [.nd l k r] else lowS R v l r := rfl
theorem nu_nd {R : Nat} {l r : Tr} {k : Int} : nu R (.nd l k r) = firstN R (fun v => (lowS R v l r).length) (l.size + r.size + 1) 1 := rfl
theorem firstN_ge {R : Nat} {c : Nat → Nat} : ∀ {f n : Nat}, n ≤ firstN R c f n
  | 0, _ => Nat.le_refl _
  | f + 1, n => by
    unfold firstN
    split
    · have := firstN_ge (R := R) (c := c) (f := f) (n := n + 1); omega
    · exact Nat.le_refl _
theorem firstN_mid {R : Nat} {c : Nat → Nat} : ∀ {f n v : Nat}, n ≤ v → v < firstN R c f n → R ≤ c v
  | 0, n, v, h1, h2 => by unfold firstN at h2; omega
  | f + 1, n, v, h1, h2 => by
    unfold firstN at h2
    split at h2
    · rename_i q
      by_cases e : n = v
      · rw [← e]; exact q
      · exact firstN_mid (by omega) h2
    · omega
theorem firstN_end {R : Nat} {c : Nat → Nat} {m : Nat} (hm : c m < R) : ∀ {f n : Nat}, n ≤ m → m < n + f → c (firstN R c f n) < R ∧ firstN R c f n ≤ m
  | 0, n, h1, h2 => by omega
  | f + 1, n, h1, h2 => by
    unfold firstN
    split
    · rename_i q
      have : n ≠ m := fun e => by rw [e] at q; omega
      exact firstN_end hm (by omega) (by omega)
    · exact ⟨by omega, h1⟩
theorem low_size {R : Nat} (hR : 1 ≤ R) : ∀ t : Tr, nu R t ≤ t.size ∧ ∀ v, t.size < v → low R v t = []
  | .nil => ⟨Nat.le_refl _, fun _ _ => rfl⟩
  | .nd l k r => by
    obtain ⟨l1, l2⟩ := low_size hR l
    obtain ⟨r1, r2⟩ := low_size hR r
    have e0 : ∀ v, l.size < v → r.size < v → lowS R v l r = [] := fun v h1 h2 => by unfold lowS; rw [l2 v h1, r2 v h2]; rfl
    have hn : nu R (.nd l k r) ≤ l.size + 1 + r.size := by
      rw [nu_nd]
      have := (firstN_end (R := R) (c := fun v => (lowS R v l r).length) (m := l.size + r.size + 1) (by
        show (lowS R _ l r).length < R
        rw [e0 _ (by omega) (by omega)]; simp; omega) (f := l.size + r.size + 1) (n := 1) (by omega) (by omega)).2
      omega
    refine ⟨hn, fun v hv => ?_⟩
    simp only [Tr.size] at hv
    rw [low_nd, if_neg (fun z => by have := z.2; omega)]
    exact e0 v (by omega) (by omega)
/-- what the number says -/
theorem nu_is {R : Nat} (hR : 1 ≤ R) {l r : Tr} {k : Int} : 1 ≤ nu R (.nd l k r) ∧ (∀ v, 1 ≤ v → v < nu R (.nd l k r) → R ≤ (lowS R v l r).length) ∧ (lowS R (nu R (.nd l k r)) l r).length < R := by
  rw [nu_nd]
  refine ⟨firstN_ge, fun v h1 h2 => firstN_mid h1 h2, ?_⟩
  refine (firstN_end (R := R) (c := fun v => (lowS R v l r).length) (m := l.size + r.size + 1) ?_ (by omega) (by omega)).1
  show (lowS R _ l r).length < R
  unfold lowS
  rw [(low_size hR l).2 _ (by omega), (low_size hR r).2 _ (by omega)]
  simp; omega
theorem nu_pos {R : Nat} (hR : 1 ≤ R) {t : Tr} (h : t ≠ .nil) : 1 ≤ nu R t := by
  cases t with
  | nil => exact absurd rfl h
  | nd l k r => exact (nu_is hR).1
/-- fewer for greater numbers -/
theorem low_mono {R : Nat} {v : Nat} : ∀ t : Tr, (low R (v + 1) t).length ≤ (low R v t).length
  | .nil => Nat.le_refl _
  | .nd l k r => by
    have hl := low_mono (R := R) (v := v) l
    have hr := low_mono (R := R) (v := v) r
    have hs : (lowS R (v + 1) l r).length ≤ (lowS R v l r).length := by unfold lowS; rw [List.length_append, List.length_append]; omega
    rw [low_nd, low_nd]
    by_cases e : lowS R v l r = []
    · have e' : lowS R (v + 1) l r = [] := List.eq_nil_of_length_eq_zero (by rw [e] at hs; simpa using hs)
      rw [e, e']
      by_cases c : v + 1 ≤ nu R (.nd l k r)
      · rw [if_pos ⟨rfl, c⟩, if_pos ⟨rfl, by omega⟩]; exact Nat.le_refl _
      · rw [if_neg (fun z => c z.2)]; simp
    · have : 1 ≤ (lowS R v l r).length := List.length_pos_iff.mpr e
      rw [if_neg (c := lowS R v l r = [] ∧ _) (fun z => e z.1)]
      split
      · simpa using this
      · exact hs
theorem lowS_mono {R : Nat} {l r : Tr} : ∀ {v w : Nat}, v ≤ w → (lowS R w l r).length ≤ (lowS R v l r).length := fun {v w} h => by
  induction h with
  | refl => exact Nat.le_refl _
  | step _ ih =>
    rename_i m _
    refine Nat.le_trans ?_ ih
    unfold lowS
    rw [List.length_append, List.length_append]
    have h1 := low_mono (R := R) (v := m) l
    have h2 := low_mono (R := R) (v := m) r
    exact Nat.add_le_add h1 h2
theorem low_subs {R v : Nat} {s : Tr} : ∀ {t : Tr}, s ∈ low R v t → s ∈ t.subs
  | .nil, h => by simp [low_nil] at h
  | .nd l k r, h => by
    rw [low_nd] at h
    split at h
    · rw [List.mem_singleton.mp h]; simp [Tr.subs]
    · unfold lowS at h
      rcases List.mem_append.mp h with h | h
      · have := low_subs h; simp [Tr.subs, this]
      · have := low_subs h; simp [Tr.subs, this]
/-- each of them has just the number -/
theorem low_nu {R v : Nat} (hR : 1 ≤ R) (hv : 1 ≤ v) {s : Tr} : ∀ {t : Tr}, s ∈ low R v t → nu R s = v
  | .nil, h => by simp [low_nil] at h
  | .nd l k r, h => by
    rw [low_nd] at h
    split at h
    · rename_i c
      rw [List.mem_singleton.mp h]
      by_cases e : nu R (.nd l k r) = v
      · exact e
      · have := (nu_is hR (l := l) (k := k) (r := r)).2.1 v hv (by omega)
        rw [c.1] at this
        simp at this; omega
    · unfold lowS at h
      rcases List.mem_append.mp h with h | h
      · exact low_nu hR hv h
      · exact low_nu hR hv h
/-- and some knot beneath one with a greater number -/
theorem low_ex {R v : Nat} {s : Tr} : ∀ {t : Tr}, s ∈ t.subs → v ≤ nu R s → low R v t ≠ []
  | .nil, h, _ => by simp [Tr.subs] at h
  | .nd l k r, h, hv => by
    rw [low_nd]
    simp only [Tr.subs, List.mem_cons, List.mem_append] at h
    rcases h with rfl | h | h
    · split
      · simp
      · rename_i c; intro z; exact c ⟨z, hv⟩
    · have := low_ex h hv
      split
      · simp
      · unfold lowS; intro z; exact this (List.append_eq_nil_iff.mp z).1
    · have := low_ex h hv
      split
      · simp
      · unfold lowS; intro z; exact this (List.append_eq_nil_iff.mp z).2
/-- the number of a knot is at least those below -/
theorem nu_sub {R : Nat} (hR : 1 ≤ R) {s : Tr} : ∀ {t : Tr}, s ∈ t.subs → nu R s ≤ nu R t
  | .nil, h => by simp [Tr.subs] at h
  | .nd l k r, h => by
    simp only [Tr.subs, List.mem_cons, List.mem_append] at h
    obtain ⟨n1, n2, n3⟩ := nu_is hR (l := l) (k := k) (r := r)
    have side : ∀ u : Tr, (u = l ∨ u = r) → u ≠ .nil → nu R u ≤ nu R (.nd l k r) := fun u hu une => by
      obtain ⟨a, j, b, rfl⟩ := tv_ne une
      obtain ⟨m1, m2, m3⟩ := nu_is hR (l := a) (k := j) (r := b)
      refine Classical.not_not.mp fun z => ?_
      have q := m2 (nu R (.nd l k r)) n1 (by omega)
      have e : low R (nu R (.nd l k r)) (.nd a j b) = lowS R (nu R (.nd l k r)) a b := by
        rw [low_nd, if_neg]
        intro w
        rw [w.1] at q
        simp at q; omega
      have : (lowS R (nu R (.nd l k r)) a b).length ≤ (lowS R (nu R (.nd l k r)) l r).length := by
        rw [← e]
        unfold lowS
        rw [List.length_append]
        rcases hu with hu | hu <;> rw [hu] <;> omega
      omega
    have hne : ∀ u : Tr, s ∈ u.subs → u ≠ .nil := fun u h e => by rw [e] at h; simp [Tr.subs] at h
    rcases h with rfl | h | h
    · exact Nat.le_refl _
    · exact Nat.le_trans (nu_sub hR h) (side l (.inl rfl) (hne l h))
    · exact Nat.le_trans (nu_sub hR h) (side r (.inr rfl) (hne r h))

end L3

set_option Elab.async false
set_option linter.all false
set_option maxRecDepth 100000
namespace L3
open PySem PySem.Spec PyProof.Rows L2
local macro_rules | `(tactic| walk_at "d") => `(tactic| first | assumption | exact up_same | exact dr_fd _ _ | exact dr_wd _ _ | exact dr_ref (by assumption) | exact dr_ref up_same | exact keyOf_int | (exact (rfl : isNop _ = false)) | exact keyOf_str | exact tyOf_fl | exact tyOf_int | exact tyOf_tup | exact tyOf_bl | exact tyOf_ref (by assumption) | exact tyOf_ref up_same | (intro z; cases z))
local macro_rules | `(tactic| walk_at "w") => `(tactic| try simp -implicitDefEqProofs (disch := walk_at "d") only [↓wpE, ↓wpA, ↓wpB, ↓wpT, ↓wpTs, ↓wpI, ↓wpS, ↓wpSs, ↓optW_some, ↓w_lk0, ↓w_lkS, ↓w_bs, ↓w_bl0, ↓w_bl1, ↓w_k1, ↓w_kS, ↓w_b0, ↓w_b1, ↓w_b2, ↓w_b3, ↓w_b4, ↓w_b5, ↓w_b6, ↓w_b7, ↓w_b8, ↓w_b9, ↓w_b10, ↓w_b11, ↓w_b12, ↓w_b13, ↓w_b14, ↓w_b15, ↓w_b16, ↓w_b17, ↓w_b18, ↓w_b19, ↓w_b20, ↓w_b21, ↓w_b22, ↓w_b23, ↓w_b24, ↓w_b25, ↓alc_fz, ↓alc_lv, ↓w_dictZ, ↓w_eqNN, ↓w_add, ↓w_addS, ↓w_addL, ↓w_addT, ↓w_sub, ↓w_mul, ↓w_fdiv, ↓w_mod, ↓w_pow, ↓w_shl, ↓w_shr, ↓w_band, ↓w_eqI, ↓w_neI, ↓w_eqS, ↓w_neS, ↓w_lt, ↓w_le, ↓w_gt, ↓w_ge, ↓w_is, ↓w_isnot, ↓w_isB, ↓w_isnotB, ↓w_neF0, ↓w_eqF0, ↓w_neI_L, ↓w_eqI_L, ↓w_eqLL, ↓w_neDL, ↓w_eqDL, ↓w_idxR, ↓w_slcF, ↓w_slcT, ↓w_insert, ↓w_lrange, ↓w_revF, ↓w_revR, ↓w_tmul, ↓w_ok_indexF, ↓w_inI, ↓w_notinI, ↓w_eqEE, ↓w_neEE, ↓w_eqE0, ↓w_neE0, ↓w_eqRE, ↓w_neRE, ↓w_maxF, ↓w_minF, ↓w_eqB, ↓w_neB, ↓w_sortPF, ↓w_allF, ↓w_anyF, ↓w_slcR, ↓w_oi1, ↓w_oi2, ↓w_idxD, ↓w_inD, ↓w_notinD, ↓w_okD, ↓w_okDF, ↓w_okU, ↓w_get1N, ↓w_get2N, ↓w_get1, ↓w_get2, ↓w_upd, ↓w_putD, ↓w_frzD', ↓alcD_fz, ↓alcD_lv, ↓w_rep, ↓w_sortR, ↓w_sortF, ↓w_sumF, ↓w_idxF, ↓w_idxT, ↓w_idxS, ↓w_lenR, ↓w_lenF, ↓w_lenT, ↓w_lenS, ↓w_abs, ↓w_max2, ↓w_min2, ↓w_listF, ↓w_listT, ↓w_listR, ↓w_tupleF, ↓w_int, ↓w_intB, ↓w_isi, ↓w_ok_append, ↓w_ok_extend, ↓w_ok_pop, ↓w_ok_insert, ↓w_ok_reverse, ↓w_ok_clear, ↓w_ok_index, ↓w_ok_count, ↓w_append, ↓w_extend, ↓w_reverse, ↓w_clear, ↓w_frz, ↓w_set0, ↓w_set1, ↓w_set2, ↓w_at0, ↓w_at1, ↓w_at2, ↓w_at3, ↓w_blOf, ↓w_intOf, ↓w_refOf, ↓w_cellO, ↓wdK_wd, ↓w_lenDW, lockC_dic, lockC_lst, isN_wd, ↓w_truB, ↓w_truI, ↓w_truF, ↓w_truT, ↓w_truN, ↓optI, ↓isNop, optW_some, isN_non, isN_int, isN_tup, isN_fl, isN_ref, lv_fl, ls_fl, sq_fl, sq_tup, ls_sc, sq_sc, lv_up, ls_up, sq_up, tyOf_fl, tyOf_int, tyOf_tup, tyOf_bl, tyOf_ref, Option.bind_some, List.length_cons, List.length_nil, reduceIte, Bool.false_eq_true, if_true, if_false, List.map_cons, List.map_nil, List.replicate, List.cons_append, List.nil_append, Nat.reduceSub, Nat.reduceAdd, Nat.reduceLeDiff, Int.reduceLT, Int.reduceLE, Int.reduceNeg, Int.reduceToNat, Int.reducePow, and_true, true_and, or_true, true_or, decide_eq_true_eq, Bool.not_eq_true', decide_eq_false_iff_not, up_up, decide_true, decide_false, not_true_eq_false, not_false_eq_true, Bool.not_true, Bool.not_false, List.any_cons, List.any_nil, Bool.or_false, Bool.or_true, Bool.true_or, Bool.false_or, List.mem_cons, List.not_mem_nil, or_false, false_or, reduceCtorEq, sq_ref, lv_ref, ls_ref])
local macro_rules | `(tactic| walk_at "e") => `(tactic| simp only [List.map_cons, List.map_nil, List.replicate, List.cons_append, List.nil_append, Nat.reduceSub])
local macro_rules | `(tactic| walk_at "i") => `(tactic| try simp only [Bool.true_eq_false, Bool.false_eq_true, Bool.not_true, Bool.not_false, Bool.and_true, Bool.true_and, Bool.and_false, Bool.false_and, if_false, if_true, reduceIte, decide_true, decide_false, not_true_eq_false, not_false_eq_true, eq_self])
theorem at_sub {s : Tr} : ∀ {t : Tr}, s ∈ t.subs → t.keys.Pairwise (· < ·) → t.at_ s.top = s
  | .nil, h, _ => by simp [Tr.subs] at h
  | .nd l x r, h, hu => by
    have hu' := hu
    simp only [Tr.keys] at hu
    rw [List.pairwise_append, List.pairwise_cons] at hu
    obtain ⟨u1, ⟨u2, u3⟩, u4⟩ := hu
    simp only [Tr.subs, List.mem_cons, List.mem_append] at h
    unfold Tr.at_
    rcases h with rfl | h | h
    · exact if_pos rfl
    · have c := u4 _ (subs_top h) x (by simp)
      rw [if_neg (by omega), if_pos c]
      exact at_sub h u1
    · have c := u2 _ (subs_top h)
      rw [if_neg (by omega), if_neg (by omega)]
      exact at_sub h u3
theorem sub_at {t : Tr} {k : Int} (h : k ∈ t.keys) (hu : t.keys.Pairwise (· < ·)) : t.at_ k ∈ t.subs ∧ (t.at_ k).top = k := by
  induction t with
  | nil => simp [Tr.keys] at h
  | nd l x r il ir =>
    simp only [Tr.keys] at hu h
    rw [List.pairwise_append, List.pairwise_cons] at hu
    obtain ⟨u1, ⟨u2, u3⟩, u4⟩ := hu
    simp only [List.mem_append, List.mem_cons] at h
    unfold Tr.at_
    by_cases e : k = x
    · rw [if_pos e]; exact ⟨by simp [Tr.subs], e.symm⟩
    · rw [if_neg e]
      rcases h with h | h | h
      · have := u4 k h x (by simp)
        rw [if_pos this]
        obtain ⟨a, b⟩ := il h u1
        exact ⟨by simp [Tr.subs, a], b⟩
      · exact absurd h e
      · have := u2 k h
        rw [if_neg (by omega)]
        obtain ⟨a, b⟩ := ir h u3
        exact ⟨by simp [Tr.subs, a], b⟩
theorem bdp_new {kvs : KVs} {k : Key} {v : Val} (h : k ∉ kvs.map (·.1)) : dp kvs k v = kvs ++ [(k, v)] := by
  unfold dp
  rw [if_neg]
  intro z
  obtain ⟨q, hq, e⟩ := List.any_eq_true.mp z
  exact h (List.mem_map.mpr ⟨q, hq, of_decide_eq_true e⟩)
theorem bdg_app (a b : KVs) (k : Key) : dg (a ++ b) k = (dg a k).or (dg b k) := by
  unfold dg
  rw [List.find?_append]
  cases a.find? fun kv => decide (kv.1 = k) <;> rfl
theorem bdg_none {kvs : KVs} {k : Key} (h : k ∉ kvs.map (·.1)) : dg kvs k = none := by
  unfold dg
  rw [Option.map_eq_none_iff, List.find?_eq_none]
  intro q hq z
  exact h (List.mem_map.mpr ⟨q, hq, of_decide_eq_true z⟩)
/-- the numbers of all knots, lowest ones first -/
def numK (R : Nat) : Tr → KVs
  | .nil => []
  | .nd l k r => numK R l ++ numK R r ++ [(.inl k, .int (nu R (.nd l k r) : Nat))]
theorem numK_keys {R : Nat} {j : Int} : ∀ {t : Tr}, (Sum.inl j : Key) ∈ (numK R t).map (·.1) ↔ j ∈ t.keys
  | .nil => by simp [numK, Tr.keys]
  | .nd l k r => by
    have hl := numK_keys (R := R) (j := j) (t := l)
    have hr := numK_keys (R := R) (j := j) (t := r)
    simp only [numK, Tr.keys, List.map_append, List.map_cons, List.map_nil, List.mem_append, List.mem_cons, List.not_mem_nil, or_false, hl, hr, Sum.inl.injEq]
    constructor
    · rintro ((h | h) | h)
      · exact .inl h
      · exact .inr (.inr h)
      · exact .inr (.inl h)
    · rintro (h | h | h)
      · exact .inl (.inl h)
      · exact .inr h
      · exact .inl (.inr h)
theorem numK_len {R : Nat} : ∀ t : Tr, (numK R t).length = t.size
  | .nil => rfl
  | .nd l k r => by simp only [numK, List.length_append, List.length_singleton, numK_len l, numK_len r, Tr.size]; omega
theorem numK_dg {R : Nat} {s : Tr} : ∀ {t : Tr}, t.keys.Nodup → s ∈ t.subs → dg (numK R t) (.inl s.top) = some (.int (nu R s : Nat))
  | .nil, _, h => by simp [Tr.subs] at h
  | .nd l k r, nd, h => by
    simp only [Tr.keys] at nd
    rw [List.nodup_append, List.nodup_cons] at nd
    obtain ⟨n1, ⟨n2, n4⟩, n3⟩ := nd
    simp only [Tr.subs, List.mem_cons, List.mem_append] at h
    rw [numK, bdg_app, bdg_app]
    rcases h with rfl | h | h
    · simp only [Tr.top]
      rw [bdg_none (kvs := numK R l) (fun z => n3 k (numK_keys.mp z) k (by simp) rfl), bdg_none (kvs := numK R r) (fun z => n2 (numK_keys.mp z))]
      simp [dg]
    · rw [numK_dg n1 h]; rfl
    · have := subs_top h
      rw [bdg_none (kvs := numK R l) (fun z => n3 _ (numK_keys.mp z) _ (by simp [this]) rfl), numK_dg n4 h]; rfl
/-- a paper of the greatest number -/
def pap (R : Nat) : Nat → Tr → Pp
  | 0, t => .knot t.top
  | _ + 1, .nil => .knot 0
  | n + 1, .nd l k r => if nu R (.nd l k r) = 1 then .knot k else .part k (((lowS R (nu R (.nd l k r) - 1) l r).take R).map (pap R n))
section
variable {F : Fs}
theorem lowest_ok (hF : F f_lowest = some d_lowest) {R v : Nat} {x : Val} {kvs : KVs} {h : Hq} {E : QE} (hx : dr h x = some kvs) : ∀ (t : Tr) (n : Nat) {Q : QV}, t.ht < n → t.size ≤ 1000 → (∀ s ∈ t.subs, dg kvs (.inl s.top) = some (.int (nu R s : Nat))) →
      Q (.fl (((low R v t).map Tr.top).map .int)) h → CN F n f_lowest [t.tv, .int (v : Nat), x] h Q E
  | t, 0, Q, hn, _, _, _ => by omega
  | .nil, n + 1, Q, _, _, _, q => by
    refine CN_go hF rfl ?_
    unfold d_lowest
    simp only [Tr.tv]
    walk_at "e"
    walk_at "w"
    exact q
  | .nd l k r, n + 1, Q, hn, hz, hk, q => by
    simp only [Tr.ht] at hn
    simp only [Tr.size] at hz
    have len : ∀ s : Tr, (low R v s).length ≤ s.size := fun s => by
      induction s with
      | nil => exact Nat.le_refl _
      | nd a j b ia ib =>
        rw [low_nd]
        simp only [Tr.size]
        split
        · simp only [List.length_singleton]; omega
        · unfold lowS; rw [List.length_append]; omega
    have l1 := len l
    have l2 := len r
    refine CN_go hF rfl ?_
    unfold d_lowest
    simp only [Tr.tv]
    walk_at "e"
    walk_at "w"
    refine lowest_ok hF hx l n (by omega) (by omega) (fun s hs => hk s (by simp [Tr.subs, hs])) ?_
    walk_at "w"
    refine lowest_ok hF hx r n (by omega) (by omega) (fun s hs => hk s (by simp [Tr.subs, hs])) ?_
    walk_at "w"
    refine ⟨by simp only [List.length_map]; omega, ?_⟩
    rw [← List.map_append, ← List.map_append]
    have hself : dg kvs (.inl k) = some (.int (nu R (.nd l k r) : Nat)) := hk (.nd l k r) (by simp [Tr.subs])
    have eS : low R v l ++ low R v r = lowS R v l r := rfl
    rw [eS]
    rw [low_nd] at q
    walk_at "w"
    split
    · rename_i c
      have c' : lowS R v l r = [] := by simpa using c
      rw [hself, optW_some]
      walk_at "w"
      split
      · rename_i c2
        rw [if_pos ⟨c', by omega⟩] at q
        exact q
      · rename_i c2
        rw [if_neg (fun z => c2 (by have := z.2; omega))] at q
        exact q
    · rename_i c
      rw [if_neg (fun z => c (by rw [z.1]; rfl))] at q
      exact q
theorem lowT_len {R v : Nat} : ∀ s : Tr, (low R v s).length ≤ s.size
  | .nil => Nat.le_refl _
  | .nd a j b => by
    have := lowT_len (R := R) (v := v) a
    have := lowT_len (R := R) (v := v) b
    rw [low_nd]
    simp only [Tr.size]
    split
    · simp only [List.length_singleton]; omega
    · unfold lowS; rw [List.length_append]; omega
theorem number_all_ok (hF : F f_number_all = some d_number_all) (hL : F f_lowest = some d_lowest) {R : Nat} (hR : 1 ≤ R) {p : Addr} {E : QE} : ∀ (t : Tr) (n : Nat) (L : KVs) {h : Hq} {Q : QV}, t.ht < n → t.keys.Nodup → L.length + t.size ≤ 1000 → (∀ j ∈ t.keys, (Sum.inl j : Key) ∉ L.map (·.1)) → h p = some (.dic L) →
      Q .non (up h p (.dic (L ++ numK R t))) → CN F n f_number_all [t.tv, .int (R : Nat), .ref p] h Q E
  | t, 0, L, h, Q, hn, _, _, _, _, _ => by omega
  | .nil, n + 1, L, h, Q, hn, _, _, _, e, q => by
    refine CN_go hF rfl ?_
    unfold d_number_all
    simp only [Tr.tv]
    walk_at "e"
    walk_at "w"
    rw [show numK R .nil = [] from rfl, List.append_nil, up_id e] at q
    exact q
  | .nd l k r, n + 1, L, h, Q, hn, nd, hz, hL', e, q => by
    have nd0 := nd
    simp only [Tr.keys] at nd
    rw [List.nodup_append, List.nodup_cons] at nd
    obtain ⟨n1, ⟨n2, n4⟩, n3⟩ := nd
    simp only [Tr.ht] at hn
    simp only [Tr.size] at hz
    have ll := numK_len (R := R) l
    have lr := numK_len (R := R) r
    refine CN_go hF rfl ?_
    unfold d_number_all
    simp only [Tr.tv]
    walk_at "e"
    walk_at "w"
    refine number_all_ok hF hL hR l n L (by omega) n1 (by omega) (fun j hj => hL' j (by simp [Tr.keys, hj])) e ?_
    walk_at "w"
    refine number_all_ok hF hL hR r n (L ++ numK R l) (by omega) n4 (by rw [List.length_append]; omega) (fun j hj hm => ?_) up_same ?_
    · rw [List.map_append] at hm
      rcases List.mem_append.mp hm with hm | hm
      · exact hL' j (by simp [Tr.keys, hj]) hm
      · exact n3 _ (numK_keys.mp hm) j (by simp [hj]) rfl
    rw [up_up, List.append_assoc]
    walk_at "w"
    obtain ⟨m1, m2, m3⟩ := nu_is hR (l := l) (k := k) (r := r)
    have hdg : ∀ s ∈ l.subs ++ r.subs, dg (L ++ (numK R l ++ numK R r)) (.inl s.top) = some (.int (nu R s : Nat)) := fun s hs => by
      have hk : s.top ∈ l.keys ∨ s.top ∈ r.keys := (List.mem_append.mp hs).imp subs_top subs_top
      rw [bdg_app, bdg_app, bdg_none (kvs := L) (hL' _ (by rcases hk with h | h <;> simp [Tr.keys, h]))]
      rcases List.mem_append.mp hs with hs | hs
      · rw [numK_dg n1 hs]; rfl
      · rw [bdg_none (kvs := numK R l) (fun z => n3 _ (numK_keys.mp z) _ (by simp [subs_top hs]) rfl), numK_dg n4 hs]; rfl
    refine whl_inv (fun ρ h Q Q' k w => moT F n _ ρ h Q Q' _ k w) (moS F n _) (fun j ρ h' => ∃ v : Nat, j + v = nu R (.nd l k r) ∧ 1 ≤ v ∧ h' = up h p (.dic (L ++ (numK R l ++ numK R r))) ∧ ρ = [some (.tup [l.tv, .int k, r.tv]), some (.int (R : Nat)), some (.ref p), some (.int (v : Nat))]) ?_ (m := nu R (.nd l k r) - 1) ?_
    · intro j ρ h' ⟨v, ej, v1, e2, e3⟩
      subst e2 e3
      unfold t_number_all_1
      walk_at "w"
      refine lowest_ok hL (dr_ref up_same) l n (by omega) (by omega) (fun s hs => hdg s (by simp [hs])) ?_
      walk_at "w"
      refine lowest_ok hL (dr_ref up_same) r n (by omega) (by omega) (fun s hs => hdg s (by simp [hs])) ?_
      have t1 := lowT_len (R := R) (v := v) l
      have t2 := lowT_len (R := R) (v := v) r
      walk_at "w"
      refine ⟨by simp only [List.length_map]; omega, ?_⟩
      rw [← List.map_append, ← List.map_append, show low R v l ++ low R v r = lowS R v l r from rfl, List.length_map, List.length_map]
      split
      · rename_i c
        unfold b_number_all_1
        walk_at "w"
        have : v ≠ nu R (.nd l k r) := fun e => by rw [← e] at m3; omega
        exact ⟨j - 1, by omega, v + 1, by omega, by omega, by push_cast; rfl⟩
      · rename_i c
        have ev : v = nu R (.nd l k r) := by
          refine Classical.not_not.mp fun z => ?_
          have := m2 v v1 (by omega)
          omega
        subst ev
        unfold c_number_all_1
        walk_at "w"
        refine ⟨by rw [List.length_append, List.length_append]; omega, ?_⟩
        rw [bdp_new]
        · simp only [numK, List.append_assoc] at q ⊢
          exact q
        · intro hm
          simp only [List.map_append, List.mem_append] at hm
          rcases hm with hm | hm | hm
          · exact hL' k (by simp [Tr.keys]) hm
          · exact n3 _ (numK_keys.mp hm) k (by simp) rfl
          · exact n2 (numK_keys.mp hm)
    · exact ⟨1, by omega, by omega, rfl, rfl⟩
theorem tree_at_ok (hF : F f_tree_at = some d_tree_at) {n : Nat} {t : Tr} {k : Int} {h : Hq} {Q : QV} {E : QE} (hu : t.keys.Pairwise (· < ·)) (hk : k ∈ t.keys) (q : Q (t.at_ k).tv h) : CN F (n + 1) f_tree_at [t.tv, .int k] h Q E := by
  obtain ⟨T, hT⟩ : ∃ T, T = t.at_ k := ⟨_, rfl⟩
  rw [← hT] at q
  refine CN_go hF rfl ?_
  unfold d_tree_at
  walk_at "e"
  walk_at "w"
  refine whl_inv (fun ρ h Q Q' k w => moT F n _ ρ h Q Q' _ k w) (moS F n _) (fun j ρ h' => ∃ s : Tr, s.size ≤ j ∧ s.at_ k = T ∧ s.keys.Pairwise (· < ·) ∧ k ∈ s.keys ∧ h' = h ∧ ρ = [some s.tv, some (.int k)]) ?_ (m := t.size) ?_
  · intro j ρ h' ⟨s, sj, e1, su, sk, e2, e3⟩
    subst e2 e3
    cases s with
    | nil => simp [Tr.keys] at sk
    | nd l x r =>
      simp only [Tr.keys] at su sk
      rw [List.pairwise_append, List.pairwise_cons] at su
      obtain ⟨u1, ⟨u2, u3⟩, u4⟩ := su
      simp only [List.mem_append, List.mem_cons] at sk
      simp only [Tr.size] at sj
      unfold Tr.at_ at e1
      unfold t_tree_at_1
      simp only [Tr.tv]
      walk_at "w"
      by_cases e : x = k
      · rw [if_pos e.symm] at e1
        rw [if_neg (fun z => z e)]
        unfold c_tree_at_1
        walk_at "w"
        rw [← e1] at q
        exact q
      · rw [if_neg (Ne.symm e)] at e1
        rw [if_pos e]
        unfold b_tree_at_1
        walk_at "w"
        split
        · rename_i c
          rw [if_pos c] at e1
          refine ⟨l.size, by omega, l, Nat.le_refl _, e1, u1, ?_, rfl⟩
          rcases sk with h | h | h
          · exact h
          · exact absurd h.symm e
          · have := u2 k h; omega
        · rename_i c
          rw [if_neg c] at e1
          refine ⟨r.size, by omega, r, Nat.le_refl _, e1, u3, ?_, rfl⟩
          rcases sk with h | h | h
          · have := u4 k h x (by simp); omega
          · exact absurd h.symm e
          · exact h
  · exact ⟨t, Nat.le_refl _, hT.symm, hu, hk, rfl, rfl⟩
theorem low_in {R v : Nat} {t s : Tr} {l r : Tr} {k : Int} (h : s ∈ lowS R v l r) (ht : t = .nd l k r) : s ∈ t.subs ∧ s.ht < t.ht := by
  subst ht
  unfold lowS at h
  rcases List.mem_append.mp h with h | h
  · have := low_subs h
    have := subs_ht this
    exact ⟨by simp [Tr.subs, low_subs h], by simp only [Tr.ht]; omega⟩
  · have := low_subs h
    have := subs_ht this
    exact ⟨by simp [Tr.subs, low_subs h], by simp only [Tr.ht]; omega⟩
theorem paper_at_ok (hP : F f_paper_at = some d_paper_at) (hT : F f_tree_at = some d_tree_at) (hL : F f_lowest = some d_lowest) {R : Nat} (hR : 1 ≤ R) (hR2 : R ≤ 1000) {x : Val} {kvs : KVs} {E : QE} : ∀ (m : Nat) (t : Tr) (n : Nat) {h : Hq} {Q : QV}, t.ht ≤ m → m + t.ht + 1 < n → t ≠ .nil → t.size ≤ 1000 → t.keys.Pairwise (· < ·) →
      (∀ h', Grow h h' → dr h' x = some kvs) → (∀ s ∈ t.subs, dg kvs (.inl s.top) = some (.int (nu R s : Nat))) → (∀ h', Grow h h' → Q (pap R m t).val h') → CN F n f_paper_at [t.tv, .int (R : Nat), x] h Q E
  | m, t, 0, h, Q, _, hn, _, _, _, _, _, _ => by omega
  | _, .nil, n + 1, h, Q, _, _, ht, _, _, _, _, _ => absurd rfl ht
  | 0, .nd l k r, n + 1, h, Q, hm, _, _, _, _, _, _, _ => by simp only [Tr.ht] at hm; omega
  | m + 1, .nd l k r, n + 1, h, Q, hm, hn, _, hz, hu, hx, hk, q => by
    have hself : dg kvs (.inl k) = some (.int (nu R (.nd l k r) : Nat)) := hk (.nd l k r) (by simp [Tr.subs])
    have hu0 := hu
    simp only [Tr.ht] at hm hn
    have hz0 := hz
    simp only [Tr.size] at hz
    obtain ⟨m1, m2, m3⟩ := nu_is hR (l := l) (k := k) (r := r)
    have t1 := lowT_len (R := R) (v := nu R (.nd l k r) - 1) l
    have t2 := lowT_len (R := R) (v := nu R (.nd l k r) - 1) r
    have hx0 := hx h Grow.refl
    refine CN_go hP rfl ?_
    unfold d_paper_at
    simp only [Tr.tv]
    walk_at "e"
    rw [show (Val.tup [l.tv, .int k, r.tv]) = (Tr.nd l k r).tv from rfl] at *
    unfold pap at q
    simp only [Tr.tv]
    walk_at "w"
    rw [hself, optW_some]
    walk_at "w"
    split
    · rename_i c
      rw [if_pos (by omega)] at q
      exact q h Grow.refl
    · rename_i c
      rw [if_neg (by omega)] at q
      rw [show ((nu R (.nd l k r) : Nat) : Int) - 1 = ((nu R (.nd l k r) - 1 : Nat) : Int) by omega]
      generalize hv : nu R (.nd l k r) - 1 = v at *
      refine lowest_ok hL hx0 l n (by omega) (by omega) (fun s hs => hk s (by simp [Tr.subs, hs])) ?_
      walk_at "w"
      refine lowest_ok hL hx0 r n (by omega) (by omega) (fun s hs => hk s (by simp [Tr.subs, hs])) ?_
      walk_at "w"
      refine ⟨by simp only [List.length_map]; omega, ?_⟩
      rw [← List.map_append, ← List.map_append, show low R v l ++ low R v r = lowS R v l r from rfl]
      have hlen : R ≤ (lowS R v l r).length := m2 v (by omega) (by omega)
      have hle : (lowS R v l r).length ≤ 1000 := by unfold lowS; rw [List.length_append]; omega
      rw [List.map_map, cutG_map, cutG_to hlen]
      refine comp_eff (Val.int ∘ Tr.top) ((lowS R v l r).take R) (by rw [List.length_take]; omega) (fun cp pre acc h' => acc = (pre.map (pap R m)).map Pp.val ∧ Grow h (er h' cp)) ?_ ?_ ?_
      · intro cp pre y post acc h' ey hcp ⟨ea, g⟩
        subst ea
        have hy : y ∈ lowS R v l r := List.mem_of_mem_take (by rw [ey]; simp)
        obtain ⟨y1, y2⟩ := low_in (k := k) hy rfl
        have yn := subs_ne y1
        have ys : y.size ≤ 1000 := by have := (subs_keys y1).length_le; rw [Tr.keys_len, Tr.keys_len] at this; omega
        have g' : Grow h h' := fun a c e => by
          have := g a c e
          by_cases z : a = cp
          · rw [z, er_same] at this; cases this
          · rw [er_ne z] at this; exact this
        simp only [Tr.ht] at y2
        refine ⟨trivial, _, rfl, fun K q' => ?_⟩
        simp only [wipe3, List.set]
        unfold e_paper_at_1
        simp only [Function.comp_apply]
        walk_at "w"
        obtain ⟨n, rfl⟩ : ∃ j, n = j + 1 := ⟨n - 1, by omega⟩
        refine tree_at_ok hT (t := .nd l k r) hu0 (subs_top y1) ?_
        rw [at_sub y1 hu0]
        refine paper_at_ok hP hT hL hR hR2 m y (n + 1) (by omega) (by omega) yn ys (hu0.sublist (subs_keys y1)) (fun h2 g2 => hx h2 (g'.trans g2)) (fun s hs => hk s (subs_trans hs y1)) fun h2 g2 => ?_
        refine q' _ _ (g2 _ _ hcp) ⟨by rw [List.map_append, List.map_append]; rfl, ?_⟩
        intro a c e
        have := g a c e
        by_cases z : a = cp
        · rw [z, er_same] at this; cases this
        · rw [er_ne z] at this ⊢; rw [up_ne z]; exact g2 a c this
      · intro cp hcp
        refine ⟨rfl, ?_⟩
        rw [er_up hcp]; exact Grow.refl
      · intro cp acc h' hcp hca ⟨ea, g⟩
        subst ea
        refine ⟨trivial, ?_⟩
        walk_at "w"
        have := q (er h' cp) g
        rw [Pp.val, vals_map] at this
        exact this
theorem from_below_ok (hFb : F f_from_below = some d_from_below) (hN : F f_number_all = some d_number_all) (hP : F f_paper_at = some d_paper_at) (hT : F f_tree_at = some d_tree_at) (hL : F f_lowest = some d_lowest) {R : Nat} (hR : 1 ≤ R) (hR2 : R ≤ 1000) {t : Tr} {n : Nat} {h : Hq} {Q : QV} {E : QE} (hn : 2 * t.ht + 1 < n) (ht : t ≠ .nil) (hz : t.size ≤ 1000) (hu : t.keys.Pairwise (· < ·))
      (q : ∀ h', Grow h h' → Q (pap R t.ht t).val h') : CN F (n + 1) f_from_below [t.tv, .int (R : Nat)] h Q E := by
  have nd : t.keys.Nodup := hu.imp fun h => Int.ne_of_lt h
  refine CN_go hFb rfl ?_
  unfold d_from_below
  walk_at "e"
  walk_at "w"
  intro p hp
  refine number_all_ok hN hL hR t n [] (by omega) nd (by simp; omega) (by simp) up_same ?_
  rw [up_up, List.nil_append]
  walk_at "w"
  refine paper_at_ok hP hT hL hR hR2 t.ht t n (Nat.le_refl _) (by omega) ht hz hu (fun h' g => dr_ref (g _ _ up_same)) (fun s hs => numK_dg nd hs) fun h' g => ?_
  exact q h' ((Grow.up hp).trans g)
theorem number_of_ok (hF : F f_number_of = some d_number_of) {R : Nat} {t : Tr} {p : Pp} {m n : Nat} {h : Hq} {Q : QV} {E : QE} (hp : p.num R t = some m) (q : Q (.int (m : Nat)) h) : CN F (n + 1) f_number_of [p.val] h Q E := by
  refine CN_go hF rfl ?_
  unfold d_number_of
  walk_at "e"
  walk_at "w"
  refine whl_inv (fun ρ h Q Q' k w => moT F n _ ρ h Q Q' _ k w) (moS F n _) (fun j ρ h' => ∃ (s : Pp) (f : Nat), s.num R t = some (j + 1) ∧ f + (j + 1) = m + 1 ∧ h' = h ∧ ρ = [some s.val, some (.int (f : Nat))]) ?_ (m := m - 1) ?_
  · intro j ρ h' ⟨s, f, e1, e2, e3, e4⟩
    subst e3 e4
    unfold t_number_of_1
    cases s with
    | knot k =>
      rw [num_knot] at e1
      split at e1
      · injection e1 with e1
        have : f = m := by omega
        subst this
        simp only [Pp.val]
        walk_at "w"
        unfold c_number_of_1
        walk_at "w"
        exact q
      · cases e1
    | part k ps =>
      obtain ⟨h1, h2, h3, h4, h5, h6⟩ := num_part.mp e1
      obtain ⟨p0, ps', rfl⟩ := List.exists_cons_of_ne_nil h4
      have := num_pos (h6 p0 (by simp))
      simp only [Pp.val, Pp.vals]
      walk_at "w"
      unfold b_number_of_1
      walk_at "w"
      exact ⟨j - 1, by omega, p0, f + 1, by rw [h6 p0 (by simp)]; congr 1; omega, by omega, by push_cast; rfl⟩
  · have := num_pos hp
    exact ⟨p, 1, by rw [hp]; congr 1; omega, by omega, rfl, rfl⟩
end

end L3

set_option Elab.async false
set_option linter.all false
set_option maxRecDepth 100000
namespace L3
open PySem PySem.Spec PyProof.Rows L2
local macro_rules | `(tactic| walk_at "d") => `(tactic| first | assumption | exact up_same | exact dr_fd _ _ | exact dr_wd _ _ | exact dr_ref (by assumption) | exact dr_ref up_same | exact keyOf_int | (exact (rfl : isNop _ = false)) | exact keyOf_str | exact tyOf_fl | exact tyOf_int | exact tyOf_tup | exact tyOf_bl | exact tyOf_ref (by assumption) | exact tyOf_ref up_same | (intro z; cases z))
local macro_rules | `(tactic| walk_at "w") => `(tactic| try simp -implicitDefEqProofs (disch := walk_at "d") only [↓wpE, ↓wpA, ↓wpB, ↓wpT, ↓wpTs, ↓wpI, ↓wpS, ↓wpSs, ↓optW_some, ↓w_lk0, ↓w_lkS, ↓w_bs, ↓w_bl0, ↓w_bl1, ↓w_k1, ↓w_kS, ↓w_b0, ↓w_b1, ↓w_b2, ↓w_b3, ↓w_b4, ↓w_b5, ↓w_b6, ↓w_b7, ↓w_b8, ↓w_b9, ↓w_b10, ↓w_b11, ↓w_b12, ↓w_b13, ↓w_b14, ↓w_b15, ↓w_b16, ↓w_b17, ↓w_b18, ↓w_b19, ↓w_b20, ↓w_b21, ↓w_b22, ↓w_b23, ↓w_b24, ↓w_b25, ↓alc_fz, ↓alc_lv, ↓w_dictZ, ↓w_eqNN, ↓w_add, ↓w_addS, ↓w_addL, ↓w_addT, ↓w_sub, ↓w_mul, ↓w_fdiv, ↓w_mod, ↓w_pow, ↓w_shl, ↓w_shr, ↓w_band, ↓w_eqI, ↓w_neI, ↓w_eqS, ↓w_neS, ↓w_lt, ↓w_le, ↓w_gt, ↓w_ge, ↓w_is, ↓w_isnot, ↓w_isB, ↓w_isnotB, ↓w_neF0, ↓w_eqF0, ↓w_neI_L, ↓w_eqI_L, ↓w_eqLL, ↓w_neDL, ↓w_eqDL, ↓w_idxR, ↓w_slcF, ↓w_slcT, ↓w_insert, ↓w_lrange, ↓w_revF, ↓w_revR, ↓w_tmul, ↓w_ok_indexF, ↓w_inI, ↓w_notinI, ↓w_eqEE, ↓w_neEE, ↓w_eqE0, ↓w_neE0, ↓w_eqRE, ↓w_neRE, ↓w_maxF, ↓w_minF, ↓w_eqB, ↓w_neB, ↓w_sortPF, ↓w_allF, ↓w_anyF, ↓w_slcR, ↓w_oi1, ↓w_oi2, ↓w_idxD, ↓w_inD, ↓w_notinD, ↓w_okD, ↓w_okDF, ↓w_okU, ↓w_get1N, ↓w_get2N, ↓w_get1, ↓w_get2, ↓w_upd, ↓w_putD, ↓w_frzD', ↓alcD_fz, ↓alcD_lv, ↓w_rep, ↓w_sortR, ↓w_sortF, ↓w_sumF, ↓w_idxF, ↓w_idxT, ↓w_idxS, ↓w_lenR, ↓w_lenF, ↓w_lenT, ↓w_lenS, ↓w_abs, ↓w_max2, ↓w_min2, ↓w_listF, ↓w_listT, ↓w_listR, ↓w_tupleF, ↓w_int, ↓w_intB, ↓w_isi, ↓w_ok_append, ↓w_ok_extend, ↓w_ok_pop, ↓w_ok_insert, ↓w_ok_reverse, ↓w_ok_clear, ↓w_ok_index, ↓w_ok_count, ↓w_append, ↓w_extend, ↓w_reverse, ↓w_clear, ↓w_frz, ↓w_set0, ↓w_set1, ↓w_set2, ↓w_at0, ↓w_at1, ↓w_at2, ↓w_at3, ↓w_blOf, ↓w_intOf, ↓w_refOf, ↓w_cellO, ↓wdK_wd, ↓w_lenDW, lockC_dic, lockC_lst, isN_wd, ↓w_truB, ↓w_truI, ↓w_truF, ↓w_truT, ↓w_truN, ↓optI, ↓isNop, optW_some, isN_non, isN_int, isN_tup, isN_fl, isN_ref, lv_fl, ls_fl, sq_fl, sq_tup, ls_sc, sq_sc, lv_up, ls_up, sq_up, tyOf_fl, tyOf_int, tyOf_tup, tyOf_bl, tyOf_ref, Option.bind_some, List.length_cons, List.length_nil, reduceIte, Bool.false_eq_true, if_true, if_false, List.map_cons, List.map_nil, List.replicate, List.cons_append, List.nil_append, Nat.reduceSub, Nat.reduceAdd, Nat.reduceLeDiff, Int.reduceLT, Int.reduceLE, Int.reduceNeg, Int.reduceToNat, Int.reducePow, and_true, true_and, or_true, true_or, decide_eq_true_eq, Bool.not_eq_true', decide_eq_false_iff_not, up_up, decide_true, decide_false, not_true_eq_false, not_false_eq_true, Bool.not_true, Bool.not_false, List.any_cons, List.any_nil, Bool.or_false, Bool.or_true, Bool.true_or, Bool.false_or, List.mem_cons, List.not_mem_nil, or_false, false_or, reduceCtorEq, sq_ref, lv_ref, ls_ref])
local macro_rules | `(tactic| walk_at "e") => `(tactic| simp only [List.map_cons, List.map_nil, List.replicate, List.cons_append, List.nil_append, Nat.reduceSub])
local macro_rules | `(tactic| walk_at "i") => `(tactic| try simp only [Bool.true_eq_false, Bool.false_eq_true, Bool.not_true, Bool.not_false, Bool.and_true, Bool.true_and, Bool.and_false, Bool.false_and, if_false, if_true, reduceIte, decide_true, decide_false, not_true_eq_false, not_false_eq_true, eq_self])
/-! ### the told paper holds, and has the greatest number -/
theorem pap_key {R : Nat} : ∀ {m : Nat} {t : Tr}, t ≠ .nil → (pap R m t).key = t.top
  | 0, _, _ => rfl
  | m + 1, .nil, h => absurd rfl h
  | m + 1, .nd l k r, _ => by
    unfold pap
    split <;> rfl
theorem low_dis {R v : Nat} : ∀ {t : Tr}, t.keys.Nodup → (low R v t).Pairwise fun a b => ∀ j ∈ a.keys, j ∉ b.keys
  | .nil, _ => by simp [low_nil]
  | .nd l k r, nd => by
    simp only [Tr.keys] at nd
    rw [List.nodup_append, List.nodup_cons] at nd
    obtain ⟨n1, ⟨n2, n4⟩, n3⟩ := nd
    rw [low_nd]
    split
    · simp
    · unfold lowS
      rw [List.pairwise_append]
      refine ⟨low_dis n1, low_dis n4, fun a ha b hb j hj hj2 => ?_⟩
      exact n3 j ((subs_keys (low_subs ha)).mem hj) j (List.mem_cons_of_mem _ ((subs_keys (low_subs hb)).mem hj2)) rfl
theorem lowS_dis {R v : Nat} {l r : Tr} {k : Int} (nd : (Tr.nd l k r).keys.Nodup) : (lowS R v l r).Pairwise fun a b => ∀ j ∈ a.keys, j ∉ b.keys := by
  simp only [Tr.keys] at nd
  rw [List.nodup_append, List.nodup_cons] at nd
  obtain ⟨n1, ⟨n2, n4⟩, n3⟩ := nd
  unfold lowS
  rw [List.pairwise_append]
  refine ⟨low_dis n1, low_dis n4, fun a ha b hb j hj hj2 => ?_⟩
  exact n3 j ((subs_keys (low_subs ha)).mem hj) j (List.mem_cons_of_mem _ ((subs_keys (low_subs hb)).mem hj2)) rfl
theorem top_in {s : Tr} (h : s ≠ .nil) : s.top ∈ s.keys := by
  obtain ⟨l, k, r, rfl⟩ := tv_ne h
  simp [Tr.keys, Tr.top]
theorem pap_num {R : Nat} (hR : 1 ≤ R) {T : Tr} (hu : T.keys.Pairwise (· < ·)) : ∀ (m : Nat) (t : Tr), t ∈ T.subs → t.ht ≤ m → (pap R m t).num R T = some (nu R t)
  | 0, t, ht, hm => by
    obtain ⟨l, k, r, rfl⟩ := tv_ne (subs_ne ht)
    simp only [Tr.ht] at hm; omega
  | m + 1, .nil, ht, _ => absurd rfl (subs_ne ht)
  | m + 1, .nd l k r, ht, hm => by
    have hk : k ∈ T.keys := subs_top ht
    have eat : T.at_ k = .nd l k r := at_sub ht hu
    obtain ⟨m1, m2, m3⟩ := nu_is hR (l := l) (k := k) (r := r)
    have ndT : T.keys.Nodup := hu.imp fun h => Int.ne_of_lt h
    have nd : (Tr.nd l k r).keys.Nodup := ndT.sublist (subs_keys ht)
    simp only [Tr.ht] at hm
    unfold pap
    by_cases e : nu R (.nd l k r) = 1
    · rw [if_pos e, num_knot, if_pos hk, e]
    · rw [if_neg e, num_part]
      have hlen := m2 (nu R (.nd l k r) - 1) (by omega) (by omega)
      have inn : ∀ s ∈ (lowS R (nu R (.nd l k r) - 1) l r).take R, s ∈ (Tr.nd l k r).subs ∧ s.ht < (Tr.nd l k r).ht ∧ nu R s = nu R (.nd l k r) - 1 ∧ s.top ≠ k := fun s hs => by
        have hs := List.mem_of_mem_take hs
        obtain ⟨a, b⟩ := low_in (k := k) hs rfl
        refine ⟨a, b, ?_, ?_⟩
        · unfold lowS at hs
          rcases List.mem_append.mp hs with h | h
          · exact low_nu hR (by omega) h
          · exact low_nu hR (by omega) h
        · intro e2
          simp only [Tr.keys] at nd
          rw [List.nodup_append, List.nodup_cons] at nd
          obtain ⟨n1, ⟨n2, n4⟩, n3⟩ := nd
          unfold lowS at hs
          rcases List.mem_append.mp hs with h | h
          · exact n3 _ (subs_top (low_subs h)) k (by simp) e2
          · exact n2 (by rw [← e2]; exact subs_top (low_subs h))
      have keyE : (((lowS R (nu R (.nd l k r) - 1) l r).take R).map (pap R m)).map Pp.key = ((lowS R (nu R (.nd l k r) - 1) l r).take R).map Tr.top := by
        rw [List.map_map]
        exact List.map_congr_left fun s hs => pap_key (subs_ne (inn s hs).1)
      refine ⟨hk, by rw [List.length_map, List.length_take]; omega, ?_, ?_, m1, fun p hp => ?_⟩
      · rw [keyE]
        refine ⟨fun j hj => ?_, ?_⟩
        · obtain ⟨s, hs, rfl⟩ := List.mem_map.mp hj
          rw [eat]
          exact ⟨(inn s hs).2.2.2, subs_top (inn s hs).1⟩
        · rw [List.pairwise_map]
          have hd : ((lowS R (nu R (.nd l k r) - 1) l r).take R).Pairwise fun a b => ∀ j ∈ a.keys, j ∉ b.keys := (lowS_dis nd).sublist (List.take_sublist _ _)
          refine hd.imp_of_mem fun {a b} ha hb h => ?_
          have a1 := inn a ha
          have b1 := inn b hb
          unfold Unrel
          rw [at_sub (subs_trans a1.1 ht) hu, at_sub (subs_trans b1.1 ht) hu]
          exact ⟨h _ (top_in (subs_ne a1.1)), fun z => h _ z (top_in (subs_ne b1.1))⟩
      · intro z
        have := congrArg List.length z
        rw [List.length_map, List.length_take] at this
        simp at this
        rcases this with h | h
        · omega
        · rw [h] at hlen; simp at hlen; omega
      · obtain ⟨s, hs, rfl⟩ := List.mem_map.mp hp
        obtain ⟨a, b, c, _⟩ := inn s hs
        simp only [Tr.ht] at b
        rw [pap_num hR hu m s (subs_trans a ht) (by omega), c]
/-! how many papers stand in a part at most -/
mutual
def Pp.wid : Pp → Nat
  | .knot _ => 0
  | .part _ ps => max ps.length (Pp.wids ps)
def Pp.wids : List Pp → Nat
  | [] => 0
  | p :: ps => max p.wid (Pp.wids ps)
end
theorem wids_le {p : Pp} : ∀ {ps : List Pp}, p ∈ ps → p.wid ≤ Pp.wids ps
  | [], h => by simp at h
  | q :: ps, h => by
    rw [Pp.wids]
    rcases List.mem_cons.mp h with rfl | h
    · omega
    · have := wids_le h; omega
theorem wids_of {m : Nat} : ∀ {ps : List Pp}, (∀ p ∈ ps, p.wid ≤ m) → Pp.wids ps ≤ m
  | [], _ => Nat.zero_le _
  | p :: ps, h => by
    rw [Pp.wids]
    have := h p (by simp)
    have := wids_of (ps := ps) fun q hq => h q (by simp [hq])
    omega
theorem deps_of {m : Nat} : ∀ {ps : List Pp}, (∀ p ∈ ps, p.dep ≤ m) → Pp.deps ps ≤ m
  | [], _ => Nat.zero_le _
  | p :: ps, h => by
    rw [Pp.deps]
    have := h p (by simp)
    have := deps_of (ps := ps) fun q hq => h q (by simp [hq])
    omega
theorem pap_wid {R : Nat} : ∀ (m : Nat) (t : Tr), (pap R m t).wid ≤ R ∧ (pap R m t).dep ≤ m
  | 0, t => ⟨by simp [pap, Pp.wid], by simp [pap, Pp.dep]⟩
  | m + 1, .nil => ⟨by simp [pap, Pp.wid], by simp [pap, Pp.dep]⟩
  | m + 1, .nd l k r => by
    unfold pap
    split
    · exact ⟨by simp [Pp.wid], by simp [Pp.dep]⟩
    · refine ⟨?_, ?_⟩
      · rw [Pp.wid, List.length_map, List.length_take]
        have := wids_of (m := R) (ps := ((lowS R (nu R (.nd l k r) - 1) l r).take R).map (pap R m)) fun p hp => by
          obtain ⟨s, _, rfl⟩ := List.mem_map.mp hp
          exact (pap_wid m s).1
        omega
      · rw [Pp.dep]
        have := deps_of (m := m) (ps := ((lowS R (nu R (.nd l k r) - 1) l r).take R).map (pap R m)) fun p hp => by
          obtain ⟨s, _, rfl⟩ := List.mem_map.mp hp
          exact (pap_wid m s).2
        omega
def optV : Option Nat → Val
  | none => .non
  | some n => .int (n : Nat)
theorem num_none_key {R : Nat} {T : Tr} {p : Pp} (h : p.key ∉ T.keys) : p.num R T = none := by
  cases e : p.num R T with
  | none => rfl
  | some n => exact absurd (num_pos e).2 h
theorem at_none : ∀ {t : Tr} {k : Int}, k ∉ t.keys → t.at_ k = .nil
  | .nil, _, _ => rfl
  | .nd l x r, k, h => by
    simp only [Tr.keys, List.mem_append, List.mem_cons, not_or] at h
    unfold Tr.at_
    rw [if_neg h.2.1]
    split
    · exact at_none h.1
    · exact at_none h.2.2

end L3

set_option Elab.async false
set_option linter.all false
set_option maxRecDepth 100000
namespace L3
open PySem PySem.Spec PyProof.Rows L2
def f_law_rule : Nat := 1002
def f_law_kids : Nat := 1003
def f_law_keys : Nat := 1010
def f_law_tree : Nat := 1011
def f_law_draw : Nat := 1015
def f_law_whole : Nat := 1005
def f_law_marks : Nat := 1007
def f_law_in_order : Nat := 1006
def f_law_drawn : Nat := 1016
def f_law_pen_L : Nat := 1017
def e_law_rule_1 : Ex := (.idx (.var 3) (.int 0))
def b_law_rule_1 : Sms := (.cons (.ite (.cmp .eq (.idx (.var 3) (.int 0)) (.var 2)) (.cons (.asg (.name 4) (.bin .add true (.var 4) (.idx (.var 3) (.int 1)))) .nil) .nil) .nil)
def c_law_rule_1 : Sms := (.cons (.ite (.cmp .gt (.var 4) (.var 1)) (.cons (.ret (.tup (.cons (.bin .add true (.var 2) (.int 1)) (.cons (.int 1) .nil)))) .nil) .nil) (.cons (.ret (.tup (.cons (.var 2) (.cons (.var 4) .nil)))) .nil))
def d_law_rule : Df := ⟨2, 5, (.cons (.ite (.cmp .eq (.var 0) (.lst true .nil)) (.cons (.ret (.tup (.cons (.int 1) (.cons (.int 1) .nil)))) .nil) .nil) (.cons (.asg (.name 2) (.blt .max true (.cons (.comp true e_law_rule_1 (.name 3) (.seq (.var 0)) .nop [3]) .nil))) (.cons (.asg (.name 4) (.int 1)) (.cons (.for (.name 3) (.seq (.var 0)) b_law_rule_1) c_law_rule_1))))⟩
-- ['_law_kids_here', '_law_room', '_law_level', '_law_kid', '_law_size']
def e_law_kids_1 : Ex := (.var 1)
def p_law_kids_1 : Ex := (.cmp .isnot (.var 1) .non)
def d_law_kids : Df := ⟨1, 2, (.cons (.ret (.comp true e_law_kids_1 (.name 1) (.seq (.tup (.cons (.idx (.var 0) (.int 0)) (.cons (.idx (.var 0) (.int 2)) .nil)))) p_law_kids_1 [1])) .nil)⟩
-- ['_law_tree_here', '_law_side']
def b_law_keys_1 : Sms := (.cons (.ex (.mth .append (.var 4) (.cons (.var 3) .nil))) (.cons (.asg (.name 3) (.bin .add true (.bin .add true (.var 3) (.int 1)) (.call f_law_draw (.cons (.var 0) (.cons (.var 2) .nil))))) .nil))
def c_law_keys_1 : Sms := (.cons (.ret (.frz (.var 4))) .nil)
def d_law_keys : Df := ⟨2, 6, (.cons (.asg (.name 2) (.idx (.lst true (.cons (.int 1) (.cons (.int 3) (.cons (.bin .pow true (.int 10) (.int 20)) .nil)))) (.call f_law_draw (.cons (.var 0) (.cons (.int 3) .nil))))) (.cons (.asg (.name 3) (.bin .sub true (.call f_law_draw (.cons (.var 0) (.cons (.bin .add true (.bin .mul true (.bin .mul true (.int 2) (.var 2)) (.var 1)) (.int 1)) .nil))) (.bin .mul true (.var 2) (.var 1)))) (.cons (.asg (.name 4) (.lst false .nil)) (.cons (.for (.name 5) (.range1 (.var 1)) b_law_keys_1) c_law_keys_1))))⟩
-- ['_law_pen_here', '_law_many', '_law_far', '_law_key', '_law_keys_here', '_law_k']
def c_law_tree_1 : Sms := (.cons (.ret (.tup (.cons (.call f_law_tree (.cons (.var 0) (.cons (.slc true (.var 1) .nop (.var 3)) (.cons (.var 2) .nil)))) (.cons (.idx (.var 1) (.var 3)) (.cons (.call f_law_tree (.cons (.var 0) (.cons (.slc true (.var 1) (.bin .add true (.var 3) (.int 1)) .nop) (.cons (.var 2) .nil)))) .nil))))) .nil)
def d_law_tree : Df := ⟨3, 4, (.cons (.ite (.cmp .eq (.var 1) (.lst true .nil)) (.cons (.ret .non) .nil) .nil) (.cons (.asg (.name 3) (.call f_law_draw (.cons (.var 0) (.cons (.blt .len true (.cons (.var 1) .nil)) .nil)))) (.cons (.ite (.chain .lt .lt (.int 0) (.var 2) (.int 5)) (.cons (.asg (.name 3) (.idx (.lst true (.cons (.int 0) (.cons (.bin .sub true (.blt .len true (.cons (.var 1) .nil)) (.int 1)) (.cons (.bin .fdiv true (.blt .len true (.cons (.var 1) .nil)) (.int 2)) (.cons (.bin .mul true (.bin .mod true (.blt .len true (.cons (.var 1) .nil)) (.int 2)) (.bin .sub true (.blt .len true (.cons (.var 1) .nil)) (.int 1))) .nil))))) (.bin .sub true (.var 2) (.int 1)))) .nil) .nil) c_law_tree_1)))⟩
-- ['_law_pen_here', '_law_keys_here', '_law_way', '_law_at']
def d_law_draw : Df := ⟨2, 4, (.cons (.ite (.cmp .eq (.idx (.var 0) (.int 1)) (.int 0)) (.cons (.asg (.name 2) (.bin .mod true (.idx (.var 0) (.int 0)) (.var 1))) (.cons (.asgI (.var 0) (.int 0) (.bin .fdiv true (.idx (.var 0) (.int 0)) (.var 1))) (.cons (.ret (.var 2)) .nil))) .nil) (.cons (.asgI (.var 0) (.int 0) (.bin .mod true (.bin .add true (.bin .mul true (.idx (.var 0) (.int 0)) (.int 69621)) (.int 7)) (.int 2147483629))) (.cons (.asg (.name 3) (.bin .mod true (.bin .mul true (.bin .add true (.bin .add true (.bin .mul true (.bin .mod true (.idx (.var 0) (.int 0)) (.int 65521)) (.int 40503)) (.bin .fdiv true (.idx (.var 0) (.int 0)) (.int 65521))) (.int 1)) (.int 16807)) (.int 2147483647))) (.cons (.ret (.bin .mod true (.bin .fdiv true (.var 3) (.int 13)) (.var 1))) .nil))))⟩
-- ['_law_pen_here', '_law_many', '_law_found', '_law_mixed']
def d_law_whole : Df := ⟨1, 1, (.cons (.ret (.bop true (.cons (.blt (.isi [.int]) true (.cons (.var 0) .nil)) (.cons (.not (.blt (.isi [.bool]) true (.cons (.var 0) .nil))) .nil)))) .nil)⟩
-- ['_law_thing']
def b_law_marks_1 : Sms := (.cons (.ex (.mth .dupd (.var 2) (.cons (.call f_law_marks (.cons (.var 3) (.cons (.var 1) .nil))) .nil))) .nil)
def e_law_marks_1 : Ex := (.idx (.var 2) (.idx (.var 3) (.int 1)))
def c_law_marks_1 : Sms := (.cons (.asgI (.var 2) (.idx (.var 0) (.int 1)) (.call f_law_rule (.cons (.comp true e_law_marks_1 (.name 3) (.seq (.call f_law_kids (.cons (.var 0) .nil))) .nop [3]) (.cons (.var 1) .nil)))) .nil)
def c_law_marks_2 : Sms := (.cons (.ret (.frz (.var 2))) .nil)
def d_law_marks : Df := ⟨2, 4, (.cons (.asg (.name 2) (.dic0 false)) (.cons (.ite (.cmp .isnot (.var 0) .non) (.cons (.for (.name 3) (.seq (.call f_law_kids (.cons (.var 0) .nil))) b_law_marks_1) c_law_marks_1) .nil) c_law_marks_2))⟩
-- ['_law_tree_here', '_law_room', '_law_found', '_law_kid']
def d_law_in_order : Df := ⟨1, 1, (.cons (.ite (.cmp .is (.var 0) .non) (.cons (.ret (.lst true .nil)) .nil) .nil) (.cons (.ret (.bin .add true (.bin .add true (.call f_law_in_order (.cons (.idx (.var 0) (.int 0)) .nil)) (.lst true (.cons (.idx (.var 0) (.int 1)) .nil))) (.call f_law_in_order (.cons (.idx (.var 0) (.int 2)) .nil)))) .nil))⟩
-- ['_law_tree_here']
def c_law_drawn_1 : Sms := (.cons (.ret (.call f_law_tree (.cons (.var 0) (.cons (.call f_law_keys (.cons (.var 0) (.cons (.var 2) .nil))) (.cons (.call f_law_draw (.cons (.var 0) (.cons (.int 8) .nil))) .nil))))) .nil)
def d_law_drawn : Df := ⟨2, 3, (.cons (.asg (.name 2) (.call f_law_draw (.cons (.var 0) (.cons (.bin .add true (.var 1) (.int 1)) .nil)))) (.cons (.ite (.cmp .eq (.call f_law_draw (.cons (.var 0) (.cons (.int 8) .nil))) (.int 5)) (.cons (.asg (.name 2) (.call f_law_draw (.cons (.var 0) (.cons (.int 61) .nil)))) .nil) .nil) c_law_drawn_1))⟩
-- ['_law_pen_here', '_law_most', '_law_many']
def c_law_pen_L_1 : Sms := (.cons (.ite (.cmp .ge (.var 2) (.bin .pow true (.int 10) (.int 18))) (.cons (.ret (.lst false (.cons (.var 2) (.cons (.int 0) .nil)))) .nil) .nil) (.cons (.ret (.lst false (.cons (.bin .add true (.bin .mul true (.bin .add true (.bin .mod true (.var 2) (.int 2147483647)) (.int 3)) (.int 48271)) (.bin .mul true (.int 104729) (.var 1))) (.cons (.int 1) .nil)))) .nil))
def d_law_pen_L : Df := ⟨2, 3, (.cons (.asg (.name 2) (.bin .add true (.bin .add true (.bin .mul true (.bin .mul true (.int 40503) (.var 1)) (.var 1)) (.bin .mul true (.int 97) (.var 1))) (.int 3))) (.cons (.ite (.cmp .lt (.var 1) (.blt .len true (.cons (.var 0) .nil))) (.cons (.asg (.name 2) (.idx (.var 0) (.var 1))) .nil) (.cons (.ite (.cmp .gt (.blt .len true (.cons (.var 0) .nil)) (.int 0)) (.cons (.asg (.name 2) (.bin .mod true (.idx (.var 0) (.bin .mod true (.var 1) (.blt .len true (.cons (.var 0) .nil)))) (.int 2147483629))) (.cons (.asg (.name 2) (.bin .add true (.bin .mul true (.var 2) (.bin .add true (.int 1) (.bin .fdiv true (.var 1) (.blt .len true (.cons (.var 0) .nil))))) (.bin .mul true (.int 7919) (.var 1)))) .nil)) .nil) .nil)) c_law_pen_L_1))⟩
-- ['_law_script', '_law_k', '_law_cell']
end L3

set_option Elab.async false
set_option linter.all false
set_option maxRecDepth 100000
namespace L3
open PySem PySem.Spec PyProof.Rows L2
local macro_rules | `(tactic| walk_at "d") => `(tactic| first | assumption | exact up_same | exact dr_fd _ _ | exact dr_wd _ _ | exact dr_ref (by assumption) | exact dr_ref up_same | exact keyOf_int | (exact (rfl : isNop _ = false)) | exact keyOf_str | exact tyOf_fl | exact tyOf_int | exact tyOf_tup | exact tyOf_bl | exact tyOf_ref (by assumption) | exact tyOf_ref up_same | (intro z; cases z))
local macro_rules | `(tactic| walk_at "w") => `(tactic| try simp -implicitDefEqProofs (disch := walk_at "d") only [↓wpE, ↓wpA, ↓wpB, ↓wpT, ↓wpTs, ↓wpI, ↓wpS, ↓wpSs, ↓optW_some, ↓w_lk0, ↓w_lkS, ↓w_bs, ↓w_bl0, ↓w_bl1, ↓w_k1, ↓w_kS, ↓w_b0, ↓w_b1, ↓w_b2, ↓w_b3, ↓w_b4, ↓w_b5, ↓w_b6, ↓w_b7, ↓w_b8, ↓w_b9, ↓w_b10, ↓w_b11, ↓w_b12, ↓w_b13, ↓w_b14, ↓w_b15, ↓w_b16, ↓w_b17, ↓w_b18, ↓w_b19, ↓w_b20, ↓w_b21, ↓w_b22, ↓w_b23, ↓w_b24, ↓w_b25, ↓alc_fz, ↓alc_lv, ↓w_dictZ, ↓w_eqNN, ↓w_add, ↓w_addS, ↓w_addL, ↓w_addT, ↓w_sub, ↓w_mul, ↓w_fdiv, ↓w_mod, ↓w_pow, ↓w_shl, ↓w_shr, ↓w_band, ↓w_eqI, ↓w_neI, ↓w_eqS, ↓w_neS, ↓w_lt, ↓w_le, ↓w_gt, ↓w_ge, ↓w_is, ↓w_isnot, ↓w_isB, ↓w_isnotB, ↓w_neF0, ↓w_eqF0, ↓w_neI_L, ↓w_eqI_L, ↓w_eqLL, ↓w_neDL, ↓w_eqDL, ↓w_idxR, ↓w_slcF, ↓w_slcT, ↓w_insert, ↓w_lrange, ↓w_revF, ↓w_revR, ↓w_tmul, ↓w_ok_indexF, ↓w_inI, ↓w_notinI, ↓w_eqEE, ↓w_neEE, ↓w_eqE0, ↓w_neE0, ↓w_eqRE, ↓w_neRE, ↓w_maxF, ↓w_minF, ↓w_eqB, ↓w_neB, ↓w_sortPF, ↓w_allF, ↓w_anyF, ↓w_slcR, ↓w_oi1, ↓w_oi2, ↓w_idxD, ↓w_inD, ↓w_notinD, ↓w_okD, ↓w_okDF, ↓w_okU, ↓w_get1N, ↓w_get2N, ↓w_get1, ↓w_get2, ↓w_upd, ↓w_putD, ↓w_frzD', ↓alcD_fz, ↓alcD_lv, ↓w_rep, ↓w_sortR, ↓w_sortF, ↓w_sumF, ↓w_idxF, ↓w_idxT, ↓w_idxS, ↓w_lenR, ↓w_lenF, ↓w_lenT, ↓w_lenS, ↓w_abs, ↓w_max2, ↓w_min2, ↓w_listF, ↓w_listT, ↓w_listR, ↓w_tupleF, ↓w_int, ↓w_intB, ↓w_isi, ↓w_ok_append, ↓w_ok_extend, ↓w_ok_pop, ↓w_ok_insert, ↓w_ok_reverse, ↓w_ok_clear, ↓w_ok_index, ↓w_ok_count, ↓w_append, ↓w_extend, ↓w_reverse, ↓w_clear, ↓w_frz, ↓w_set0, ↓w_set1, ↓w_set2, ↓w_at0, ↓w_at1, ↓w_at2, ↓w_at3, ↓w_blOf, ↓w_intOf, ↓w_refOf, ↓w_cellO, ↓wdK_wd, ↓w_lenDW, lockC_dic, lockC_lst, isN_wd, ↓w_truB, ↓w_truI, ↓w_truF, ↓w_truT, ↓w_truN, ↓optI, ↓isNop, optW_some, isN_non, isN_int, isN_tup, isN_fl, isN_ref, lv_fl, ls_fl, sq_fl, sq_tup, ls_sc, sq_sc, lv_up, ls_up, sq_up, tyOf_fl, tyOf_int, tyOf_tup, tyOf_bl, tyOf_ref, Option.bind_some, List.length_cons, List.length_nil, reduceIte, Bool.false_eq_true, if_true, if_false, List.map_cons, List.map_nil, List.replicate, List.cons_append, List.nil_append, Nat.reduceSub, Nat.reduceAdd, Nat.reduceLeDiff, Int.reduceLT, Int.reduceLE, Int.reduceNeg, Int.reduceToNat, Int.reducePow, and_true, true_and, or_true, true_or, decide_eq_true_eq, Bool.not_eq_true', decide_eq_false_iff_not, up_up, decide_true, decide_false, not_true_eq_false, not_false_eq_true, Bool.not_true, Bool.not_false, List.any_cons, List.any_nil, Bool.or_false, Bool.or_true, Bool.true_or, Bool.false_or, List.mem_cons, List.not_mem_nil, or_false, false_or, reduceCtorEq, sq_ref, lv_ref, ls_ref])
local macro_rules | `(tactic| walk_at "e") => `(tactic| simp only [List.map_cons, List.map_nil, List.replicate, List.cons_append, List.nil_append, Nat.reduceSub])
local macro_rules | `(tactic| walk_at "i") => `(tactic| try simp only [Bool.true_eq_false, Bool.false_eq_true, Bool.not_true, Bool.not_false, Bool.and_true, Bool.true_and, Bool.and_false, Bool.false_and, if_false, if_true, reduceIte, decide_true, decide_false, not_true_eq_false, not_false_eq_true, eq_self])
section
variable {F : Fs}
theorem draw_ok (hF : F f_law_draw = some d_law_draw) {n : Nat} {a : Addr} {m : Int} {h : Hq} {Q : QV} {E : QE} (hp : Pen2 h a) (hm : 0 < m) (hm2 : m < 2 ^ 250)
    (k : ∀ r h', 0 ≤ r → r < m → Pen2 h' a → Ex1 a h h' → Q (.int r) h') : CN F (n + 1) f_law_draw [.ref a, .int m] h Q E := by
  obtain ⟨x, z, hp⟩ := hp
  refine CN_go hF rfl ?_
  unfold d_law_draw
  walk_at "e"
  walk_at "w"
  split
  · exact ⟨hm, ⟨hm, by omega⟩, k _ _ (Int.emod_nonneg _ (by omega)) (Int.emod_lt_of_pos _ hm) ⟨_, _, up_same⟩ Ex1.up⟩
  · exact ⟨hm, k _ _ (Int.emod_nonneg _ (by omega)) (Int.emod_lt_of_pos _ hm) ⟨_, _, up_same⟩ Ex1.up⟩
end
section
variable {F : Fs}
theorem pen_ok (hF : F f_law_pen_L = some d_law_pen_L) {n : Nat} {ns : List Int} {i : Int} {h : Hq} {Q : QV} {E : QE} (hn : ns.length ≤ 63) (h0 : 0 ≤ i) (h1 : i < 1000)
    (k : ∀ p h', h p = none → Pen2 h' p → Ex1 p h h' → Q (.ref p) h') : CN F (n + 1) f_law_pen_L [.sc ns, .int i] h Q E := by
  refine CN_go hF rfl ?_
  unfold d_law_pen_L
  walk_at "e"
  walk_at "w"
  have J : ∀ c : Int, wpSs (CN F n) c_law_pen_L_1 { nx := fun x h' => Q Val.non h', rt := Q, ex := fun x x_1 h' => E x h' } [some (Val.sc ns), some (Val.int i), some (Val.int c)] h := by
    intro c
    unfold c_law_pen_L_1
    walk_at "w"
    split
    · intro p hp
      exact k p _ hp ⟨_, _, up_same⟩ Ex1.up
    · intro p hp
      exact k p _ hp ⟨_, _, up_same⟩ Ex1.up
  refine ⟨.inl ⟨by omega, by omega⟩, ?_⟩
  split
  · refine pick h0 (by rw [List.length_map]; omega) fun v hv => ?_
    obtain ⟨c, _, rfl⟩ := List.mem_map.mp hv
    exact J c
  · split
    · rename_i hl
      refine ⟨hl, ?_⟩
      refine pick (Int.emod_nonneg _ (by omega)) (by rw [List.length_map]; exact Int.emod_lt_of_pos _ hl) fun v hv => ?_
      obtain ⟨c, _, rfl⟩ := List.mem_map.mp hv
      walk_at "w"
      refine ⟨⟨hl, by omega⟩, .inl ⟨by omega, by omega⟩, ?_⟩
      exact J _
    · exact J _
end
section
variable {F : Fs}
/-- some keys, rising -/
theorem keys_ok (hK : F f_law_keys = some d_law_keys) (hD : F f_law_draw = some d_law_draw) {n : Nat} {a : Addr} {m : Int} {h : Hq} {Q : QV} {E : QE} (hp : Pen2 h a) (h0 : 0 ≤ m) (h1 : m < 1000)
    (k : ∀ (ks : List Int) h', (ks.length : Int) = m → ks.Pairwise (· < ·) → Pen2 h' a → Ex1 a h h' → Q (.fl (ks.map .int)) h') : CN F (n + 2) f_law_keys [.ref a, .int m] h Q E := by
  refine CN_go hK rfl ?_
  unfold d_law_keys
  walk_at "e"
  walk_at "w"
  refine draw_ok hD hp (by omega) (by omega) fun r1 g1 r10 r11 p1 e1 => ?_
  rw [w_idxF]
  refine pick r10 r11 fun v hv => ?_
  have : ∃ wide : Int, v = .int wide ∧ 0 < wide ∧ wide ≤ 100000000000000000000 := by
    simp only [List.mem_cons, List.not_mem_nil, or_false] at hv
    rcases hv with rfl | rfl | rfl <;> exact ⟨_, rfl, by omega, by omega⟩
  obtain ⟨wide, rfl, w0, w1⟩ := this
  walk_at "w"
  have wm : 0 ≤ 2 * wide * m ∧ 2 * wide * m ≤ 2 * 100000000000000000000 * 1000 := by
    refine ⟨Int.mul_nonneg (by omega) h0, ?_⟩
    exact Int.mul_le_mul (by omega) (by omega) h0 (by omega)
  refine ⟨.inr (.inl ⟨by omega, by omega⟩), ?_⟩
  refine draw_ok hD p1 (by omega) (by omega) fun r3 g3 r30 r31 p3 e3 => ?_
  walk_at "w"
  refine ⟨.inr (.inl ⟨by omega, by omega⟩), fun p hnp => ⟨⟨by omega, by omega⟩, ?_⟩⟩
  have hpa : p ≠ a := p3.ne hnp
  have e4 : Ex1 a h g3 := e1.trans e3
  have hp0 : h p = none := by rw [← e4 p hpa]; exact hnp
  refine for_map (moS F (n + 1) b_law_keys_1) (fun pre ρ h' => ∃ (key : Int) (ls : List Int) (kk : Option Val), ls.length = pre.length ∧ ρ = [some (Val.ref a), some (Val.int m), some (Val.int wide), some (Val.int key), some (Val.ref p), kk] ∧ ls.Pairwise (· < ·) ∧ (∀ x ∈ ls, x < key) ∧ h' p = some (.lst (ls.map .int)) ∧ Pen2 h' a ∧ ∀ q, q ≠ a → q ≠ p → h' q = h q)
    (fun i => Val.int (0 + (i : Nat))) (List.range m.toNat) ?_ ?_ ?_
  · intro pre y post ρ h1 ey ⟨key, ls, kk, l1, e, pw, lek, lp, pn, fr⟩
    subst e
    have hlen := congrArg List.length ey
    simp only [List.length_range, List.length_append, List.length_cons] at hlen
    refine ⟨trivial, [some (Val.ref a), some (Val.int m), some (Val.int wide), some (Val.int key), some (Val.ref p), some (Val.int (0 + (y : Nat)))], rfl, ?_⟩
    unfold b_law_keys_1
    walk_at "w"
    refine ⟨by rw [List.length_map]; omega, ?_⟩
    refine draw_ok hD (Pen2.up hpa pn) w0 (by omega) fun r g r0 r1 pg eg => ?_
    walk_at "w"
    refine ⟨_, ls ++ [key], _, by simp [l1], rfl, ?_, ?_, ?_, pg, fun q q1 q2 => ?_⟩
    · rw [List.pairwise_append]
      refine ⟨pw, by simp, fun x hx y hy => ?_⟩
      have := lek x hx
      have := List.mem_singleton.mp hy
      omega
    · intro x hx
      rcases List.mem_append.mp hx with hx | hx
      · have := lek x hx; omega
      · have := List.mem_singleton.mp hx; omega
    · rw [eg p hpa, up_same, List.map_append]; rfl
    · rw [eg q q1, up_ne q2, fr q q1 q2]
  · intro ρ h1 ⟨key, ls, kk, l1, e, pw, lek, lp, pn, fr⟩
    subst e
    refine ⟨trivial, ?_⟩
    unfold c_law_keys_1
    walk_at "w"
    rw [List.length_range] at l1
    refine k ls _ (by omega) pw (Pen2.er hpa pn) fun q q1 => ?_
    by_cases e : q = p
    · subst e; rw [er_same]; exact hp0.symm
    · rw [er_ne e, fr q q1 e]
  · exact ⟨_, [], _, rfl, rfl, .nil, (by simp), up_same, Pen2.up hpa p3, fun q q1 q2 => by rw [up_ne q2]; exact e4 q q1⟩
end
section
variable {F : Fs}
/-- a tree of the keys, split at drawn places -/
theorem tree_ok (hT : F f_law_tree = some d_law_tree) (hD : F f_law_draw = some d_law_draw) {a : Addr} {way : Int} (w0 : 0 ≤ way) {E : QE} : ∀ (n : Nat) (ks : List Int) {h : Hq} {Q : QV}, Pen2 h a → ks.length < n → ks.length ≤ 100 →
    (∀ (t : Tr) h', t.keys = ks → Pen2 h' a → Ex1 a h h' → Q t.tv h') → CN F (n + 1) f_law_tree [.ref a, .fl (ks.map .int), .int way] h Q E := by
  intro n
  induction n with
  | zero => intro ks h Q _ hl; omega
  | succ n ih =>
    intro ks h Q pn hl hb k
    refine CN_go hT rfl ?_
    unfold d_law_tree
    walk_at "e"
    walk_at "w"
    split
    · rename_i e
      exact k .nil h e.symm pn Ex1.refl
    · rename_i hne
      have hpos : 0 < ks.length := List.length_pos_iff.mpr hne
      rw [List.length_map]
      refine draw_ok hD pn (by omega) (by omega) fun r h1 r0 r1 pn1 e1 => ?_
      walk_at "w"
      have J : ∀ i : Int, 0 ≤ i → i < ks.length → wpSs (CN F (n + 1)) c_law_tree_1 { nx := fun x h' => Q Val.non h', rt := Q, ex := fun x x_1 h' => E x h' }
          [some (Val.ref a), some (Val.fl (List.map Val.int ks)), some (Val.int way), some (Val.int i)] h1 := by
        intro i i0 i1
        obtain ⟨j, rfl⟩ : ∃ j : Nat, i = j := ⟨i.toNat, by omega⟩
        have hlt : j < ks.length := by omega
        unfold c_law_tree_1
        walk_at "w"
        rw [cutL_to (by rw [List.length_map]; omega), ← List.map_take]
        refine ih (ks.take j) pn1 (by rw [List.length_take]; omega) (by rw [List.length_take]; omega) fun tl h2 el pn2 e2 => ?_
        rw [show atI (ks.map Val.int) (j : Int) = some (.int ks[j]) by unfold atI; rw [ixN_nat (by rw [List.length_map]; exact hlt)]; simp [hlt]]
        walk_at "w"
        rw [show (j : Int) + 1 = ((j + 1 : Nat) : Int) by omega]
        rw [cutL_from (by rw [List.length_map]; omega), ← List.map_drop]
        refine ih (ks.drop (j + 1)) pn2 (by rw [List.length_drop]; omega) (by rw [List.length_drop]; omega) fun tr h3 er pn3 e3 => ?_
        refine k (.nd tl ks[j] tr) h3 ?_ pn3 ((e1.trans e2).trans e3)
        unfold Tr.keys
        rw [el, er, ← List.drop_eq_getElem_cons hlt, List.take_append_drop]
      split
      · split
        · refine ⟨.inl ⟨by omega, by omega⟩, ?_⟩
          refine pick (by omega) (by show way - 1 < ((4 : Nat) : Int); omega) fun v hv => ?_
          have hv' : ∃ i : Int, v = .int i ∧ 0 ≤ i ∧ i < ks.length := by
            simp only [List.mem_cons, List.not_mem_nil, or_false] at hv
            rcases hv with rfl | rfl | rfl | rfl
            · exact ⟨_, rfl, by omega, by omega⟩
            · exact ⟨_, rfl, by omega, by omega⟩
            · exact ⟨_, rfl, by omega, by omega⟩
            · refine ⟨_, rfl, ?_⟩
              rcases (show (ks.length : Int) % 2 = 0 ∨ (ks.length : Int) % 2 = 1 by omega) with e | e <;> rw [e] <;> omega
          obtain ⟨i, rfl, i0, i1⟩ := hv'
          exact J i i0 i1
        · exact J r r0 r1
      · exact J r r0 r1
end
section
variable {F : Fs}
def HasG2 (F : Fs) : Prop := F f_law_draw = some d_law_draw ∧ F f_law_keys = some d_law_keys ∧ F f_law_tree = some d_law_tree
theorem drawn_ok (hG : HasG2 F) (hF : F f_law_drawn = some d_law_drawn) {n : Nat} {a : Addr} {m : Int} {h : Hq} {Q : QV} {E : QE} (hp : Pen2 h a) (h0 : 0 ≤ m) (h1 : m ≤ 60)
    (k : ∀ (t : Tr) h', t.keys.Pairwise (· < ·) → t.size ≤ 60 → Pen2 h' a → Ex1 a h h' → Q t.tv h') : CN F (n + 70) f_law_drawn [.ref a, .int m] h Q E := by
  obtain ⟨g1, g2, g3⟩ := hG
  refine CN_go hF rfl ?_
  unfold d_law_drawn
  walk_at "e"
  walk_at "w"
  refine draw_ok g1 hp (by omega) (by omega) fun r1 k1 r10 r11 p1 e1 => ?_
  walk_at "w"
  refine draw_ok g1 p1 (by omega) (by omega) fun r2 k2 r20 r21 p2 e2 => ?_
  walk_at "w"
  have J : ∀ (many : Int) (k3 : Hq), 0 ≤ many → many ≤ 60 → Pen2 k3 a → Ex1 a h k3 → wpSs (CN F (n + 69)) c_law_drawn_1 { nx := fun x h' => Q Val.non h', rt := Q, ex := fun x x_1 h' => E x h' } [some (Val.ref a), some (Val.int m), some (Val.int many)] k3 := by
    intro many k3 m0 m1 p3 e3
    unfold c_law_drawn_1
    walk_at "w"
    refine keys_ok (n := n + 67) g2 g1 p3 m0 (by omega) fun ks k4 l4 up4 p4 e4 => ?_
    refine draw_ok (n := n + 68) g1 p4 (by decide) (by decide) fun r5 k5 r50 r51 p5 e5 => ?_
    refine tree_ok g3 g1 r50 (n + 68) ks p5 (by omega) (by omega) fun t k6 et p6 e6 => ?_
    refine k t k6 (by rw [et]; exact up4) (by have := Tr.keys_len t; rw [et] at this; omega) p6 (((e3.trans e4).trans e5).trans e6)
  split
  · refine draw_ok g1 p2 (by decide) (by decide) fun r3 k3 r30 r31 p3 e3 => ?_
    exact J r3 k3 r30 (by omega) p3 ((e1.trans e2).trans e3)
  · exact J r1 k2 r10 (by omega) p2 (e1.trans e2)
theorem in_order_ok (hF : F f_law_in_order = some d_law_in_order) {h : Hq} {E : QE} : ∀ (t : Tr) (n : Nat) {Q : QV}, t.ht < n → t.size ≤ 1000 → Q (.fl (t.keys.map .int)) h → CN F n f_law_in_order [t.tv] h Q E
  | t, 0, Q, hn, _, q => by omega
  | .nil, n + 1, Q, hn, _, q => by
    refine CN_go hF rfl ?_
    unfold d_law_in_order
    simp only [Tr.tv]
    walk_at "e"
    walk_at "w"
    exact q
  | .nd l j r, n + 1, Q, hn, hs, q => by
    refine CN_go hF rfl ?_
    unfold d_law_in_order
    simp only [Tr.tv]
    walk_at "e"
    walk_at "w"
    simp only [Tr.ht] at hn
    simp only [Tr.size] at hs
    have h1 := Tr.keys_len l
    have h2 := Tr.keys_len r
    refine in_order_ok hF l n (by omega) (by omega) ?_
    walk_at "w"
    refine ⟨by rw [List.length_map]; omega, ?_⟩
    refine in_order_ok hF r n (by omega) (by omega) ?_
    walk_at "w"
    refine ⟨by simp only [List.length_append, List.length_map, List.length_cons, List.length_nil]; omega, ?_⟩
    simpa [Tr.keys] using q
end

end L3

set_option Elab.async false
set_option linter.all false
set_option maxRecDepth 100000
namespace L3
open PySem PySem.Spec PyProof.Rows L2
def f_law_layout : Nat := 1076
def c_law_layout_1 : Sms := (.cons (.ex (.mth .append (.idx (.var 4) (.neg (.int 1))) (.cons (.mth .pop (.var 3) (.cons (.call f_law_draw (.cons (.var 0) (.cons (.blt .len true (.cons (.var 3) .nil)) .nil))) .nil)) .nil))) .nil)
def b_law_layout_1 : Sms := (.cons (.ite (.bop false (.cons (.cmp .eq (.blt .len true (.cons (.idx (.var 4) (.neg (.int 1))) .nil)) (.var 2)) (.cons (.cmp .eq (.call f_law_draw (.cons (.var 0) (.cons (.bin .add true (.int 3) (.var 2)) .nil))) (.int 0)) .nil))) (.cons (.ex (.mth .append (.var 4) (.cons (.lst false .nil) .nil))) .nil) .nil) c_law_layout_1)
def c_law_layout_2 : Sms := (.cons (.ret (.frzD (.var 4))) .nil)
def c_law_layout_3 : Sms := (.cons (.kill 3) c_law_layout_2)
def c_law_layout_4 : Sms := (.cons (.ite (.cmp .eq (.call f_law_draw (.cons (.var 0) (.cons (.int 6) .nil))) (.int 1)) (.cons (.ex (.mth .insert (.var 4) (.cons (.call f_law_draw (.cons (.var 0) (.cons (.blt .len true (.cons (.var 4) .nil)) .nil))) (.cons (.lst false .nil) .nil)))) .nil) .nil) c_law_layout_3)
def c_law_layout_5 : Sms := (.cons (.for (.name 5) (.range1 (.blt .len true (.cons (.var 1) .nil))) b_law_layout_1) c_law_layout_4)
def c_law_layout_6 : Sms := (.cons (.asg (.name 4) (.lst false (.cons (.lst false .nil) .nil))) c_law_layout_5)
def d_law_layout : Df := ⟨3, 6, (.cons (.asg (.name 3) (.blt .list false (.cons (.var 1) .nil))) c_law_layout_6)⟩
-- ['_law_pen_here', '_law_keys_here', '_law_room', '_law_left', '_law_pages', '_law_turn']
end L3

set_option Elab.async false
set_option linter.all false
set_option maxRecDepth 100000
namespace L3
open PySem PySem.Spec PyProof.Rows L2
local macro_rules | `(tactic| walk_at "d") => `(tactic| first | assumption | exact up_same | exact dr_fd _ _ | exact dr_wd _ _ | exact dr_ref (by assumption) | exact dr_ref up_same | exact keyOf_int | (exact (rfl : isNop _ = false)) | exact keyOf_str | exact tyOf_fl | exact tyOf_int | exact tyOf_tup | exact tyOf_bl | exact tyOf_ref (by assumption) | exact tyOf_ref up_same | (intro z; cases z))
local macro_rules | `(tactic| walk_at "w") => `(tactic| try simp -implicitDefEqProofs (disch := walk_at "d") only [↓wpE, ↓wpA, ↓wpB, ↓wpT, ↓wpTs, ↓wpI, ↓wpS, ↓wpSs, ↓optW_some, ↓w_lk0, ↓w_lkS, ↓w_bs, ↓w_bl0, ↓w_bl1, ↓w_k1, ↓w_kS, ↓w_b0, ↓w_b1, ↓w_b2, ↓w_b3, ↓w_b4, ↓w_b5, ↓w_b6, ↓w_b7, ↓w_b8, ↓w_b9, ↓w_b10, ↓w_b11, ↓w_b12, ↓w_b13, ↓w_b14, ↓w_b15, ↓w_b16, ↓w_b17, ↓w_b18, ↓w_b19, ↓w_b20, ↓w_b21, ↓w_b22, ↓w_b23, ↓w_b24, ↓w_b25, ↓alc_fz, ↓alc_lv, ↓w_dictZ, ↓w_eqNN, ↓w_add, ↓w_addS, ↓w_addL, ↓w_addT, ↓w_sub, ↓w_mul, ↓w_fdiv, ↓w_mod, ↓w_pow, ↓w_shl, ↓w_shr, ↓w_band, ↓w_eqI, ↓w_neI, ↓w_eqS, ↓w_neS, ↓w_lt, ↓w_le, ↓w_gt, ↓w_ge, ↓w_is, ↓w_isnot, ↓w_isB, ↓w_isnotB, ↓w_neF0, ↓w_eqF0, ↓w_neI_L, ↓w_eqI_L, ↓w_eqLL, ↓w_neDL, ↓w_eqDL, ↓w_idxR, ↓w_slcF, ↓w_slcT, ↓w_insert, ↓w_lrange, ↓w_revF, ↓w_revR, ↓w_tmul, ↓w_ok_indexF, ↓w_inI, ↓w_notinI, ↓w_eqEE, ↓w_neEE, ↓w_eqE0, ↓w_neE0, ↓w_eqRE, ↓w_neRE, ↓w_maxF, ↓w_minF, ↓w_eqB, ↓w_neB, ↓w_sortPF, ↓w_allF, ↓w_anyF, ↓w_slcR, ↓w_oi1, ↓w_oi2, ↓w_idxD, ↓w_inD, ↓w_notinD, ↓w_okD, ↓w_okDF, ↓w_okU, ↓w_get1N, ↓w_get2N, ↓w_get1, ↓w_get2, ↓w_upd, ↓w_putD, ↓w_frzD', ↓alcD_fz, ↓alcD_lv, ↓w_rep, ↓w_sortR, ↓w_sortF, ↓w_sumF, ↓w_idxF, ↓w_idxT, ↓w_idxS, ↓w_lenR, ↓w_lenF, ↓w_lenT, ↓w_lenS, ↓w_abs, ↓w_max2, ↓w_min2, ↓w_listF, ↓w_listT, ↓w_listR, ↓w_tupleF, ↓w_int, ↓w_intB, ↓w_isi, ↓w_ok_append, ↓w_ok_extend, ↓w_ok_pop, ↓w_ok_insert, ↓w_ok_reverse, ↓w_ok_clear, ↓w_ok_index, ↓w_ok_count, ↓w_append, ↓w_extend, ↓w_reverse, ↓w_clear, ↓w_frz, ↓w_set0, ↓w_set1, ↓w_set2, ↓w_at0, ↓w_at1, ↓w_at2, ↓w_at3, ↓w_blOf, ↓w_intOf, ↓w_refOf, ↓w_cellO, ↓wdK_wd, ↓w_lenDW, lockC_dic, lockC_lst, isN_wd, ↓w_truB, ↓w_truI, ↓w_truF, ↓w_truT, ↓w_truN, ↓optI, ↓isNop, optW_some, isN_non, isN_int, isN_tup, isN_fl, isN_ref, lv_fl, ls_fl, sq_fl, sq_tup, ls_sc, sq_sc, lv_up, ls_up, sq_up, tyOf_fl, tyOf_int, tyOf_tup, tyOf_bl, tyOf_ref, Option.bind_some, List.length_cons, List.length_nil, reduceIte, Bool.false_eq_true, if_true, if_false, List.map_cons, List.map_nil, List.replicate, List.cons_append, List.nil_append, Nat.reduceSub, Nat.reduceAdd, Nat.reduceLeDiff, Int.reduceLT, Int.reduceLE, Int.reduceNeg, Int.reduceToNat, Int.reducePow, and_true, true_and, or_true, true_or, decide_eq_true_eq, Bool.not_eq_true', decide_eq_false_iff_not, up_up, decide_true, decide_false, not_true_eq_false, not_false_eq_true, Bool.not_true, Bool.not_false, List.any_cons, List.any_nil, Bool.or_false, Bool.or_true, Bool.true_or, Bool.false_or, List.mem_cons, List.not_mem_nil, or_false, false_or, reduceCtorEq, sq_ref, lv_ref, ls_ref])
local macro_rules | `(tactic| walk_at "e") => `(tactic| simp only [List.map_cons, List.map_nil, List.replicate, List.cons_append, List.nil_append, Nat.reduceSub])
local macro_rules | `(tactic| walk_at "i") => `(tactic| try simp only [Bool.true_eq_false, Bool.false_eq_true, Bool.not_true, Bool.not_false, Bool.and_true, Bool.true_and, Bool.and_false, Bool.false_and, if_false, if_true, reduceIte, decide_true, decide_false, not_true_eq_false, not_false_eq_true, eq_self])
/-! ### any layout, drawn -/
/-- live pages -/
structure PG (a p3 : Addr) (h : Hq) (p : Addr) (ps : List Addr) (css : List (List Int)) : Prop where
  top : h p = some (.lst (ps.map .ref))
  nd : ps.Nodup
  np : p ∉ ps
  ap : p ≠ a ∧ a ∉ ps
  lp : p ≠ p3 ∧ p3 ∉ ps
  len : ps.length = css.length
  at_ : ∀ (i : Nat) q c, ps[i]? = some q → css[i]? = some c → h q = some (.lst (c.map .int))
section
variable {a p3 p : Addr} {h h2 : Hq} {ps : List Addr} {css : List (List Int)}
theorem PG.ex (G : PG a p3 h p ps css) (e : ∀ q, q ≠ a → q ≠ p3 → h2 q = h q) : PG a p3 h2 p ps css := by
  refine ⟨by rw [e p G.ap.1 G.lp.1]; exact G.top, G.nd, G.np, G.ap, G.lp, G.len, fun i q c e1 e2 => ?_⟩
  have hq : q ∈ ps := List.mem_of_getElem? e1
  rw [e q (fun z => G.ap.2 (z ▸ hq)) (fun z => G.lp.2 (z ▸ hq))]
  exact G.at_ i q c e1 e2
theorem PG.live (G : PG a p3 h p ps css) {q : Addr} (hq : q ∈ ps) : h q ≠ none := by
  obtain ⟨i, hi⟩ := List.getElem?_of_mem hq
  have hl : i < css.length := by rw [← G.len]; exact (List.getElem?_eq_some_iff.mp hi).1
  rw [G.at_ i q _ hi (List.getElem?_eq_getElem hl)]; simp
theorem PG.new {q : Addr} (h1 : h p = some (.lst [.ref q])) (h2 : h q = some (.lst [])) (n1 : p ≠ q) (n2 : p ≠ a ∧ q ≠ a) (n3 : p ≠ p3 ∧ q ≠ p3) : PG a p3 h p [q] [[]] :=
  ⟨h1, by simp, by simpa using n1, ⟨n2.1, by simpa using Ne.symm n2.2⟩, ⟨n3.1, by simpa using Ne.symm n3.2⟩, rfl, fun i r c e1 e2 => by
    cases i with
    | zero => simp at e1 e2; subst e1; subst e2; exact h2
    | succ i => simp at e1⟩
/-- a new page at some place -/
theorem PG.ins (G : PG a p3 h p ps css) {q : Addr} (n : h q = none) (na : q ≠ a) (nl : q ≠ p3) (k : Nat) : PG a p3 (up (up h q (.lst [])) p (.lst ((ps.take k ++ [q] ++ ps.drop k).map .ref))) p (ps.take k ++ [q] ++ ps.drop k) (css.take k ++ [[]] ++ css.drop k) := by
  have np : q ≠ p := fun z => by rw [z, G.top] at n; cases n
  have nq : q ∉ ps := fun z => G.live z n
  have mem : ∀ {r : Addr}, r ∈ ps.take k ++ [q] ++ ps.drop k ↔ r = q ∨ r ∈ ps := fun {r} => by
    have : r ∈ ps ↔ r ∈ ps.take k ∨ r ∈ ps.drop k := by
      conv => lhs; rw [← List.take_append_drop k ps, List.mem_append]
    rw [this]
    simp only [List.mem_append, List.mem_singleton]
    constructor
    · rintro ((h | h) | h)
      · exact .inr (.inl h)
      · exact .inl h
      · exact .inr (.inr h)
    · rintro (h | h | h)
      · exact .inl (.inr h)
      · exact .inl (.inl h)
      · exact .inr h
  have pm : (ps.take k ++ [q] ++ ps.drop k).Perm (q :: ps) := by
    have e : ps.take k ++ [q] ++ ps.drop k = ps.take k ++ q :: ps.drop k := by simp
    rw [e]
    refine List.perm_middle.trans ?_
    rw [List.take_append_drop]
  have key : ∀ i r c, (ps.take k ++ [q] ++ ps.drop k)[i]? = some r → (css.take k ++ [[]] ++ css.drop k)[i]? = some c → (r = q ∧ c = []) ∨ ∃ j : Nat, ps[j]? = some r ∧ css[j]? = some c := fun i r c e1 e2 => by
    have l1 : (ps.take k).length = min k ps.length := List.length_take
    have l2 : (css.take k).length = min k ps.length := by rw [List.length_take, G.len]
    by_cases h1 : i < min k ps.length
    · rw [List.getElem?_append_left (by simp; omega), List.getElem?_append_left (by omega), List.getElem?_take_of_lt (by omega)] at e1
      rw [List.getElem?_append_left (by simp [← G.len]; omega), List.getElem?_append_left (by omega), List.getElem?_take_of_lt (by omega)] at e2
      exact .inr ⟨i, e1, e2⟩
    · by_cases h2 : i = min k ps.length
      · rw [List.getElem?_append_left (by simp; omega), List.getElem?_append_right (by omega), show i - (ps.take k).length = 0 by omega] at e1
        rw [List.getElem?_append_left (by simp [← G.len]; omega), List.getElem?_append_right (by omega), show i - (css.take k).length = 0 by omega] at e2
        simp at e1 e2
        exact .inl ⟨e1.symm, e2⟩
      · rw [List.getElem?_append_right (by simp; omega)] at e1
        rw [List.getElem?_append_right (by simp [← G.len]; omega)] at e2
        rw [List.getElem?_drop] at e1 e2
        have x1 : (ps.take k ++ [q]).length = min k ps.length + 1 := by simp
        have x2 : (css.take k ++ [[]]).length = min k ps.length + 1 := by simp [← G.len]
        rw [x1] at e1
        rw [x2] at e2
        exact .inr ⟨_, e1, e2⟩
  refine ⟨up_same, ?_, fun z => ?_, ⟨G.ap.1, fun z => ?_⟩, ⟨G.lp.1, fun z => ?_⟩, by simp [G.len], fun i r c e1 e2 => ?_⟩
  · rw [pm.nodup_iff, List.nodup_cons]; exact ⟨nq, G.nd⟩
  · rcases mem.mp z with z | z
    · exact np z.symm
    · exact G.np z
  · rcases mem.mp z with z | z
    · exact na z.symm
    · exact G.ap.2 z
  · rcases mem.mp z with z | z
    · exact nl z.symm
    · exact G.lp.2 z
  · have hr : r ≠ p := fun z => by
      rcases mem.mp (List.mem_of_getElem? e1) with w | w
      · exact np (w.symm.trans z)
      · exact G.np (z ▸ w)
    rw [up_ne hr]
    rcases key i r c e1 e2 with ⟨rfl, rfl⟩ | ⟨j, x1, x2⟩
    · exact up_same
    · rw [up_ne (fun z => nq (by rw [← z]; exact List.mem_of_getElem? x1))]
      exact G.at_ j r c x1 x2
/-- a page written -/
theorem PG.write (G : PG a p3 h p ps css) {i : Nat} {q : Addr} {c : List Int} (e : ps[i]? = some q) : PG a p3 (up h q (.lst (c.map .int))) p ps (css.set i c) := by
  have hq : q ∈ ps := List.mem_of_getElem? e
  have n1 : p ≠ q := fun z => G.np (z ▸ hq)
  have hi : i < ps.length := (List.getElem?_eq_some_iff.mp e).1
  refine ⟨by rw [up_ne n1]; exact G.top, G.nd, G.np, G.ap, G.lp, by simp [G.len], fun j r d e1 e2 => ?_⟩
  by_cases hj : i = j
  · subst hj
    rw [e] at e1
    cases e1
    rw [List.getElem?_set_self (by rw [← G.len]; exact hi)] at e2
    cases e2
    exact up_same
  · rw [List.getElem?_set_ne hj] at e2
    have hr : r ≠ q := fun z => by
      subst z
      obtain ⟨l1, e3⟩ := List.getElem?_eq_some_iff.mp e
      obtain ⟨l2, e4⟩ := List.getElem?_eq_some_iff.mp e1
      exact hj ((List.getElem_inj G.nd).mp (e3.trans e4.symm))
    rw [up_ne hr]
    exact G.at_ j r d e1 e2
/-- all pages frozen -/
theorem frz_pages : ∀ {ps : List Addr} {css : List (List Int)} {h : Hq} {K : List Val → Hq → Prop}, ps.length = css.length → ps.Nodup → (∀ (i : Nat) q c, ps[i]? = some q → css[i]? = some c → h q = some (.lst (c.map .int))) →
    (∀ h', (∀ q, q ∉ ps → h' q = h q) → K (css.map Enc.val) h') → frzAll (ps.map .ref) h K
  | [], [], h, K, _, _, _, k => k h fun _ _ => rfl
  | [], _ :: _, _, _, l, _, _, _ => by simp at l
  | _ :: _, [], _, _, l, _, _, _ => by simp at l
  | q :: ps, c :: css, h, K, l, nd, at_, k => by
    rw [List.nodup_cons] at nd
    have hq := at_ 0 q c rfl rfl
    show frzW (.ref q) h fun x h1 => frzAll (ps.map .ref) h1 fun xs h2 => K (x :: xs) h2
    unfold frzW cellAt
    simp only [hq, Option.map_some, optW_some]
    refine frz_pages (css := css) (by simpa using l) nd.2 (fun i r d e1 e2 => ?_) fun h' e => ?_
    · rw [er_ne (fun z => nd.1 (by rw [← z]; exact List.mem_of_getElem? e1))]
      exact at_ (i + 1) r d (by simpa using e1) (by simpa using e2)
    · refine k h' fun r hr => ?_
      rw [List.mem_cons, not_or] at hr
      rw [e r hr.2, er_ne hr.1]
theorem PG.frz (G : PG a p3 h p ps css) {Q : QV} (k : ∀ h', (∀ q, q ∉ ps → q ≠ p → h' q = h q) → Q (.fl (css.map Enc.val)) h') : frzDW (.ref p) h Q := by
  unfold frzDW lstAt
  simp only [G.top, optW_some]
  refine frz_pages G.len G.nd (fun i q c e1 e2 => ?_) fun h' e => k h' fun q q1 q2 => by rw [e q q1, er_ne q2]
  rw [er_ne (fun z => G.np (by rw [← z]; exact List.mem_of_getElem? e1))]
  exact G.at_ i q c e1 e2
end
theorem set_perm : ∀ {css : List (List Int)} {i : Nat} {c : List Int} {k : Int}, css[i]? = some c → (css.set i (c ++ [k])).flatten.Perm (k :: css.flatten)
  | [], i, _, _, e => by simp at e
  | d :: css, 0, c, k, e => by
    simp at e; subst e
    simp only [List.set_cons_zero, List.flatten_cons, List.append_assoc]
    exact List.perm_middle
  | d :: css, i + 1, c, k, e => by
    have := set_perm (css := css) (i := i) (c := c) (k := k) (by simpa using e)
    simp only [List.set_cons_succ, List.flatten_cons]
    exact (this.append_left d).trans List.perm_middle
section
variable {F : Fs}
set_option maxHeartbeats 1000000 in
theorem layout_ok (hF : F f_law_layout = some d_law_layout) (hD : F f_law_draw = some d_law_draw) {ks : List Int} {R n : Nat} {a : Addr} {h : Hq} {Q : QV} {E : QE} (hR : 1 ≤ R) (hR2 : R ≤ 1000) (hl : ks.length ≤ 100) (pn : Pen2 h a)
    (q : ∀ (P : List (List Int)) h', P.flatten.Perm ks → (∀ c ∈ P, c.length ≤ R) → P.length ≤ 200 → Pen2 h' a → Q (.fl (P.map Enc.val)) h') : CN F (n + 2) f_law_layout [.ref a, .fl (ks.map .int), .int (R : Nat)] h Q E := by
  refine CN_go hF rfl ?_
  unfold d_law_layout
  walk_at "e"
  walk_at "w"
  intro p3 hp3
  have n3a : p3 ≠ a := pn.ne hp3
  unfold c_law_layout_6
  walk_at "w"
  intro q0 hq0 p hp
  have nq3 : q0 ≠ p3 := fun e => by rw [e, up_same] at hq0; cases hq0
  have hq0' : h q0 = none := by rw [up_ne nq3] at hq0; exact hq0
  have nqa : q0 ≠ a := pn.ne hq0'
  have npq : p ≠ q0 := fun e => by rw [e, up_same] at hp; cases hp
  have hp' : up h p3 (.lst (ks.map .int)) p = none := by rw [up_ne npq] at hp; exact hp
  have np3 : p ≠ p3 := fun e => by rw [e, up_same] at hp'; cases hp'
  have hp'' : h p = none := by rw [up_ne np3] at hp'; exact hp'
  have npa : p ≠ a := pn.ne hp''
  unfold c_law_layout_5
  walk_at "w"
  rw [List.length_map]
  refine ⟨⟨by omega, by omega⟩, ?_⟩
  have lastE : ∀ {ps : List Addr}, ps ≠ [] → atI (ps.map Val.ref) (-1) = some (.ref (ps.getD (ps.length - 1) 0)) ∧ ps[ps.length - 1]? = some (ps.getD (ps.length - 1) 0) := fun {ps} h => by
    have hl := List.length_pos_iff.mpr h
    have e2 : ps[ps.length - 1]? = some (ps.getD (ps.length - 1) 0) := by
      rw [List.getD_eq_getElem?_getD, List.getElem?_eq_getElem (by omega)]; rfl
    refine ⟨?_, e2⟩
    unfold atI ixN
    rw [if_neg (by omega), if_pos (by rw [List.length_map]; omega), List.length_map, show (-1 + (ps.length : Int)).toNat = ps.length - 1 by omega, Option.bind_some, List.getElem?_map, e2]; rfl
  refine for_map (moS F (n + 1) b_law_layout_1) (fun pre ρ h' => ∃ (ps : List Addr) (css : List (List Int)) (left : List Int) (u5 : Option Val), PG a p3 h' p ps css ∧ Pen2 h' a ∧ h' p3 = some (.lst (left.map .int)) ∧ (css.flatten ++ left).Perm ks ∧ left.length + pre.length = ks.length ∧ (∀ c ∈ css, c.length ≤ R) ∧ css.length ≤ pre.length + 1 ∧ css ≠ [] ∧ ρ = [some (.ref a), some (.fl (ks.map .int)), some (.int (R : Nat)), some (.ref p3), some (.ref p), u5]) (fun i : Nat => Val.int (0 + (i : Nat))) (List.range ((ks.length : Nat) : Int).toNat) ?_ ?_ ?_
  · intro pre y post ρ h' ey ⟨ps, css, left, u5, G, pn', l3, pm, ll, cr, cl, cne, e⟩
    subst e
    have el := congrArg List.length ey
    simp only [List.length_range, List.length_append, List.length_cons, Int.toNat_natCast] at el
    refine ⟨trivial, _, rfl, ?_⟩
    -- a key put to the last page, which has room
    have J : ∀ (ps : List Addr) (css : List (List Int)) (h' : Hq) (u5 : Option Val), PG a p3 h' p ps css → Pen2 h' a → h' p3 = some (.lst (left.map .int)) → (css.flatten ++ left).Perm ks → (∀ c ∈ css, c.length ≤ R) → css.length ≤ pre.length + 2 → css ≠ [] → (∀ c, css[css.length - 1]? = some c → c.length < R) →
        wpSs (CN F (n + 1)) c_law_layout_1 { nx := fun ρ h' => ∃ (ps : List Addr) (css : List (List Int)) (left : List Int) (u5 : Option Val), PG a p3 h' p ps css ∧ Pen2 h' a ∧ h' p3 = some (.lst (left.map .int)) ∧ (css.flatten ++ left).Perm ks ∧ left.length + (pre ++ [y]).length = ks.length ∧ (∀ c ∈ css, c.length ≤ R) ∧ css.length ≤ (pre ++ [y]).length + 1 ∧ css ≠ [] ∧ ρ = [some (.ref a), some (.fl (ks.map .int)), some (.int (R : Nat)), some (.ref p3), some (.ref p), u5], rt := Q, ex := fun x _ h' => E x h' }
          [some (.ref a), some (.fl (ks.map .int)), some (.int (R : Nat)), some (.ref p3), some (.ref p), u5] h' := by
      intro ps css h' u5 G pn' l3 pm cr cl cne room
      have pne : ps ≠ [] := fun e => by have := G.len; rw [e] at this; exact cne (List.length_eq_zero_iff.mp this.symm)
      obtain ⟨le1, le2⟩ := lastE pne
      generalize hq : ps.getD (ps.length - 1) 0 = ql at *
      have hql := List.mem_of_getElem? le2
      have hcl : css.length - 1 < css.length := by have := List.length_pos_iff.mpr cne; omega
      obtain ⟨c0, ec0⟩ : ∃ c0, css[css.length - 1]? = some c0 := ⟨_, List.getElem?_eq_getElem hcl⟩
      have hc0 : h' ql = some (.lst (c0.map .int)) := G.at_ _ _ _ le2 (by rw [G.len]; exact ec0)
      have top := G.top
      have c0R := room c0 ec0
      unfold c_law_layout_1
      walk_at "w"
      rw [le1, optW_some]
      walk_at "w"
      rw [List.length_map]
      refine draw_ok hD pn' (by omega) (by omega) fun r h2 r0 r1 pn2 e2 => ?_
      obtain ⟨i, rfl⟩ : ∃ i : Nat, r = (i : Int) := ⟨r.toNat, by omega⟩
      have hi : i < left.length := by omega
      have l32 : h2 p3 = some (.lst (left.map .int)) := by rw [e2 p3 n3a]; exact l3
      have G2 : PG a p3 h2 p ps css := G.ex fun q q1 _ => e2 q q1
      walk_at "w"
      rw [w_popAt l32 (k := i) (x := .int left[i]) (ixN_nat (by rw [List.length_map]; exact hi)) (by simp [hi])]
      have G3 : PG a p3 (up h2 p3 (.lst ((left.map Val.int).eraseIdx i))) p ps css := G2.ex fun q _ q2 => up_ne q2
      have hc3 : up h2 p3 (.lst ((left.map Val.int).eraseIdx i)) ql = some (.lst (c0.map .int)) := G3.at_ _ _ _ le2 (by rw [G.len]; exact ec0)
      walk_at "w"
      refine ⟨by rw [List.length_map]; omega, ?_⟩
      have ee : (left.map Val.int).eraseIdx i = (left.eraseIdx i).map .int := by simp [List.eraseIdx_eq_take_drop_succ, List.map_take, List.map_drop]
      rw [ee] at G3 ⊢
      rw [show c0.map Val.int ++ [Val.int left[i]] = (c0 ++ [left[i]]).map Val.int by rw [List.map_append]; rfl]
      have nl3 : ql ≠ p3 := fun z => G.lp.2 (by rw [← z]; exact hql)
      have nla : ql ≠ a := fun z => G.ap.2 (by rw [← z]; exact hql)
      refine ⟨ps, css.set (css.length - 1) (c0 ++ [left[i]]), left.eraseIdx i, u5, by have := G3.write (c := c0 ++ [left[i]]) le2; rw [G.len] at this; exact this, Pen2.up nla (Pen2.up n3a pn2), by rw [up_ne (Ne.symm nl3), up_same], ?_, ?_, fun c hc => ?_, by rw [List.length_set, List.length_append, List.length_singleton]; omega, fun z => cne (by have := congrArg List.length z; rw [List.length_set] at this; exact List.length_eq_zero_iff.mp this), rfl⟩
      · refine (List.Perm.append_right _ (set_perm ec0)).trans (List.Perm.trans ?_ pm)
        have e1 : left = left.take i ++ left[i] :: left.drop (i + 1) := by rw [← List.drop_eq_getElem_cons hi, List.take_append_drop]
        have e3 : (left[i] :: left.eraseIdx i).Perm left := by
          rw [List.eraseIdx_eq_take_drop_succ]
          refine List.Perm.trans ?_ (List.Perm.of_eq e1.symm)
          exact List.perm_middle.symm
        refine List.Perm.trans ?_ (List.Perm.append_left css.flatten e3)
        rw [List.cons_append]
        exact List.perm_middle.symm
      · rw [List.length_eraseIdx_of_lt hi, List.length_append, List.length_singleton]; omega
      · rcases List.mem_or_eq_of_mem_set hc with h | h
        · exact cr c h
        · rw [h, List.length_append, List.length_singleton]; omega
    -- a new last page
    have PUSH : ∀ (h' : Hq), PG a p3 h' p ps css → Pen2 h' a → h' p3 = some (.lst (left.map .int)) → ∀ q, h' q = none → wpSs (CN F (n + 1)) c_law_layout_1 { nx := fun ρ h' => ∃ (ps : List Addr) (css : List (List Int)) (left : List Int) (u5 : Option Val), PG a p3 h' p ps css ∧ Pen2 h' a ∧ h' p3 = some (.lst (left.map .int)) ∧ (css.flatten ++ left).Perm ks ∧ left.length + (pre ++ [y]).length = ks.length ∧ (∀ c ∈ css, c.length ≤ R) ∧ css.length ≤ (pre ++ [y]).length + 1 ∧ css ≠ [] ∧ ρ = [some (.ref a), some (.fl (ks.map .int)), some (.int (R : Nat)), some (.ref p3), some (.ref p), u5], rt := Q, ex := fun x _ h' => E x h' }
          [some (.ref a), some (.fl (ks.map .int)), some (.int (R : Nat)), some (.ref p3), some (.ref p), some (.int (0 + (y : Nat)))] (up (up h' q (.lst [])) p (.lst (ps.map .ref ++ [.ref q]))) := by
      intro h' G pn' l3 q hq
      have qa : q ≠ a := pn'.ne hq
      have q3 : q ≠ p3 := fun e => by rw [e, l3] at hq; cases hq
      have G2 := G.ins hq qa q3 ps.length
      rw [List.take_length, List.drop_length, List.append_nil, G.len, List.take_length, List.drop_length, List.append_nil, List.map_append] at G2
      refine J (ps ++ [q]) (css ++ [[]]) _ _ G2 (Pen2.up npa (Pen2.up qa pn')) (by rw [up_ne (Ne.symm np3), up_ne (Ne.symm q3)]; exact l3) (by simpa using pm) (fun c hc => ?_) (by rw [List.length_append, List.length_singleton]; omega) (by simp) fun c hc => ?_
      · rcases List.mem_append.mp hc with h | h
        · exact cr c h
        · rw [List.mem_singleton.mp h]; simp
      · simp at hc
        subst hc
        simp; omega
    have pne : ps ≠ [] := fun e => by have := G.len; rw [e] at this; exact cne (List.length_eq_zero_iff.mp this.symm)
    obtain ⟨le1, le2⟩ := lastE pne
    generalize hq : ps.getD (ps.length - 1) 0 = ql at *
    have hcl : css.length - 1 < css.length := by have := List.length_pos_iff.mpr cne; omega
    obtain ⟨c0, ec0⟩ : ∃ c0, css[css.length - 1]? = some c0 := ⟨_, List.getElem?_eq_getElem hcl⟩
    have hc0 : h' ql = some (.lst (c0.map .int)) := G.at_ _ _ _ le2 (by rw [G.len]; exact ec0)
    have top := G.top
    have c0m := cr c0 (List.mem_of_getElem? ec0)
    unfold b_law_layout_1
    simp only [List.set]
    walk_at "w"
    rw [le1, optW_some]
    walk_at "w"
    rw [List.length_map]
    have psl : ps.length < 1000000 := by rw [G.len]; omega
    by_cases cR : ((c0.length : Nat) : Int) = (R : Nat)
    · rw [if_neg (fun z => z cR), if_pos cR]
      intro q hq
      have qp : q ≠ p := fun z => by rw [z, G.top] at hq; cases hq
      have top2 : up h' q (.lst []) p = some (.lst (ps.map .ref)) := by rw [up_ne (Ne.symm qp)]; exact G.top
      walk_at "w"
      exact ⟨by rw [List.length_map]; exact psl, PUSH h' G pn' l3 q hq⟩
    · rw [if_pos cR]
      refine draw_ok hD pn' (by omega) (by omega) fun r h2 r0 r1 pn2 e2 => ?_
      have l32 : h2 p3 = some (.lst (left.map .int)) := by rw [e2 p3 n3a]; exact l3
      have G2 : PG a p3 h2 p ps css := G.ex fun q q1 _ => e2 q q1
      walk_at "w"
      have top3 := G2.top
      split
      · try walk_at "w"
        intro q hq
        have qp : q ≠ p := fun z => by rw [z, G2.top] at hq; cases hq
        have top2 : up h2 q (.lst []) p = some (.lst (ps.map .ref)) := by rw [up_ne (Ne.symm qp)]; exact G2.top
        walk_at "w"
        exact ⟨by rw [List.length_map]; exact psl, PUSH h2 G2 pn2 l32 q hq⟩
      · exact J ps css h2 _ G2 pn2 l32 pm cr (by omega) cne fun c hc => by
          rw [ec0] at hc
          cases hc
          omega
  · intro ρ h' ⟨ps, css, left, u5, G, pn', l3, pm, ll, cr, cl, cne, e⟩
    subst e
    refine ⟨trivial, ?_⟩
    rw [List.length_range, Int.toNat_natCast] at ll cl
    have l0 : left = [] := List.length_eq_zero_iff.mp (by omega)
    subst l0
    rw [List.append_nil] at pm
    have FIN : ∀ (ps : List Addr) (css : List (List Int)) (h' : Hq), PG a p3 h' p ps css → Pen2 h' a → h' p3 = some (.lst []) → css.flatten.Perm ks → (∀ c ∈ css, c.length ≤ R) → css.length ≤ 200 → wpSs (CN F (n + 1)) c_law_layout_3 { nx := fun _ h' => Q .non h', rt := Q, ex := fun x _ h' => E x h' } [some (.ref a), some (.fl (ks.map .int)), some (.int (R : Nat)), some (.ref p3), some (.ref p), u5] h' := by
      intro ps css h' G pn' l3 pm cr cl
      unfold c_law_layout_3
      walk_at "w"
      unfold c_law_layout_2
      walk_at "w"
      refine (G.ex (h2 := er h' p3) fun q _ q2 => er_ne q2).frz fun h2 e2 => q css h2 pm cr cl ?_
      obtain ⟨x, z, ea⟩ := pn'
      exact ⟨x, z, by rw [e2 a (fun m => G.ap.2 m) (Ne.symm npa), er_ne (Ne.symm n3a)]; exact ea⟩
    unfold c_law_layout_4
    walk_at "w"
    refine draw_ok hD pn' (by decide) (by decide) fun r h2 r0 r1 pn2 e2 => ?_
    have l32 : h2 p3 = some (.lst []) := by rw [e2 p3 n3a]; exact l3
    have G2 : PG a p3 h2 p ps css := G.ex fun q q1 _ => e2 q q1
    have top := G2.top
    have csl := List.length_pos_iff.mpr cne
    walk_at "w"
    split
    · rw [List.length_map, G.len]
      refine draw_ok hD pn2 (by omega) (by omega) fun i h3 i0 i1 pn3 e3 => ?_
      obtain ⟨i, rfl⟩ : ∃ j : Nat, i = (j : Int) := ⟨i.toNat, by omega⟩
      have l33 : h3 p3 = some (.lst []) := by rw [e3 p3 n3a]; exact l32
      have G3 : PG a p3 h3 p ps css := G2.ex fun q q1 _ => e3 q q1
      walk_at "w"
      intro q hq
      have qa : q ≠ a := pn3.ne hq
      have q3 : q ≠ p3 := fun e => by rw [e, l33] at hq; cases hq
      have qp : q ≠ p := fun z => by rw [z, G3.top] at hq; cases hq
      have top2 : up h3 q (.lst []) p = some (.lst (ps.map .ref)) := by rw [up_ne (Ne.symm qp)]; exact G3.top
      rw [w_insert top2]
      refine ⟨⟨by omega, by omega, by rw [List.length_map, G.len]; omega⟩, ?_⟩
      have G4 := G3.ins hq qa q3 i
      have em : (ps.map Val.ref).take ((i : Nat) : Int).toNat ++ [Val.ref q] ++ (ps.map Val.ref).drop ((i : Nat) : Int).toNat = (ps.take i ++ [q] ++ ps.drop i).map .ref := by
        rw [Int.toNat_natCast]; simp [List.map_take, List.map_drop]
      rw [em]
      refine FIN _ _ _ G4 (Pen2.up npa (Pen2.up qa pn3)) (by rw [up_ne (Ne.symm np3), up_ne (Ne.symm q3)]; exact l33) ?_ (fun c hc => ?_) ?_
      · have : (css.take i ++ [[]] ++ css.drop i).flatten = css.flatten := by
          rw [List.flatten_append, List.flatten_append, List.flatten_singleton, List.append_nil, ← List.flatten_append, List.take_append_drop]
        rw [this]; exact pm
      · simp only [List.mem_append, List.mem_singleton] at hc
        rcases hc with (h | h) | h
        · exact cr c (List.mem_of_mem_take h)
        · rw [h]; simp
        · exact cr c (List.mem_of_mem_drop h)
      · simp only [List.length_append, List.length_take, List.length_drop, List.length_singleton]; omega
    · exact FIN ps css h2 G2 pn2 l32 pm cr (by omega)
  · refine ⟨[q0], [[]], ks, none, PG.new up_same (by rw [up_ne (Ne.symm npq), up_same]) npq ⟨npa, nqa⟩ ⟨np3, nq3⟩, Pen2.up npa (Pen2.up nqa (Pen2.up n3a pn)), by rw [up_ne (Ne.symm np3), up_ne (Ne.symm nq3), up_same], by simp, by simp, by simp, by simp, by simp, rfl⟩
end

end L3

set_option Elab.async false
set_option linter.all false
set_option maxRecDepth 100000
namespace L3
open PySem PySem.Spec PyProof.Rows L2
local macro_rules | `(tactic| walk_at "d") => `(tactic| first | assumption | exact up_same | exact dr_fd _ _ | exact dr_wd _ _ | exact dr_ref (by assumption) | exact dr_ref up_same | exact keyOf_int | (exact (rfl : isNop _ = false)) | exact keyOf_str | exact tyOf_fl | exact tyOf_int | exact tyOf_tup | exact tyOf_bl | exact tyOf_ref (by assumption) | exact tyOf_ref up_same | (intro z; cases z))
local macro_rules | `(tactic| walk_at "w") => `(tactic| try simp -implicitDefEqProofs (disch := walk_at "d") only [↓wpE, ↓wpA, ↓wpB, ↓wpT, ↓wpTs, ↓wpI, ↓wpS, ↓wpSs, ↓optW_some, ↓w_lk0, ↓w_lkS, ↓w_bs, ↓w_bl0, ↓w_bl1, ↓w_k1, ↓w_kS, ↓w_b0, ↓w_b1, ↓w_b2, ↓w_b3, ↓w_b4, ↓w_b5, ↓w_b6, ↓w_b7, ↓w_b8, ↓w_b9, ↓w_b10, ↓w_b11, ↓w_b12, ↓w_b13, ↓w_b14, ↓w_b15, ↓w_b16, ↓w_b17, ↓w_b18, ↓w_b19, ↓w_b20, ↓w_b21, ↓w_b22, ↓w_b23, ↓w_b24, ↓w_b25, ↓alc_fz, ↓alc_lv, ↓w_dictZ, ↓w_eqNN, ↓w_add, ↓w_addS, ↓w_addL, ↓w_addT, ↓w_sub, ↓w_mul, ↓w_fdiv, ↓w_mod, ↓w_pow, ↓w_shl, ↓w_shr, ↓w_band, ↓w_eqI, ↓w_neI, ↓w_eqS, ↓w_neS, ↓w_lt, ↓w_le, ↓w_gt, ↓w_ge, ↓w_is, ↓w_isnot, ↓w_isB, ↓w_isnotB, ↓w_neF0, ↓w_eqF0, ↓w_neI_L, ↓w_eqI_L, ↓w_eqLL, ↓w_neDL, ↓w_eqDL, ↓w_idxR, ↓w_slcF, ↓w_slcT, ↓w_insert, ↓w_lrange, ↓w_revF, ↓w_revR, ↓w_tmul, ↓w_ok_indexF, ↓w_inI, ↓w_notinI, ↓w_eqEE, ↓w_neEE, ↓w_eqE0, ↓w_neE0, ↓w_eqRE, ↓w_neRE, ↓w_maxF, ↓w_minF, ↓w_eqB, ↓w_neB, ↓w_sortPF, ↓w_allF, ↓w_anyF, ↓w_slcR, ↓w_oi1, ↓w_oi2, ↓w_idxD, ↓w_inD, ↓w_notinD, ↓w_okD, ↓w_okDF, ↓w_okU, ↓w_get1N, ↓w_get2N, ↓w_get1, ↓w_get2, ↓w_upd, ↓w_putD, ↓w_frzD', ↓alcD_fz, ↓alcD_lv, ↓w_rep, ↓w_sortR, ↓w_sortF, ↓w_sumF, ↓w_idxF, ↓w_idxT, ↓w_idxS, ↓w_lenR, ↓w_lenF, ↓w_lenT, ↓w_lenS, ↓w_abs, ↓w_max2, ↓w_min2, ↓w_listF, ↓w_listT, ↓w_listR, ↓w_tupleF, ↓w_int, ↓w_intB, ↓w_isi, ↓w_ok_append, ↓w_ok_extend, ↓w_ok_pop, ↓w_ok_insert, ↓w_ok_reverse, ↓w_ok_clear, ↓w_ok_index, ↓w_ok_count, ↓w_append, ↓w_extend, ↓w_reverse, ↓w_clear, ↓w_frz, ↓w_set0, ↓w_set1, ↓w_set2, ↓w_at0, ↓w_at1, ↓w_at2, ↓w_at3, ↓w_blOf, ↓w_intOf, ↓w_refOf, ↓w_cellO, ↓wdK_wd, ↓w_lenDW, lockC_dic, lockC_lst, isN_wd, ↓w_truB, ↓w_truI, ↓w_truF, ↓w_truT, ↓w_truN, ↓optI, ↓isNop, optW_some, isN_non, isN_int, isN_tup, isN_fl, isN_ref, lv_fl, ls_fl, sq_fl, sq_tup, ls_sc, sq_sc, lv_up, ls_up, sq_up, tyOf_fl, tyOf_int, tyOf_tup, tyOf_bl, tyOf_ref, Option.bind_some, List.length_cons, List.length_nil, reduceIte, Bool.false_eq_true, if_true, if_false, List.map_cons, List.map_nil, List.replicate, List.cons_append, List.nil_append, Nat.reduceSub, Nat.reduceAdd, Nat.reduceLeDiff, Int.reduceLT, Int.reduceLE, Int.reduceNeg, Int.reduceToNat, Int.reducePow, and_true, true_and, or_true, true_or, decide_eq_true_eq, Bool.not_eq_true', decide_eq_false_iff_not, up_up, decide_true, decide_false, not_true_eq_false, not_false_eq_true, Bool.not_true, Bool.not_false, List.any_cons, List.any_nil, Bool.or_false, Bool.or_true, Bool.true_or, Bool.false_or, List.mem_cons, List.not_mem_nil, or_false, false_or, reduceCtorEq, sq_ref, lv_ref, ls_ref])
local macro_rules | `(tactic| walk_at "e") => `(tactic| simp only [List.map_cons, List.map_nil, List.replicate, List.cons_append, List.nil_append, Nat.reduceSub])
local macro_rules | `(tactic| walk_at "i") => `(tactic| try simp only [Bool.true_eq_false, Bool.false_eq_true, Bool.not_true, Bool.not_false, Bool.and_true, Bool.true_and, Bool.and_false, Bool.false_and, if_false, if_true, reduceIte, decide_true, decide_false, not_true_eq_false, not_false_eq_true, eq_self])
theorem mk_mir {R : Int} : ∀ t : Tr, Tr.mk R t.mir = Tr.mk R t
  | .nil => rfl
  | .nd l k r => by
    have hl := mk_mir (R := R) l
    have hr := mk_mir (R := R) r
    rw [Tr.mir, Tr.mk, Tr.mk, hl, hr]
    by_cases e1 : l = .nil <;> by_cases e2 : r = .nil
    · rw [if_pos e1, if_pos e2, if_pos (mir_nil.mpr e1), if_pos (mir_nil.mpr e2)]
    · rw [if_pos e1, if_neg e2, if_pos (mir_nil.mpr e1), if_neg (fun z => e2 (mir_nil.mp z))]; rfl
    · rw [if_neg e1, if_pos e2, if_neg (fun z => e1 (mir_nil.mp z)), if_pos (mir_nil.mpr e2)]; rfl
    · rw [if_neg e1, if_neg e2, if_neg (fun z => e1 (mir_nil.mp z)), if_neg (fun z => e2 (mir_nil.mp z))]
      generalize Tr.mk R l = a
      generalize Tr.mk R r = b
      show Tr.ruleM R [b, a] = Tr.ruleM R [a, b]
      unfold Tr.ruleM
      rw [if_neg (show ¬ [b, a] = [] by simp), if_neg (show ¬ [a, b] = [] by simp)]
      have em : maxL ([b, a].map (·.1)) = maxL ([a, b].map (·.1)) := by
        show max b.1 a.1 = max a.1 b.1
        exact Int.max_comm _ _
      have es : ∀ lev : Int, (([b, a].filter fun m => decide (m.1 = lev)).map (·.2)).sum = (([a, b].filter fun m => decide (m.1 = lev)).map (·.2)).sum := fun lev => by
        by_cases c1 : a.1 = lev <;> by_cases c2 : b.1 = lev <;> simp [List.filter_cons, c1, c2] <;> omega
      rw [em, es]
theorem lrN_mir {t : Tr} {num : Int} : lrN t.mir num = lrN t num := by
  unfold lrN
  rw [mir_size]
  simp only [mk_mir]
def neg1 (c : List Int) : List Int := c.map fun k => -k
theorem rows_mir {R : Int} : ∀ t : Tr, Tr.rows R t.mir = ((Tr.rows R t).map fun y => (-y.1, y.2)).reverse
  | .nil => rfl
  | .nd l k r => by
    have e := mk_mir (R := R) (.nd l k r)
    rw [Tr.mir] at e ⊢
    rw [Tr.rows, Tr.rows, rows_mir l, rows_mir r, e]
    simp
theorem ht_mir : ∀ t : Tr, t.mir.ht = t.ht
  | .nil => rfl
  | .nd l k r => by rw [Tr.mir, Tr.ht, Tr.ht, ht_mir l, ht_mir r, Nat.max_comm]
theorem mir_mir : ∀ t : Tr, t.mir.mir = t
  | .nil => rfl
  | .nd l k r => by rw [Tr.mir, Tr.mir, mir_mir l, mir_mir r, Int.neg_neg]
theorem top_mir {t : Tr} (h : t ≠ .nil) : t.mir.top = -t.top := by
  cases t with
  | nil => exact absurd rfl h
  | nd l k r => rfl
theorem bel_mir {R : Nat} : ∀ t : Tr, nu R t.mir = nu R t ∧ ∀ v, low R v t.mir = ((low R v t).map Tr.mir).reverse
  | .nil => ⟨rfl, fun v => rfl⟩
  | .nd l k r => by
    obtain ⟨l1, l2⟩ := bel_mir (R := R) l
    obtain ⟨r1, r2⟩ := bel_mir (R := R) r
    have eS : ∀ v, lowS R v r.mir l.mir = ((lowS R v l r).map Tr.mir).reverse := fun v => by
      unfold lowS
      rw [l2, r2, List.map_append, List.reverse_append]
    have e1 : nu R (Tr.nd l k r).mir = nu R (.nd l k r) := by
      rw [Tr.mir, nu_nd, nu_nd, mir_size, mir_size, Nat.add_comm r.size l.size]
      congr 1
      funext v
      rw [eS, List.length_reverse, List.length_map]
    refine ⟨e1, fun v => ?_⟩
    have e2 := e1
    rw [Tr.mir] at e2 ⊢
    rw [low_nd, low_nd, eS, e2]
    by_cases c : lowS R v l r = [] ∧ v ≤ nu R (.nd l k r)
    · rw [if_pos c, if_pos ⟨by rw [c.1]; rfl, c.2⟩]; rfl
    · rw [if_neg c, if_neg fun z => c ⟨by simpa using z.1, z.2⟩]
theorem path_mir {k : Int} : ∀ t : Tr, t.mir.path (-k) = (t.path k).map Tr.mir
  | .nil => rfl
  | .nd l x r => by
    rw [Tr.path, Tr.mir, Tr.path, path_mir l, path_mir r]
    rcases Int.lt_trichotomy k x with c | c | c
    · rw [if_neg (by omega), if_pos (by omega), if_pos c]; rfl
    · rw [if_neg (by omega), if_neg (by omega), if_neg (by omega), if_neg (by omega)]; rfl
    · rw [if_pos (by omega), if_neg (by omega), if_pos (by omega)]; rfl
theorem path_ne {k : Int} : ∀ {t s : Tr}, s ∈ t.path k → s ≠ .nil
  | .nil, _, h => by cases h
  | .nd l x r, s, h => by
    rw [Tr.path, List.mem_cons] at h
    rcases h with rfl | h
    · intro z; cases z
    · split at h
      · exact path_ne h
      · split at h
        · exact path_ne h
        · cases h
theorem way_mir {t : Tr} {k : Int} : t.mir.way (-k) = neg1 (t.way k) := by
  unfold Tr.way neg1
  rw [path_mir, List.map_map, List.map_map]
  exact List.map_congr_left fun s hs => top_mir (path_ne hs)
theorem pno_neg {k : Int} : ∀ (P : List (List Int)) (n : Nat), pno n (P.map neg1) (-k) = pno n P k
  | [], n => rfl
  | c :: P, n => by
    rw [List.map_cons, pno, pno, pno_neg P]
    have : -k ∈ neg1 c ↔ k ∈ c := by unfold neg1; simp [List.mem_map]
    simp only [this]
theorem pg_neg {k : Int} {P : List (List Int)} : pg (P.map neg1) (-k) = pg P k := by unfold pg; rw [pno_neg]
theorem met_neg {t : Tr} {P : List (List Int)} {k : Int} : (t.mir.way (-k)).map (pg (P.map neg1)) = (t.way k).map (pg P) := by
  rw [way_mir]; unfold neg1
  rw [List.map_map]
  exact List.map_congr_left fun j _ => pg_neg
theorem tied_mir {R : Int} {l r : Tr} {k : Int} (s : Tr) : s.mir ∈ Tr.tiedS R (Tr.nd l k r).mir ↔ s ∈ Tr.tiedS R (.nd l k r) := by
  have inj : ∀ a b : Tr, a.mir = b.mir → a = b := fun a b e => by rw [← mir_mir a, ← mir_mir b, e]
  have hs : (Tr.nd l k r).mir.sides = ((Tr.nd l k r).sides.map Tr.mir).reverse := by
    rw [Tr.mir]
    unfold Tr.sides
    by_cases e1 : l = .nil <;> by_cases e2 : r = .nil <;> simp [e1, e2, mir_nil, Tr.mir]
  have hm : ((Tr.nd l k r).mir.sides.map (Tr.mk R)) = ((Tr.nd l k r).sides.map (Tr.mk R)).reverse := by
    rw [hs, List.map_reverse, List.map_map]
    congr 1
    exact List.map_congr_left fun s _ => mk_mir s
  have mx : maxL (((Tr.nd l k r).mir.sides.map (Tr.mk R)).map (·.1)) = maxL (((Tr.nd l k r).sides.map (Tr.mk R)).map (·.1)) := by
    rw [hm, List.map_reverse]
    by_cases e : ((Tr.nd l k r).sides.map (Tr.mk R)).map (·.1) = []
    · rw [e]; rfl
    · exact maxL_uniq (List.mem_reverse.mp (maxL_in (by simpa using e))) fun j hj => maxL_up (List.mem_reverse.mpr hj)
  have sm : ∀ lev : Int, ((((Tr.nd l k r).mir.sides.map (Tr.mk R)).filter fun m => decide (m.1 = lev)).map (·.2)).sum = ((((Tr.nd l k r).sides.map (Tr.mk R)).filter fun m => decide (m.1 = lev)).map (·.2)).sum := fun lev => by
    rw [hm, List.filter_reverse, List.map_reverse, List.sum_reverse]
  unfold Tr.tiedS
  rw [mx, sm]
  have c0 : (Tr.nd l k r).mir.sides = [] ↔ (Tr.nd l k r).sides = [] := by rw [hs]; simp
  simp only [c0]
  split
  · simp
  · rw [List.mem_filter, List.mem_filter, hs, List.mem_reverse, mk_mir, List.mem_map]
    constructor
    · rintro ⟨⟨a, ha, e⟩, h2⟩
      rw [← inj _ _ e]
      exact ⟨ha, by rw [inj _ _ e]; exact h2⟩
    · rintro ⟨ha, h2⟩
      exact ⟨⟨s, ha, rfl⟩, h2⟩
theorem own_mir {R : Int} : ∀ t : Tr, (ownP R t.mir).Perm (neg1 (ownP R t))
  | .nil => List.Perm.refl _
  | .nd l k r => by
    have hl := own_mir (R := R) l
    have hr := own_mir (R := R) r
    have tl := tied_mir (R := R) (l := l) (r := r) (k := k) l
    have tr := tied_mir (R := R) (l := l) (r := r) (k := k) r
    rw [Tr.mir] at tl tr ⊢
    rw [ownP, ownP]
    simp only [tl, tr]
    unfold neg1 at *
    rw [List.map_cons, List.map_append]
    refine List.Perm.cons _ ((List.perm_append_comm).trans (List.Perm.append ?_ ?_))
    · split
      · exact hl
      · exact List.Perm.refl _
    · split
      · exact hr
      · exact List.Perm.refl _
theorem sortI_pq {a b : List Int} (p : a.Perm b) : sortI a = sortI b := sortI_is (p.trans (List.mergeSort_perm _ _).symm) (sortI_up' b)
theorem oth_mir {R : Int} : ∀ t : Tr, ((othP R t.mir).map sortI).Perm ((othP R t).map fun c => sortI (neg1 c))
  | .nil => List.Perm.refl _
  | .nd l k r => by
    have hl := oth_mir (R := R) l
    have hr := oth_mir (R := R) r
    have tl := tied_mir (R := R) (l := l) (r := r) (k := k) l
    have tr := tied_mir (R := R) (l := l) (r := r) (k := k) r
    rw [Tr.mir] at tl tr ⊢
    rw [othP, othP]
    simp only [tl, tr, mir_nil]
    rw [List.map_append, List.map_append]
    refine (List.perm_append_comm).trans (List.Perm.append ?_ ?_)
    · split
      · exact hl
      · split
        · exact List.Perm.refl _
        · rw [List.map_cons, List.map_cons, sortI_pq (own_mir l)]; exact List.Perm.cons _ hl
    · split
      · exact hr
      · split
        · exact List.Perm.refl _
        · rw [List.map_cons, List.map_cons, sortI_pq (own_mir r)]; exact List.Perm.cons _ hr
theorem all_mir {R : Int} (t : Tr) : ((allP R t.mir).map sortI).Perm ((allP R t).map fun c => sortI (neg1 c)) := by
  unfold allP
  simp only [mir_nil]
  split
  · exact List.Perm.refl _
  · rw [List.map_cons, List.map_cons, sortI_pq (own_mir t)]; exact List.Perm.cons _ (oth_mir t)
theorem leLL_is (a b : List Int) : leLL a b = decide (a ≤ b) := by
  show (!PySem.W.dataLt (.list (b.map .int)) (.list (a.map .int))) = _
  have h3 : PySem.W.dataLt (.list (b.map .int)) (.list (a.map .int)) = decide (b < a) := by rw [PySem.W.dataLt_list]; exact PySem.W.dataLt_ints _ _
  rw [h3]
  by_cases e : b < a
  · have : ¬ a ≤ b := fun z => absurd e (List.not_lt.mpr z)
    simp [e, this]
  · have : a ≤ b := List.not_lt.mp e
    simp [e, this]
theorem sortLL_perm2 {A B : List (List Int)} (p : A.Perm B) : sortLL A = sortLL B := by
  have up : ∀ L : List (List Int), (sortLL L).Pairwise fun a b => a ≤ b := fun L => by
    have := List.pairwise_mergeSort (le := leLL) (fun a b c h1 h2 => by
      rw [leLL_is] at *
      exact decide_eq_true (List.le_trans (of_decide_eq_true h1) (of_decide_eq_true h2))) (fun a b => by
      rw [leLL_is, leLL_is]
      rcases List.le_total a b with h | h
      · simp [h]
      · simp [h]) L
    exact this.imp fun h => by rw [leLL_is] at h; exact of_decide_eq_true h
  exact List.Perm.eq_of_pairwise (le := fun a b : List Int => a ≤ b) (fun a b _ _ h h' => List.le_antisymm h h') (up A) (up B) ((sortLL_perm A).trans (p.trans (sortLL_perm B).symm))
theorem layP_mir {R : Int} (t : Tr) : layP R t.mir = sortLL ((layP R t).map fun c => sortI (neg1 c)) := by
  refine sortLL_perm2 ((all_mir t).trans ?_)
  refine List.Perm.trans ?_ ((sortLL_perm _).map fun c => sortI (neg1 c)).symm
  rw [List.map_map]
  have e : (allP R t).map (fun c => sortI (neg1 c)) = (allP R t).map ((fun c => sortI (neg1 c)) ∘ sortI) := List.map_congr_left fun c _ => sortI_pq ((List.mergeSort_perm c _).symm.map _)
  rw [e]
theorem maxL_perm {a b : List Int} (p : a.Perm b) : maxL a = maxL b := by
  by_cases e : a = []
  · subst e; rw [List.nil_perm.mp p]
  · exact maxL_uniq (p.mem_iff.mp (maxL_in e)) fun j hj => maxL_up (p.mem_iff.mpr hj)
theorem metN_mir {t : Tr} {P : List (List Int)} : t.mir.keys.map (metN t.mir (P.map neg1)) = (t.keys.map (metN t P)).reverse := by
  rw [mir_keys, List.map_reverse, List.map_map]
  congr 1
  refine List.map_congr_left fun k _ => ?_
  show metN t.mir (P.map neg1) (-k) = metN t P k
  unfold metN
  rw [met_neg]
theorem roomAt_neg {room : Int} {r : Val} : ∀ (P : List (List Int)) (n : Nat), roomAt room r n (P.map neg1) = roomAt room r n P
  | [], _ => rfl
  | c :: P, n => by
    rw [List.map_cons, roomAt, roomAt, roomAt_neg P]
    unfold neg1
    rw [List.length_map]
theorem fault_room {ks : List Int} {room : Int} {P : List (List Int)} (p : P.flatten.Perm ks) (nd : ks.Nodup) : faultV ks room P = roomAt room .non 0 P := by
  have h1 : ∀ c ∈ P, ∀ k ∈ c, k ∈ ks := fun c hc k hk => p.mem_iff.mp (List.mem_flatten.mpr ⟨c, hc, hk⟩)
  obtain ⟨a, e⟩ := oddP_ok (ks := ks) P 0 [] h1 (by simpa using p.nodup_iff.mpr nd)
  unfold faultV
  rw [e, lackAt_ok ks fun k hk => p.mem_iff.mpr hk]
theorem neg_flat (P : List (List Int)) : (P.map neg1).flatten = neg1 P.flatten := by
  unfold neg1
  rw [List.map_flatten]

end L3

set_option Elab.async false
set_option linter.all false
set_option maxRecDepth 100000
namespace L3
open PySem PySem.Spec PyProof.Rows L2
local macro_rules | `(tactic| walk_at "d") => `(tactic| first | assumption | exact up_same | exact dr_fd _ _ | exact dr_wd _ _ | exact dr_ref (by assumption) | exact dr_ref up_same | exact keyOf_int | (exact (rfl : isNop _ = false)) | exact keyOf_str | exact tyOf_fl | exact tyOf_int | exact tyOf_tup | exact tyOf_bl | exact tyOf_ref (by assumption) | exact tyOf_ref up_same | (intro z; cases z))
local macro_rules | `(tactic| walk_at "w") => `(tactic| try simp -implicitDefEqProofs (disch := walk_at "d") only [↓wpE, ↓wpA, ↓wpB, ↓wpT, ↓wpTs, ↓wpI, ↓wpS, ↓wpSs, ↓optW_some, ↓w_lk0, ↓w_lkS, ↓w_bs, ↓w_bl0, ↓w_bl1, ↓w_k1, ↓w_kS, ↓w_b0, ↓w_b1, ↓w_b2, ↓w_b3, ↓w_b4, ↓w_b5, ↓w_b6, ↓w_b7, ↓w_b8, ↓w_b9, ↓w_b10, ↓w_b11, ↓w_b12, ↓w_b13, ↓w_b14, ↓w_b15, ↓w_b16, ↓w_b17, ↓w_b18, ↓w_b19, ↓w_b20, ↓w_b21, ↓w_b22, ↓w_b23, ↓w_b24, ↓w_b25, ↓alc_fz, ↓alc_lv, ↓w_dictZ, ↓w_eqNN, ↓w_add, ↓w_addS, ↓w_addL, ↓w_addT, ↓w_sub, ↓w_mul, ↓w_fdiv, ↓w_mod, ↓w_pow, ↓w_shl, ↓w_shr, ↓w_band, ↓w_eqI, ↓w_neI, ↓w_eqS, ↓w_neS, ↓w_lt, ↓w_le, ↓w_gt, ↓w_ge, ↓w_is, ↓w_isnot, ↓w_isB, ↓w_isnotB, ↓w_neF0, ↓w_eqF0, ↓w_neI_L, ↓w_eqI_L, ↓w_eqLL, ↓w_neDL, ↓w_eqDL, ↓w_idxR, ↓w_slcF, ↓w_slcT, ↓w_insert, ↓w_lrange, ↓w_revF, ↓w_revR, ↓w_tmul, ↓w_ok_indexF, ↓w_inI, ↓w_notinI, ↓w_eqEE, ↓w_neEE, ↓w_eqE0, ↓w_neE0, ↓w_eqRE, ↓w_neRE, ↓w_maxF, ↓w_minF, ↓w_eqB, ↓w_neB, ↓w_sortPF, ↓w_allF, ↓w_anyF, ↓w_slcR, ↓w_oi1, ↓w_oi2, ↓w_idxD, ↓w_inD, ↓w_notinD, ↓w_okD, ↓w_okDF, ↓w_okU, ↓w_get1N, ↓w_get2N, ↓w_get1, ↓w_get2, ↓w_upd, ↓w_putD, ↓w_frzD', ↓alcD_fz, ↓alcD_lv, ↓w_rep, ↓w_sortR, ↓w_sortF, ↓w_sumF, ↓w_idxF, ↓w_idxT, ↓w_idxS, ↓w_lenR, ↓w_lenF, ↓w_lenT, ↓w_lenS, ↓w_abs, ↓w_max2, ↓w_min2, ↓w_listF, ↓w_listT, ↓w_listR, ↓w_tupleF, ↓w_int, ↓w_intB, ↓w_isi, ↓w_ok_append, ↓w_ok_extend, ↓w_ok_pop, ↓w_ok_insert, ↓w_ok_reverse, ↓w_ok_clear, ↓w_ok_index, ↓w_ok_count, ↓w_append, ↓w_extend, ↓w_reverse, ↓w_clear, ↓w_frz, ↓w_set0, ↓w_set1, ↓w_set2, ↓w_at0, ↓w_at1, ↓w_at2, ↓w_at3, ↓w_blOf, ↓w_intOf, ↓w_refOf, ↓w_cellO, ↓wdK_wd, ↓w_lenDW, lockC_dic, lockC_lst, isN_wd, ↓w_truB, ↓w_truI, ↓w_truF, ↓w_truT, ↓w_truN, ↓optI, ↓isNop, optW_some, isN_non, isN_int, isN_tup, isN_fl, isN_ref, lv_fl, ls_fl, sq_fl, sq_tup, ls_sc, sq_sc, lv_up, ls_up, sq_up, tyOf_fl, tyOf_int, tyOf_tup, tyOf_bl, tyOf_ref, Option.bind_some, List.length_cons, List.length_nil, reduceIte, Bool.false_eq_true, if_true, if_false, List.map_cons, List.map_nil, List.replicate, List.cons_append, List.nil_append, Nat.reduceSub, Nat.reduceAdd, Nat.reduceLeDiff, Int.reduceLT, Int.reduceLE, Int.reduceNeg, Int.reduceToNat, Int.reducePow, and_true, true_and, or_true, true_or, decide_eq_true_eq, Bool.not_eq_true', decide_eq_false_iff_not, up_up, decide_true, decide_false, not_true_eq_false, not_false_eq_true, Bool.not_true, Bool.not_false, List.any_cons, List.any_nil, Bool.or_false, Bool.or_true, Bool.true_or, Bool.false_or, List.mem_cons, List.not_mem_nil, or_false, false_or, reduceCtorEq, sq_ref, lv_ref, ls_ref])
local macro_rules | `(tactic| walk_at "e") => `(tactic| simp only [List.map_cons, List.map_nil, List.replicate, List.cons_append, List.nil_append, Nat.reduceSub])
local macro_rules | `(tactic| walk_at "i") => `(tactic| try simp only [Bool.true_eq_false, Bool.false_eq_true, Bool.not_true, Bool.not_false, Bool.and_true, Bool.true_and, Bool.and_false, Bool.false_and, if_false, if_true, reduceIte, decide_true, decide_false, not_true_eq_false, not_false_eq_true, eq_self])
def f_law_over : Nat := 1171
def f_law_walked : Nat := 1172
def f_law_marked : Nat := 1174
def f_height : Nat := 1070
def f_mirrored : Nat := 1175
def f_law : Nat := 1018
def e_law_over_1 : Ex := (.neg (.var 1))
def e_law_over_2 : Ex := (.blt .sorted true (.cons (.comp true e_law_over_1 (.name 1) (.seq (.var 2)) .nop [1]) .nil))
def d_law_over : Df := ⟨1, 3, (.cons (.ret (.blt .sorted true (.cons (.comp true e_law_over_2 (.name 2) (.seq (.var 0)) .nop [2]) .nil))) .nil)⟩
-- ['_law_pages', '_law_key', '_law_page']
def e_law_walked_1 : Ex := (.neg (.var 6))
def e_law_walked_2 : Ex := (.comp true e_law_walked_1 (.name 6) (.seq (.var 7)) .nop [6])
def e_law_walked_3 : Ex := (.neg (.var 8))
def c_law_walked_1 : Sms := (.cons (.ite (.cmp .ne (.call f_pages_met (.cons (.var 1) (.cons (.var 5) (.cons (.neg (.var 6)) .nil)))) (.call f_pages_met (.cons (.var 0) (.cons (.var 3) (.cons (.var 6) .nil))))) (.cons (.ret (.bl false)) .nil) .nil) .nil)
def b_law_walked_1 : Sms := (.cons (.ite (.cmp .ne (.call f_way_to (.cons (.var 1) (.cons (.neg (.var 6)) .nil))) (.comp true e_law_walked_3 (.name 8) (.seq (.call f_way_to (.cons (.var 0) (.cons (.var 6) .nil)))) .nop [8])) (.cons (.ret (.bl false)) .nil) .nil) c_law_walked_1)
def c_law_walked_2 : Sms := (.cons (.ret (.cmp .eq (.call f_cost (.cons (.var 1) (.cons (.var 5) (.cons (.op1 .rev true (.var 4)) .nil)))) (.call f_cost (.cons (.var 0) (.cons (.var 3) (.cons (.var 4) .nil)))))) .nil)
def c_law_walked_3 : Sms := (.cons (.ite (.cmp .ne (.call f_worst (.cons (.var 1) (.cons (.var 5) .nil))) (.call f_worst (.cons (.var 0) (.cons (.var 3) .nil)))) (.cons (.ret (.bl false)) .nil) .nil) c_law_walked_2)
def c_law_walked_4 : Sms := (.cons (.for (.name 6) (.seq (.call f_law_in_order (.cons (.var 0) .nil))) b_law_walked_1) c_law_walked_3)
def c_law_walked_5 : Sms := (.cons (.ite (.cmp .isnot (.call f_fault (.cons (.var 0) (.cons (.var 2) (.cons (.var 3) .nil)))) .non) (.cons (.ret (.bl true)) .nil) .nil) c_law_walked_4)
def c_law_walked_6 : Sms := (.cons (.ite (.cmp .ne (.cmp .is (.call f_fault (.cons (.var 0) (.cons (.var 2) (.cons (.var 3) .nil)))) .non) (.cmp .is (.call f_fault (.cons (.var 1) (.cons (.var 2) (.cons (.var 5) .nil)))) .non)) (.cons (.ret (.bl false)) .nil) .nil) c_law_walked_5)
def d_law_walked : Df := ⟨5, 9, (.cons (.asg (.name 5) (.comp true e_law_walked_2 (.name 7) (.seq (.var 3)) .nop [7])) c_law_walked_6)⟩
-- ['_law_tree_here', '_law_other', '_law_room', '_law_layout_here', '_law_weights', '_law_turned', '_law_key', '_law_page', '_law_one']
def e_law_marked_1 : Ex := (.tup (.cons (.neg (.var 4)) (.cons (.var 5) (.cons (.var 6) .nil))))
def c_law_marked_1 : Sms := (.cons (.ret (.cmp .eq (.call f_by_marks (.cons (.var 1) (.cons (.var 2) .nil))) (.call f_law_over (.cons (.call f_by_marks (.cons (.var 0) (.cons (.var 2) .nil))) .nil)))) .nil)
def c_law_marked_2 : Sms := (.cons (.ite (.cmp .ne (.call f_marks (.cons (.var 1) (.cons (.var 2) .nil))) (.op1 .rev true (.var 3))) (.cons (.ret (.bl false)) .nil) .nil) c_law_marked_1)
def d_law_marked : Df := ⟨3, 7, (.cons (.asg (.name 3) (.comp true e_law_marked_1 (.names [4, 5, 6]) (.seq (.call f_marks (.cons (.var 0) (.cons (.var 2) .nil)))) .nop [4, 5, 6])) c_law_marked_2)⟩
-- ['_law_tree_here', '_law_other', '_law_room', '_law_due', '_law_key', '_law_level', '_law_size']
def d_height : Df := ⟨1, 1, (.cons (.ite (.cmp .is (.var 0) .non) (.cons (.ret (.int 0)) .nil) .nil) (.cons (.ret (.bin .add true (.int 1) (.blt .max true (.cons (.call f_height (.cons (.idx (.var 0) (.int 0)) .nil)) (.cons (.call f_height (.cons (.idx (.var 0) (.int 2)) .nil)) .nil))))) .nil))⟩
-- ['tree']
def d_mirrored : Df := ⟨1, 4, (.cons (.ite (.cmp .is (.var 0) .non) (.cons (.ret .non) .nil) .nil) (.cons (.asg (.names [1, 2, 3]) (.var 0)) (.cons (.ret (.tup (.cons (.call f_mirrored (.cons (.var 3) .nil)) (.cons (.bin .sub true (.int 0) (.var 2)) (.cons (.call f_mirrored (.cons (.var 1) .nil)) .nil))))) .nil)))⟩
-- ['tree', 'left', 'key', 'right']
def e_law_1 : Ex := (.neg (.var 7))
def e_law_2 : Ex := (.call f_law_draw (.cons (.var 1) (.cons (.var 8) .nil)))
def c_law_1 : Sms := (.cons (.ret (.call f_law_walked (.cons (.var 3) (.cons (.var 5) (.cons (.var 4) (.cons (.var 11) (.cons (.var 9) .nil))))))) .nil)
def c_law_2 : Sms := (.cons (.asg (.name 11) (.call f_law_layout (.cons (.var 1) (.cons (.var 6) (.cons (.bin .add true (.int 1) (.call f_law_draw (.cons (.var 1) (.cons (.int 6) .nil)))) .nil))))) c_law_1)
def c_law_3 : Sms := (.cons (.ite (.cmp .ne (.idx (.call f_least_room (.cons (.var 5) (.cons (.var 10) .nil))) (.int 0)) (.idx (.call f_least_room (.cons (.var 3) (.cons (.var 10) .nil))) (.int 0))) (.cons (.ret (.bl false)) .nil) .nil) c_law_2)
def c_law_4 : Sms := (.cons (.asg (.name 10) (.bin .add true (.int 1) (.call f_law_draw (.cons (.var 1) (.cons (.int 4) .nil))))) c_law_3)
def c_law_5 : Sms := (.cons (.ite (.bop true (.cons (.cmp .isnot (.var 3) .non) (.cons (.cmp .ne (.call f_number_of (.cons (.call f_from_below (.cons (.var 5) (.cons (.var 4) .nil))) .nil)) (.call f_number_of (.cons (.call f_from_below (.cons (.var 3) (.cons (.var 4) .nil))) .nil))) .nil))) (.cons (.ret (.bl false)) .nil) .nil) c_law_4)
def c_law_6 : Sms := (.cons (.ite (.cmp .ne (.idx (.call f_cheapest (.cons (.var 5) (.cons (.var 4) (.cons (.op1 .rev true (.var 9)) .nil)))) (.int 0)) (.idx (.call f_cheapest (.cons (.var 3) (.cons (.var 4) (.cons (.var 9) .nil)))) (.int 0))) (.cons (.ret (.bl false)) .nil) .nil) c_law_5)
def c_law_7 : Sms := (.cons (.ite (.not (.call f_law_marked (.cons (.var 3) (.cons (.var 5) (.cons (.var 4) .nil))))) (.cons (.ret (.bl false)) .nil) .nil) c_law_6)
def c_law_8 : Sms := (.cons (.asg (.name 9) (.comp true e_law_2 (.name 7) (.seq (.var 6)) .nop [7])) c_law_7)
def c_law_9 : Sms := (.cons (.asg (.name 8) (.idx (.lst true (.cons (.int 3) (.cons (.bin .pow true (.int 10) (.int 29)) .nil))) (.call f_law_draw (.cons (.var 1) (.cons (.int 2) .nil))))) c_law_8)
def c_law_10 : Sms := (.cons (.ite (.bop false (.cons (.cmp .ne (.call f_law_in_order (.cons (.var 5) .nil)) (.comp true e_law_1 (.name 7) (.seq (.op1 .rev true (.var 6))) .nop [7])) (.cons (.cmp .ne (.call f_mirrored (.cons (.var 5) .nil)) (.var 3)) (.cons (.cmp .ne (.call f_height (.cons (.var 5) .nil)) (.call f_height (.cons (.var 3) .nil))) .nil)))) (.cons (.ret (.bl false)) .nil) .nil) c_law_9)
def c_law_11 : Sms := (.cons (.asg (.name 6) (.call f_law_in_order (.cons (.var 3) .nil))) c_law_10)
def c_law_12 : Sms := (.cons (.asg (.name 5) (.call f_mirrored (.cons (.var 3) .nil))) c_law_11)
def c_law_13 : Sms := (.cons (.asg (.name 4) (.bin .add true (.int 1) (.call f_law_draw (.cons (.var 1) (.cons (.int 6) .nil))))) c_law_12)
def c_law_14 : Sms := (.cons (.asg (.name 3) (.call f_law_tree (.cons (.var 1) (.cons (.call f_law_keys (.cons (.var 1) (.cons (.var 2) .nil))) (.cons (.call f_law_draw (.cons (.var 1) (.cons (.int 8) .nil))) .nil))))) c_law_13)
def c_law_15 : Sms := (.cons (.ite (.cmp .eq (.call f_law_draw (.cons (.var 1) (.cons (.int 8) .nil))) (.int 5)) (.cons (.asg (.name 2) (.call f_law_draw (.cons (.var 1) (.cons (.int 31) .nil)))) .nil) .nil) c_law_14)
def c_law_16 : Sms := (.cons (.asg (.name 2) (.call f_law_draw (.cons (.var 1) (.cons (.int 15) .nil)))) c_law_15)
def d_law : Df := ⟨1, 12, (.cons (.asg (.name 1) (.call f_law_pen_L (.cons (.var 0) (.cons (.int 0) .nil)))) c_law_16)⟩
-- ['_law_script', '_law_pen_here', '_law_many', '_law_tree_here', '_law_room', '_law_other', '_law_keys_here', '_law_key', '_law_far', '_law_weights', '_law_number', '_law_layout_here']
section
variable {F : Fs}
theorem mirrored_ok (hT : F f_mirrored = some d_mirrored) {h : Hq} {E : QE} : ∀ (t : Tr) (n : Nat) {Q : QV}, t.ht < n → Q t.mir.tv h → CN F n f_mirrored [t.tv] h Q E
  | .nil, n, Q, hn, q => by
    obtain ⟨n, rfl⟩ : ∃ m, n = m + 1 := ⟨n - 1, by omega⟩
    refine CN_go hT rfl ?_
    unfold d_mirrored
    simp only [Tr.tv]
    walk_at "e"
    walk_at "w"
    exact q
  | .nd l k r, n, Q, hn, q => by
    obtain ⟨n, rfl⟩ : ∃ m, n = m + 1 := ⟨n - 1, by omega⟩
    simp only [Tr.ht] at hn
    refine CN_go hT rfl ?_
    unfold d_mirrored
    simp only [Tr.tv]
    walk_at "e"
    walk_at "w"
    refine mirrored_ok hT r n (by omega) ?_
    refine mirrored_ok hT l n (by omega) ?_
    walk_at "w"
    rw [Int.zero_sub]
    exact q
theorem height_ok (hF : F f_height = some d_height) {h : Hq} {E : QE} : ∀ (t : Tr) (n : Nat) {Q : QV}, t.ht < n → Q (.int (t.ht : Nat)) h → CN F n f_height [t.tv] h Q E
  | .nil, n, Q, hn, q => by
    obtain ⟨n, rfl⟩ : ∃ m, n = m + 1 := ⟨n - 1, by omega⟩
    refine CN_go hF rfl ?_
    unfold d_height
    simp only [Tr.tv]
    walk_at "e"
    walk_at "w"
    exact q
  | .nd l k r, n, Q, hn, q => by
    obtain ⟨n, rfl⟩ : ∃ m, n = m + 1 := ⟨n - 1, by omega⟩
    simp only [Tr.ht] at hn
    refine CN_go hF rfl ?_
    unfold d_height
    simp only [Tr.tv]
    walk_at "e"
    walk_at "w"
    refine height_ok hF l n (by omega) ?_
    refine height_ok hF r n (by omega) ?_
    walk_at "w"
    have e : (1 : Int) + (if ((l.ht : Nat) : Int) < ((r.ht : Nat) : Int) then ((r.ht : Nat) : Int) else ((l.ht : Nat) : Int)) = (((Tr.nd l k r).ht : Nat) : Int) := by
      simp only [Tr.ht]
      split <;> omega
    rw [e]
    exact q
theorem over_ok (hO : F f_law_over = some d_law_over) {P : List (List Int)} {n : Nat} {h : Hq} {Q : QV} {E : QE} (hp : P.length ≤ 1000) (hl : ∀ c ∈ P, c.length ≤ 1000)
    (q : Q (.fl ((sortLL (P.map fun c => sortI (neg1 c))).map Enc.val)) h) : CN F (n + 1) f_law_over [.fl (P.map Enc.val)] h Q E := by
  refine CN_go hO rfl ?_
  unfold d_law_over
  walk_at "e"
  walk_at "w"
  refine comp_map' (Enc.val : List Int → Val) P (fun c => Enc.val (sortI (neg1 c))) (by omega) (fun pc acc hpc => ⟨trivial, fun c hc => ⟨_, rfl, fun K q' => ?_⟩⟩) ?_
  · have := hl c hc
    simp only [wipe3, List.set]
    unfold e_law_over_2
    rw [evL]
    walk_at "w"
    refine comp_map' Val.int c (fun k => Val.int (-k)) (by omega) (fun pc acc hpc => ⟨trivial, fun k hk => ⟨_, rfl, fun K q' => ?_⟩⟩) ?_
    · simp only [wipe3, List.set]
      unfold e_law_over_1
      walk_at "w"
      exact q'
    · rw [alc_fz, show c.map (fun k => Val.int (-k)) = (neg1 c).map Val.int by unfold neg1; rw [List.map_map]; rfl]
      walk_at "w"
      exact q'
  · rw [alc_fz, show P.map (fun c => (Enc.val (sortI (neg1 c)) : Val)) = (P.map fun c => sortI (neg1 c)).map Enc.val by rw [List.map_map]; rfl, w_sortLL, alc_fz]
    exact q
theorem rows_ln (R : Int) : ∀ t : Tr, (Tr.rows R t).length = t.size
  | .nil => rfl
  | .nd l k r => by rw [Tr.rows, List.length_append, List.length_cons, rows_ln R l, rows_ln R r, Tr.size]; omega
theorem marked_ok (hMa : F f_law_marked = some d_law_marked) (hR : F f_marks = some d_marks) (hM : HasMk F) (hK : F f_keys_of = some d_keys_of) (hB : F f_by_marks = some d_by_marks) (hBM : HasBM F) (hO : F f_law_over = some d_law_over) {t : Tr} {R : Int} {n : Nat} {h : Hq} {Q : QV} {E : QE} (h1 : 1 ≤ R) (hn : t.ht + 6 < n) (nd : t.keys.Nodup) (nd2 : t.mir.keys.Nodup) (hz : t.size ≤ 100)
    (q : ∀ h', Grow h h' → Q (.bl true) h') : CN F (n + 1) f_law_marked [t.tv, t.mir.tv, .int R] h Q E := by
  have z := mir_size t
  have hh := ht_mir t
  refine CN_go hMa rfl ?_
  unfold d_law_marked
  walk_at "e"
  walk_at "w"
  refine marks_ok hM hK hR (by omega) nd (by omega) ?_
  walk_at "w"
  refine comp_map' (Enc.val : Int × Int × Int → Val) (Tr.rows R t) (fun y => Enc.val ((-y.1, y.2) : Int × Int × Int)) (by rw [rows_ln]; omega) (fun pc acc hpc => ⟨trivial, fun y hy => ⟨_, rfl, fun K q' => ?_⟩⟩) ?_
  · simp only [wipe3, List.set]
    unfold e_law_marked_1
    walk_at "w"
    exact q'
  rw [alc_fz, show (Tr.rows R t).map (fun y => (Enc.val ((-y.1, y.2) : Int × Int × Int) : Val)) = ((Tr.rows R t).map fun y => ((-y.1, y.2) : Int × Int × Int)).map Enc.val by rw [List.map_map]; rfl]
  unfold c_law_marked_2
  walk_at "w"
  refine marks_ok hM hK hR (by omega) nd2 (by omega) ?_
  walk_at "w"
  rw [← List.map_reverse, ← rows_mir]
  walk_at "w"
  unfold c_law_marked_1
  walk_at "w"
  refine by_marks_ok (n := n) hB hBM hM (by omega) nd2 (by omega) fun h2 g2 => ?_
  walk_at "w"
  refine by_marks_ok (n := n) hB hBM hM (by omega) nd (by omega) fun h3 g3 => ?_
  walk_at "w"
  obtain ⟨n, rfl⟩ : ∃ m, n = m + 1 := ⟨n - 1, by omega⟩
  have pl : (layP R t).length ≤ (layP R t).flatten.length := flat_len _ fun c hc => (layP_size h1 hc).1
  have fl := (layP_flat R t).length_eq
  rw [Tr.keys_len] at fl
  refine over_ok hO (P := layP R t) (by omega) (fun c hc => ?_) ?_
  · have := (List.sublist_flatten_of_mem hc).length_le
    omega
  · rw [show sortLL ((allP R t.mir).map sortI) = layP R t.mir from rfl, ← layP_mir]
    walk_at "w"
    exact q h3 (g2.trans g3)
theorem walked_ok (hWa : F f_law_walked = some d_law_walked) (hFa : F f_fault = some d_fault) (hOd : F f_odd_key = some d_odd_key) (hKo : F f_keys_of = some d_keys_of) (hN : HasN F) (hI : F f_law_in_order = some d_law_in_order) (hP : F f_pages_met = some d_pages_met) (hW : F f_worst = some d_worst) (hC : F f_cost = some d_cost)
    {t : Tr} {R : Int} {P : List (List Int)} {ws : List Int} {n : Nat} {h : Hq} {Q : QV} {E : QE} (hz : t.size ≤ 60) (hup : t.keys.Pairwise (· < ·)) (hup2 : t.mir.keys.Pairwise (· < ·)) (hp : P.length ≤ 200) (hf : P.flatten.Perm t.keys) (hl : ws.length = t.size)
    (q : Q (.bl true) h) : CN F (n + 80) f_law_walked [t.tv, t.mir.tv, .int R, .fl (P.map Enc.val), .fl (ws.map .int)] h Q E := by
  have z := mir_size t
  have hh := ht_mir t
  have th := t.ht_le
  have nd : t.keys.Nodup := hup.imp fun h => Int.ne_of_lt h
  have nd2 : t.mir.keys.Nodup := hup2.imp fun h => Int.ne_of_lt h
  have fl := hf.length_eq
  rw [Tr.keys_len] at fl
  have cl : ∀ c ∈ P, c.length ≤ 100 := fun c hc => by
    have := (List.sublist_flatten_of_mem hc).length_le
    omega
  have cl2 : ∀ c ∈ P.map neg1, c.length ≤ 100 := fun c hc => by
    obtain ⟨d, hd, rfl⟩ := List.mem_map.mp hc
    unfold neg1; rw [List.length_map]; exact cl d hd
  have hf2 : (P.map neg1).flatten.Perm t.mir.keys := by
    rw [neg_flat, mir_keys]
    unfold neg1
    exact (hf.map _).trans (List.reverse_perm _).symm
  have hk : ∀ k ∈ t.keys, k ∈ P.flatten := fun k hk => hf.mem_iff.mpr hk
  have hk2 : ∀ k ∈ t.mir.keys, k ∈ (P.map neg1).flatten := fun k hk => hf2.mem_iff.mpr hk
  have hp2 : (P.map neg1).length ≤ 200 := by rw [List.length_map]; exact hp
  refine CN_go hWa rfl ?_
  unfold d_law_walked
  walk_at "e"
  walk_at "w"
  refine comp_map' (Enc.val : List Int → Val) P (fun c => Enc.val (neg1 c)) (by omega) (fun pc acc hpc => ⟨trivial, fun c hc => ⟨_, rfl, fun K q' => ?_⟩⟩) ?_
  · have := cl c hc
    simp only [wipe3, List.set]
    unfold e_law_walked_2
    rw [evL]
    walk_at "w"
    refine comp_map' Val.int c (fun k => Val.int (-k)) (by omega) (fun pc acc hpc => ⟨trivial, fun k hk => ⟨_, rfl, fun K q' => ?_⟩⟩) ?_
    · simp only [wipe3, List.set]
      unfold e_law_walked_1
      walk_at "w"
      exact q'
    · rw [alc_fz, show c.map (fun k => Val.int (-k)) = (neg1 c).map Val.int by unfold neg1; rw [List.map_map]; rfl]
      exact q'
  rw [alc_fz, show P.map (fun c => (Enc.val (neg1 c) : Val)) = (P.map neg1).map Enc.val by rw [List.map_map]; rfl]
  have F1 : ∀ {Q' : QV} {E' : QE}, Q' (roomAt R .non 0 P) h → CN F (n + 79) f_fault [t.tv, .int R, .fl (P.map Enc.val)] h Q' E' := fun q' =>
    fault_okV (n := n + 13) hFa hOd hKo hN.2.1 (layV_fl h P) hz (fun c hc => Nat.le_trans (cl c hc) (by decide)) (by omega) (by rw [fault_room hf nd]; exact q')
  have F2 : ∀ {Q' : QV} {E' : QE}, Q' (roomAt R .non 0 P) h → CN F (n + 79) f_fault [t.mir.tv, .int R, .fl ((P.map neg1).map Enc.val)] h Q' E' := fun q' =>
    fault_okV (n := n + 13) hFa hOd hKo hN.2.1 (layV_fl h _) (by omega) (fun c hc => Nat.le_trans (cl2 c hc) (by decide)) (by omega) (by rw [fault_room hf2 nd2, roomAt_neg]; exact q')
  unfold c_law_walked_6
  walk_at "w"
  refine F1 ?_
  walk_at "w"
  refine F2 ?_
  walk_at "w"
  have M1 : ∀ {k : Int} {g : Hq} {Q' : QV} {E' : QE}, Q' (.fl ((dd [] ((t.way k).map (pg P))).map .int)) g → CN F (n + 79) f_pages_met [t.tv, .fl (P.map Enc.val), .int k] g Q' E' := fun q' =>
    met_ok (n := n + 75) hP hN (by omega) (fun c hc => Nat.le_trans (cl c hc) (by decide)) (by omega) hk q'
  have M2 : ∀ {k : Int} {g : Hq} {Q' : QV} {E' : QE}, Q' (.fl ((dd [] ((t.way k).map (pg P))).map .int)) g → CN F (n + 79) f_pages_met [t.mir.tv, .fl ((P.map neg1).map Enc.val), .int (-k)] g Q' E' := fun q' =>
    met_ok (n := n + 75) hP hN (by omega) (fun c hc => Nat.le_trans (cl2 c hc) (by decide)) (by omega) hk2 (by rw [met_neg]; exact q')
  unfold c_law_walked_5
  walk_at "w"
  refine F1 ?_
  walk_at "w"
  split
  · exact q
  unfold c_law_walked_4
  walk_at "w"
  refine in_order_ok hI t _ (by omega) (by omega) ?_
  walk_at "w"
  refine for_map (moS F (n + 79) b_law_walked_1) (fun pre ρ h' => h' = h ∧ ∃ u6, ρ = [some t.tv, some t.mir.tv, some (.int R), some (.fl (P.map Enc.val)), some (.fl (ws.map .int)), some (.fl ((P.map neg1).map Enc.val)), u6, none, none]) Val.int t.keys ?_ ?_ ?_
  · intro pre k post ρ h' ey ⟨eh, u6, eρ⟩
    subst eh eρ
    refine ⟨trivial, _, rfl, ?_⟩
    unfold b_law_walked_1
    simp only [List.set]
    walk_at "w"
    refine way_ok (n := n + 77) hN.2.2.1 hN.2.2.2 (by omega) ?_
    rw [way_mir]
    walk_at "w"
    refine way_ok (n := n + 77) hN.2.2.1 hN.2.2.2 (by omega) ?_
    have wl : (t.way k).length ≤ 1000 := by
      have := path_len t k
      unfold Tr.way
      rw [List.length_map]
      omega
    walk_at "w"
    refine comp_map' Val.int (t.way k) (fun k => Val.int (-k)) (by omega) (fun pc acc hpc => ⟨trivial, fun k hk => ⟨_, rfl, fun K q' => ?_⟩⟩) ?_
    · simp only [wipe3, List.set]
      unfold e_law_walked_3
      walk_at "w"
      exact q'
    rw [alc_fz, show (t.way k).map (fun k => Val.int (-k)) = (neg1 (t.way k)).map Val.int by unfold neg1; rw [List.map_map]; rfl]
    walk_at "w"
    unfold c_law_walked_1
    walk_at "w"
    refine M2 ?_
    walk_at "w"
    refine M1 ?_
    walk_at "w"
    exact ⟨_, rfl⟩
  · intro ρ h' ⟨eh, u6, eρ⟩
    subst eh eρ
    refine ⟨trivial, ?_⟩
    unfold c_law_walked_3
    walk_at "w"
    refine worst_okV (n := n + 14) hW hKo hP hN (layV_fl _ _) (by omega) (fun c hc => Nat.le_trans (cl2 c hc) (by decide)) (by omega) hk2 ?_
    walk_at "w"
    refine worst_okV (n := n + 14) hW hKo hP hN (layV_fl _ _) (by omega) (fun c hc => Nat.le_trans (cl c hc) (by decide)) (by omega) hk ?_
    rw [metN_mir, maxL_perm ((List.reverse_perm _).cons 0)]
    walk_at "w"
    unfold c_law_walked_2
    walk_at "w"
    rw [← List.map_reverse]
    refine cost_okV (n := n + 14) hC hKo hP hN (layV_fl _ _) (by omega) (fun c hc => Nat.le_trans (cl2 c hc) (by decide)) (by omega) hk2 ?_
    walk_at "w"
    refine cost_okV (n := n + 14) hC hKo hP hN (layV_fl _ _) (by omega) (fun c hc => Nat.le_trans (cl c hc) (by decide)) (by omega) hk ?_
    have ez : ws.reverse.zip (t.keys.map (metN t P)).reverse = (ws.zip (t.keys.map (metN t P))).reverse := by
      rw [List.zip_eq_zipWith, List.zip_eq_zipWith, List.reverse_zipWith (by rw [List.length_map, Tr.keys_len]; exact hl)]
    rw [metN_mir, ez, List.map_reverse, List.sum_reverse]
    walk_at "w"
    exact q
  · exact ⟨rfl, _, rfl⟩
theorem dt_tv {h : Hq} (t : Tr) : dt h t.tv = some t.td := by
  cases t with
  | nil => rfl
  | nd l k r => exact Tr.pd_tv (.nd l k r)
theorem sh_td {u : Tr} (hu : u.ht ≤ 62) : SeqAt.shaped u.td = true := by
  have := Tr.td_depth u
  simp only [SeqAt.shaped, Tr.td_lay, this, Bool.true_and, decide_eq_true_eq]
  omega
theorem w_neTr {s t : Tr} {h : Hq} {Q : QV} (hs : s.ht ≤ 62) (ht : t.ht ≤ 62) : prW (cmpR .ne s.tv t.tv h) Q = Q (.bl (!decide (s = t))) h := by
  have c : cmpR .ne s.tv t.tv h = eqR true s.tv t.tv h := by cases s <;> cases t <;> rfl
  rw [c]
  simp only [eqR, dt_tv, prW, optW_some, Out.w, sh_td hs, sh_td ht, Tr.td_eqv, and_self, true_and, if_true]
theorem law_gen (hP : F f_law_pen_L = some d_law_pen_L) (hG : HasG2 F) (hMi : F f_mirrored = some d_mirrored) (hHt : F f_height = some d_height) (hI : F f_law_in_order = some d_law_in_order)
    (hMd : F f_law_marked = some d_law_marked) (hMa : F f_marks = some d_marks) (hM : HasMk F) (hK : F f_keys_of = some d_keys_of) (hB : F f_by_marks = some d_by_marks) (hBM : HasBM F) (hOv : F f_law_over = some d_law_over)
    (hCh : F f_cheapest = some d_cheapest) (hWb : F f_weight_by = some d_weight_by) (hLb : F f_least_by = some d_least_by) (hPc : F f_put_costs = some d_put_costs) (hPp : F f_put_pages = some d_put_pages) (hCm : F f_costs_made = some d_costs_made) (hSo : F f_side_of = some d_side_of) (hSw : F f_side_with = some d_side_with) (hBb : F f_burden_by = some d_burden_by)
    (hFb : F f_from_below = some d_from_below) (hNa : F f_number_all = some d_number_all) (hPa : F f_paper_at = some d_paper_at) (hTa : F f_tree_at = some d_tree_at) (hLo : F f_lowest = some d_lowest) (hNo : F f_number_of = some d_number_of)
    (hLr : F f_least_room = some d_least_room) (hTl : F f_top_level = some d_top_level) (hLy : F f_law_layout = some d_law_layout)
    (hWa : F f_law_walked = some d_law_walked) (hFa : F f_fault = some d_fault) (hOd : F f_odd_key = some d_odd_key) (hN : HasN F) (hPm : F f_pages_met = some d_pages_met) (hW : F f_worst = some d_worst) (hC : F f_cost = some d_cost)
    (hF : F f_law = some d_law) (n : Nat) (ns : List Int) (h : Hq) (hn : ns.length ≤ 63) :
    CN F (n + 180) f_law [.sc ns] h (fun v _ => v = .bl true) (fun _ _ => False) := by
  refine CN_go hF rfl ?_
  unfold d_law
  walk_at "e"
  walk_at "w"
  refine pen_ok hP hn (by decide) (by decide) fun a h1 ha pn e1 => ?_
  unfold c_law_16
  walk_at "w"
  refine draw_ok hG.1 pn (by decide) (by decide) fun m0 h2 m00 m01 pn2 e2 => ?_
  unfold c_law_15
  walk_at "w"
  refine draw_ok hG.1 pn2 (by decide) (by decide) fun r3 h3 r30 r31 pn3 e3 => ?_
  have J : ∀ (m : Int) (h3 : Hq), 0 ≤ m → m ≤ 40 → Pen2 h3 a → wpSs (CN F (n + 179)) c_law_14 { nx := fun x h' => False, rt := fun v x => v = Val.bl true, ex := fun x x_1 h' => False }
      [some (.sc ns), some (.ref a), some (.int m), none, none, none, none, none, none, none, none, none] h3 := by
    intro m h3 m0 m1 pn3
    unfold c_law_14
    walk_at "w"
    refine keys_ok hG.2.1 hG.1 pn3 (by omega) (by omega) fun ks h4 kl ku pn4 e4 => ?_
    walk_at "w"
    refine draw_ok hG.1 pn4 (by decide) (by decide) fun way h5 w0 w1 pn5 e5 => ?_
    walk_at "w"
    refine tree_ok hG.2.2 hG.1 w0 _ ks pn5 (by omega) (by omega) fun t h6 tk pn6 e6 => ?_
    have ts : t.size = ks.length := by rw [← tk, Tr.keys_len]
    have hup : t.keys.Pairwise (· < ·) := by rw [tk]; exact ku
    have nd : t.keys.Nodup := hup.imp fun h => Int.ne_of_lt h
    have th := t.ht_le
    have hup2 := mir_up hup
    have nd2 : t.mir.keys.Nodup := hup2.imp fun h => Int.ne_of_lt h
    have mz := mir_size t
    have mh := ht_mir t
    unfold c_law_13
    walk_at "w"
    refine draw_ok hG.1 pn6 (by decide) (by decide) fun rr h7 rr0 rr1 pn7 e7 => ?_
    obtain ⟨R, eR⟩ : ∃ R : Nat, ((R : Nat) : Int) = 1 + rr := ⟨(1 + rr).toNat, by omega⟩
    unfold c_law_12
    walk_at "w"
    rw [← eR]
    refine mirrored_ok hMi t _ (by omega) ?_
    unfold c_law_11
    walk_at "w"
    refine in_order_ok hI t _ (by omega) (by omega) ?_
    unfold c_law_10
    walk_at "w"
    refine in_order_ok hI t.mir _ (by omega) (by omega) ?_
    walk_at "w"
    rw [← List.map_reverse]
    refine comp_map' Val.int t.keys.reverse (fun k => Val.int (-k)) (by rw [List.length_reverse, Tr.keys_len]; omega) (fun pc acc hpc => ⟨trivial, fun k hk => ⟨_, rfl, fun K q' => ?_⟩⟩) ?_
    · simp only [wipe3, List.set]
      unfold e_law_1
      walk_at "w"
      exact q'
    rw [alc_fz, show t.keys.reverse.map (fun k => Val.int (-k)) = t.mir.keys.map Val.int by rw [mir_keys, List.map_reverse, List.map_reverse, List.map_map]; rfl]
    walk_at "w"
    refine mirrored_ok hMi t.mir _ (by omega) ?_
    rw [mir_mir, w_neTr (by omega) (by omega)]
    walk_at "w"
    refine height_ok hHt t.mir _ (by omega) ?_
    refine height_ok hHt t _ (by omega) ?_
    rw [mh]
    walk_at "w"
    unfold c_law_9
    walk_at "w"
    refine draw_ok hG.1 pn7 (by decide) (by decide) fun r8 h8 r80 r81 pn8 e8 => ?_
    walk_at "w"
    refine pick r80 (by simpa using r81) fun v hv => ?_
    have : ∃ far : Int, v = .int far ∧ 0 < far ∧ far ≤ 10 ^ 29 := by
      simp only [List.mem_cons, List.not_mem_nil, or_false] at hv
      rcases hv with rfl | rfl <;> exact ⟨_, rfl, by omega, by omega⟩
    obtain ⟨far, rfl, f0, f1⟩ := this
    unfold c_law_8
    walk_at "w"
    refine comp_eff Val.int t.keys (by rw [Tr.keys_len]; omega) (fun p pre acc h' => ∃ ws : List Int, acc = ws.map Val.int ∧ ws.length = pre.length ∧ (∀ w ∈ ws, 0 ≤ w) ∧ Pen2 h' a ∧ p ≠ a) ?_ ?_ ?_
    · intro p2 pre y post acc g3 ey hp3 ⟨ws, ea, tl2, w0, pn3, np2⟩
      refine ⟨trivial, _, rfl, fun K k => ?_⟩
      simp only [wipe3, List.set]
      unfold e_law_2
      walk_at "w"
      refine draw_ok hG.1 pn3 f0 (by omega) fun d4 g4 d40 d41 pn4 e4 => ?_
      refine k _ _ (by rw [e4 p2 np2]; exact hp3) ⟨ws ++ [d4], by rw [List.map_append, ea]; rfl, by rw [List.length_append, List.length_append, tl2]; rfl, fun w hw => ?_, pn4.up np2, np2⟩
      rcases List.mem_append.mp hw with hw | hw
      · exact w0 w hw
      · rw [List.mem_singleton.mp hw]; exact d40
    · intro p2 hp2'
      exact ⟨[], rfl, rfl, by simp, pn8.up (pn8.ne hp2'), pn8.ne hp2'⟩
    intro p2 acc g3 hp2' hp3 ⟨ws, ea, wl, ws0, pn9, np2⟩
    refine ⟨trivial, ?_⟩
    subst ea
    rw [Tr.keys_len] at wl
    have pn10 := pn9.er np2
    generalize er g3 p2 = h10 at pn10
    have hR1 : (1 : Int) ≤ ((R : Nat) : Int) := by omega
    unfold c_law_7
    walk_at "w"
    refine marked_ok (n := n + 178) hMd hMa hM hK hB hBM hOv hR1 (by omega) nd nd2 (by omega) fun h11 g11 => ?_
    have PG : ∀ {g g' : Hq}, Grow g g' → Pen2 g a → Pen2 g' a := fun k ⟨x, z, e⟩ => ⟨x, z, k _ _ e⟩
    have pn11 := PG g11 pn10
    walk_at "w"
    have ml : t.mir.keys.length = ws.reverse.length := by rw [List.length_reverse, wl, Tr.keys_len, mz]
    have em : sd R (wf t.mir.keys ws.reverse) t.mir 0 = sd R (wf t.keys ws) t 0 := by
      refine (sd_mir (f := wf t.keys ws) (by omega) t (wf_all (P := fun k w => wf t.mir.keys ws.reverse (-k) = w) nd (by rw [Tr.keys_len, wl]) fun i k w hk' hw' => ?_)).2 0 (by omega)
      have il : i < ws.length := (List.getElem?_eq_some_iff.mp hw').1
      have kl' : t.keys.length = ws.length := by rw [Tr.keys_len, wl]
      refine wf_at (i := ws.length - 1 - i) nd2 ?_ ?_
      · rw [mir_keys, List.getElem?_reverse (by rw [List.length_map]; omega), List.length_map, List.getElem?_map, show t.keys.length - 1 - (ws.length - 1 - i) = i by omega, hk']
        rfl
      · rw [List.getElem?_reverse (by omega), show ws.length - 1 - (ws.length - 1 - i) = i by omega, hw']
    unfold c_law_6
    walk_at "w"
    rw [← List.map_reverse]
    refine cheapest_ok (n := n + 178) hCh hK hWb hLb hPc hPp hCm hSo hSw hBb (by omega) (by omega) (by omega) (by omega) hup2 ml fun h12 x12 g12 _ _ _ => ?_
    walk_at "w"
    refine cheapest_ok (n := n + 178) hCh hK hWb hLb hPc hPp hCm hSo hSw hBb (by omega) (by omega) (by omega) (by omega) hup (by rw [Tr.keys_len, wl]) fun h13 x13 g13 _ _ _ => ?_
    rw [leastF_sd (by omega), leastF_sd (by omega), em]
    walk_at "w"
    have pn13 := PG g13 (PG g12 pn11)
    have J5 : ∀ g : Hq, Pen2 g a → wpSs (CN F (n + 179)) c_law_4 { nx := fun x h' => False, rt := fun v x => v = Val.bl true, ex := fun x x_1 h' => False }
      [some (Val.sc ns), some (Val.ref a), some (Val.int m), some t.tv, some (Val.int ((R : Nat) : Int)), some t.mir.tv, some (Val.fl (List.map Val.int t.keys)), none, some (Val.int far), some (Val.fl (List.map Val.int ws)), none, none] g := by
      intro g png
      unfold c_law_4
      walk_at "w"
      refine draw_ok hG.1 png (by decide) (by decide) fun nu0 h14 nu00 nu01 pn14 e14 => ?_
      unfold c_law_3
      walk_at "w"
      refine least_room_ok hLr hTl hMa hM hK hB hBM (by omega) (by omega) nd2 (by omega) fun h15 g15 => ?_
      walk_at "w"
      refine least_room_ok hLr hTl hMa hM hK hB hBM (by omega) (by omega) nd (by omega) fun h16 g16 => ?_
      rw [lrN_mir]
      walk_at "w"
      have pn16 := PG g16 (PG g15 pn14)
      unfold c_law_2
      walk_at "w"
      refine draw_ok hG.1 pn16 (by decide) (by decide) fun r17 h17 r170 r171 pn17 e17 => ?_
      obtain ⟨R2, eR2⟩ : ∃ R : Nat, ((R : Nat) : Int) = 1 + r17 := ⟨(1 + r17).toNat, by omega⟩
      walk_at "w"
      rw [← eR2]
      refine layout_ok (n := n + 177) hLy hG.1 (by omega) (by omega) (by rw [Tr.keys_len]; omega) pn17 fun P h18 pf pc pl pn18 => ?_
      unfold c_law_1
      walk_at "w"
      refine walked_ok (n := n + 99) hWa hFa hOd hK hN hI hPm hW hC (by omega) hup hup2 pl pf wl ?_
      rfl
    unfold c_law_5
    by_cases ht0 : t = .nil
    · subst ht0
      have := J5 h13 pn13
      simp only [Tr.tv, Tr.mir] at this ⊢
      walk_at "w"
      exact this
    · obtain ⟨l, k, r, eT⟩ := tv_ne ht0
      have etv : t.tv = .tup [l.tv, .int k, r.tv] := by rw [eT]; rfl
      have ht1 : t.mir ≠ .nil := fun z => ht0 (mir_nil.mp z)
      have nN : isN t.tv = false := by rw [etv]; rfl
      walk_at "w"
      rw [if_pos (by rw [nN])]
      refine from_below_ok (n := n + 178) hFb hNa hPa hTa hLo (by omega) (by omega) (by omega) ht1 (by omega) hup2 fun h14 g14 => ?_
      refine number_of_ok (n := n + 178) hNo (pap_num (by omega) hup2 t.mir.ht t.mir (subs_self ht1) (Nat.le_refl _)) ?_
      refine from_below_ok (n := n + 178) hFb hNa hPa hTa hLo (by omega) (by omega) (by omega) ht0 (by omega) hup fun h15 g15 => ?_
      refine number_of_ok (n := n + 178) hNo (pap_num (by omega) hup t.ht t (subs_self ht0) (Nat.le_refl _)) ?_
      rw [(bel_mir t).1]
      walk_at "w"
      exact J5 h15 (PG g15 (PG g14 pn13))
  walk_at "w"
  split
  · refine draw_ok hG.1 pn3 (by decide) (by decide) fun m9 h9 m90 m91 pn9 e9 => ?_
    walk_at "w"
    exact J m9 h9 m90 (by omega) pn9
  · exact J m0 h3 m00 (by omega) pn3
end
def top (i : Nat) : Stmt := PySem.Challenge.pw_leafpages_k55_whole_mirrored.main.body.getD i (.Pass ⟨0, 0, 0, 0⟩)
def D_mark_by : DD := ⟨f_mark_by, "mark_by", top 25, ["room", "kids", "level", "mark", "size"], ["room", "kids"], d_mark_by⟩
def D_side_with : DD := ⟨f_side_with, "side_with", top 39, ["heavy", "costs"], ["heavy", "costs"], d_side_with⟩
def D_kids_of : DD := ⟨f_kids_of, "kids_of", top 26, ["tree", "side"], ["tree"], d_kids_of⟩
def D_tied_kids : DD := ⟨f_tied_kids, "tied_kids", top 30, ["tree", "room", "known", "some", "kid", "mark"], ["tree", "room", "known"], d_tied_kids⟩
def D_mark_all : DD := ⟨f_mark_all, "mark_all", top 27, ["tree", "room", "found", "side", "kid"], ["tree", "room", "found"], d_mark_all⟩
def D_numbers_on_way : DD := ⟨f_numbers_on_way, "numbers_on_way", top 20, ["tree", "layout", "key", "numbers", "one"], ["tree", "layout", "key"], d_numbers_on_way⟩
def D_knots_on_way : DD := ⟨f_knots_on_way, "knots_on_way", top 5, ["tree", "key", "found", "left", "here", "right"], ["tree", "key"], d_knots_on_way⟩
def D_numbers_of : DD := ⟨f_numbers_of, "numbers_of", top 17, ["layout", "found", "number", "page", "key"], ["layout"], d_numbers_of⟩
def D_odd_key : DD := ⟨f_odd_key, "odd_key", top 18, ["tree", "layout", "keys", "seen", "number", "page", "key"], ["tree", "layout"], d_odd_key⟩
def D_tree_at : DD := ⟨f_tree_at, "tree_at", top 13, ["tree", "key"], ["tree", "key"], d_tree_at⟩
def D_lowest : DD := ⟨f_lowest, "lowest", top 11, ["tree", "number", "known", "found"], ["tree", "number", "known"], d_lowest⟩
def D_burden_by : DD := ⟨f_burden_by, "burden_by", top 38, ["tree", "by"], ["tree", "by"], d_burden_by⟩
def D_side_of : DD := ⟨f_side_of, "side_of", top 40, ["tree", "room", "by", "costs"], ["tree", "room", "by", "costs"], d_side_of⟩
def D_costs_made : DD := ⟨f_costs_made, "costs_made", top 41, ["left", "right", "made", "k", "i"], ["left", "right"], d_costs_made⟩
def D_lay : DD := ⟨f_lay, "lay", top 31, ["tree", "room", "known", "page", "pages", "tied", "kid"], ["tree", "room", "known", "page", "pages"], d_lay⟩
def D_keys_of : DD := ⟨f_keys_of, "keys_of", top 4, ["tree", "left", "key", "right"], ["tree"], d_keys_of⟩
def D_marks_known : DD := ⟨f_marks_known, "marks_known", top 28, ["tree", "room", "found"], ["tree", "room"], d_marks_known⟩
def D_cost : DD := ⟨f_cost, "cost", top 23, ["tree", "layout", "weights", "key", "weight"], ["tree", "layout", "weights"], d_cost⟩
def D_worst : DD := ⟨f_worst, "worst", top 22, ["tree", "layout", "key"], ["tree", "layout"], d_worst⟩
def D_pages_met : DD := ⟨f_pages_met, "pages_met", top 21, ["tree", "layout", "key", "found", "number"], ["tree", "layout", "key"], d_pages_met⟩
def D_way_to : DD := ⟨f_way_to, "way_to", top 6, ["tree", "key", "knot"], ["tree", "key"], d_way_to⟩
def D_fault : DD := ⟨f_fault, "fault", top 19, ["tree", "room", "layout", "odd", "number", "page", "seen", "key"], ["tree", "room", "layout"], d_fault⟩
def D_top_level : DD := ⟨f_top_level, "top_level", top 34, ["tree", "room"], ["tree", "room"], d_top_level⟩
def D_paper_at : DD := ⟨f_paper_at, "paper_at", top 14, ["tree", "room", "known", "number", "some", "key"], ["tree", "room", "known"], d_paper_at⟩
def D_number_all : DD := ⟨f_number_all, "number_all", top 12, ["tree", "room", "known", "number"], ["tree", "room", "known"], d_number_all⟩
def D_least_by : DD := ⟨f_least_by, "least_by", top 44, ["tree", "by", "costs"], ["tree", "by", "costs"], d_least_by⟩
def D_put_pages : DD := ⟨f_put_pages, "put_pages", top 43, ["tree", "room", "by", "costs", "pages", "waiting", "here", "many", "page", "left", "right", "sums", "i", "side", "some"], ["tree", "room", "by", "costs", "pages"], d_put_pages⟩
def D_put_costs : DD := ⟨f_put_costs, "put_costs", top 42, ["tree", "room", "by", "costs"], ["tree", "room", "by", "costs"], d_put_costs⟩
def D_weight_by : DD := ⟨f_weight_by, "weight_by", top 37, ["tree", "weights"], ["tree", "weights"], d_weight_by⟩
def D_law_over : DD := ⟨f_law_over, "_law_over", top 54, ["_law_pages", "_law_key", "_law_page"], ["_law_pages"], d_law_over⟩
def D_by_marks : DD := ⟨f_by_marks, "by_marks", top 32, ["tree", "room", "pages", "page"], ["tree", "room"], d_by_marks⟩
def D_marks : DD := ⟨f_marks, "marks", top 29, ["tree", "room", "known", "key"], ["tree", "room"], d_marks⟩
def D_law_walked : DD := ⟨f_law_walked, "_law_walked", top 56, ["_law_tree_here", "_law_other", "_law_room", "_law_layout_here", "_law_weights", "_law_turned", "_law_key", "_law_page", "_law_one"], ["_law_tree_here", "_law_other", "_law_room", "_law_layout_here", "_law_weights"], d_law_walked⟩
def D_law_layout : DD := ⟨f_law_layout, "_law_layout", top 53, ["_law_pen_here", "_law_keys_here", "_law_room", "_law_left", "_law_pages", "_law_turn"], ["_law_pen_here", "_law_keys_here", "_law_room"], d_law_layout⟩
def D_least_room : DD := ⟨f_least_room, "least_room", top 35, ["tree", "number", "room", "table"], ["tree", "number"], d_least_room⟩
def D_from_below : DD := ⟨f_from_below, "from_below", top 15, ["tree", "room", "known"], ["tree", "room"], d_from_below⟩
def D_number_of : DD := ⟨f_number_of, "number_of", top 10, ["paper", "found"], ["paper"], d_number_of⟩
def D_cheapest : DD := ⟨f_cheapest, "cheapest", top 45, ["tree", "room", "weights", "by", "costs", "pages"], ["tree", "room", "weights"], d_cheapest⟩
def D_law_marked : DD := ⟨f_law_marked, "_law_marked", top 55, ["_law_tree_here", "_law_other", "_law_room", "_law_due", "_law_key", "_law_level", "_law_size"], ["_law_tree_here", "_law_other", "_law_room"], d_law_marked⟩
def D_height : DD := ⟨f_height, "height", top 7, ["tree"], ["tree"], d_height⟩
def D_law_in_order : DD := ⟨f_law_in_order, "_law_in_order", top 52, ["_law_tree_here"], ["_law_tree_here"], d_law_in_order⟩
def D_mirrored : DD := ⟨f_mirrored, "mirrored", top 8, ["tree", "left", "key", "right"], ["tree"], d_mirrored⟩
def D_law_keys : DD := ⟨f_law_keys, "_law_keys", top 49, ["_law_pen_here", "_law_many", "_law_far", "_law_key", "_law_keys_here", "_law_k"], ["_law_pen_here", "_law_many"], d_law_keys⟩
def D_law_tree : DD := ⟨f_law_tree, "_law_tree", top 50, ["_law_pen_here", "_law_keys_here", "_law_way", "_law_at"], ["_law_pen_here", "_law_keys_here", "_law_way"], d_law_tree⟩
def D_law_draw : DD := ⟨f_law_draw, "_law_draw", top 48, ["_law_pen_here", "_law_many", "_law_found", "_law_mixed"], ["_law_pen_here", "_law_many"], d_law_draw⟩
def D_law_pen_L : DD := ⟨f_law_pen_L, "_law_pen", top 47, ["_law_script", "_law_k", "_law_cell"], ["_law_script", "_law_k"], d_law_pen_L⟩
def D_law : DD := ⟨f_law, "law", top 57, ["_law_script", "_law_pen_here", "_law_many", "_law_tree_here", "_law_room", "_law_other", "_law_keys_here", "_law_key", "_law_far", "_law_weights", "_law_number", "_law_layout_here"], ["_law_script"], d_law⟩
def defs : List DD := [D_mark_by, D_side_with, D_kids_of, D_tied_kids, D_mark_all, D_numbers_on_way, D_knots_on_way, D_numbers_of, D_odd_key, D_tree_at, D_lowest, D_burden_by, D_side_of, D_costs_made, D_lay, D_keys_of, D_marks_known, D_cost, D_worst, D_pages_met, D_way_to, D_fault, D_top_level, D_paper_at, D_number_all, D_least_by, D_put_pages, D_put_costs, D_weight_by, D_law_over, D_by_marks, D_marks, D_law_walked, D_law_layout, D_least_room, D_from_below, D_number_of, D_cheapest, D_law_marked, D_height, D_law_in_order, D_mirrored, D_law_keys, D_law_tree, D_law_draw, D_law_pen_L, D_law]
def cons3 : List (Str × Val) := []
theorem bind_D_mark_by : BindOk D_mark_by := fun _ _ _ _ _ _ us hl => match us, hl with | [_, _], _ => rfl
theorem bind_D_side_with : BindOk D_side_with := fun _ _ _ _ _ _ us hl => match us, hl with | [_, _], _ => rfl
theorem bind_D_kids_of : BindOk D_kids_of := fun _ _ _ _ _ _ us hl => match us, hl with | [_], _ => rfl
theorem bind_D_tied_kids : BindOk D_tied_kids := fun _ _ _ _ _ _ us hl => match us, hl with | [_, _, _], _ => rfl
theorem bind_D_mark_all : BindOk D_mark_all := fun _ _ _ _ _ _ us hl => match us, hl with | [_, _, _], _ => rfl
theorem bind_D_numbers_on_way : BindOk D_numbers_on_way := fun _ _ _ _ _ _ us hl => match us, hl with | [_, _, _], _ => rfl
theorem bind_D_knots_on_way : BindOk D_knots_on_way := fun _ _ _ _ _ _ us hl => match us, hl with | [_, _], _ => rfl
theorem bind_D_numbers_of : BindOk D_numbers_of := fun _ _ _ _ _ _ us hl => match us, hl with | [_], _ => rfl
theorem bind_D_odd_key : BindOk D_odd_key := fun _ _ _ _ _ _ us hl => match us, hl with | [_, _], _ => rfl
theorem bind_D_tree_at : BindOk D_tree_at := fun _ _ _ _ _ _ us hl => match us, hl with | [_, _], _ => rfl
theorem bind_D_lowest : BindOk D_lowest := fun _ _ _ _ _ _ us hl => match us, hl with | [_, _, _], _ => rfl
theorem bind_D_burden_by : BindOk D_burden_by := fun _ _ _ _ _ _ us hl => match us, hl with | [_, _], _ => rfl
theorem bind_D_side_of : BindOk D_side_of := fun _ _ _ _ _ _ us hl => match us, hl with | [_, _, _, _], _ => rfl
theorem bind_D_costs_made : BindOk D_costs_made := fun _ _ _ _ _ _ us hl => match us, hl with | [_, _], _ => rfl
theorem bind_D_lay : BindOk D_lay := fun _ _ _ _ _ _ us hl => match us, hl with | [_, _, _, _, _], _ => rfl
theorem bind_D_keys_of : BindOk D_keys_of := fun _ _ _ _ _ _ us hl => match us, hl with | [_], _ => rfl
theorem bind_D_marks_known : BindOk D_marks_known := fun _ _ _ _ _ _ us hl => match us, hl with | [_, _], _ => rfl
theorem bind_D_cost : BindOk D_cost := fun _ _ _ _ _ _ us hl => match us, hl with | [_, _, _], _ => rfl
theorem bind_D_worst : BindOk D_worst := fun _ _ _ _ _ _ us hl => match us, hl with | [_, _], _ => rfl
theorem bind_D_pages_met : BindOk D_pages_met := fun _ _ _ _ _ _ us hl => match us, hl with | [_, _, _], _ => rfl
theorem bind_D_way_to : BindOk D_way_to := fun _ _ _ _ _ _ us hl => match us, hl with | [_, _], _ => rfl
theorem bind_D_fault : BindOk D_fault := fun _ _ _ _ _ _ us hl => match us, hl with | [_, _, _], _ => rfl
theorem bind_D_top_level : BindOk D_top_level := fun _ _ _ _ _ _ us hl => match us, hl with | [_, _], _ => rfl
theorem bind_D_paper_at : BindOk D_paper_at := fun _ _ _ _ _ _ us hl => match us, hl with | [_, _, _], _ => rfl
theorem bind_D_number_all : BindOk D_number_all := fun _ _ _ _ _ _ us hl => match us, hl with | [_, _, _], _ => rfl
theorem bind_D_least_by : BindOk D_least_by := fun _ _ _ _ _ _ us hl => match us, hl with | [_, _, _], _ => rfl
theorem bind_D_put_pages : BindOk D_put_pages := fun _ _ _ _ _ _ us hl => match us, hl with | [_, _, _, _, _], _ => rfl
theorem bind_D_put_costs : BindOk D_put_costs := fun _ _ _ _ _ _ us hl => match us, hl with | [_, _, _, _], _ => rfl
theorem bind_D_weight_by : BindOk D_weight_by := fun _ _ _ _ _ _ us hl => match us, hl with | [_, _], _ => rfl
theorem bind_D_law_over : BindOk D_law_over := fun _ _ _ _ _ _ us hl => match us, hl with | [_], _ => rfl
theorem bind_D_by_marks : BindOk D_by_marks := fun _ _ _ _ _ _ us hl => match us, hl with | [_, _], _ => rfl
theorem bind_D_marks : BindOk D_marks := fun _ _ _ _ _ _ us hl => match us, hl with | [_, _], _ => rfl
theorem bind_D_law_walked : BindOk D_law_walked := fun _ _ _ _ _ _ us hl => match us, hl with | [_, _, _, _, _], _ => rfl
theorem bind_D_law_layout : BindOk D_law_layout := fun _ _ _ _ _ _ us hl => match us, hl with | [_, _, _], _ => rfl
theorem bind_D_least_room : BindOk D_least_room := fun _ _ _ _ _ _ us hl => match us, hl with | [_, _], _ => rfl
theorem bind_D_from_below : BindOk D_from_below := fun _ _ _ _ _ _ us hl => match us, hl with | [_, _], _ => rfl
theorem bind_D_number_of : BindOk D_number_of := fun _ _ _ _ _ _ us hl => match us, hl with | [_], _ => rfl
theorem bind_D_cheapest : BindOk D_cheapest := fun _ _ _ _ _ _ us hl => match us, hl with | [_, _, _], _ => rfl
theorem bind_D_law_marked : BindOk D_law_marked := fun _ _ _ _ _ _ us hl => match us, hl with | [_, _, _], _ => rfl
theorem bind_D_height : BindOk D_height := fun _ _ _ _ _ _ us hl => match us, hl with | [_], _ => rfl
theorem bind_D_law_in_order : BindOk D_law_in_order := fun _ _ _ _ _ _ us hl => match us, hl with | [_], _ => rfl
theorem bind_D_mirrored : BindOk D_mirrored := fun _ _ _ _ _ _ us hl => match us, hl with | [_], _ => rfl
theorem bind_D_law_keys : BindOk D_law_keys := fun _ _ _ _ _ _ us hl => match us, hl with | [_, _], _ => rfl
theorem bind_D_law_tree : BindOk D_law_tree := fun _ _ _ _ _ _ us hl => match us, hl with | [_, _, _], _ => rfl
theorem bind_D_law_draw : BindOk D_law_draw := fun _ _ _ _ _ _ us hl => match us, hl with | [_, _], _ => rfl
theorem bind_D_law_pen_L : BindOk D_law_pen_L := fun _ _ _ _ _ _ us hl => match us, hl with | [_, _], _ => rfl
theorem bind_D_law : BindOk D_law := fun _ _ _ _ _ _ us hl => match us, hl with | [_], _ => rfl
theorem binds : ∀ d ∈ defs, BindOk d := by
  intro d hd
  simp only [defs, List.mem_cons, List.not_mem_nil, or_false] at hd
  rcases hd with rfl | rfl | rfl | rfl | rfl | rfl | rfl | rfl | rfl | rfl | rfl | rfl | rfl | rfl | rfl | rfl | rfl | rfl | rfl | rfl | rfl | rfl | rfl | rfl | rfl | rfl | rfl | rfl | rfl | rfl | rfl | rfl | rfl | rfl | rfl | rfl | rfl | rfl | rfl | rfl | rfl | rfl | rfl | rfl | rfl | rfl | rfl
  · exact bind_D_mark_by
  · exact bind_D_side_with
  · exact bind_D_kids_of
  · exact bind_D_tied_kids
  · exact bind_D_mark_all
  · exact bind_D_numbers_on_way
  · exact bind_D_knots_on_way
  · exact bind_D_numbers_of
  · exact bind_D_odd_key
  · exact bind_D_tree_at
  · exact bind_D_lowest
  · exact bind_D_burden_by
  · exact bind_D_side_of
  · exact bind_D_costs_made
  · exact bind_D_lay
  · exact bind_D_keys_of
  · exact bind_D_marks_known
  · exact bind_D_cost
  · exact bind_D_worst
  · exact bind_D_pages_met
  · exact bind_D_way_to
  · exact bind_D_fault
  · exact bind_D_top_level
  · exact bind_D_paper_at
  · exact bind_D_number_all
  · exact bind_D_least_by
  · exact bind_D_put_pages
  · exact bind_D_put_costs
  · exact bind_D_weight_by
  · exact bind_D_law_over
  · exact bind_D_by_marks
  · exact bind_D_marks
  · exact bind_D_law_walked
  · exact bind_D_law_layout
  · exact bind_D_least_room
  · exact bind_D_from_below
  · exact bind_D_number_of
  · exact bind_D_cheapest
  · exact bind_D_law_marked
  · exact bind_D_height
  · exact bind_D_law_in_order
  · exact bind_D_mirrored
  · exact bind_D_law_keys
  · exact bind_D_law_tree
  · exact bind_D_law_draw
  · exact bind_D_law_pen_L
  · exact bind_D_law
theorem okAll : defs.all (okDD (tbOf defs (conOf cons3) (fun _ => 0))) = true := by decide +kernel
theorem uniq_eq : uniq defs = [D_mark_by, D_side_with, D_kids_of, D_tied_kids, D_mark_all, D_numbers_on_way, D_knots_on_way, D_numbers_of, D_odd_key, D_tree_at, D_lowest, D_burden_by, D_side_of, D_costs_made, D_lay, D_keys_of, D_marks_known, D_cost, D_worst, D_pages_met, D_way_to, D_fault, D_top_level, D_paper_at, D_number_all, D_least_by, D_put_pages, D_put_costs, D_weight_by, D_law_over, D_by_marks, D_marks, D_law_walked, D_law_layout, D_least_room, D_from_below, D_number_of, D_cheapest, D_law_marked, D_height, D_law_in_order, D_mirrored, D_law_keys, D_law_tree, D_law_draw, D_law_pen_L, D_law] := by rfl
theorem same3 : Same3 defs := by
  intro d hd
  rw [uniq_eq]
  simp only [defs, List.mem_cons, List.not_mem_nil, or_false] at hd
  rcases hd with rfl | rfl | rfl | rfl | rfl | rfl | rfl | rfl | rfl | rfl | rfl | rfl | rfl | rfl | rfl | rfl | rfl | rfl | rfl | rfl | rfl | rfl | rfl | rfl | rfl | rfl | rfl | rfl | rfl | rfl | rfl | rfl | rfl | rfl | rfl | rfl | rfl | rfl | rfl | rfl | rfl | rfl | rfl | rfl | rfl | rfl | rfl
  · exact ⟨D_mark_by, by simp, rfl, rfl⟩
  · exact ⟨D_side_with, by simp, rfl, rfl⟩
  · exact ⟨D_kids_of, by simp, rfl, rfl⟩
  · exact ⟨D_tied_kids, by simp, rfl, rfl⟩
  · exact ⟨D_mark_all, by simp, rfl, rfl⟩
  · exact ⟨D_numbers_on_way, by simp, rfl, rfl⟩
  · exact ⟨D_knots_on_way, by simp, rfl, rfl⟩
  · exact ⟨D_numbers_of, by simp, rfl, rfl⟩
  · exact ⟨D_odd_key, by simp, rfl, rfl⟩
  · exact ⟨D_tree_at, by simp, rfl, rfl⟩
  · exact ⟨D_lowest, by simp, rfl, rfl⟩
  · exact ⟨D_burden_by, by simp, rfl, rfl⟩
  · exact ⟨D_side_of, by simp, rfl, rfl⟩
  · exact ⟨D_costs_made, by simp, rfl, rfl⟩
  · exact ⟨D_lay, by simp, rfl, rfl⟩
  · exact ⟨D_keys_of, by simp, rfl, rfl⟩
  · exact ⟨D_marks_known, by simp, rfl, rfl⟩
  · exact ⟨D_cost, by simp, rfl, rfl⟩
  · exact ⟨D_worst, by simp, rfl, rfl⟩
  · exact ⟨D_pages_met, by simp, rfl, rfl⟩
  · exact ⟨D_way_to, by simp, rfl, rfl⟩
  · exact ⟨D_fault, by simp, rfl, rfl⟩
  · exact ⟨D_top_level, by simp, rfl, rfl⟩
  · exact ⟨D_paper_at, by simp, rfl, rfl⟩
  · exact ⟨D_number_all, by simp, rfl, rfl⟩
  · exact ⟨D_least_by, by simp, rfl, rfl⟩
  · exact ⟨D_put_pages, by simp, rfl, rfl⟩
  · exact ⟨D_put_costs, by simp, rfl, rfl⟩
  · exact ⟨D_weight_by, by simp, rfl, rfl⟩
  · exact ⟨D_law_over, by simp, rfl, rfl⟩
  · exact ⟨D_by_marks, by simp, rfl, rfl⟩
  · exact ⟨D_marks, by simp, rfl, rfl⟩
  · exact ⟨D_law_walked, by simp, rfl, rfl⟩
  · exact ⟨D_law_layout, by simp, rfl, rfl⟩
  · exact ⟨D_least_room, by simp, rfl, rfl⟩
  · exact ⟨D_from_below, by simp, rfl, rfl⟩
  · exact ⟨D_number_of, by simp, rfl, rfl⟩
  · exact ⟨D_cheapest, by simp, rfl, rfl⟩
  · exact ⟨D_law_marked, by simp, rfl, rfl⟩
  · exact ⟨D_height, by simp, rfl, rfl⟩
  · exact ⟨D_law_in_order, by simp, rfl, rfl⟩
  · exact ⟨D_mirrored, by simp, rfl, rfl⟩
  · exact ⟨D_law_keys, by simp, rfl, rfl⟩
  · exact ⟨D_law_tree, by simp, rfl, rfl⟩
  · exact ⟨D_law_draw, by simp, rfl, rfl⟩
  · exact ⟨D_law_pen_L, by simp, rfl, rfl⟩
  · exact ⟨D_law, by simp, rfl, rfl⟩
-- LAW
theorem law_ok (ns : List Int) (h : Hq) (hn : ns.length ≤ 63) (h0 : ∀ a, h a = none) : CN (FOf defs) 200 f_law [.sc ns] h (fun v _ => v = .bl true) (fun _ _ => False) :=
  law_gen rfl ⟨rfl, rfl, rfl⟩ rfl rfl rfl rfl rfl ⟨rfl, rfl, rfl, rfl⟩ rfl rfl ⟨rfl, rfl⟩ rfl rfl rfl rfl rfl rfl rfl rfl rfl rfl rfl rfl rfl rfl rfl rfl rfl rfl rfl rfl rfl rfl ⟨rfl, rfl, rfl, rfl⟩ rfl rfl rfl rfl 20 ns h hn
set_option maxHeartbeats 0
def loose0 : List PySem.Str := ["LeafError", "NoRoom", "keys_of", "knots_on_way", "way_to", "height", "mirrored", "number_of", "lowest", "number_all", "tree_at", "paper_at", "from_below", "numbers_of", "odd_key", "fault", "numbers_on_way", "pages_met", "worst", "cost", "mark_by", "kids_of", "mark_all", "marks_known", "marks", "tied_kids", "lay", "by_marks", "top_level", "least_room"]
def loose1 : List PySem.Str := ["weight_by", "burden_by", "side_with", "side_of", "costs_made", "put_costs", "put_pages", "least_by", "cheapest", "_law_pen", "_law_draw", "_law_keys", "_law_tree", "_law_drawn", "_law_in_order", "_law_layout", "_law_over", "_law_marked", "_law_walked"]
def loose : List PySem.Str := loose0 ++ loose1
abbrev R : PySem.W.OpenRow := PySem.W.OpenLaw.row PySem.Challenge.rw_leafpages_k55_whole_mirrored
abbrev hk : PySem.W.Hook := He.hookD 4 (faOf defs cons3) (fnOf3 defs)
def ob (s : PySem.W.SharedT) : He.AlD := He.obsDG 4 (faOf defs cons3) (fnOf3 defs) (HandSHeadRun.getT s)
theorem ob_eq (s : PySem.W.SharedT) : ob s = hk.obs s.abs := He.obsDG_eq (HandSHeadRun.getT_eq s)
theorem run (w : World) : HandSHeadRun.RunEq R (PySem.W.view R.prog [57]) hk ob 4000 loose w := by
  intro os
  kernel_rfl
end L3
open PySem PySem.W PySem.Calls PyProof.Rows
theorem PySem.Challenge.cw_leafpages_k55_whole_mirrored_holds : PySem.Challenge.rw_leafpages_k55_whole_mirrored.Holds := by
  w_on; o_law
  refine HandSHeadRun.head_any (r := OpenLaw.row PySem.Challenge.rw_leafpages_k55_whole_mirrored) (q := view (OpenLaw.row PySem.Challenge.rw_leafpages_k55_whole_mirrored).prog [57]) (H := L3.hk) (ob := L3.ob) (M := 4000) (loose := L3.loose) (d := HandSHeadRun.topDef (OpenLaw.row PySem.Challenge.rw_leafpages_k55_whole_mirrored).prog 57) (kwd := []) L3.ob_eq
    (by kernel_rfl) (fun s => by kernel_rfl) L3.run (by kernel_rfl) (by kernel_rfl) (by kernel_rfl) (by rfl) (by first | assumption | decide +kernel) (by decide +kernel) ⟨rfl, rfl, rfl, rfl, rfl, by decide +kernel⟩ ?hw ?hc
  case hw => w_witness2
  case hc => exact L3.law_walk3 (l := PySem.Challenge.rw_leafpages_k55_whole_mirrored) (m := 4) (L := L3.defs) (cs := L3.cons3) (n := 200) (id := L3.f_law) (dl := L3.D_law) rfl (by kernel_rfl) ⟨rfl, by decide, by decide⟩ (by kernel_rfl) rfl rfl L3.okAll L3.binds L3.same3 (by decide +kernel) L3.law_ok
